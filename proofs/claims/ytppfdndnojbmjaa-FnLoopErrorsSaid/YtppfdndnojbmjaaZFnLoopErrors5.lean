/- The plain law of FnLoopErrors: heights between marks take no more of the closing error than there is, and end where they must; a loop's closing error turns its sign with the loop, a closed loop has none; a line turned twice is the same; the allowed error is the greatest one. For any bytes (the law says nothing of more than 3000). -/
import Derived.Test.YtppfdndnojbmjaaZFnLoopErrors4
import Derived.Test.YtppfdndnojbmjaaZFnLoopErrors1
import Derived.Test.YtppfdndnojbmjaaZFnLoopErrors0
import Derived.Test.YtppfdndnojbmjaaZFnLoopErrors3
import Derived.Test.YtppfdndnojbmjaaZFnLoopErrors2
import Derived.Laws.BitsLemmas
import Derived.Test.YtppfdndnojbmjaaRows
import Derived.WalkKit
import Derived.ProofKit
import Derived.OpenShut
import Derived.ShutString
import Derived.ChangeOld
import Derived.Below
import Derived.SizedLaws
set_option linter.unusedVariables false
set_option linter.unusedSimpArgs false

/-! ## PLineOk -/
/- Plain laws of lines: a line's own rule; both ValidLines. No condition but the lengths that fit in memory. -/
namespace Go.Proofs.Ytppfdndnojbmjaa.PLineOk
open Go.RowKit Go.Proofs.YtppfdndnojbmjaaW.PrintWords Go.Proofs.Ytppfdndnojbmjaa.X Go.Proofs.Ytppfdndnojbmjaa.B Go.Proofs.Ytppfdndnojbmjaa.C
abbrev M := S51
theorem rdM {xs : List M} {i : Nat} (h : i < xs.length) : rd_T51 xs (i : Int) = xs[i] := rdat_T51 h
/-- A line's rule. -/
def okLine (x : M) (marks : Int) : Bool := decide (0 ≤ x.f0 ∧ x.f0 ≤ marks - 1 ∧ 0 ≤ x.f1 ∧ x.f1 ≤ marks - 1 ∧ x.f0 ≠ x.f1 ∧ -100000 ≤ x.f2 ∧ x.f2 ≤ 100000 ∧ 1 ≤ x.f3 ∧ x.f3 ≤ 10000)
theorem implIn_eq (a b c : Int) : impl_in.f a b c = some (decide (b ≤ a ∧ a ≤ c)) := by
  unfold impl_in.f
  by_cases h : a ≥ b <;> by_cases h' : a ≤ c <;> simp [h, h'] <;> omega
theorem specIn_eq (a b c : Int) : spec_l00In.f a b c = some (decide (b ≤ a ∧ a ≤ c)) := by
  unfold spec_l00In.f
  by_cases h : a ≥ b <;> by_cases h' : a ≤ c <;> simp [h, h'] <;> omega
theorem implLineOk_eq (x : M) (m : Int) (hm : -9223372036854775808 < m) (hm' : m ≤ 9223372036854775807) : impl_lineOk.f x.f0 x.f1 x.f2 x.f3 m = some (okLine x m) := by
  unfold impl_lineOk.f okLine
  simp only [implIn_eq, Option.bind_some]
  rw [w64 (x := m - 1) (by omega) (by omega)]
  by_cases h1 : 0 ≤ x.f0 ∧ x.f0 ≤ m - 1 <;> by_cases h2 : 0 ≤ x.f1 ∧ x.f1 ≤ m - 1 <;> by_cases h3 : x.f0 = x.f1 <;> by_cases h4 : -100000 ≤ x.f2 ∧ x.f2 ≤ 100000 <;> simp [h1, h2, h3, h4] <;> omega
theorem specLineOk_eq (x : M) (m : Int) (hm : -9223372036854775808 < m) (hm' : m ≤ 9223372036854775807) : spec_l26One.f x.f0 x.f1 x.f2 x.f3 m = some (okLine x m) := by
  unfold spec_l26One.f okLine
  simp only [specIn_eq, Option.bind_some]
  rw [w64 (x := m - 1) (by omega) (by omega)]
  by_cases h1 : 0 ≤ x.f0 ∧ x.f0 ≤ m - 1 <;> by_cases h2 : 0 ≤ x.f1 ∧ x.f1 ≤ m - 1 <;> by_cases h3 : x.f0 = x.f1 <;> by_cases h4 : -100000 ≤ x.f2 ∧ x.f2 ≤ 100000 <;> simp [h1, h2, h3, h4] <;> omega

/-- Both say so of valid lines. -/
def okLines (marks : Int) (xs : List M) : Bool := decide (2 ≤ marks ∧ marks ≤ 10) && (allFrom (fun j => okLine (xs.getD j z51) marks) 0 xs.length && decide ((xs.length : Int) ≤ 12))
theorem specOk_ev (marks : Int) (xs : List M) (hn : xs.length ≤ 9223372036854775807) : Ev (fun k => spec_l26Ok.f k marks xs) (okLines marks xs) := by
  unfold okLines
  by_cases hm : 2 ≤ marks ∧ marks ≤ 10
  · have h0 := allScan (fun k i => spec_l26Ok.l0 k marks xs (i : Int)) xs.length (fun j => okLine (xs.getD j z51) marks) (decide ((xs.length : Int) ≤ 12)) (Ev.const fun k => by
      simp only [spec_l26Ok.l0]
      rw [if_neg (by omega)]) (by
      intro i hi
      refine EvEq.now fun k => ?_
      simp only [spec_l26Ok.l0]
      rw [if_pos (by omega), if_pos (by omega), rdM hi, specLineOk_eq _ _ (by omega) (by omega), Option.bind_some, wnext hi (by omega), getD_at hi]) 0 (by omega)
    refine Ev.ofEq (EvEq.now fun k => ?_) (show Ev (fun k => spec_l26Ok.l0 k marks xs ((0 : Nat) : Int)) _ from by simpa [hm] using h0)
    unfold spec_l26Ok.f
    rw [specIn_eq, Option.bind_some, if_pos (by simpa using hm)]
    rfl
  · refine Ev.const fun k => ?_
    unfold spec_l26Ok.f
    rw [specIn_eq, Option.bind_some, if_neg (by simpa using hm)]
    simp [hm]
theorem implOk_ev (marks : Int) (xs : List M) (hn : xs.length ≤ 9223372036854775807) : Ev (fun k => impl_ValidLines.f k marks xs) (okLines marks xs) := by
  unfold okLines
  by_cases hm : 2 ≤ marks ∧ marks ≤ 10
  · by_cases hl : (xs.length : Int) ≤ 12
    · have h0 := allScan (fun k i => impl_all_impl_Line__impl_ValidLines_1.l0 k xs (xs.length : Int) (i : Int) marks) xs.length (fun j => okLine (xs.getD j z51) marks) true (Ev.const fun k => by
        simp only [impl_all_impl_Line__impl_ValidLines_1.l0]
        rw [if_neg (by omega)]) (by
        intro i hi
        refine EvEq.now fun k => ?_
        simp only [impl_all_impl_Line__impl_ValidLines_1.l0, impl_ValidLines_1.f]
        rw [if_pos (by omega), if_pos (by omega), if_pos (by omega), rdM hi, implLineOk_eq _ _ (by omega) (by omega), Option.bind_some, Option.bind_some, wnext hi (by omega), getD_at hi]) 0 (by omega)
      refine Ev.ofEq (g := fun k => impl_ValidLines.f k marks xs) (f := fun k => (impl_all_impl_Line__impl_ValidLines_1.l0 k xs (xs.length : Int) ((0 : Nat) : Int) marks).bind fun t => some t) (EvEq.now fun k => ?_) ?_
      · simp only [impl_ValidLines.f, implIn_eq, Option.bind_some, impl_all_impl_Line__impl_ValidLines_1.f]
        rw [if_pos (by simpa using hm), if_pos hl]
        rfl
      · simpa [hm, hl] using h0
    · refine Ev.const fun k => ?_
      simp only [impl_ValidLines.f, implIn_eq, Option.bind_some]
      rw [if_pos (by simpa using hm), if_neg hl]
      simp [hl]
  · refine Ev.const fun k => ?_
    simp only [impl_ValidLines.f, implIn_eq, Option.bind_some]
    rw [if_neg (by simpa using hm)]
    simp [hm]

end Go.Proofs.Ytppfdndnojbmjaa.PLineOk

/-! ## XSpecL00Has -/
namespace Go.Proofs.Ytppfdndnojbmjaa.X
open Go.RowKit Go.Proofs.Ytppfdndnojbmjaa.XV Go.Proofs.YtppfdndnojbmjaaW.PrintWords Go.Proofs.YtppfdndnojbmjaaW.PrintLast Go.Proofs.YtppfdndnojbmjaaW.PrintMore
attribute [local go_sem] max2_int min2_int max_two min_two max_three min_three max_four min_four

def spec_l00Has.l0 : Nat → List Int → Int → Int → Option (Bool)
 | 0, _, _, _ => none
 | k + 1, x0, x1, x5 => if x5 < (x0.length : Int) then (if 0 ≤ x5 then (if (rd x0 x5) = x1 then (some true) else (spec_l00Has.l0 k x0 x1 (wrap64 (x5 + 1)))) else (none)) else (some false)
def spec_l00Has.f (k : Nat) (l0 : List Int) (a1 : Int) : Option (Bool) := spec_l00Has.l0 k l0 a1 0
theorem spec_l00Has.mono_l : ∀ k, (∀ y0 y1 y2, LeO (spec_l00Has.l0 k y0 y1 y2) (spec_l00Has.l0 (k + 1) y0 y1 y2))
 | 0 => fun _ _ _ r h => by simp [spec_l00Has.l0] at h
 | k + 1 => by
  have ih0 := spec_l00Has.mono_l k
  ·intro y0 y1 y2
   unfold spec_l00Has.l0
   repeat' first
   | (with_reducible exact ih0 _ _ _)
   | (with_reducible exact LeO.refl _)
   | (with_reducible exact LeO.none _)
   | (with_reducible refine LeO.ite ?_ ?_)
   | (with_reducible refine LeO.bind ?_ (fun _ => ?_))
   | exact ih0 _ _ _
   | exact LeO.none _
   | refine LeO.ite ?_ ?_
   | refine LeO.bind ?_ (fun _ => ?_)
theorem spec_l00Has.mono : ∀ a0 a1 k, LeO (spec_l00Has.f k a0 a1) (spec_l00Has.f (k + 1) a0 a1) := by
 intro a0 a1 k
 have ih0 := spec_l00Has.mono_l k
 unfold spec_l00Has.f
 repeat' first
   | (with_reducible exact ih0 _ _ _)
   | (with_reducible exact LeO.refl _)
   | (with_reducible exact LeO.none _)
   | (with_reducible refine LeO.ite ?_ ?_)
   | (with_reducible refine LeO.bind ?_ (fun _ => ?_))
   | exact ih0 _ _ _
   | exact LeO.none _
   | refine LeO.ite ?_ ?_
   | refine LeO.bind ?_ (fun _ => ?_)
set_option maxHeartbeats 8000000 in
set_option maxRecDepth 100000 in
theorem spec_l00Has.calls (k : Nat) (A0 : Option Addr) (c0 : Nat) (l0 : List Int) (a1 : Int) (r : Bool) (w : World) (hr0 : Kd.C (Kd.int .i64) w A0 l0.length l0) (hc0 : l0.length ≤ c0) (h : spec_l00Has.f k l0 a1 = some r) :
  Calls Try.prog 75 #[.slice A0 l0.length c0, .int .i64 a1] w fun e w' => e = .returned (.bool r) ∧ Drawn0 w w' := by
 have HR0 := Aside0.mk hr0
 have HC0 := Aside0.mk hc0
 clear hr0 hc0
 have H : (spec_l00Has.l0 k l0 a1 0) = some r := h
 clear h
 have H' := Aside0.mk H
 clear H
 go_enter Try.func75, Try.ntmps75
 go_wp2
 go_loopg [5] k (fun kq v5 w' => ∃ (x5_1 : Int), v5 = .int .i64 x5_1 ∧ Aside0 (spec_l00Has.l0 kq l0 a1 x5_1 = some r) ∧ Aside0 (kq ≤ k) ∧ Drawn0 w w')
 case atStart => exact ⟨(0), (by first | rfl | (simp; done) | (simp [*]; done)), H', ⟨Nat.le_refl _⟩, by repeat (first | exact Drawn0.refl _ | apply Drawn0.step)⟩
 case round =>
  clear H'
  try clear p2
  obtain ⟨x5_1, rfl, HA, HK1, ⟨m1, rfl⟩⟩ := hrel
  cases gk with
  | zero => exact absurd HA.out (by simp [spec_l00Has.l0])
  | succ k1 =>
   have H := HA.out
   clear HA
   simp only [spec_l00Has.l0] at H
   by_cases c3 : x5_1 < (l0.length : Int)
   ·rw [if_pos c3] at H
    have c3b0 : decide (x5_1 < (l0.length : Int)) = true := decide_eq_true c3
    clear c3
    by_cases c4 : 0 ≤ x5_1
    ·rw [if_pos c4] at H
     have c4b0 : decide (0 ≤ x5_1) = true := decide_eq_true c4
     clear c4
     by_cases c5 : (rd l0 x5_1) = a1
     ·rw [if_pos c5] at H
      have c5b0 : ((rd l0 x5_1) == a1) = true := beq_iff_eq.mpr c5
      have c5b1 : ((rd l0 x5_1) != a1) = false := bne_eq_false_iff_eq.mpr c5
      clear c5
      obtain rfl := Option.some.inj H
      have p324 : 0 ≤ (x5_1 : Int) := of_decide_eq_true (by first | (with_reducible assumption) | assumption)
      have q324 : x5_1 < (l0.length : Int) := of_decide_eq_true (by first | (with_reducible assumption) | assumption)
      obtain ⟨ad324, e324, hx324_0⟩ := Kd.at_int HR0.out x5_1 p324 q324
      cases e324
      replace p324 := eq_true p324
      replace q324 := eq_true q324
      go_wp2
      go_ret
      exact ⟨by first | rfl | (simp; done) | (simp [*]; done), by repeat (first | exact Drawn0.refl _ | apply Drawn0.step)⟩
     ·rw [if_neg c5] at H
      have c5b0 : ((rd l0 x5_1) == a1) = false := beq_eq_false_iff_ne.mpr c5
      have c5b1 : ((rd l0 x5_1) != a1) = true := bne_iff_ne.mpr c5
      have H' := Aside0.mk H
      clear H
      have p324 : 0 ≤ (x5_1 : Int) := of_decide_eq_true (by first | (with_reducible assumption) | assumption)
      have q324 : x5_1 < (l0.length : Int) := of_decide_eq_true (by first | (with_reducible assumption) | assumption)
      obtain ⟨ad324, e324, hx324_0⟩ := Kd.at_int HR0.out x5_1 p324 q324
      cases e324
      replace p324 := eq_true p324
      replace q324 := eq_true q324
      go_wp2
      go_roundg k1
      case measure => have := HK1.out; omega
      case rel => exact ⟨(wrap64 (x5_1 + 1)), (by first | rfl | (simp; done) | (simp [*]; done)), H', ⟨by have := HK1.out; omega⟩, by repeat (first | exact Drawn0.refl _ | apply Drawn0.step)⟩
    ·rw [if_neg c4] at H
     exact absurd H (by simp)
   ·rw [if_neg c3] at H
    have c3b0 : decide (x5_1 < (l0.length : Int)) = false := decide_eq_false c3
    clear c3
    obtain rfl := Option.some.inj H
    go_wp2
    go_ret
    exact ⟨by first | rfl | (simp; done) | (simp [*]; done), by repeat (first | exact Drawn0.refl _ | apply Drawn0.step)⟩

end Go.Proofs.Ytppfdndnojbmjaa.X

/-! ## PHas -/
/- Plain laws of looking for a number in a row. No condition but the lengths that fit. -/
namespace Go.Proofs.Ytppfdndnojbmjaa.PHas
open Go.RowKit Go.Proofs.YtppfdndnojbmjaaW.PrintWords Go.Proofs.Ytppfdndnojbmjaa.X Go.Proofs.Ytppfdndnojbmjaa.B
theorem mem_drop (xs : List Int) (v : Int) {i : Nat} (h : i < xs.length) : decide (v ∈ xs.drop i) = if xs[i] = v then true else decide (v ∈ xs.drop (i + 1)) := by
  have e : (v ∈ xs.drop i) = (v = xs[i] ∨ v ∈ xs.drop (i + 1)) := by rw [List.drop_eq_getElem_cons h, List.mem_cons]
  by_cases c : xs[i] = v
  · rw [if_pos c, decide_eq_true_iff, e]
    exact Or.inl c.symm
  · rw [if_neg c]
    refine decide_eq_decide.2 ?_
    rw [e]
    exact ⟨fun h => h.resolve_left fun q => c q.symm, Or.inr⟩
theorem specHas_ev (xs : List Int) (v : Int) (hn : xs.length ≤ 9223372036854775807) : Ev (fun k => spec_l00Has.f k xs v) (decide (v ∈ xs)) := by
  have h := scanI (fun k i => spec_l00Has.l0 k xs v (i : Int)) xs.length (fun i => decide (v ∈ xs.drop i)) (Ev.up (g := fun k => spec_l00Has.l0 k xs v (xs.length : Int)) (Ev.const fun k => by
      simp only [spec_l00Has.l0]
      rw [if_neg (by omega)]
      simp)) (by
    intro i hi ih
    refine Ev.up (g := fun k => spec_l00Has.l0 k xs v (i : Int)) ?_
    simp only [spec_l00Has.l0, rd_at hi, wnext hi (by omega : (xs.length : Int) ≤ _)]
    rw [mem_drop xs v hi]
    refine Ev.ifPos (by omega) (Ev.ifPos (by omega) ?_)
    by_cases c : xs[i] = v
    · rw [if_pos c]; exact Ev.ifPos c (Ev.const fun _ => rfl)
    · rw [if_neg c]; exact Ev.ifNeg c ih) 0 (by omega)
  exact h
theorem implHas_ev (xs : List Int) (v : Int) (hn : xs.length ≤ 9223372036854775807) : Ev (fun k => impl_has.f k xs v) (decide (v ∈ xs)) := by
  have h := scanI (fun k i => impl_has.l0 k v xs (xs.length : Int) (i : Int)) xs.length (fun i => decide (v ∈ xs.drop i)) (Ev.up (g := fun k => impl_has.l0 k v xs (xs.length : Int) (xs.length : Int)) (Ev.const fun k => by
      simp only [impl_has.l0]
      rw [if_neg (by omega)]
      simp)) (by
    intro i hi ih
    refine Ev.up (g := fun k => impl_has.l0 k v xs (xs.length : Int) (i : Int)) ?_
    simp only [impl_has.l0, rd_at hi, wnext hi (by omega : (xs.length : Int) ≤ _)]
    rw [mem_drop xs v hi]
    refine Ev.ifPos (by omega) (Ev.ifPos (by omega) (Ev.ifPos (by omega) ?_))
    by_cases c : xs[i] = v
    · rw [if_pos c]; exact Ev.ifPos c (Ev.const fun _ => rfl)
    · rw [if_neg c]; exact Ev.ifNeg c ih) 0 (by omega)
  exact h
end Go.Proofs.Ytppfdndnojbmjaa.PHas

/-! ## XSpecL26Loop -/
namespace Go.Proofs.Ytppfdndnojbmjaa.X
open Go.RowKit Go.Proofs.Ytppfdndnojbmjaa.XV Go.Proofs.YtppfdndnojbmjaaW.PrintWords Go.Proofs.YtppfdndnojbmjaaW.PrintLast Go.Proofs.YtppfdndnojbmjaaW.PrintMore
attribute [local go_sem] max2_int min2_int max_two min_two max_three min_three max_four min_four

def spec_l26Loop.l0 : Nat → Int → List Int → Int → Option (Bool)
 | 0, _, _, _ => none
 | k + 1, x0, x1, x5 => if x5 < (x1.length : Int) then (if 0 ≤ x5 then ((spec_l00In.f (rd x1 x5) 0 (wrap64 (x0 - 1))).bind fun t326 => (if t326 = true then (if x5 ≤ (x1.length : Int) then ((spec_l00Has.f k (x1.take (x5 : Int).toNat) (rd x1 x5)).bind fun t329 => (if t329 = true then (some false) else (spec_l26Loop.l0 k x0 x1 (wrap64 (x5 + 1))))) else (none)) else (some false))) else (none)) else (some (decide ((x1.length : Int) ≥ 2)))
def spec_l26Loop.f (k : Nat) (a0 : Int) (l1 : List Int) : Option (Bool) := spec_l26Loop.l0 k a0 l1 0
theorem spec_l26Loop.mono_l : ∀ k, (∀ y0 y1 y2, LeO (spec_l26Loop.l0 k y0 y1 y2) (spec_l26Loop.l0 (k + 1) y0 y1 y2))
 | 0 => fun _ _ _ r h => by simp [spec_l26Loop.l0] at h
 | k + 1 => by
  have ih0 := spec_l26Loop.mono_l k
  ·intro y0 y1 y2
   unfold spec_l26Loop.l0
   repeat' first
   | (with_reducible exact ih0 _ _ _)
   | (with_reducible exact spec_l00Has.mono _ _ _)
   | (with_reducible exact LeO.refl _)
   | (with_reducible exact LeO.none _)
   | (with_reducible refine LeO.ite ?_ ?_)
   | (with_reducible refine LeO.bind ?_ (fun _ => ?_))
   | exact ih0 _ _ _
   | exact spec_l00Has.mono _ _ _
   | exact LeO.none _
   | refine LeO.ite ?_ ?_
   | refine LeO.bind ?_ (fun _ => ?_)
theorem spec_l26Loop.mono : ∀ a0 a1 k, LeO (spec_l26Loop.f k a0 a1) (spec_l26Loop.f (k + 1) a0 a1) := by
 intro a0 a1 k
 have ih0 := spec_l26Loop.mono_l k
 unfold spec_l26Loop.f
 repeat' first
   | (with_reducible exact ih0 _ _ _)
   | (with_reducible exact spec_l00Has.mono _ _ _)
   | (with_reducible exact LeO.refl _)
   | (with_reducible exact LeO.none _)
   | (with_reducible refine LeO.ite ?_ ?_)
   | (with_reducible refine LeO.bind ?_ (fun _ => ?_))
   | exact ih0 _ _ _
   | exact spec_l00Has.mono _ _ _
   | exact LeO.none _
   | refine LeO.ite ?_ ?_
   | refine LeO.bind ?_ (fun _ => ?_)
def spec_l26Loop.T4 : Bool × List (List Nat × List Nat) := (true, [([], []), ([], []), ([0, 1], [0, 1]), ([2], [2]), ([], []), ([4], [4]), ([3, 5], [3, 5]), ([6], [6]), ([7, 6], [7]), ([8], [8]), ([8], [8]), ([9, 10, 8], [8, 9, 10]), ([8], [8]), ([8], [8]), ([12, 13, 8], [8, 12, 13]), ([14, 8], [8, 14]), ([11, 15, 8, 8], [8, 11, 15]), ([8, 16], [8, 16])])
def spec_l26Loop.B4 : List Nat := [0, 0, 3, 7, 0, 16, 63, 127, 255, 511, 511, 2047, 511, 511, 12799, 29183, 65535, 131071]
theorem spec_l26Loop.tab4 : rtab .any (opsOf Try.f72 4) = spec_l26Loop.T4 := by kernel_rfl
theorem spec_l26Loop.bits4 : waitsOk spec_l26Loop.T4.2 spec_l26Loop.B4 = true := by kernel_rfl
set_option maxHeartbeats 8000000 in
set_option maxRecDepth 100000 in
theorem spec_l26Loop.calls (k : Nat) (a0 : Int) (A1 : Option Addr) (c1 : Nat) (l1 : List Int) (r : Bool) (w : World) (hr1 : Kd.C (Kd.int .i64) w A1 l1.length l1) (hc1 : l1.length ≤ c1) (h : spec_l26Loop.f k a0 l1 = some r) :
  Calls Try.prog 72 #[.int .i64 a0, .slice A1 l1.length c1] w fun e w' => e = .returned (.bool r) ∧ Below w.heap.size w w' := by
 have HR1 := Aside0.mk hr1
 have HC1 := Aside0.mk hc1
 clear hr1 hc1
 have HB := Aside0.mk (Below.refl w.heap.size w)
 have H : (spec_l26Loop.l0 k a0 l1 0) = some r := h
 clear h
 have H' := Aside0.mk H
 clear H
 go_enter Try.func72, Try.ntmps72
 go_wp2
 go_loopg [5] k (fun kq v5 w' => ∃ (x5_1 : Int), v5 = .int .i64 x5_1 ∧ Aside0 (spec_l26Loop.l0 kq a0 l1 x5_1 = some r) ∧ Aside0 (kq ≤ k) ∧ Aside0 (Below w.heap.size w w'))
 case atStart => exact ⟨(0), (by first | rfl | (simp; done) | (simp [*]; done)), H', ⟨Nat.le_refl _⟩, ⟨by repeat (first | (with_reducible first | exact HB.out | apply below_alloc | apply pw_below_drewN | apply below_drew1) | exact HB.out)⟩⟩
 case round =>
  clear H'
  try clear c1
  try clear p2
  obtain ⟨x5_1, rfl, HA, HK1, HB⟩ := hrel
  cases gk with
  | zero => exact absurd HA.out (by simp [spec_l26Loop.l0])
  | succ k1 =>
   have H := HA.out
   clear HA
   simp only [spec_l26Loop.l0] at H
   by_cases c3 : x5_1 < (l1.length : Int)
   ·rw [if_pos c3] at H
    have c3b0 : decide (x5_1 < (l1.length : Int)) = true := decide_eq_true c3
    clear c3
    by_cases c4 : 0 ≤ x5_1
    ·rw [if_pos c4] at H
     have c4b0 : decide (0 ≤ x5_1) = true := decide_eq_true c4
     clear c4
     replace H := Option.bind_eq_some_iff.mp H
     obtain ⟨t326, A50, H⟩ := H
     replace H : (if t326 = true then (if x5_1 ≤ (l1.length : Int) then ((spec_l00Has.f k1 (l1.take (x5_1 : Int).toNat) (rd l1 x5_1)).bind fun t329 => (if t329 = true then (some false) else (spec_l26Loop.l0 k1 a0 l1 (wrap64 (x5_1 + 1))))) else (none)) else (some false)) = some r := H
     have A5 := Aside0.mk A50
     clear A50
     by_cases c6 : t326 = true
     ·subst c6
      have H1 : (if x5_1 ≤ (l1.length : Int) then ((spec_l00Has.f k1 (l1.take (x5_1 : Int).toNat) (rd l1 x5_1)).bind fun t329 => (if t329 = true then (some false) else (spec_l26Loop.l0 k1 a0 l1 (wrap64 (x5_1 + 1))))) else (none)) = some r := by rw [if_pos rfl] at H; exact H
      clear H
      have H := H1
      clear H1
      have c7b0 := eq_true (of_decide_eq_true (by first | (with_reducible assumption) | assumption) : 0 ≤ x5_1)
      by_cases c8 : x5_1 ≤ (l1.length : Int)
      ·rw [if_pos c8] at H
       have c8b0 := eq_true c8
       have c8b1 : decide (x5_1 ≤ (l1.length : Int)) = true := decide_eq_true c8
       clear c8
       replace H := Option.bind_eq_some_iff.mp H
       obtain ⟨t329, A90, H⟩ := H
       replace H : (if t329 = true then (some false) else (spec_l26Loop.l0 k1 a0 l1 (wrap64 (x5_1 + 1)))) = some r := H
       have A9 := Aside0.mk A90
       clear A90
       by_cases c10 : t329 = true
       ·subst c10
        have H1 : (some false) = some r := by rw [if_pos rfl] at H; exact H
        clear H
        have H := H1
        clear H1
        obtain rfl := Option.some.inj H
        try go_wp2
        have n0_ := Aside0.mk (below_drew1 HB.out)
        clear HB
        have HB := n0_
        clear n0_
        have p325 : 0 ≤ (x5_1 : Int) := of_decide_eq_true (by first | (with_reducible assumption) | assumption)
        have q325 : x5_1 < (l1.length : Int) := of_decide_eq_true (by first | (with_reducible assumption) | assumption)
        obtain ⟨ad325, e325, hx325_0⟩ := Kd.at_int HR1.out x5_1 p325 q325
        have hw325_0 := hx325_0
        cases e325
        replace hx325_0 := (HB.out.cell (World.block_lt_of_cell? w _ hx325_0)).trans hx325_0
        replace p325 := eq_true p325
        replace q325 := eq_true q325
        have p328 : 0 ≤ (x5_1 : Int) := of_decide_eq_true (by first | (with_reducible assumption) | assumption)
        have q328 : x5_1 < (l1.length : Int) := of_decide_eq_true (by first | (with_reducible assumption) | assumption)
        obtain ⟨ad328, e328, hx328_0⟩ := Kd.at_int HR1.out x5_1 p328 q328
        have hw328_0 := hx328_0
        obtain rfl : ad325 = ad328 := (by injection e328)
        replace hx328_0 := (HB.out.cell (World.block_lt_of_cell? w _ hx328_0)).trans hx328_0
        replace p328 := eq_true p328
        replace q328 := eq_true q328
        refine start_ (n := 18) (S := fun w' => w'.cell? (ad325.add (x5_1).toNat) = some (.int .i64 (rd l1 x5_1)) ∧ w'.cell? (ad325.add (x5_1).toNat) = some (.int .i64 (rd l1 x5_1))) (ds := []) #[false, false, false, false, false, false, false, false, false, false, false, false, false, false, false, false, false, false] (by kernel_rfl) rfl rfl ⟨((HB.out.cell (World.block_lt_of_cell? w _ hw325_0)).trans hw325_0), ((HB.out.cell (World.block_lt_of_cell? w _ hw328_0)).trans hw328_0)⟩ (fun hHeld => ?_); refine with_tabW spec_l26Loop.tab4 spec_l26Loop.bits4 (fun HT_ HW_ => ?_)
        generalize wr.drew = w11 at HB hx325_0 hx328_0 hHeld ⊢
        refine pure_ (i := 0) (N := some 12) (v := ?_) (a' := ?_) #[true, false, false, false, false, false, false, false, false, false, false, false, false, false, false, false, false, false] rfl rfl (any_of HT_.out (by kernel_rfl)) (fun _ _ _ h => h) (Or.inl ⟨by rfl, ?_⟩) ?_ ?_
        rotate_left
        ·intro w'
         go_simp
         with_reducible rfl
        rotate_left
        ·simp only [Act.put, List.setIfInBounds_toArray, List.set_cons_zero, List.set_cons_succ, i64_w, i32_w]; rfl
        refine pure_ (i := 1) (N := some 13) (v := ?_) (a' := ?_) #[true, true, false, false, false, false, false, false, false, false, false, false, false, false, false, false, false, false] rfl rfl (any_of HT_.out (by kernel_rfl)) (fun _ _ _ h => h) (Or.inl ⟨by rfl, ?_⟩) ?_ ?_
        rotate_left
        ·intro w'
         go_simp
         with_reducible rfl
        rotate_left
        ·simp only [Act.put, List.setIfInBounds_toArray, List.set_cons_zero, List.set_cons_succ, i64_w, i32_w]; rfl
        refine pure_ (i := 2) (N := some 14) (v := ?_) (a' := ?_) #[true, true, true, false, false, false, false, false, false, false, false, false, false, false, false, false, false, false] rfl rfl (any_of HT_.out (by kernel_rfl)) (fun _ _ _ h => h) (Or.inl ⟨by rfl, ?_⟩) ?_ ?_
        rotate_left
        ·intro w'
         go_simp
         with_reducible rfl
        rotate_left
        ·simp only [Act.put, List.setIfInBounds_toArray, List.set_cons_zero, List.set_cons_succ, i64_w, i32_w]; rfl
        refine pure_ (i := 4) (N := some 16) (v := ?_) (a' := ?_) #[true, true, true, false, true, false, false, false, false, false, false, false, false, false, false, false, false, false] rfl rfl (any_of HT_.out (by kernel_rfl)) (fun _ _ _ h => h) (Or.inl ⟨by rfl, ?_⟩) ?_ ?_
        rotate_left
        ·intro w'
         go_simp
         with_reducible rfl
        rotate_left
        ·simp only [Act.put, List.setIfInBounds_toArray, List.set_cons_zero, List.set_cons_succ, i64_w, i32_w]; rfl
        refine pure_ (i := 5) (N := some 17) (v := ?_) (a' := ?_) #[true, true, true, false, true, true, false, false, false, false, false, false, false, false, false, false, false, false] rfl rfl (any_of HT_.out (by kernel_rfl)) (fun _ _ _ h => h) (Or.inl ⟨by rfl, ?_⟩) ?_ ?_
        rotate_left
        ·intro w'
         go_simp
         with_reducible rfl
        rotate_left
        ·simp only [Act.put, List.setIfInBounds_toArray, List.set_cons_zero, List.set_cons_succ, i64_w, i32_w]; rfl
        refine take_ (i := 3) (N := some 15) (v := ?_) (a' := ?_) #[true, true, true, true, true, true, false, false, false, false, false, false, false, false, false, false, false, false] rfl rfl (take_ofW HT_.out HW_.out (by kernel_rfl)) (fun _ _ _ h => h) (Or.inl ⟨by rfl, ?_⟩) hHeld ?_ ?_
        rotate_left
        ·rintro w' ⟨s0, s1⟩
         go_simp
         with_reducible rfl
        rotate_left
        ·simp only [Act.put, List.setIfInBounds_toArray, List.set_cons_zero, List.set_cons_succ, i64_w, i32_w]; rfl
        refine one_ (i := 6) (N := some 18) #[true, true, true, true, true, true, true, false, false, false, false, false, false, false, false, false, false, false] rfl rfl (one_of HT_.out (by kernel_rfl)) (by decide) (fun K hK => ?_)
        refine goes_ Try.func47 (by kernel_rfl) rfl #[.int .i64 (rd l1 x5_1), .int .i64 0, .int .i64 (wrap64 (a0 - 1))] (by rfl) rfl rfl (by (try simp only [List.map_toArray, List.map_cons, List.map_nil]); first | done | rfl | (simp only [List.length_drop, List.length_take]; rfl)) ?_
        with_reducible refine (spec_l00In.calls (rd l1 x5_1) 0 (wrap64 (a0 - 1)) true _ A5.out).mono ?_
        rintro e w' ⟨rfl, ⟨nd, rfl⟩⟩
        refine ⟨_, rfl, ?_⟩
        obtain ⟨i012, hi012, _, hsz12, _⟩ := info_parts info2
        obtain ⟨hcut12, hA12, hC12⟩ := print_take_of (P := Try.prog) (Value.int .i64) 0 30 2 .i64 Try.underlying30 hi012 hsz12 (some ad325) c1 l1 x5_1 (of_decide_eq_true (by first | (with_reducible assumption) | assumption)) (of_decide_eq_true (by first | (with_reducible assumption) | assumption)) HC1.out
        have HR327 := Aside0.mk (Kd.C_of_reads (h1 := fun _ => rfl) (hA12 _ (Kd.reads_of_C HR1.out)))
        have HC327 := Aside0.mk hC12
        clear hA12 hC12 hi012 hsz12
        refine hK.out _ _ ⟨((HB.out.cell (World.block_lt_of_cell? w _ hw325_0)).trans hw325_0), ((HB.out.cell (World.block_lt_of_cell? w _ hw328_0)).trans hw328_0)⟩ (fun hHeld => ?_)
        clear hK K
        refine norm_ (a' := ?_) ?_ ?_
        rotate_left
        ·show Act.put _ (some 18) _ = _
         simp only [Act.put, List.setIfInBounds_toArray, List.set_cons_zero, List.set_cons_succ, i64_w, i32_w]
         rfl
        refine pure_ (i := 7) (N := some 19) (v := ?_) (a' := ?_) #[true, true, true, true, true, true, true, true, false, false, false, false, false, false, false, false, false, false] rfl rfl (any_of HT_.out (by kernel_rfl)) (fun _ _ _ h => h) (Or.inl ⟨by rfl, ?_⟩) ?_ ?_
        rotate_left
        ·intro w'
         go_simp
         with_reducible rfl
        rotate_left
        ·simp only [Act.put, List.setIfInBounds_toArray, List.set_cons_zero, List.set_cons_succ, i64_w, i32_w]; rfl
        refine pure_ (i := 8) (N := some 20) (v := ?_) (a' := ?_) #[true, true, true, true, true, true, true, true, true, false, false, false, false, false, false, false, false, false] rfl rfl (any_of HT_.out (by kernel_rfl)) (fun _ _ _ h => h) (Or.inl ⟨by rfl, ?_⟩) ?_ ?_
        rotate_left
        ·intro w'
         go_simp
         with_reducible rfl
        rotate_left
        ·simp only [Act.put, List.setIfInBounds_toArray, List.set_cons_zero, List.set_cons_succ, i64_w, i32_w]; rfl
        refine pure_ (i := 9) (N := some 21) (v := ?_) (a' := ?_) #[true, true, true, true, true, true, true, true, true, true, false, false, false, false, false, false, false, false] rfl rfl (any_of HT_.out (by kernel_rfl)) (fun _ _ _ h => h) (Or.inl ⟨by rfl, ?_⟩) ?_ ?_
        rotate_left
        ·intro w'
         go_simp
         with_reducible rfl
        rotate_left
        ·simp only [Act.put, List.setIfInBounds_toArray, List.set_cons_zero, List.set_cons_succ, i64_w, i32_w]; rfl
        refine pure_ (i := 10) (N := some 22) (v := ?_) (a' := ?_) #[true, true, true, true, true, true, true, true, true, true, true, false, false, false, false, false, false, false] rfl rfl (any_of HT_.out (by kernel_rfl)) (fun _ _ _ h => h) (Or.inl ⟨by rfl, ?_⟩) ?_ ?_
        rotate_left
        ·intro w'
         go_simp
         with_reducible rfl
        rotate_left
        ·simp only [Act.put, List.setIfInBounds_toArray, List.set_cons_zero, List.set_cons_succ, i64_w, i32_w]; rfl
        refine pure_ (i := 11) (N := some 23) (v := ?_) (a' := ?_) #[true, true, true, true, true, true, true, true, true, true, true, true, false, false, false, false, false, false] rfl rfl (any_of HT_.out (by kernel_rfl)) (fun _ _ _ h => h) (Or.inl ⟨by rfl, ?_⟩) ?_ ?_
        rotate_left
        ·intro w'
         go_simp
         with_reducible rfl
        rotate_left
        ·simp only [Act.put, List.setIfInBounds_toArray, List.set_cons_zero, List.set_cons_succ, i64_w, i32_w]; rfl
        refine pure_ (i := 12) (N := some 24) (v := ?_) (a' := ?_) #[true, true, true, true, true, true, true, true, true, true, true, true, true, false, false, false, false, false] rfl rfl (any_of HT_.out (by kernel_rfl)) (fun _ _ _ h => h) (Or.inl ⟨by rfl, ?_⟩) ?_ ?_
        rotate_left
        ·intro w'
         go_simp
         with_reducible rfl
        rotate_left
        ·simp only [Act.put, List.setIfInBounds_toArray, List.set_cons_zero, List.set_cons_succ, i64_w, i32_w]; rfl
        refine pure_ (i := 13) (N := some 25) (v := ?_) (a' := ?_) #[true, true, true, true, true, true, true, true, true, true, true, true, true, true, false, false, false, false] rfl rfl (any_of HT_.out (by kernel_rfl)) (fun _ _ _ h => h) (Or.inl ⟨by rfl, ?_⟩) ?_ ?_
        rotate_left
        ·intro w'
         go_simp
         with_reducible rfl
        rotate_left
        ·simp only [Act.put, List.setIfInBounds_toArray, List.set_cons_zero, List.set_cons_succ, i64_w, i32_w]; rfl
        refine pure_ (i := 14) (N := some 26) (v := ?_) (a' := ?_) #[true, true, true, true, true, true, true, true, true, true, true, true, true, true, true, false, false, false] rfl rfl (any_of HT_.out (by kernel_rfl)) (fun _ _ _ h => h) (Or.inl ⟨by rfl, ?_⟩) ?_ ?_
        rotate_left
        ·intro w'
         go_simp
         with_reducible rfl
        rotate_left
        ·simp only [Act.put, List.setIfInBounds_toArray, List.set_cons_zero, List.set_cons_succ, i64_w, i32_w]; rfl
        refine take_ (i := 15) (N := some 27) (v := ?_) (a' := ?_) #[true, true, true, true, true, true, true, true, true, true, true, true, true, true, true, true, false, false] rfl rfl (take_ofW HT_.out HW_.out (by kernel_rfl)) (fun _ _ _ h => h) (Or.inl ⟨by rfl, ?_⟩) hHeld ?_ ?_
        rotate_left
        ·rintro w' ⟨s0, s1⟩
         go_simp
         with_reducible rfl
        rotate_left
        ·simp only [Act.put, List.setIfInBounds_toArray, List.set_cons_zero, List.set_cons_succ, i64_w, i32_w]; rfl
        refine one_ (i := 16) (N := some 28) #[true, true, true, true, true, true, true, true, true, true, true, true, true, true, true, true, true, false] rfl rfl (one_of HT_.out (by kernel_rfl)) (by decide) (fun K hK => ?_)
        refine goes_ Try.func75 (by kernel_rfl) rfl #[.slice (some ad325) (l1.take (x5_1 : Int).toNat).length c1, .int .i64 (rd l1 x5_1)] (by rfl) rfl rfl (by (try simp only [List.map_toArray, List.map_cons, List.map_nil]); first | done | (rw [show (l1.take (x5_1 : Int).toNat).length = x5_1.toNat from (by rw [List.length_take]; have h_ : (x5_1 : Int) ≤ (l1.length : Int) := of_decide_eq_true (by first | (with_reducible assumption) | assumption); omega)] <;> rfl) | rfl | (simp only [List.length_drop, List.length_take]; rfl)) ?_
        with_reducible refine (spec_l00Has.calls k1 _ _ (l1.take (x5_1 : Int).toNat) (rd l1 x5_1) true _ ?side1 ?side2 A9.out).mono ?_
        (case side1 => repeat (first | exact (Kd.C_below HR327.out (by repeat (first | (with_reducible first | exact HB.out | apply below_alloc | apply pw_below_drewN | apply below_drew1) | exact HB.out))) | (with_reducible refine Kd.C_alloc ?_ _) | (with_reducible refine Kd.C_drewN ?_ _) | (with_reducible refine Kd.C_drew ?_)))
        (case side2 => exact HC327.out)
        rintro e w' ⟨rfl, ⟨nd, rfl⟩⟩
        refine ⟨_, rfl, ?_⟩
        refine hK.out _ _ ⟨((HB.out.cell (World.block_lt_of_cell? w _ hw325_0)).trans hw325_0), ((HB.out.cell (World.block_lt_of_cell? w _ hw328_0)).trans hw328_0)⟩ (fun hHeld => ?_)
        clear hK K
        refine norm_ (a' := ?_) ?_ ?_
        rotate_left
        ·show Act.put _ (some 28) _ = _
         simp only [Act.put, List.setIfInBounds_toArray, List.set_cons_zero, List.set_cons_succ, i64_w, i32_w]
         rfl
        refine pure_ (i := 17) (N := some 29) (v := ?_) (a' := ?_) #[true, true, true, true, true, true, true, true, true, true, true, true, true, true, true, true, true, true] rfl rfl (any_of HT_.out (by kernel_rfl)) (fun _ _ _ h => h) (Or.inl ⟨by rfl, ?_⟩) ?_ ?_
        rotate_left
        ·intro w'
         go_simp
         with_reducible rfl
        rotate_left
        ·simp only [Act.put, List.setIfInBounds_toArray, List.set_cons_zero, List.set_cons_succ, i64_w, i32_w]; rfl
        refine done_ (done_of HT_.out (by kernel_rfl)) ?_
        try go_wp2
        go_ret
        exact ⟨by first | rfl | (simp [errW_none, errW_some] <;> rfl) | (simp [*, errW_none, errW_some] <;> rfl), by repeat (first | (with_reducible first | exact HB.out | apply below_alloc | apply pw_below_drewN | apply below_drew1) | exact HB.out)⟩
       ·replace c10 := Bool.eq_false_iff.mpr c10
        subst c10
        have H1 : (spec_l26Loop.l0 k1 a0 l1 (wrap64 (x5_1 + 1))) = some r := by rw [if_neg (show ¬ (false = true) by decide)] at H; exact H
        clear H
        have H := H1
        clear H1
        have H' := Aside0.mk H
        clear H
        try go_wp2
        have n0_ := Aside0.mk (below_drew1 HB.out)
        clear HB
        have HB := n0_
        clear n0_
        have p325 : 0 ≤ (x5_1 : Int) := of_decide_eq_true (by first | (with_reducible assumption) | assumption)
        have q325 : x5_1 < (l1.length : Int) := of_decide_eq_true (by first | (with_reducible assumption) | assumption)
        obtain ⟨ad325, e325, hx325_0⟩ := Kd.at_int HR1.out x5_1 p325 q325
        have hw325_0 := hx325_0
        cases e325
        replace hx325_0 := (HB.out.cell (World.block_lt_of_cell? w _ hx325_0)).trans hx325_0
        replace p325 := eq_true p325
        replace q325 := eq_true q325
        have p328 : 0 ≤ (x5_1 : Int) := of_decide_eq_true (by first | (with_reducible assumption) | assumption)
        have q328 : x5_1 < (l1.length : Int) := of_decide_eq_true (by first | (with_reducible assumption) | assumption)
        obtain ⟨ad328, e328, hx328_0⟩ := Kd.at_int HR1.out x5_1 p328 q328
        have hw328_0 := hx328_0
        obtain rfl : ad325 = ad328 := (by injection e328)
        replace hx328_0 := (HB.out.cell (World.block_lt_of_cell? w _ hx328_0)).trans hx328_0
        replace p328 := eq_true p328
        replace q328 := eq_true q328
        refine start_ (n := 18) (S := fun w' => w'.cell? (ad325.add (x5_1).toNat) = some (.int .i64 (rd l1 x5_1)) ∧ w'.cell? (ad325.add (x5_1).toNat) = some (.int .i64 (rd l1 x5_1))) (ds := []) #[false, false, false, false, false, false, false, false, false, false, false, false, false, false, false, false, false, false] (by kernel_rfl) rfl rfl ⟨((HB.out.cell (World.block_lt_of_cell? w _ hw325_0)).trans hw325_0), ((HB.out.cell (World.block_lt_of_cell? w _ hw328_0)).trans hw328_0)⟩ (fun hHeld => ?_); refine with_tabW spec_l26Loop.tab4 spec_l26Loop.bits4 (fun HT_ HW_ => ?_)
        generalize wr.drew = w13 at HB hx325_0 hx328_0 hHeld ⊢
        refine pure_ (i := 0) (N := some 12) (v := ?_) (a' := ?_) #[true, false, false, false, false, false, false, false, false, false, false, false, false, false, false, false, false, false] rfl rfl (any_of HT_.out (by kernel_rfl)) (fun _ _ _ h => h) (Or.inl ⟨by rfl, ?_⟩) ?_ ?_
        rotate_left
        ·intro w'
         go_simp
         with_reducible rfl
        rotate_left
        ·simp only [Act.put, List.setIfInBounds_toArray, List.set_cons_zero, List.set_cons_succ, i64_w, i32_w]; rfl
        refine pure_ (i := 1) (N := some 13) (v := ?_) (a' := ?_) #[true, true, false, false, false, false, false, false, false, false, false, false, false, false, false, false, false, false] rfl rfl (any_of HT_.out (by kernel_rfl)) (fun _ _ _ h => h) (Or.inl ⟨by rfl, ?_⟩) ?_ ?_
        rotate_left
        ·intro w'
         go_simp
         with_reducible rfl
        rotate_left
        ·simp only [Act.put, List.setIfInBounds_toArray, List.set_cons_zero, List.set_cons_succ, i64_w, i32_w]; rfl
        refine pure_ (i := 2) (N := some 14) (v := ?_) (a' := ?_) #[true, true, true, false, false, false, false, false, false, false, false, false, false, false, false, false, false, false] rfl rfl (any_of HT_.out (by kernel_rfl)) (fun _ _ _ h => h) (Or.inl ⟨by rfl, ?_⟩) ?_ ?_
        rotate_left
        ·intro w'
         go_simp
         with_reducible rfl
        rotate_left
        ·simp only [Act.put, List.setIfInBounds_toArray, List.set_cons_zero, List.set_cons_succ, i64_w, i32_w]; rfl
        refine pure_ (i := 4) (N := some 16) (v := ?_) (a' := ?_) #[true, true, true, false, true, false, false, false, false, false, false, false, false, false, false, false, false, false] rfl rfl (any_of HT_.out (by kernel_rfl)) (fun _ _ _ h => h) (Or.inl ⟨by rfl, ?_⟩) ?_ ?_
        rotate_left
        ·intro w'
         go_simp
         with_reducible rfl
        rotate_left
        ·simp only [Act.put, List.setIfInBounds_toArray, List.set_cons_zero, List.set_cons_succ, i64_w, i32_w]; rfl
        refine pure_ (i := 5) (N := some 17) (v := ?_) (a' := ?_) #[true, true, true, false, true, true, false, false, false, false, false, false, false, false, false, false, false, false] rfl rfl (any_of HT_.out (by kernel_rfl)) (fun _ _ _ h => h) (Or.inl ⟨by rfl, ?_⟩) ?_ ?_
        rotate_left
        ·intro w'
         go_simp
         with_reducible rfl
        rotate_left
        ·simp only [Act.put, List.setIfInBounds_toArray, List.set_cons_zero, List.set_cons_succ, i64_w, i32_w]; rfl
        refine take_ (i := 3) (N := some 15) (v := ?_) (a' := ?_) #[true, true, true, true, true, true, false, false, false, false, false, false, false, false, false, false, false, false] rfl rfl (take_ofW HT_.out HW_.out (by kernel_rfl)) (fun _ _ _ h => h) (Or.inl ⟨by rfl, ?_⟩) hHeld ?_ ?_
        rotate_left
        ·rintro w' ⟨s0, s1⟩
         go_simp
         with_reducible rfl
        rotate_left
        ·simp only [Act.put, List.setIfInBounds_toArray, List.set_cons_zero, List.set_cons_succ, i64_w, i32_w]; rfl
        refine one_ (i := 6) (N := some 18) #[true, true, true, true, true, true, true, false, false, false, false, false, false, false, false, false, false, false] rfl rfl (one_of HT_.out (by kernel_rfl)) (by decide) (fun K hK => ?_)
        refine goes_ Try.func47 (by kernel_rfl) rfl #[.int .i64 (rd l1 x5_1), .int .i64 0, .int .i64 (wrap64 (a0 - 1))] (by rfl) rfl rfl (by (try simp only [List.map_toArray, List.map_cons, List.map_nil]); first | done | rfl | (simp only [List.length_drop, List.length_take]; rfl)) ?_
        with_reducible refine (spec_l00In.calls (rd l1 x5_1) 0 (wrap64 (a0 - 1)) true _ A5.out).mono ?_
        rintro e w' ⟨rfl, ⟨nd, rfl⟩⟩
        refine ⟨_, rfl, ?_⟩
        obtain ⟨i014, hi014, _, hsz14, _⟩ := info_parts info2
        obtain ⟨hcut14, hA14, hC14⟩ := print_take_of (P := Try.prog) (Value.int .i64) 0 30 2 .i64 Try.underlying30 hi014 hsz14 (some ad325) c1 l1 x5_1 (of_decide_eq_true (by first | (with_reducible assumption) | assumption)) (of_decide_eq_true (by first | (with_reducible assumption) | assumption)) HC1.out
        have HR327 := Aside0.mk (Kd.C_of_reads (h1 := fun _ => rfl) (hA14 _ (Kd.reads_of_C HR1.out)))
        have HC327 := Aside0.mk hC14
        clear hA14 hC14 hi014 hsz14
        refine hK.out _ _ ⟨((HB.out.cell (World.block_lt_of_cell? w _ hw325_0)).trans hw325_0), ((HB.out.cell (World.block_lt_of_cell? w _ hw328_0)).trans hw328_0)⟩ (fun hHeld => ?_)
        clear hK K
        refine norm_ (a' := ?_) ?_ ?_
        rotate_left
        ·show Act.put _ (some 18) _ = _
         simp only [Act.put, List.setIfInBounds_toArray, List.set_cons_zero, List.set_cons_succ, i64_w, i32_w]
         rfl
        refine pure_ (i := 7) (N := some 19) (v := ?_) (a' := ?_) #[true, true, true, true, true, true, true, true, false, false, false, false, false, false, false, false, false, false] rfl rfl (any_of HT_.out (by kernel_rfl)) (fun _ _ _ h => h) (Or.inl ⟨by rfl, ?_⟩) ?_ ?_
        rotate_left
        ·intro w'
         go_simp
         with_reducible rfl
        rotate_left
        ·simp only [Act.put, List.setIfInBounds_toArray, List.set_cons_zero, List.set_cons_succ, i64_w, i32_w]; rfl
        refine pure_ (i := 8) (N := some 20) (v := ?_) (a' := ?_) #[true, true, true, true, true, true, true, true, true, false, false, false, false, false, false, false, false, false] rfl rfl (any_of HT_.out (by kernel_rfl)) (fun _ _ _ h => h) (Or.inl ⟨by rfl, ?_⟩) ?_ ?_
        rotate_left
        ·intro w'
         go_simp
         with_reducible rfl
        rotate_left
        ·simp only [Act.put, List.setIfInBounds_toArray, List.set_cons_zero, List.set_cons_succ, i64_w, i32_w]; rfl
        refine pure_ (i := 9) (N := some 21) (v := ?_) (a' := ?_) #[true, true, true, true, true, true, true, true, true, true, false, false, false, false, false, false, false, false] rfl rfl (any_of HT_.out (by kernel_rfl)) (fun _ _ _ h => h) (Or.inl ⟨by rfl, ?_⟩) ?_ ?_
        rotate_left
        ·intro w'
         go_simp
         with_reducible rfl
        rotate_left
        ·simp only [Act.put, List.setIfInBounds_toArray, List.set_cons_zero, List.set_cons_succ, i64_w, i32_w]; rfl
        refine pure_ (i := 10) (N := some 22) (v := ?_) (a' := ?_) #[true, true, true, true, true, true, true, true, true, true, true, false, false, false, false, false, false, false] rfl rfl (any_of HT_.out (by kernel_rfl)) (fun _ _ _ h => h) (Or.inl ⟨by rfl, ?_⟩) ?_ ?_
        rotate_left
        ·intro w'
         go_simp
         with_reducible rfl
        rotate_left
        ·simp only [Act.put, List.setIfInBounds_toArray, List.set_cons_zero, List.set_cons_succ, i64_w, i32_w]; rfl
        refine pure_ (i := 11) (N := some 23) (v := ?_) (a' := ?_) #[true, true, true, true, true, true, true, true, true, true, true, true, false, false, false, false, false, false] rfl rfl (any_of HT_.out (by kernel_rfl)) (fun _ _ _ h => h) (Or.inl ⟨by rfl, ?_⟩) ?_ ?_
        rotate_left
        ·intro w'
         go_simp
         with_reducible rfl
        rotate_left
        ·simp only [Act.put, List.setIfInBounds_toArray, List.set_cons_zero, List.set_cons_succ, i64_w, i32_w]; rfl
        refine pure_ (i := 12) (N := some 24) (v := ?_) (a' := ?_) #[true, true, true, true, true, true, true, true, true, true, true, true, true, false, false, false, false, false] rfl rfl (any_of HT_.out (by kernel_rfl)) (fun _ _ _ h => h) (Or.inl ⟨by rfl, ?_⟩) ?_ ?_
        rotate_left
        ·intro w'
         go_simp
         with_reducible rfl
        rotate_left
        ·simp only [Act.put, List.setIfInBounds_toArray, List.set_cons_zero, List.set_cons_succ, i64_w, i32_w]; rfl
        refine pure_ (i := 13) (N := some 25) (v := ?_) (a' := ?_) #[true, true, true, true, true, true, true, true, true, true, true, true, true, true, false, false, false, false] rfl rfl (any_of HT_.out (by kernel_rfl)) (fun _ _ _ h => h) (Or.inl ⟨by rfl, ?_⟩) ?_ ?_
        rotate_left
        ·intro w'
         go_simp
         with_reducible rfl
        rotate_left
        ·simp only [Act.put, List.setIfInBounds_toArray, List.set_cons_zero, List.set_cons_succ, i64_w, i32_w]; rfl
        refine pure_ (i := 14) (N := some 26) (v := ?_) (a' := ?_) #[true, true, true, true, true, true, true, true, true, true, true, true, true, true, true, false, false, false] rfl rfl (any_of HT_.out (by kernel_rfl)) (fun _ _ _ h => h) (Or.inl ⟨by rfl, ?_⟩) ?_ ?_
        rotate_left
        ·intro w'
         go_simp
         with_reducible rfl
        rotate_left
        ·simp only [Act.put, List.setIfInBounds_toArray, List.set_cons_zero, List.set_cons_succ, i64_w, i32_w]; rfl
        refine take_ (i := 15) (N := some 27) (v := ?_) (a' := ?_) #[true, true, true, true, true, true, true, true, true, true, true, true, true, true, true, true, false, false] rfl rfl (take_ofW HT_.out HW_.out (by kernel_rfl)) (fun _ _ _ h => h) (Or.inl ⟨by rfl, ?_⟩) hHeld ?_ ?_
        rotate_left
        ·rintro w' ⟨s0, s1⟩
         go_simp
         with_reducible rfl
        rotate_left
        ·simp only [Act.put, List.setIfInBounds_toArray, List.set_cons_zero, List.set_cons_succ, i64_w, i32_w]; rfl
        refine one_ (i := 16) (N := some 28) #[true, true, true, true, true, true, true, true, true, true, true, true, true, true, true, true, true, false] rfl rfl (one_of HT_.out (by kernel_rfl)) (by decide) (fun K hK => ?_)
        refine goes_ Try.func75 (by kernel_rfl) rfl #[.slice (some ad325) (l1.take (x5_1 : Int).toNat).length c1, .int .i64 (rd l1 x5_1)] (by rfl) rfl rfl (by (try simp only [List.map_toArray, List.map_cons, List.map_nil]); first | done | (rw [show (l1.take (x5_1 : Int).toNat).length = x5_1.toNat from (by rw [List.length_take]; have h_ : (x5_1 : Int) ≤ (l1.length : Int) := of_decide_eq_true (by first | (with_reducible assumption) | assumption); omega)] <;> rfl) | rfl | (simp only [List.length_drop, List.length_take]; rfl)) ?_
        with_reducible refine (spec_l00Has.calls k1 _ _ (l1.take (x5_1 : Int).toNat) (rd l1 x5_1) false _ ?side1 ?side2 A9.out).mono ?_
        (case side1 => repeat (first | exact (Kd.C_below HR327.out (by repeat (first | (with_reducible first | exact HB.out | apply below_alloc | apply pw_below_drewN | apply below_drew1) | exact HB.out))) | (with_reducible refine Kd.C_alloc ?_ _) | (with_reducible refine Kd.C_drewN ?_ _) | (with_reducible refine Kd.C_drew ?_)))
        (case side2 => exact HC327.out)
        rintro e w' ⟨rfl, ⟨nd, rfl⟩⟩
        refine ⟨_, rfl, ?_⟩
        refine hK.out _ _ ⟨((HB.out.cell (World.block_lt_of_cell? w _ hw325_0)).trans hw325_0), ((HB.out.cell (World.block_lt_of_cell? w _ hw328_0)).trans hw328_0)⟩ (fun hHeld => ?_)
        clear hK K
        refine norm_ (a' := ?_) ?_ ?_
        rotate_left
        ·show Act.put _ (some 28) _ = _
         simp only [Act.put, List.setIfInBounds_toArray, List.set_cons_zero, List.set_cons_succ, i64_w, i32_w]
         rfl
        refine pure_ (i := 17) (N := some 29) (v := ?_) (a' := ?_) #[true, true, true, true, true, true, true, true, true, true, true, true, true, true, true, true, true, true] rfl rfl (any_of HT_.out (by kernel_rfl)) (fun _ _ _ h => h) (Or.inl ⟨by rfl, ?_⟩) ?_ ?_
        rotate_left
        ·intro w'
         go_simp
         with_reducible rfl
        rotate_left
        ·simp only [Act.put, List.setIfInBounds_toArray, List.set_cons_zero, List.set_cons_succ, i64_w, i32_w]; rfl
        refine done_ (done_of HT_.out (by kernel_rfl)) ?_
        try go_wp2
        go_roundg k1
        case measure => have := HK1.out; omega
        case rel => exact ⟨(wrap64 (x5_1 + 1)), (by first | rfl | (simp; done) | (simp [*]; done)), H', ⟨by have := HK1.out; omega⟩, ⟨by repeat (first | (with_reducible first | exact HB.out | apply below_alloc | apply pw_below_drewN | apply below_drew1) | exact HB.out)⟩⟩
      ·rw [if_neg c8] at H
       exact absurd H (by simp)
     ·replace c6 := Bool.eq_false_iff.mpr c6
      subst c6
      have H1 : (some false) = some r := by rw [if_neg (show ¬ (false = true) by decide)] at H; exact H
      clear H
      have H := H1
      clear H1
      obtain rfl := Option.some.inj H
      try go_wp2
      have n0_ := Aside0.mk (below_drew1 HB.out)
      clear HB
      have HB := n0_
      clear n0_
      have p325 : 0 ≤ (x5_1 : Int) := of_decide_eq_true (by first | (with_reducible assumption) | assumption)
      have q325 : x5_1 < (l1.length : Int) := of_decide_eq_true (by first | (with_reducible assumption) | assumption)
      obtain ⟨ad325, e325, hx325_0⟩ := Kd.at_int HR1.out x5_1 p325 q325
      have hw325_0 := hx325_0
      cases e325
      replace hx325_0 := (HB.out.cell (World.block_lt_of_cell? w _ hx325_0)).trans hx325_0
      replace p325 := eq_true p325
      replace q325 := eq_true q325
      refine start_ (n := 18) (S := fun w' => w'.cell? (ad325.add (x5_1).toNat) = some (.int .i64 (rd l1 x5_1))) (ds := []) #[false, false, false, false, false, false, false, false, false, false, false, false, false, false, false, false, false, false] (by kernel_rfl) rfl rfl (((HB.out.cell (World.block_lt_of_cell? w _ hw325_0)).trans hw325_0)) (fun hHeld => ?_); refine with_tabW spec_l26Loop.tab4 spec_l26Loop.bits4 (fun HT_ HW_ => ?_)
      generalize wr.drew = w15 at HB hx325_0 hHeld ⊢
      refine pure_ (i := 0) (N := some 12) (v := ?_) (a' := ?_) #[true, false, false, false, false, false, false, false, false, false, false, false, false, false, false, false, false, false] rfl rfl (any_of HT_.out (by kernel_rfl)) (fun _ _ _ h => h) (Or.inl ⟨by rfl, ?_⟩) ?_ ?_
      rotate_left
      ·intro w'
       go_simp
       with_reducible rfl
      rotate_left
      ·simp only [Act.put, List.setIfInBounds_toArray, List.set_cons_zero, List.set_cons_succ, i64_w, i32_w]; rfl
      refine pure_ (i := 1) (N := some 13) (v := ?_) (a' := ?_) #[true, true, false, false, false, false, false, false, false, false, false, false, false, false, false, false, false, false] rfl rfl (any_of HT_.out (by kernel_rfl)) (fun _ _ _ h => h) (Or.inl ⟨by rfl, ?_⟩) ?_ ?_
      rotate_left
      ·intro w'
       go_simp
       with_reducible rfl
      rotate_left
      ·simp only [Act.put, List.setIfInBounds_toArray, List.set_cons_zero, List.set_cons_succ, i64_w, i32_w]; rfl
      refine pure_ (i := 2) (N := some 14) (v := ?_) (a' := ?_) #[true, true, true, false, false, false, false, false, false, false, false, false, false, false, false, false, false, false] rfl rfl (any_of HT_.out (by kernel_rfl)) (fun _ _ _ h => h) (Or.inl ⟨by rfl, ?_⟩) ?_ ?_
      rotate_left
      ·intro w'
       go_simp
       with_reducible rfl
      rotate_left
      ·simp only [Act.put, List.setIfInBounds_toArray, List.set_cons_zero, List.set_cons_succ, i64_w, i32_w]; rfl
      refine pure_ (i := 4) (N := some 16) (v := ?_) (a' := ?_) #[true, true, true, false, true, false, false, false, false, false, false, false, false, false, false, false, false, false] rfl rfl (any_of HT_.out (by kernel_rfl)) (fun _ _ _ h => h) (Or.inl ⟨by rfl, ?_⟩) ?_ ?_
      rotate_left
      ·intro w'
       go_simp
       with_reducible rfl
      rotate_left
      ·simp only [Act.put, List.setIfInBounds_toArray, List.set_cons_zero, List.set_cons_succ, i64_w, i32_w]; rfl
      refine pure_ (i := 5) (N := some 17) (v := ?_) (a' := ?_) #[true, true, true, false, true, true, false, false, false, false, false, false, false, false, false, false, false, false] rfl rfl (any_of HT_.out (by kernel_rfl)) (fun _ _ _ h => h) (Or.inl ⟨by rfl, ?_⟩) ?_ ?_
      rotate_left
      ·intro w'
       go_simp
       with_reducible rfl
      rotate_left
      ·simp only [Act.put, List.setIfInBounds_toArray, List.set_cons_zero, List.set_cons_succ, i64_w, i32_w]; rfl
      refine take_ (i := 3) (N := some 15) (v := ?_) (a' := ?_) #[true, true, true, true, true, true, false, false, false, false, false, false, false, false, false, false, false, false] rfl rfl (take_ofW HT_.out HW_.out (by kernel_rfl)) (fun _ _ _ h => h) (Or.inl ⟨by rfl, ?_⟩) hHeld ?_ ?_
      rotate_left
      ·intro w' s0
       go_simp
       with_reducible rfl
      rotate_left
      ·simp only [Act.put, List.setIfInBounds_toArray, List.set_cons_zero, List.set_cons_succ, i64_w, i32_w]; rfl
      refine one_ (i := 6) (N := some 18) #[true, true, true, true, true, true, true, false, false, false, false, false, false, false, false, false, false, false] rfl rfl (one_of HT_.out (by kernel_rfl)) (by decide) (fun K hK => ?_)
      refine goes_ Try.func47 (by kernel_rfl) rfl #[.int .i64 (rd l1 x5_1), .int .i64 0, .int .i64 (wrap64 (a0 - 1))] (by rfl) rfl rfl (by (try simp only [List.map_toArray, List.map_cons, List.map_nil]); first | done | rfl | (simp only [List.length_drop, List.length_take]; rfl)) ?_
      with_reducible refine (spec_l00In.calls (rd l1 x5_1) 0 (wrap64 (a0 - 1)) false _ A5.out).mono ?_
      rintro e w' ⟨rfl, ⟨nd, rfl⟩⟩
      refine ⟨_, rfl, ?_⟩
      refine hK.out _ _ (((HB.out.cell (World.block_lt_of_cell? w _ hw325_0)).trans hw325_0)) (fun hHeld => ?_)
      clear hK K
      refine norm_ (a' := ?_) ?_ ?_
      rotate_left
      ·show Act.put _ (some 18) _ = _
       simp only [Act.put, List.setIfInBounds_toArray, List.set_cons_zero, List.set_cons_succ, i64_w, i32_w]
       rfl
      refine pure_ (i := 7) (N := some 19) (v := ?_) (a' := ?_) #[true, true, true, true, true, true, true, true, false, false, false, false, false, false, false, false, false, false] rfl rfl (any_of HT_.out (by kernel_rfl)) (fun _ _ _ h => h) (Or.inl ⟨by rfl, ?_⟩) ?_ ?_
      rotate_left
      ·intro w'
       go_simp
       with_reducible rfl
      rotate_left
      ·simp only [Act.put, List.setIfInBounds_toArray, List.set_cons_zero, List.set_cons_succ, i64_w, i32_w]; rfl
      refine pure_ (i := 8) (N := some 20) (v := ?_) (a' := ?_) #[true, true, true, true, true, true, true, true, true, false, false, false, false, false, false, false, false, false] rfl rfl (any_of HT_.out (by kernel_rfl)) (fun _ _ _ h => h) (Or.inl ⟨by rfl, ?_⟩) ?_ ?_
      rotate_left
      ·intro w'
       go_simp
       with_reducible rfl
      rotate_left
      ·simp only [Act.put, List.setIfInBounds_toArray, List.set_cons_zero, List.set_cons_succ, i64_w, i32_w]; rfl
      refine pure_ (i := 9) (N := some 21) (v := undef) (a' := ?_) #[true, true, true, true, true, true, true, true, true, true, false, false, false, false, false, false, false, false] rfl rfl (any_of HT_.out (by kernel_rfl)) (fun _ _ _ h => h) (Or.inr ⟨by rfl, rfl⟩) ?_ ?_
      rotate_left
      ·simp only [Act.put, List.setIfInBounds_toArray, List.set_cons_zero, List.set_cons_succ, i64_w, i32_w]; rfl
      refine pure_ (i := 10) (N := some 22) (v := undef) (a' := ?_) #[true, true, true, true, true, true, true, true, true, true, true, false, false, false, false, false, false, false] rfl rfl (any_of HT_.out (by kernel_rfl)) (fun _ _ _ h => h) (Or.inr ⟨by rfl, rfl⟩) ?_ ?_
      rotate_left
      ·simp only [Act.put, List.setIfInBounds_toArray, List.set_cons_zero, List.set_cons_succ, i64_w, i32_w]; rfl
      refine pure_ (i := 11) (N := some 23) (v := undef) (a' := ?_) #[true, true, true, true, true, true, true, true, true, true, true, true, false, false, false, false, false, false] rfl rfl (any_of HT_.out (by kernel_rfl)) (fun _ _ _ h => h) (Or.inr ⟨by rfl, rfl⟩) ?_ ?_
      rotate_left
      ·simp only [Act.put, List.setIfInBounds_toArray, List.set_cons_zero, List.set_cons_succ, i64_w, i32_w]; rfl
      refine pure_ (i := 12) (N := some 24) (v := undef) (a' := ?_) #[true, true, true, true, true, true, true, true, true, true, true, true, true, false, false, false, false, false] rfl rfl (any_of HT_.out (by kernel_rfl)) (fun _ _ _ h => h) (Or.inr ⟨by rfl, rfl⟩) ?_ ?_
      rotate_left
      ·simp only [Act.put, List.setIfInBounds_toArray, List.set_cons_zero, List.set_cons_succ, i64_w, i32_w]; rfl
      refine pure_ (i := 13) (N := some 25) (v := undef) (a' := ?_) #[true, true, true, true, true, true, true, true, true, true, true, true, true, true, false, false, false, false] rfl rfl (any_of HT_.out (by kernel_rfl)) (fun _ _ _ h => h) (Or.inr ⟨by rfl, rfl⟩) ?_ ?_
      rotate_left
      ·simp only [Act.put, List.setIfInBounds_toArray, List.set_cons_zero, List.set_cons_succ, i64_w, i32_w]; rfl
      refine pure_ (i := 14) (N := some 26) (v := undef) (a' := ?_) #[true, true, true, true, true, true, true, true, true, true, true, true, true, true, true, false, false, false] rfl rfl (any_of HT_.out (by kernel_rfl)) (fun _ _ _ h => h) (Or.inr ⟨by rfl, rfl⟩) ?_ ?_
      rotate_left
      ·simp only [Act.put, List.setIfInBounds_toArray, List.set_cons_zero, List.set_cons_succ, i64_w, i32_w]; rfl
      refine pure_ (i := 15) (N := some 27) (v := undef) (a' := ?_) #[true, true, true, true, true, true, true, true, true, true, true, true, true, true, true, true, false, false] rfl rfl (any_of HT_.out (by kernel_rfl)) (fun _ _ _ h => h) (Or.inr ⟨by rfl, rfl⟩) ?_ ?_
      rotate_left
      ·simp only [Act.put, List.setIfInBounds_toArray, List.set_cons_zero, List.set_cons_succ, i64_w, i32_w]; rfl
      refine pure_ (i := 16) (N := some 28) (v := undef) (a' := ?_) #[true, true, true, true, true, true, true, true, true, true, true, true, true, true, true, true, true, false] rfl rfl (any_of HT_.out (by kernel_rfl)) (fun _ _ _ h => h) (Or.inr ⟨by rfl, rfl⟩) ?_ ?_
      rotate_left
      ·simp only [Act.put, List.setIfInBounds_toArray, List.set_cons_zero, List.set_cons_succ, i64_w, i32_w]; rfl
      refine pure_ (i := 17) (N := some 29) (v := ?_) (a' := ?_) #[true, true, true, true, true, true, true, true, true, true, true, true, true, true, true, true, true, true] rfl rfl (any_of HT_.out (by kernel_rfl)) (fun _ _ _ h => h) (Or.inl ⟨by rfl, ?_⟩) ?_ ?_
      rotate_left
      ·intro w'
       go_simp
       with_reducible rfl
      rotate_left
      ·simp only [Act.put, List.setIfInBounds_toArray, List.set_cons_zero, List.set_cons_succ, i64_w, i32_w]; rfl
      refine done_ (done_of HT_.out (by kernel_rfl)) ?_
      try go_wp2
      go_ret
      exact ⟨by first | rfl | (simp [errW_none, errW_some] <;> rfl) | (simp [*, errW_none, errW_some] <;> rfl), by repeat (first | (with_reducible first | exact HB.out | apply below_alloc | apply pw_below_drewN | apply below_drew1) | exact HB.out)⟩
    ·rw [if_neg c4] at H
     exact absurd H (by simp)
   ·rw [if_neg c3] at H
    have c3b0 : decide (x5_1 < (l1.length : Int)) = false := decide_eq_false c3
    clear c3
    obtain rfl := Option.some.inj H
    go_wp2
    go_ret
    exact ⟨by first | rfl | (simp [errW_none, errW_some] <;> rfl) | (simp [*, errW_none, errW_some] <;> rfl), by repeat (first | (with_reducible first | exact HB.out | apply below_alloc | apply pw_below_drewN | apply below_drew1) | exact HB.out)⟩


/-! ## XSpecL26Sides -/

mutual
def spec_l26Sides.l0 : Nat → List (S51) → List Int → List Int → List Int → Int → Option (List Int × List Int × Bool)
 | 0, _, _, _, _, _ => none
 | k + 1, x0, x1, x7, x8, x9 => if x9 < (x1.length : Int) then (if 0 ≤ x9 then (if (x1.length : Int) = 0 then (none) else (if 0 ≤ (Int.tmod (wrap64 (x9 + 1)) (x1.length : Int)) then (if (Int.tmod (wrap64 (x9 + 1)) (x1.length : Int)) < (x1.length : Int) then (spec_l26Sides.l1 k x0 x1 x7 x8 x9 (rd x1 x9) (rd x1 (Int.tmod (wrap64 (x9 + 1)) (x1.length : Int))) false 0) else (none)) else (none))) else (none)) else (some (x7, x8, true))
def spec_l26Sides.l1 : Nat → List (S51) → List Int → List Int → List Int → Int → Int → Int → Bool → Int → Option (List Int × List Int × Bool)
 | 0, _, _, _, _, _, _, _, _, _ => none
 | k + 1, x0, x1, x7, x8, x9, x10, x11, x12, x13 => if x13 < (x0.length : Int) then (spec_l26Sides.j2 k x0 x1 x7 x8 x9 x10 x11 x12 x13 (!x12)) else (spec_l26Sides.j2 k x0 x1 x7 x8 x9 x10 x11 x12 x13 false)
def spec_l26Sides.j2 : Nat → List (S51) → List Int → List Int → List Int → Int → Int → Int → Bool → Int → Bool → Option (List Int × List Int × Bool)
 | 0, _, _, _, _, _, _, _, _, _, _ => none
 | k + 1, x0, x1, x7, x8, x9, x10, x11, x12, x13, x42 => if x42 = true then (if 0 ≤ x13 then (if x13 < (x0.length : Int) then (if ((rd_T51 x0 x13).f0) = x10 then (spec_l26Sides.j3 k x0 x1 x7 x8 x9 x10 x11 x12 x13 (((rd_T51 x0 x13).f1) == x11) ((rd_T51 x0 x13).f0) ((rd_T51 x0 x13).f1) ((rd_T51 x0 x13).f2) ((rd_T51 x0 x13).f3)) else (spec_l26Sides.j3 k x0 x1 x7 x8 x9 x10 x11 x12 x13 false ((rd_T51 x0 x13).f0) ((rd_T51 x0 x13).f1) ((rd_T51 x0 x13).f2) ((rd_T51 x0 x13).f3))) else (none)) else (none)) else (if x12 = true then (spec_l26Sides.l0 k x0 x1 x7 x8 (wrap64 (x9 + 1))) else (some (([] : List Int), ([] : List Int), false)))
def spec_l26Sides.j3 : Nat → List (S51) → List Int → List Int → List Int → Int → Int → Int → Bool → Int → Bool → Int → Int → Int → Int → Option (List Int × List Int × Bool)
 | 0, _, _, _, _, _, _, _, _, _, _, _, _, _, _ => none
 | k + 1, x0, x1, x7, x8, x9, x10, x11, x12, x13, x58, x340000, x340001, x340002, x340003 => if x58 = true then (if x7.length < 17592186044416 then (if x8.length < 17592186044416 then (spec_l26Sides.l1 k x0 x1 (x7 ++ [x340002]) (x8 ++ [x340003]) x9 x10 x11 true (wrap64 (x13 + 1))) else (none)) else (none)) else (if x340000 = x11 then (spec_l26Sides.j4 k x0 x1 x7 x8 x9 x10 x11 x12 x13 (x340001 == x10) x340000 x340001 x340002 x340003) else (spec_l26Sides.j4 k x0 x1 x7 x8 x9 x10 x11 x12 x13 false x340000 x340001 x340002 x340003))
def spec_l26Sides.j4 : Nat → List (S51) → List Int → List Int → List Int → Int → Int → Int → Bool → Int → Bool → Int → Int → Int → Int → Option (List Int × List Int × Bool)
 | 0, _, _, _, _, _, _, _, _, _, _, _, _, _, _ => none
 | k + 1, x0, x1, x7, x8, x9, x10, x11, x12, x13, x73, x340000, x340001, x340002, x340003 => if x73 = true then (if x7.length < 17592186044416 then (if x8.length < 17592186044416 then (spec_l26Sides.l1 k x0 x1 (x7 ++ [wrap64 (-x340002)]) (x8 ++ [x340003]) x9 x10 x11 true (wrap64 (x13 + 1))) else (none)) else (none)) else (if x12 = true then (if x8.length < 17592186044416 then (spec_l26Sides.l1 k x0 x1 x7 (x8 ++ [x340003]) x9 x10 x11 x12 (wrap64 (x13 + 1))) else (none)) else (spec_l26Sides.l1 k x0 x1 x7 x8 x9 x10 x11 x12 (wrap64 (x13 + 1))))
end
def spec_l26Sides.f (k : Nat) (l0 : List (S51)) (l1 : List Int) : Option (List Int × List Int × Bool) := spec_l26Sides.l0 k l0 l1 (([] : List Int)) (([] : List Int)) 0
theorem spec_l26Sides.mono_l : ∀ k, (∀ y0 y1 y2 y3 y4, LeO (spec_l26Sides.l0 k y0 y1 y2 y3 y4) (spec_l26Sides.l0 (k + 1) y0 y1 y2 y3 y4)) ∧ (∀ y0 y1 y2 y3 y4 y5 y6 y7 y8, LeO (spec_l26Sides.l1 k y0 y1 y2 y3 y4 y5 y6 y7 y8) (spec_l26Sides.l1 (k + 1) y0 y1 y2 y3 y4 y5 y6 y7 y8)) ∧ (∀ y0 y1 y2 y3 y4 y5 y6 y7 y8 y9, LeO (spec_l26Sides.j2 k y0 y1 y2 y3 y4 y5 y6 y7 y8 y9) (spec_l26Sides.j2 (k + 1) y0 y1 y2 y3 y4 y5 y6 y7 y8 y9)) ∧ (∀ y0 y1 y2 y3 y4 y5 y6 y7 y8 y9 y10 y11 y12 y13, LeO (spec_l26Sides.j3 k y0 y1 y2 y3 y4 y5 y6 y7 y8 y9 y10 y11 y12 y13) (spec_l26Sides.j3 (k + 1) y0 y1 y2 y3 y4 y5 y6 y7 y8 y9 y10 y11 y12 y13)) ∧ (∀ y0 y1 y2 y3 y4 y5 y6 y7 y8 y9 y10 y11 y12 y13, LeO (spec_l26Sides.j4 k y0 y1 y2 y3 y4 y5 y6 y7 y8 y9 y10 y11 y12 y13) (spec_l26Sides.j4 (k + 1) y0 y1 y2 y3 y4 y5 y6 y7 y8 y9 y10 y11 y12 y13))
 | 0 => ⟨fun _ _ _ _ _ r h => by simp [spec_l26Sides.l0] at h, fun _ _ _ _ _ _ _ _ _ r h => by simp [spec_l26Sides.l1] at h, fun _ _ _ _ _ _ _ _ _ _ r h => by simp [spec_l26Sides.j2] at h, fun _ _ _ _ _ _ _ _ _ _ _ _ _ _ r h => by simp [spec_l26Sides.j3] at h, fun _ _ _ _ _ _ _ _ _ _ _ _ _ _ r h => by simp [spec_l26Sides.j4] at h⟩
 | k + 1 => by
  obtain ⟨ih0, ih1, ih2, ih3, ih4⟩ := spec_l26Sides.mono_l k
  refine ⟨?_, ?_, ?_, ?_, ?_⟩
  ·intro y0 y1 y2 y3 y4
   unfold spec_l26Sides.l0
   repeat' first
   | (with_reducible exact ih0 _ _ _ _ _)
   | (with_reducible exact ih1 _ _ _ _ _ _ _ _ _)
   | (with_reducible exact ih2 _ _ _ _ _ _ _ _ _ _)
   | (with_reducible exact ih3 _ _ _ _ _ _ _ _ _ _ _ _ _ _)
   | (with_reducible exact ih4 _ _ _ _ _ _ _ _ _ _ _ _ _ _)
   | (with_reducible exact LeO.refl _)
   | (with_reducible exact LeO.none _)
   | (with_reducible refine LeO.ite ?_ ?_)
   | (with_reducible refine LeO.bind ?_ (fun _ => ?_))
   | exact ih0 _ _ _ _ _
   | exact ih1 _ _ _ _ _ _ _ _ _
   | exact ih2 _ _ _ _ _ _ _ _ _ _
   | exact ih3 _ _ _ _ _ _ _ _ _ _ _ _ _ _
   | exact ih4 _ _ _ _ _ _ _ _ _ _ _ _ _ _
   | exact LeO.none _
   | refine LeO.ite ?_ ?_
   | refine LeO.bind ?_ (fun _ => ?_)
  ·intro y0 y1 y2 y3 y4 y5 y6 y7 y8
   unfold spec_l26Sides.l1
   repeat' first
   | (with_reducible exact ih0 _ _ _ _ _)
   | (with_reducible exact ih1 _ _ _ _ _ _ _ _ _)
   | (with_reducible exact ih2 _ _ _ _ _ _ _ _ _ _)
   | (with_reducible exact ih3 _ _ _ _ _ _ _ _ _ _ _ _ _ _)
   | (with_reducible exact ih4 _ _ _ _ _ _ _ _ _ _ _ _ _ _)
   | (with_reducible exact LeO.refl _)
   | (with_reducible exact LeO.none _)
   | (with_reducible refine LeO.ite ?_ ?_)
   | (with_reducible refine LeO.bind ?_ (fun _ => ?_))
   | exact ih0 _ _ _ _ _
   | exact ih1 _ _ _ _ _ _ _ _ _
   | exact ih2 _ _ _ _ _ _ _ _ _ _
   | exact ih3 _ _ _ _ _ _ _ _ _ _ _ _ _ _
   | exact ih4 _ _ _ _ _ _ _ _ _ _ _ _ _ _
   | exact LeO.none _
   | refine LeO.ite ?_ ?_
   | refine LeO.bind ?_ (fun _ => ?_)
  ·intro y0 y1 y2 y3 y4 y5 y6 y7 y8 y9
   unfold spec_l26Sides.j2
   repeat' first
   | (with_reducible exact ih0 _ _ _ _ _)
   | (with_reducible exact ih1 _ _ _ _ _ _ _ _ _)
   | (with_reducible exact ih2 _ _ _ _ _ _ _ _ _ _)
   | (with_reducible exact ih3 _ _ _ _ _ _ _ _ _ _ _ _ _ _)
   | (with_reducible exact ih4 _ _ _ _ _ _ _ _ _ _ _ _ _ _)
   | (with_reducible exact LeO.refl _)
   | (with_reducible exact LeO.none _)
   | (with_reducible refine LeO.ite ?_ ?_)
   | (with_reducible refine LeO.bind ?_ (fun _ => ?_))
   | exact ih0 _ _ _ _ _
   | exact ih1 _ _ _ _ _ _ _ _ _
   | exact ih2 _ _ _ _ _ _ _ _ _ _
   | exact ih3 _ _ _ _ _ _ _ _ _ _ _ _ _ _
   | exact ih4 _ _ _ _ _ _ _ _ _ _ _ _ _ _
   | exact LeO.none _
   | refine LeO.ite ?_ ?_
   | refine LeO.bind ?_ (fun _ => ?_)
  ·intro y0 y1 y2 y3 y4 y5 y6 y7 y8 y9 y10 y11 y12 y13
   unfold spec_l26Sides.j3
   repeat' first
   | (with_reducible exact ih0 _ _ _ _ _)
   | (with_reducible exact ih1 _ _ _ _ _ _ _ _ _)
   | (with_reducible exact ih2 _ _ _ _ _ _ _ _ _ _)
   | (with_reducible exact ih3 _ _ _ _ _ _ _ _ _ _ _ _ _ _)
   | (with_reducible exact ih4 _ _ _ _ _ _ _ _ _ _ _ _ _ _)
   | (with_reducible exact LeO.refl _)
   | (with_reducible exact LeO.none _)
   | (with_reducible refine LeO.ite ?_ ?_)
   | (with_reducible refine LeO.bind ?_ (fun _ => ?_))
   | exact ih0 _ _ _ _ _
   | exact ih1 _ _ _ _ _ _ _ _ _
   | exact ih2 _ _ _ _ _ _ _ _ _ _
   | exact ih3 _ _ _ _ _ _ _ _ _ _ _ _ _ _
   | exact ih4 _ _ _ _ _ _ _ _ _ _ _ _ _ _
   | exact LeO.none _
   | refine LeO.ite ?_ ?_
   | refine LeO.bind ?_ (fun _ => ?_)
  ·intro y0 y1 y2 y3 y4 y5 y6 y7 y8 y9 y10 y11 y12 y13
   unfold spec_l26Sides.j4
   repeat' first
   | (with_reducible exact ih0 _ _ _ _ _)
   | (with_reducible exact ih1 _ _ _ _ _ _ _ _ _)
   | (with_reducible exact ih2 _ _ _ _ _ _ _ _ _ _)
   | (with_reducible exact ih3 _ _ _ _ _ _ _ _ _ _ _ _ _ _)
   | (with_reducible exact ih4 _ _ _ _ _ _ _ _ _ _ _ _ _ _)
   | (with_reducible exact LeO.refl _)
   | (with_reducible exact LeO.none _)
   | (with_reducible refine LeO.ite ?_ ?_)
   | (with_reducible refine LeO.bind ?_ (fun _ => ?_))
   | exact ih0 _ _ _ _ _
   | exact ih1 _ _ _ _ _ _ _ _ _
   | exact ih2 _ _ _ _ _ _ _ _ _ _
   | exact ih3 _ _ _ _ _ _ _ _ _ _ _ _ _ _
   | exact ih4 _ _ _ _ _ _ _ _ _ _ _ _ _ _
   | exact LeO.none _
   | refine LeO.ite ?_ ?_
   | refine LeO.bind ?_ (fun _ => ?_)
theorem spec_l26Sides.mono : ∀ a0 a1 k, LeO (spec_l26Sides.f k a0 a1) (spec_l26Sides.f (k + 1) a0 a1) := by
 intro a0 a1 k
 obtain ⟨ih0, ih1, ih2, ih3, ih4⟩ := spec_l26Sides.mono_l k
 unfold spec_l26Sides.f
 repeat' first
   | (with_reducible exact ih0 _ _ _ _ _)
   | (with_reducible exact ih1 _ _ _ _ _ _ _ _ _)
   | (with_reducible exact ih2 _ _ _ _ _ _ _ _ _ _)
   | (with_reducible exact ih3 _ _ _ _ _ _ _ _ _ _ _ _ _ _)
   | (with_reducible exact ih4 _ _ _ _ _ _ _ _ _ _ _ _ _ _)
   | (with_reducible exact LeO.refl _)
   | (with_reducible exact LeO.none _)
   | (with_reducible refine LeO.ite ?_ ?_)
   | (with_reducible refine LeO.bind ?_ (fun _ => ?_))
   | exact ih0 _ _ _ _ _
   | exact ih1 _ _ _ _ _ _ _ _ _
   | exact ih2 _ _ _ _ _ _ _ _ _ _
   | exact ih3 _ _ _ _ _ _ _ _ _ _ _ _ _ _
   | exact ih4 _ _ _ _ _ _ _ _ _ _ _ _ _ _
   | exact LeO.none _
   | refine LeO.ite ?_ ?_
   | refine LeO.bind ?_ (fun _ => ?_)
set_option maxHeartbeats 8000000 in
set_option maxRecDepth 100000 in
theorem spec_l26Sides.calls (k : Nat) (A0 : Option Addr) (c0 : Nat) (l0 : List (S51)) (A1 : Option Addr) (c1 : Nat) (l1 : List Int) (r1 : List Int) (r2 : List Int) (r3 : Bool) (w : World) (hr0 : Kd.C k51 w A0 l0.length l0) (hc0 : l0.length ≤ c0) (hr1 : Kd.C (Kd.int .i64) w A1 l1.length l1) (hc1 : l1.length ≤ c1) (h : spec_l26Sides.f k l0 l1 = some (r1, r2, r3)) :
  Calls Try.prog 73 #[.slice A0 l0.length c0, .slice A1 l1.length c1] w fun e w' => ∃ v0_ v1_ : Value, e = .returned (.tuple #[v0_, v1_, .bool r3]) ∧ Kd.R (Kd.int .i64) 2 w' w.heap.size (fun k_ => some k_ ≠ (v1_ : Value).ownBlock) v0_ r1 ∧ Kd.R (Kd.int .i64) 2 w' w.heap.size (fun k_ => some k_ ≠ (v0_ : Value).ownBlock) v1_ r2 ∧ Below w.heap.size w w' := by
 have hu51 := Try.underlying51
 have HR0 := Aside0.mk hr0
 have HC0 := Aside0.mk hc0
 clear hr0 hc0
 have HR1 := Aside0.mk hr1
 have HC1 := Aside0.mk hc1
 clear hr1 hc1
 have HB := Aside0.mk (Below.refl w.heap.size w)
 have H : (spec_l26Sides.l0 k l0 l1 (([] : List Int)) (([] : List Int)) 0) = some (r1, r2, r3) := h
 clear h
 obtain ⟨y330, hy330⟩ : ∃ y_ : List Int, y_ = (([] : List Int)) := ⟨_, rfl⟩
 replace H : (spec_l26Sides.l0 k l0 l1 y330 (([] : List Int)) 0) = some (r1, r2, r3) := by first | (rw [hy330]; with_reducible exact H) | (have H2_ := (Option.bind_some _ _).symm.trans H; rw [hy330]; with_reducible exact H2_) | (have H2_ := (Option.bind_some _ _).symm.trans H; with_reducible exact H2_) | with_reducible exact H | (rw [hy330]; exact H) | exact H
 have Ny330 := Aside0.mk hy330
 clear hy330
 obtain ⟨y333, hy333⟩ : ∃ y_ : List Int, y_ = (([] : List Int)) := ⟨_, rfl⟩
 replace H : (spec_l26Sides.l0 k l0 l1 y330 y333 0) = some (r1, r2, r3) := by first | (rw [hy333]; with_reducible exact H) | (have H2_ := (Option.bind_some _ _).symm.trans H; rw [hy333]; with_reducible exact H2_) | (have H2_ := (Option.bind_some _ _).symm.trans H; with_reducible exact H2_) | with_reducible exact H | (rw [hy333]; exact H) | exact H
 have Ny333 := Aside0.mk hy333
 clear hy333
 have H' := Aside0.mk H
 clear H
 go_enter Try.func73, Try.ntmps73
 go_wp2_with (first | ((with_reducible refine gate_dst (N := 15) rfl ?_); refine Kd.R_lit (Kd.int .i64) _ 2 ?hg (N := 15) ?hd (xs := ([] : List Int)) (inner := []) (ok := fun _ => True) (okp := fun _ => True) ?hr ?hp (fun _ hk => hk) trivial (Below.refl _ _) (Nat.le_refl _) (by simp) ?_; (case hd => rfl); (case hg => rfl); (case hr => first | (go_simp; done) | (go_simp; rfl)); (case hp => exact (Reps.none _ _)); intro v331 w3 ho4 hb hg_ hnew_; clear hg_ hnew_; (first | rw [← Ny330.out] at ho4 | (simp only [Int.reduceToNat] at ho4; rw [← Ny330.out] at ho4)); have n0_ := Aside0.mk (Kd.R_lower ho4 (below_size (by repeat (first | (with_reducible first | exact HB.out | apply below_alloc | apply pw_below_drewN | apply below_drew1) | exact HB.out)))); have n1_ := Aside0.mk (below_step (by repeat (first | (with_reducible first | exact HB.out | apply below_alloc | apply pw_below_drewN | apply below_drew1) | exact HB.out)) hb); clear HB; have HO332 := n0_; have HB := n1_; clear n0_ n1_; clear hb ho4) | ((with_reducible refine gate_dst (N := 16) rfl ?_); refine Kd.R_lit (Kd.int .i64) _ 2 ?hg (N := 16) ?hd (xs := ([] : List Int)) (inner := []) (ok := fun _ => True) (okp := fun _ => True) ?hr ?hp (fun _ hk => hk) trivial (Below.refl _ _) (Nat.le_refl _) (by simp) ?_; (case hd => rfl); (case hg => rfl); (case hr => first | (go_simp; done) | (go_simp; rfl)); (case hp => exact (Reps.none _ _)); intro v334 w5 ho6 hb hg_ hnew_; clear hg_ hnew_; (first | rw [← Ny333.out] at ho6 | (simp only [Int.reduceToNat] at ho6; rw [← Ny333.out] at ho6)); have n0_ := Aside0.mk (Kd.R_elder' (by (with_reducible repeat (first | apply Kd.R_alloc | apply Kd.R_drewN | apply Kd.R_drew)); exact HO332.out) (Kd.R_base ho6) hb); have n1_ := Aside0.mk (Kd.R_lower (Kd.R_new' ho6 (Kd.R_lt (by (with_reducible repeat (first | apply Kd.R_alloc | apply Kd.R_drewN | apply Kd.R_drew)); exact HO332.out))) (below_size (by repeat (first | (with_reducible first | exact HB.out | apply below_alloc | apply pw_below_drewN | apply below_drew1) | exact HB.out)))); have n2_ := Aside0.mk (below_step (by repeat (first | (with_reducible first | exact HB.out | apply below_alloc | apply pw_below_drewN | apply below_drew1) | exact HB.out)) hb); clear HO332; clear HB; have HO332 := n0_; have HO335 := n1_; have HB := n2_; clear n0_ n1_ n2_; clear hb ho6))
 go_loopg [7, 8, 9] k (fun kq v7 v8 v9 w' => ∃ (x7_1 : List Int) (x8_1 : List Int) (x9_1 : Int), v9 = .int .i64 x9_1 ∧ Aside0 (spec_l26Sides.l0 kq l0 l1 x7_1 x8_1 x9_1 = some (r1, r2, r3)) ∧ Aside0 (kq ≤ k) ∧ Aside0 (Kd.R (Kd.int .i64) 2 w' w.heap.size (fun k_ => some k_ ≠ (v8 : Value).ownBlock) v7 x7_1) ∧ Aside0 (Kd.R (Kd.int .i64) 2 w' w.heap.size (fun k_ => some k_ ≠ (v7 : Value).ownBlock) v8 x8_1) ∧ Aside0 (Below w.heap.size w w'))
 case atStart => exact ⟨(y330), (y333), (0), (by first | rfl | (simp; done) | (simp [*]; done)), H', ⟨Nat.le_refl _⟩, ⟨by (with_reducible repeat (first | apply Kd.R_alloc | apply Kd.R_drewN | apply Kd.R_drew)); exact Kd.R_mono HO332.out (fun _ hk => hk.2)⟩, ⟨by (with_reducible repeat (first | apply Kd.R_alloc | apply Kd.R_drewN | apply Kd.R_drew)); exact Kd.R_mono HO335.out (fun _ hk => hk.2)⟩, ⟨by repeat (first | (with_reducible first | exact HB.out | apply below_alloc | apply pw_below_drewN | apply below_drew1) | exact HB.out)⟩⟩
 case round =>
  clear H'
  try clear c1
  try clear p2
  obtain ⟨x7_1, x8_1, x9_1, rfl, HA, HK1, HO_7, HO_8, HB⟩ := hrel
  cases gk with
  | zero => exact absurd HA.out (by simp [spec_l26Sides.l0])
  | succ k1 =>
   have H := HA.out
   clear HA
   simp only [spec_l26Sides.l0] at H
   by_cases c7 : x9_1 < (l1.length : Int)
   ·rw [if_pos c7] at H
    have c7b0 : decide (x9_1 < (l1.length : Int)) = true := decide_eq_true c7
    clear c7
    by_cases c8 : 0 ≤ x9_1
    ·rw [if_pos c8] at H
     have c8b0 : decide (0 ≤ x9_1) = true := decide_eq_true c8
     clear c8
     by_cases c9 : (l1.length : Int) = 0
     ·rw [if_pos c9] at H
      exact absurd H (by simp)
     ·rw [if_neg c9] at H
      have c9b0 : ((l1.length : Int) == 0) = false := beq_eq_false_iff_ne.mpr c9
      have c9b1 : ((l1.length : Int) != 0) = true := bne_iff_ne.mpr c9
      have c9b2 : ¬ (l1 = []) := fun h_ => c9 (by rw [h_]; rfl)
      obtain ⟨ji10, hji10⟩ : ∃ j_ : Int, (Int.tmod (wrap64 (x9_1 + 1)) (l1.length : Int)) = j_ := ⟨_, rfl⟩
      replace H : (if 0 ≤ (ji10) then (if (ji10) < (l1.length : Int) then (spec_l26Sides.l1 k1 l0 l1 x7_1 x8_1 x9_1 (rd l1 x9_1) (rd l1 (ji10)) false 0) else (none)) else (none)) = some (r1, r2, r3) := by first | (rw [hji10] at H; exact H) | (simp only [hji10] at H ⊢; exact H)
      by_cases c11 : 0 ≤ (ji10)
      ·rw [if_pos c11] at H
       have c11b0 : decide (0 ≤ (ji10)) = true := decide_eq_true c11
       clear c11
       by_cases c12 : (ji10) < (l1.length : Int)
       ·rw [if_pos c12] at H
        have c12b0 : decide ((ji10) < (l1.length : Int)) = true := decide_eq_true c12
        clear c12
        have H' := Aside0.mk H
        clear H
        have p336 : 0 ≤ (x9_1 : Int) := of_decide_eq_true (by first | (with_reducible assumption) | assumption)
        have q336 : x9_1 < (l1.length : Int) := of_decide_eq_true (by first | (with_reducible assumption) | assumption)
        obtain ⟨ad336, e336, hx336_0⟩ := Kd.at_int HR1.out x9_1 p336 q336
        cases e336
        replace hx336_0 := (HB.out.cell (World.block_lt_of_cell? w _ hx336_0)).trans hx336_0
        replace p336 := eq_true p336
        replace q336 := eq_true q336
        have p337 : 0 ≤ ((ji10) : Int) := of_decide_eq_true (by first | (with_reducible assumption) | assumption)
        have q337 : (ji10) < (l1.length : Int) := of_decide_eq_true (by first | (with_reducible assumption) | assumption)
        obtain ⟨ad337, e337, hx337_0⟩ := Kd.at_int HR1.out (ji10) p337 q337
        obtain rfl : ad336 = ad337 := (by injection e337)
        replace hx337_0 := (HB.out.cell (World.block_lt_of_cell? w _ hx337_0)).trans hx337_0
        replace p337 := eq_true p337
        replace q337 := eq_true q337
        go_wp2
        go_loopg [7, 8, 12, 13] k1 (fun kq v7 v8 v12 v13 w' => ∃ (x7_2 : List Int) (x8_2 : List Int) (x12_2 : Bool) (x13_2 : Int), v12 = .bool x12_2 ∧ v13 = .int .i64 x13_2 ∧ Aside0 (spec_l26Sides.l1 kq l0 l1 x7_2 x8_2 x9_1 (rd l1 x9_1) (rd l1 (ji10)) x12_2 x13_2 = some (r1, r2, r3)) ∧ Aside0 (kq ≤ k1) ∧ Aside0 (Kd.R (Kd.int .i64) 2 w' w.heap.size (fun k_ => some k_ ≠ (v8 : Value).ownBlock) v7 x7_2) ∧ Aside0 (Kd.R (Kd.int .i64) 2 w' w.heap.size (fun k_ => some k_ ≠ (v7 : Value).ownBlock) v8 x8_2) ∧ Aside0 (Below w.heap.size w w'))
        case atStart => exact ⟨(x7_1), (x8_1), (false), (0), (by first | rfl | (simp; done) | (simp [*]; done)), (by first | rfl | (simp; done) | (simp [*]; done)), H', ⟨Nat.le_refl _⟩, ⟨by (with_reducible repeat (first | apply Kd.R_alloc | apply Kd.R_drewN | apply Kd.R_drew)); exact HO_7.out⟩, ⟨by (with_reducible repeat (first | apply Kd.R_alloc | apply Kd.R_drewN | apply Kd.R_drew)); exact HO_8.out⟩, ⟨by repeat (first | (with_reducible first | exact HB.out | apply below_alloc | apply pw_below_drewN | apply below_drew1) | exact HB.out)⟩⟩
        case round =>
         clear H'
         try clear c1
         try clear p2
         try clear p3
         try clear q3
         try clear hx3
         try clear p6
         try clear c7
         try clear c7b0
         try clear c8
         try clear c8b0
         try clear c9
         try clear c9b0
         try clear c9b1
         try clear c9b2
         try clear c11
         try clear c11b0
         try clear c12
         try clear c12b0
         try clear hx336_0
         try clear hx337_0
         try clear p2
         try clear p336
         try clear p337
         try clear q336
         try clear q337
         obtain ⟨x7_2, x8_2, x12_2, x13_2, rfl, rfl, HA, HK2, HO_7, HO_8, HB⟩ := hrel
         cases gk with
         | zero => exact absurd HA.out (by simp [spec_l26Sides.l1])
         | succ k2 =>
          have H := HA.out
          clear HA
          simp only [spec_l26Sides.l1] at H
          have HC13 := Aside0.mk H
          clear H
          go_upto_region 10 with (fail)
          go_cut [42] (fun v42 wc => ∃ (kq : Nat) (x42_12 : Bool), v42 = .bool x42_12 ∧ Aside0 (spec_l26Sides.j2 kq l0 l1 x7_2 x8_2 x9_1 (rd l1 x9_1) (rd l1 (ji10)) x12_2 x13_2 x42_12 = some (r1, r2, r3)) ∧ Aside0 (kq ≤ k2) ∧ Aside0 (Kd.R (Kd.int .i64) 2 wc w.heap.size (fun k_ => some k_ ≠ (u8 : Value).ownBlock) u7 x7_2) ∧ Aside0 (Kd.R (Kd.int .i64) 2 wc w.heap.size (fun k_ => some k_ ≠ (u7 : Value).ownBlock) u8 x8_2) ∧ Aside0 (Below w.heap.size w wc))
          case first =>
           have H := HC13.out
           clear HC13
           by_cases c14 : x13_2 < (l0.length : Int)
           ·rw [if_pos c14] at H
            have c14b0 : decide (x13_2 < (l0.length : Int)) = true := decide_eq_true c14
            clear c14
            (first | rw [c14b0] | (simp only [i64_w, i32_w]; rw [c14b0]) | skip)
            have H' := Aside0.mk H
            clear H
            go_wp2
            go_meet
            case rel => exact ⟨_, (!x12_2), (by first | rfl | (simp; done) | (simp [*]; done)), H', ⟨by have := HK1.out; have := HK2.out; first | omega | exact Nat.le_refl _⟩, ⟨by (with_reducible repeat (first | apply Kd.R_alloc | apply Kd.R_drewN | apply Kd.R_drew)); exact HO_7.out⟩, ⟨by (with_reducible repeat (first | apply Kd.R_alloc | apply Kd.R_drewN | apply Kd.R_drew)); exact HO_8.out⟩, ⟨by repeat (first | (with_reducible first | exact HB.out | apply below_alloc | apply pw_below_drewN | apply below_drew1) | exact HB.out)⟩⟩
           ·rw [if_neg c14] at H
            have c14b0 : decide (x13_2 < (l0.length : Int)) = false := decide_eq_false c14
            clear c14
            (first | rw [c14b0] | (simp only [i64_w, i32_w]; rw [c14b0]) | skip)
            have H' := Aside0.mk H
            clear H
            go_wp2
            go_meet
            case rel => exact ⟨_, (false), (by first | rfl | (simp; done) | (simp [*]; done)), H', ⟨by have := HK1.out; have := HK2.out; first | omega | exact Nat.le_refl _⟩, ⟨by (with_reducible repeat (first | apply Kd.R_alloc | apply Kd.R_drewN | apply Kd.R_drew)); exact HO_7.out⟩, ⟨by (with_reducible repeat (first | apply Kd.R_alloc | apply Kd.R_drewN | apply Kd.R_drew)); exact HO_8.out⟩, ⟨by repeat (first | (with_reducible first | exact HB.out | apply below_alloc | apply pw_below_drewN | apply below_drew1) | exact HB.out)⟩⟩
          case rest =>
           clear HC13
           try clear c1
           try clear p2
           try clear p3
           try clear q3
           try clear hx3
           try clear p6
           try clear c7
           try clear c7b0
           try clear c8
           try clear c8b0
           try clear c9
           try clear c9b0
           try clear c9b1
           try clear c9b2
           try clear c11
           try clear c11b0
           try clear c12
           try clear c12b0
           try clear c14
           try clear c14b0
           try clear hx336_0
           try clear hx337_0
           try clear p2
           try clear p3
           try clear p336
           try clear p337
           try clear p6
           try clear q3
           try clear q336
           try clear q337
           obtain ⟨kq, x42_12, rfl, HA, HJ12, HO_7, HO_8, HB⟩ := hcut
           cases kq with
           | zero => exact absurd HA.out (by simp [spec_l26Sides.j2])
           | succ kj12 =>
            have H := HA.out
            clear HA
            simp only [spec_l26Sides.j2] at H
            by_cases c15 : x42_12 = true
            ·subst c15
             have H1 : (if 0 ≤ x13_2 then (if x13_2 < (l0.length : Int) then (if ((rd_T51 l0 x13_2).f0) = (rd l1 x9_1) then (spec_l26Sides.j3 kj12 l0 l1 x7_2 x8_2 x9_1 (rd l1 x9_1) (rd l1 (ji10)) x12_2 x13_2 (((rd_T51 l0 x13_2).f1) == (rd l1 (ji10))) ((rd_T51 l0 x13_2).f0) ((rd_T51 l0 x13_2).f1) ((rd_T51 l0 x13_2).f2) ((rd_T51 l0 x13_2).f3)) else (spec_l26Sides.j3 kj12 l0 l1 x7_2 x8_2 x9_1 (rd l1 x9_1) (rd l1 (ji10)) x12_2 x13_2 false ((rd_T51 l0 x13_2).f0) ((rd_T51 l0 x13_2).f1) ((rd_T51 l0 x13_2).f2) ((rd_T51 l0 x13_2).f3))) else (none)) else (none)) = some (r1, r2, r3) := by rw [if_pos rfl] at H; exact H
             clear H
             have H := H1
             clear H1
             by_cases c16 : 0 ≤ x13_2
             ·rw [if_pos c16] at H
              have c16b0 : decide (0 ≤ x13_2) = true := decide_eq_true c16
              clear c16
              by_cases c17 : x13_2 < (l0.length : Int)
              ·rw [if_pos c17] at H
               have c17b0 : decide (x13_2 < (l0.length : Int)) = true := decide_eq_true c17
               clear c17
               have HC18 := Aside0.mk H
               clear H
               have p338 : 0 ≤ (x13_2 : Int) := of_decide_eq_true (by first | (with_reducible assumption) | assumption)
               have q338 : x13_2 < (l0.length : Int) := of_decide_eq_true (by first | (with_reducible assumption) | assumption)
               obtain ⟨ad338, e338, hx338_0, hx338_1, hx338_2, hx338_3⟩ := at_T51 HR0.out x13_2 p338 q338
               cases e338
               replace hx338_0 := (HB.out.cell (World.block_lt_of_cell? w _ hx338_0)).trans hx338_0
               replace hx338_1 := (HB.out.cell (World.block_lt_of_cell? w _ hx338_1)).trans hx338_1
               replace hx338_2 := (HB.out.cell (World.block_lt_of_cell? w _ hx338_2)).trans hx338_2
               replace hx338_3 := (HB.out.cell (World.block_lt_of_cell? w _ hx338_3)).trans hx338_3
               replace p338 := eq_true p338
               replace q338 := eq_true q338
               go_upto_region 13 with (first | ((with_reducible refine gate_dst (N := 14) rfl ?_); refine box_event ?hg (N := 14) ?hd (cs := #[.int .i64 0, .int .i64 0, .int .i64 0, .int .i64 0]) (t := 51) ?hr ?_; (case hd => rfl); (case hg => rfl); (case hr => first | (go_simp; done) | (go_simp; rfl)); intro gb339 hg w19 hbox hb; have n0_ := Aside0.mk (Kd.R_below (by (with_reducible repeat (first | apply Kd.R_alloc | apply Kd.R_drewN | apply Kd.R_drew)); exact HO_7.out) hb); have n1_ := Aside0.mk (Kd.R_below (by (with_reducible repeat (first | apply Kd.R_alloc | apply Kd.R_drewN | apply Kd.R_drew)); exact HO_8.out) hb); have n2_ := Aside0.mk (below_step (by repeat (first | (with_reducible first | exact HB.out | apply below_alloc | apply pw_below_drewN | apply below_drew1) | exact HB.out)) hb); have n3_ := Aside0.mk (hbox); have n4_ := Aside0.mk ((by rw [hg]; exact (below_size (by repeat (first | (with_reducible first | exact HB.out | apply below_alloc | apply pw_below_drewN | apply below_drew1) | exact HB.out))) : w.heap.size ≤ gb339)); have n5_ := Aside0.mk ((by rw [hg]; exact (below_size (by repeat (first | (with_reducible first | exact HB.out | apply below_alloc | apply pw_below_drewN | apply below_drew1) | exact HB.out))) : w.heap.size ≤ gb339)); clear HO_7; clear HO_8; clear HB; have HO_7 := n0_; have HO_8 := n1_; have HB := n2_; have BK339 := n3_; have GW339 := n4_; have GE339 := n5_; clear n0_ n1_ n2_ n3_ n4_ n5_; clear hb hbox hg; have hcz20_0 : w19.cell? ⟨gb339, 0, none⟩ = some (.int .i64 0) := (blk_cell BK339.out 0).trans rfl; have hcz20_1 : w19.cell? ⟨gb339, 1, none⟩ = some (.int .i64 0) := (blk_cell BK339.out 1).trans rfl; have hcz20_2 : w19.cell? ⟨gb339, 2, none⟩ = some (.int .i64 0) := (blk_cell BK339.out 2).trans rfl; have hcz20_3 : w19.cell? ⟨gb339, 3, none⟩ = some (.int .i64 0) := (blk_cell BK339.out 3).trans rfl; have hfz20_0 := blk_frozen BK339.out 0; have hfz20_1 := blk_frozen BK339.out 1; have hfz20_2 := blk_frozen BK339.out 2; have hfz20_3 := blk_frozen BK339.out 3))
               (try simp only [Act.put, List.setIfInBounds_toArray, List.set_cons_zero, List.set_cons_succ])
               go_cut [58] (fun v58 wc => ∃ (kq : Nat) (x58_17 : Bool), v58 = .bool x58_17 ∧ Aside0 (spec_l26Sides.j3 kq l0 l1 x7_2 x8_2 x9_1 (rd l1 x9_1) (rd l1 (ji10)) x12_2 x13_2 x58_17 ((rd_T51 l0 x13_2).f0) ((rd_T51 l0 x13_2).f1) ((rd_T51 l0 x13_2).f2) ((rd_T51 l0 x13_2).f3) = some (r1, r2, r3)) ∧ Aside0 (kq ≤ kj12) ∧ Aside0 (Kd.R (Kd.int .i64) 2 wc w.heap.size (fun k_ => some k_ ≠ (u8 : Value).ownBlock) u7 x7_2) ∧ Aside0 (Kd.R (Kd.int .i64) 2 wc w.heap.size (fun k_ => some k_ ≠ (u7 : Value).ownBlock) u8 x8_2) ∧ Aside0 (wc.heap[gb339]? = some (.cells #[.int .i64 ((rd_T51 l0 x13_2).f0), .int .i64 ((rd_T51 l0 x13_2).f1), .int .i64 ((rd_T51 l0 x13_2).f2), .int .i64 ((rd_T51 l0 x13_2).f3)] 51 (0, 0))) ∧ Aside0 (Below w.heap.size w wc))
               case first =>
                have H := HC18.out
                clear HC18
                by_cases c21 : ((rd_T51 l0 x13_2).f0) = (rd l1 x9_1)
                ·rw [if_pos c21] at H
                 have c21b0 : (((rd_T51 l0 x13_2).f0) == (rd l1 x9_1)) = true := beq_iff_eq.mpr c21
                 have c21b1 : (((rd_T51 l0 x13_2).f0) != (rd l1 x9_1)) = false := bne_eq_false_iff_eq.mpr c21
                 clear c21
                 (first | rw [c21b0] | (simp only [i64_w, i32_w]; rw [c21b0]) | skip)
                 have H' := Aside0.mk H
                 clear H
                 have hcz22_0 : w19.cell? ⟨gb339, 0, none⟩ = some (.int .i64 0) := (blk_cell BK339.out 0).trans rfl
                 have hcz22_1 : w19.cell? ⟨gb339, 1, none⟩ = some (.int .i64 0) := (blk_cell BK339.out 1).trans rfl
                 have hcz22_2 : w19.cell? ⟨gb339, 2, none⟩ = some (.int .i64 0) := (blk_cell BK339.out 2).trans rfl
                 have hcz22_3 : w19.cell? ⟨gb339, 3, none⟩ = some (.int .i64 0) := (blk_cell BK339.out 3).trans rfl
                 have hfz22_0 := blk_frozen BK339.out 0
                 have hfz22_1 := blk_frozen BK339.out 1
                 have hfz22_2 := blk_frozen BK339.out 2
                 have hfz22_3 := blk_frozen BK339.out 3
                 go_wp2
                 go_meet
                 case rel => exact ⟨_, ((((rd_T51 l0 x13_2).f1) == (rd l1 (ji10)))), (by first | rfl | (simp; done) | (simp only [← hji10] <;> (first | rfl | simp)) | (simp [*]; done)), H', ⟨by have := HK1.out; have := HK2.out; have := HJ12.out; first | omega | exact Nat.le_refl _⟩, ⟨by (with_reducible repeat (first | apply Kd.R_alloc | apply Kd.R_drewN | apply Kd.R_drew)); exact Kd.R_mono (Kd.R_far (p := ⟨gb339, 3, none⟩) (Kd.R_far (p := ⟨gb339, 2, none⟩) (Kd.R_far (p := ⟨gb339, 1, none⟩) (Kd.R_far (p := ⟨gb339, 0, none⟩) (Kd.R_types HO_7.out BK339.out (by decide)) (fun _ hk => hk.2) (.int .i64 ((rd_T51 l0 x13_2).f0))) (fun _ hk => hk.2) (.int .i64 ((rd_T51 l0 x13_2).f1))) (fun _ hk => hk.2) (.int .i64 ((rd_T51 l0 x13_2).f2))) (fun _ hk => hk.2) (.int .i64 ((rd_T51 l0 x13_2).f3))) (fun _ hk => hk.1)⟩, ⟨by (with_reducible repeat (first | apply Kd.R_alloc | apply Kd.R_drewN | apply Kd.R_drew)); exact Kd.R_mono (Kd.R_far (p := ⟨gb339, 3, none⟩) (Kd.R_far (p := ⟨gb339, 2, none⟩) (Kd.R_far (p := ⟨gb339, 1, none⟩) (Kd.R_far (p := ⟨gb339, 0, none⟩) (Kd.R_types HO_8.out BK339.out (by decide)) (fun _ hk => hk.2) (.int .i64 ((rd_T51 l0 x13_2).f0))) (fun _ hk => hk.2) (.int .i64 ((rd_T51 l0 x13_2).f1))) (fun _ hk => hk.2) (.int .i64 ((rd_T51 l0 x13_2).f2))) (fun _ hk => hk.2) (.int .i64 ((rd_T51 l0 x13_2).f3))) (fun _ hk => hk.1)⟩, ⟨by (with_reducible repeat (first | refine blk_drewN ?_ _ | refine blk_drew ?_ | refine blk_alloc ?_ _)); refine blk_put (cs := #[.int .i64 ((rd_T51 l0 x13_2).f0), .int .i64 ((rd_T51 l0 x13_2).f1), .int .i64 ((rd_T51 l0 x13_2).f2), .int .i64 0]) ?_ 3 _ rfl; (with_reducible repeat (first | refine blk_drewN ?_ _ | refine blk_drew ?_ | refine blk_alloc ?_ _)); refine blk_put (cs := #[.int .i64 ((rd_T51 l0 x13_2).f0), .int .i64 ((rd_T51 l0 x13_2).f1), .int .i64 0, .int .i64 0]) ?_ 2 _ rfl; (with_reducible repeat (first | refine blk_drewN ?_ _ | refine blk_drew ?_ | refine blk_alloc ?_ _)); refine blk_put (cs := #[.int .i64 ((rd_T51 l0 x13_2).f0), .int .i64 0, .int .i64 0, .int .i64 0]) ?_ 1 _ rfl; (with_reducible repeat (first | refine blk_drewN ?_ _ | refine blk_drew ?_ | refine blk_alloc ?_ _)); refine blk_put (cs := #[.int .i64 0, .int .i64 0, .int .i64 0, .int .i64 0]) ?_ 0 _ rfl; (with_reducible repeat (first | refine blk_drewN ?_ _ | refine blk_drew ?_ | refine blk_alloc ?_ _)); exact BK339.out⟩, ⟨by repeat (first | (with_reducible first | exact HB.out | apply below_alloc | apply pw_below_drewN | apply below_drew1 | refine below_set ?_ GE339.out) | exact HB.out)⟩⟩
                ·rw [if_neg c21] at H
                 have c21b0 : (((rd_T51 l0 x13_2).f0) == (rd l1 x9_1)) = false := beq_eq_false_iff_ne.mpr c21
                 have c21b1 : (((rd_T51 l0 x13_2).f0) != (rd l1 x9_1)) = true := bne_iff_ne.mpr c21
                 (first | rw [c21b0] | (simp only [i64_w, i32_w]; rw [c21b0]) | skip)
                 have H' := Aside0.mk H
                 clear H
                 have hcz23_0 : w19.cell? ⟨gb339, 0, none⟩ = some (.int .i64 0) := (blk_cell BK339.out 0).trans rfl
                 have hcz23_1 : w19.cell? ⟨gb339, 1, none⟩ = some (.int .i64 0) := (blk_cell BK339.out 1).trans rfl
                 have hcz23_2 : w19.cell? ⟨gb339, 2, none⟩ = some (.int .i64 0) := (blk_cell BK339.out 2).trans rfl
                 have hcz23_3 : w19.cell? ⟨gb339, 3, none⟩ = some (.int .i64 0) := (blk_cell BK339.out 3).trans rfl
                 have hfz23_0 := blk_frozen BK339.out 0
                 have hfz23_1 := blk_frozen BK339.out 1
                 have hfz23_2 := blk_frozen BK339.out 2
                 have hfz23_3 := blk_frozen BK339.out 3
                 go_wp2
                 go_meet
                 case rel => exact ⟨_, (false), (by first | rfl | (simp; done) | (simp [*]; done)), H', ⟨by have := HK1.out; have := HK2.out; have := HJ12.out; first | omega | exact Nat.le_refl _⟩, ⟨by (with_reducible repeat (first | apply Kd.R_alloc | apply Kd.R_drewN | apply Kd.R_drew)); exact Kd.R_mono (Kd.R_far (p := ⟨gb339, 3, none⟩) (Kd.R_far (p := ⟨gb339, 2, none⟩) (Kd.R_far (p := ⟨gb339, 1, none⟩) (Kd.R_far (p := ⟨gb339, 0, none⟩) (Kd.R_types HO_7.out BK339.out (by decide)) (fun _ hk => hk.2) (.int .i64 ((rd_T51 l0 x13_2).f0))) (fun _ hk => hk.2) (.int .i64 ((rd_T51 l0 x13_2).f1))) (fun _ hk => hk.2) (.int .i64 ((rd_T51 l0 x13_2).f2))) (fun _ hk => hk.2) (.int .i64 ((rd_T51 l0 x13_2).f3))) (fun _ hk => hk.1)⟩, ⟨by (with_reducible repeat (first | apply Kd.R_alloc | apply Kd.R_drewN | apply Kd.R_drew)); exact Kd.R_mono (Kd.R_far (p := ⟨gb339, 3, none⟩) (Kd.R_far (p := ⟨gb339, 2, none⟩) (Kd.R_far (p := ⟨gb339, 1, none⟩) (Kd.R_far (p := ⟨gb339, 0, none⟩) (Kd.R_types HO_8.out BK339.out (by decide)) (fun _ hk => hk.2) (.int .i64 ((rd_T51 l0 x13_2).f0))) (fun _ hk => hk.2) (.int .i64 ((rd_T51 l0 x13_2).f1))) (fun _ hk => hk.2) (.int .i64 ((rd_T51 l0 x13_2).f2))) (fun _ hk => hk.2) (.int .i64 ((rd_T51 l0 x13_2).f3))) (fun _ hk => hk.1)⟩, ⟨by (with_reducible repeat (first | refine blk_drewN ?_ _ | refine blk_drew ?_ | refine blk_alloc ?_ _)); refine blk_put (cs := #[.int .i64 ((rd_T51 l0 x13_2).f0), .int .i64 ((rd_T51 l0 x13_2).f1), .int .i64 ((rd_T51 l0 x13_2).f2), .int .i64 0]) ?_ 3 _ rfl; (with_reducible repeat (first | refine blk_drewN ?_ _ | refine blk_drew ?_ | refine blk_alloc ?_ _)); refine blk_put (cs := #[.int .i64 ((rd_T51 l0 x13_2).f0), .int .i64 ((rd_T51 l0 x13_2).f1), .int .i64 0, .int .i64 0]) ?_ 2 _ rfl; (with_reducible repeat (first | refine blk_drewN ?_ _ | refine blk_drew ?_ | refine blk_alloc ?_ _)); refine blk_put (cs := #[.int .i64 ((rd_T51 l0 x13_2).f0), .int .i64 0, .int .i64 0, .int .i64 0]) ?_ 1 _ rfl; (with_reducible repeat (first | refine blk_drewN ?_ _ | refine blk_drew ?_ | refine blk_alloc ?_ _)); refine blk_put (cs := #[.int .i64 0, .int .i64 0, .int .i64 0, .int .i64 0]) ?_ 0 _ rfl; (with_reducible repeat (first | refine blk_drewN ?_ _ | refine blk_drew ?_ | refine blk_alloc ?_ _)); exact BK339.out⟩, ⟨by repeat (first | (with_reducible first | exact HB.out | apply below_alloc | apply pw_below_drewN | apply below_drew1 | refine below_set ?_ GE339.out) | exact HB.out)⟩⟩
               case rest =>
                clear HC18
                try clear c1
                try clear c2
                try clear p2
                try clear p3
                try clear q3
                try clear hx3
                try clear p6
                try clear c7
                try clear c7b0
                try clear c8
                try clear c8b0
                try clear c9
                try clear c9b0
                try clear c9b1
                try clear c9b2
                try clear c11
                try clear c11b0
                try clear c12
                try clear c12b0
                try clear c14
                try clear c14b0
                try clear c15
                try clear c16
                try clear c16b0
                try clear c17
                try clear c17b0
                try clear c21
                try clear c21b0
                try clear c21b1
                try clear hcz20_0
                try clear hcz20_1
                try clear hcz20_2
                try clear hcz20_3
                try clear hcz22_0
                try clear hcz22_1
                try clear hcz22_2
                try clear hcz22_3
                try clear hcz23_0
                try clear hcz23_1
                try clear hcz23_2
                try clear hcz23_3
                try clear hfz20_0
                try clear hfz20_1
                try clear hfz20_2
                try clear hfz20_3
                try clear hfz22_0
                try clear hfz22_1
                try clear hfz22_2
                try clear hfz22_3
                try clear hfz23_0
                try clear hfz23_1
                try clear hfz23_2
                try clear hfz23_3
                try clear hx336_0
                try clear hx337_0
                try clear hx338_0
                try clear hx338_1
                try clear hx338_2
                try clear hx338_3
                try clear p2
                try clear p3
                try clear p336
                try clear p337
                try clear p338
                try clear p6
                try clear q3
                try clear q336
                try clear q337
                try clear q338
                obtain ⟨kq, x58_17, rfl, HA, HJ17, HO_7, HO_8, BK339, HB⟩ := hcut
                cases kq with
                | zero => exact absurd HA.out (by simp [spec_l26Sides.j3])
                | succ kj17 =>
                 have H := HA.out
                 clear HA
                 simp only [spec_l26Sides.j3] at H
                 by_cases c24 : x58_17 = true
                 ·subst c24
                  have H1 : (if x7_2.length < 17592186044416 then (if x8_2.length < 17592186044416 then (spec_l26Sides.l1 kj17 l0 l1 (x7_2 ++ [((rd_T51 l0 x13_2).f2)]) (x8_2 ++ [((rd_T51 l0 x13_2).f3)]) x9_1 (rd l1 x9_1) (rd l1 (ji10)) true (wrap64 (x13_2 + 1))) else (none)) else (none)) = some (r1, r2, r3) := by rw [if_pos rfl] at H; exact H
                  clear H
                  have H := H1
                  clear H1
                  by_cases c25 : x7_2.length < 17592186044416
                  ·rw [if_pos c25] at H
                   have LMc25 := Aside0.mk c25
                   clear c25
                   obtain ⟨y340, hy340⟩ : ∃ y_ : List Int, y_ = (x7_2 ++ [((rd_T51 l0 x13_2).f2)]) := ⟨_, rfl⟩
                   replace H : (if x8_2.length < 17592186044416 then (spec_l26Sides.l1 kj17 l0 l1 y340 (x8_2 ++ [((rd_T51 l0 x13_2).f3)]) x9_1 (rd l1 x9_1) (rd l1 (ji10)) true (wrap64 (x13_2 + 1))) else (none)) = some (r1, r2, r3) := by first | (rw [hy340]; with_reducible exact H) | (have H2_ := (Option.bind_some _ _).symm.trans H; rw [hy340]; with_reducible exact H2_) | (have H2_ := (Option.bind_some _ _).symm.trans H; with_reducible exact H2_) | with_reducible exact H | (rw [hy340]; exact H) | exact H
                   have Ny340 := Aside0.mk hy340
                   clear hy340
                   by_cases c26 : x8_2.length < 17592186044416
                   ·rw [if_pos c26] at H
                    have LMc26 := Aside0.mk c26
                    clear c26
                    obtain ⟨y343, hy343⟩ : ∃ y_ : List Int, y_ = (x8_2 ++ [((rd_T51 l0 x13_2).f3)]) := ⟨_, rfl⟩
                    replace H : (spec_l26Sides.l1 kj17 l0 l1 y340 y343 x9_1 (rd l1 x9_1) (rd l1 (ji10)) true (wrap64 (x13_2 + 1))) = some (r1, r2, r3) := by first | (rw [hy343]; with_reducible exact H) | (have H2_ := (Option.bind_some _ _).symm.trans H; rw [hy343]; with_reducible exact H2_) | (have H2_ := (Option.bind_some _ _).symm.trans H; with_reducible exact H2_) | with_reducible exact H | (rw [hy343]; exact H) | exact H
                    have Ny343 := Aside0.mk hy343
                    clear hy343
                    have H' := Aside0.mk H
                    clear H
                    have hcz27_0 : wc.cell? ⟨gb339, 0, none⟩ = some (.int .i64 ((rd_T51 l0 x13_2).f0)) := (blk_cell BK339.out 0).trans rfl
                    have hcz27_1 : wc.cell? ⟨gb339, 1, none⟩ = some (.int .i64 ((rd_T51 l0 x13_2).f1)) := (blk_cell BK339.out 1).trans rfl
                    have hcz27_2 : wc.cell? ⟨gb339, 2, none⟩ = some (.int .i64 ((rd_T51 l0 x13_2).f2)) := (blk_cell BK339.out 2).trans rfl
                    have hcz27_3 : wc.cell? ⟨gb339, 3, none⟩ = some (.int .i64 ((rd_T51 l0 x13_2).f3)) := (blk_cell BK339.out 3).trans rfl
                    have hfz27_0 := blk_frozen BK339.out 0
                    have hfz27_1 := blk_frozen BK339.out 1
                    have hfz27_2 := blk_frozen BK339.out 2
                    have hfz27_3 := blk_frozen BK339.out 3
                    go_wp2_with (first | ((with_reducible refine gate_builtin (b := .append) (xs := #[.tmp 59, .tmp 62]) rfl ?_); at_builtin; refine Kd.R_append (Kd.int .i64) (w0 := w) w.heap.size rfl (.tmp 59) (.tmp 62) 30 2 (.int .i64 0) 8 rfl Try.underlying30 info2 rfl (by decide) (by omega) u7 x7_2 ((rd_T51 l0 x13_2).f2) [.int .i64 ((rd_T51 l0 x13_2).f2)] (fun k_ => some k_ ≠ (u8 : Value).ownBlock) (fun _ => False) rfl rfl ?aP (fun _ hk => hk.elim) ?aF ?aO ?aB ?aS ?aL ?_; (case aP => exact rfl); (case aB => exact (by repeat (first | (with_reducible first | exact HB.out | apply below_alloc | apply pw_below_drewN | apply below_drew1 | refine below_set ?_ GE339.out) | exact HB.out))); (case aF => exact (fun k_ hk => Kd.fresh' (Kd.R_lt (by (with_reducible repeat (first | apply Kd.R_alloc | apply Kd.R_drewN | apply Kd.R_drew)); exact HO_8.out)) k_ hk)); (case aO => exact (by (with_reducible repeat (first | apply Kd.R_alloc | apply Kd.R_drewN | apply Kd.R_drew)); exact HO_7.out)); (case aS => exact (below_size (by repeat (first | (with_reducible first | exact HB.out | apply below_alloc | apply pw_below_drewN | apply below_drew1 | refine below_set ?_ GE339.out) | exact HB.out)))); (case aL => have := LMc25.out; omega); intro v341 w28 ho hb hg hat; rw [← Ny340.out] at ho; have n0_ := Aside0.mk (Kd.R_after (ok := (fun _ => True)) (by (with_reducible repeat (first | apply Kd.R_alloc | apply Kd.R_drewN | apply Kd.R_drew)); exact Kd.R_mono HO_8.out (fun _ hk => ⟨trivial, hk⟩)) hg hat); have n1_ := Aside0.mk (blk_grown (g := gb339) (o := .cells #[.int .i64 ((rd_T51 l0 x13_2).f0), .int .i64 ((rd_T51 l0 x13_2).f1), .int .i64 ((rd_T51 l0 x13_2).f2), .int .i64 ((rd_T51 l0 x13_2).f3)] 51 (0, 0)) (by (with_reducible repeat (first | refine blk_drewN ?_ _ | refine blk_drew ?_ | refine blk_alloc ?_ _)); exact BK339.out) hg (Kd.R_ne HO_7.out BK339.out (by decide))); have n2_ := Aside0.mk (hb); have n3_ := Aside0.mk (ho); clear HO_8; clear BK339; clear HB; clear HO_7; have HO_8 := n0_; have BK339 := n1_; have HB := n2_; have HO342 := n3_; clear n0_ n1_ n2_ n3_; clear ho hb hg hat; have hcz29_0 : w28.cell? ⟨gb339, 0, none⟩ = some (.int .i64 ((rd_T51 l0 x13_2).f0)) := (blk_cell BK339.out 0).trans rfl; have hcz29_1 : w28.cell? ⟨gb339, 1, none⟩ = some (.int .i64 ((rd_T51 l0 x13_2).f1)) := (blk_cell BK339.out 1).trans rfl; have hcz29_2 : w28.cell? ⟨gb339, 2, none⟩ = some (.int .i64 ((rd_T51 l0 x13_2).f2)) := (blk_cell BK339.out 2).trans rfl; have hcz29_3 : w28.cell? ⟨gb339, 3, none⟩ = some (.int .i64 ((rd_T51 l0 x13_2).f3)) := (blk_cell BK339.out 3).trans rfl; have hfz29_0 := blk_frozen BK339.out 0; have hfz29_1 := blk_frozen BK339.out 1; have hfz29_2 := blk_frozen BK339.out 2; have hfz29_3 := blk_frozen BK339.out 3) | ((with_reducible refine gate_builtin (b := .append) (xs := #[.tmp 81, .tmp 84]) rfl ?_); at_builtin; refine Kd.R_append (Kd.int .i64) (w0 := w) w.heap.size rfl (.tmp 81) (.tmp 84) 30 2 (.int .i64 0) 8 rfl Try.underlying30 info2 rfl (by decide) (by omega) u8 x8_2 ((rd_T51 l0 x13_2).f3) [.int .i64 ((rd_T51 l0 x13_2).f3)] (fun k_ => some k_ ≠ (v341 : Value).ownBlock) (fun _ => False) rfl rfl ?aP (fun _ hk => hk.elim) ?aF ?aO ?aB ?aS ?aL ?_; (case aP => exact rfl); (case aB => exact (by repeat (first | (with_reducible first | exact HB.out | apply below_alloc | apply pw_below_drewN | apply below_drew1 | refine below_set ?_ GE339.out) | exact HB.out))); (case aF => exact (fun k_ hk => Kd.fresh' (Kd.R_lt (by (with_reducible repeat (first | apply Kd.R_alloc | apply Kd.R_drewN | apply Kd.R_drew)); exact HO342.out)) k_ hk)); (case aO => exact (by (with_reducible repeat (first | apply Kd.R_alloc | apply Kd.R_drewN | apply Kd.R_drew)); exact Kd.R_mono HO_8.out (fun _ hk => hk.2))); (case aS => exact (below_size (by repeat (first | (with_reducible first | exact HB.out | apply below_alloc | apply pw_below_drewN | apply below_drew1 | refine below_set ?_ GE339.out) | exact HB.out)))); (case aL => have := LMc26.out; omega); intro v344 w30 ho hb hg hat; rw [← Ny343.out] at ho; have n0_ := Aside0.mk (blk_grown (g := gb339) (o := .cells #[.int .i64 ((rd_T51 l0 x13_2).f0), .int .i64 ((rd_T51 l0 x13_2).f1), .int .i64 ((rd_T51 l0 x13_2).f2), .int .i64 ((rd_T51 l0 x13_2).f3)] 51 (0, 0)) (by (with_reducible repeat (first | refine blk_drewN ?_ _ | refine blk_drew ?_ | refine blk_alloc ?_ _)); exact BK339.out) hg (Kd.R_ne HO_8.out BK339.out (by decide))); have n1_ := Aside0.mk (Kd.R_after (ok := (fun _ => True)) (by (with_reducible repeat (first | apply Kd.R_alloc | apply Kd.R_drewN | apply Kd.R_drew)); exact Kd.R_mono HO342.out (fun _ hk => ⟨trivial, hk⟩)) hg hat); have n2_ := Aside0.mk (hb); have n3_ := Aside0.mk (ho); clear BK339; clear HO342; clear HB; clear HO_8; have BK339 := n0_; have HO342 := n1_; have HB := n2_; have HO345 := n3_; clear n0_ n1_ n2_ n3_; clear ho hb hg hat))
                    go_roundg kj17
                    case measure => have := HK1.out; have := HK2.out; have := HJ12.out; have := HJ17.out; omega
                    case rel => exact ⟨(y340), (y343), (true), (wrap64 (x13_2 + 1)), (by first | rfl | (simp; done) | (simp [*]; done)), (by first | rfl | (simp; done) | (simp [*]; done)), H', ⟨by have := HK1.out; have := HK2.out; have := HJ12.out; have := HJ17.out; omega⟩, ⟨by (with_reducible repeat (first | apply Kd.R_alloc | apply Kd.R_drewN | apply Kd.R_drew)); exact Kd.R_mono HO342.out (fun _ hk => hk.2)⟩, ⟨by (with_reducible repeat (first | apply Kd.R_alloc | apply Kd.R_drewN | apply Kd.R_drew)); exact HO345.out⟩, ⟨by repeat (first | (with_reducible first | exact HB.out | apply below_alloc | apply pw_below_drewN | apply below_drew1 | refine below_set ?_ GE339.out) | exact HB.out)⟩⟩
                   ·rw [if_neg c26] at H
                    exact absurd H (by simp)
                  ·rw [if_neg c25] at H
                   exact absurd H (by simp)
                 ·replace c24 := Bool.eq_false_iff.mpr c24
                  subst c24
                  have H1 : (if ((rd_T51 l0 x13_2).f0) = (rd l1 (ji10)) then (spec_l26Sides.j4 kj17 l0 l1 x7_2 x8_2 x9_1 (rd l1 x9_1) (rd l1 (ji10)) x12_2 x13_2 (((rd_T51 l0 x13_2).f1) == (rd l1 x9_1)) ((rd_T51 l0 x13_2).f0) ((rd_T51 l0 x13_2).f1) ((rd_T51 l0 x13_2).f2) ((rd_T51 l0 x13_2).f3)) else (spec_l26Sides.j4 kj17 l0 l1 x7_2 x8_2 x9_1 (rd l1 x9_1) (rd l1 (ji10)) x12_2 x13_2 false ((rd_T51 l0 x13_2).f0) ((rd_T51 l0 x13_2).f1) ((rd_T51 l0 x13_2).f2) ((rd_T51 l0 x13_2).f3))) = some (r1, r2, r3) := by rw [if_neg (show ¬ (false = true) by decide)] at H; exact H
                  clear H
                  have H := H1
                  clear H1
                  have HC31 := Aside0.mk H
                  clear H
                  go_upto_region 16 with (fail)
                  go_cut [73] (fun v73 wc => ∃ (kq : Nat) (x73_30 : Bool), v73 = .bool x73_30 ∧ Aside0 (spec_l26Sides.j4 kq l0 l1 x7_2 x8_2 x9_1 (rd l1 x9_1) (rd l1 (ji10)) x12_2 x13_2 x73_30 ((rd_T51 l0 x13_2).f0) ((rd_T51 l0 x13_2).f1) ((rd_T51 l0 x13_2).f2) ((rd_T51 l0 x13_2).f3) = some (r1, r2, r3)) ∧ Aside0 (kq ≤ kj17) ∧ Aside0 (Kd.R (Kd.int .i64) 2 wc w.heap.size (fun k_ => some k_ ≠ (u8 : Value).ownBlock) u7 x7_2) ∧ Aside0 (Kd.R (Kd.int .i64) 2 wc w.heap.size (fun k_ => some k_ ≠ (u7 : Value).ownBlock) u8 x8_2) ∧ Aside0 (wc.heap[gb339]? = some (.cells #[.int .i64 ((rd_T51 l0 x13_2).f0), .int .i64 ((rd_T51 l0 x13_2).f1), .int .i64 ((rd_T51 l0 x13_2).f2), .int .i64 ((rd_T51 l0 x13_2).f3)] 51 (0, 0))) ∧ Aside0 (Below w.heap.size w wc))
                  case first =>
                   have H := HC31.out
                   clear HC31
                   by_cases c32 : ((rd_T51 l0 x13_2).f0) = (rd l1 (ji10))
                   ·rw [if_pos c32] at H
                    have c32b0 : (((rd_T51 l0 x13_2).f0) == (rd l1 (ji10))) = true := beq_iff_eq.mpr c32
                    have c32b1 : (((rd_T51 l0 x13_2).f0) != (rd l1 (ji10))) = false := bne_eq_false_iff_eq.mpr c32
                    clear c32
                    (first | rw [c32b0] | (simp only [i64_w, i32_w]; rw [c32b0]) | skip)
                    have H' := Aside0.mk H
                    clear H
                    have hcz33_0 : wc.cell? ⟨gb339, 0, none⟩ = some (.int .i64 ((rd_T51 l0 x13_2).f0)) := (blk_cell BK339.out 0).trans rfl
                    have hcz33_1 : wc.cell? ⟨gb339, 1, none⟩ = some (.int .i64 ((rd_T51 l0 x13_2).f1)) := (blk_cell BK339.out 1).trans rfl
                    have hcz33_2 : wc.cell? ⟨gb339, 2, none⟩ = some (.int .i64 ((rd_T51 l0 x13_2).f2)) := (blk_cell BK339.out 2).trans rfl
                    have hcz33_3 : wc.cell? ⟨gb339, 3, none⟩ = some (.int .i64 ((rd_T51 l0 x13_2).f3)) := (blk_cell BK339.out 3).trans rfl
                    have hfz33_0 := blk_frozen BK339.out 0
                    have hfz33_1 := blk_frozen BK339.out 1
                    have hfz33_2 := blk_frozen BK339.out 2
                    have hfz33_3 := blk_frozen BK339.out 3
                    go_wp2
                    go_meet
                    case rel => exact ⟨_, ((((rd_T51 l0 x13_2).f1) == (rd l1 x9_1))), (by first | rfl | (simp; done) | (simp [*]; done)), H', ⟨by have := HK1.out; have := HK2.out; have := HJ12.out; have := HJ17.out; first | omega | exact Nat.le_refl _⟩, ⟨by (with_reducible repeat (first | apply Kd.R_alloc | apply Kd.R_drewN | apply Kd.R_drew)); exact HO_7.out⟩, ⟨by (with_reducible repeat (first | apply Kd.R_alloc | apply Kd.R_drewN | apply Kd.R_drew)); exact HO_8.out⟩, ⟨by (with_reducible repeat (first | refine blk_drewN ?_ _ | refine blk_drew ?_ | refine blk_alloc ?_ _)); exact BK339.out⟩, ⟨by repeat (first | (with_reducible first | exact HB.out | apply below_alloc | apply pw_below_drewN | apply below_drew1 | refine below_set ?_ GE339.out) | exact HB.out)⟩⟩
                   ·rw [if_neg c32] at H
                    have c32b0 : (((rd_T51 l0 x13_2).f0) == (rd l1 (ji10))) = false := beq_eq_false_iff_ne.mpr c32
                    have c32b1 : (((rd_T51 l0 x13_2).f0) != (rd l1 (ji10))) = true := bne_iff_ne.mpr c32
                    (first | rw [c32b0] | (simp only [i64_w, i32_w]; rw [c32b0]) | skip)
                    have H' := Aside0.mk H
                    clear H
                    have hcz34_0 : wc.cell? ⟨gb339, 0, none⟩ = some (.int .i64 ((rd_T51 l0 x13_2).f0)) := (blk_cell BK339.out 0).trans rfl
                    have hcz34_1 : wc.cell? ⟨gb339, 1, none⟩ = some (.int .i64 ((rd_T51 l0 x13_2).f1)) := (blk_cell BK339.out 1).trans rfl
                    have hcz34_2 : wc.cell? ⟨gb339, 2, none⟩ = some (.int .i64 ((rd_T51 l0 x13_2).f2)) := (blk_cell BK339.out 2).trans rfl
                    have hcz34_3 : wc.cell? ⟨gb339, 3, none⟩ = some (.int .i64 ((rd_T51 l0 x13_2).f3)) := (blk_cell BK339.out 3).trans rfl
                    have hfz34_0 := blk_frozen BK339.out 0
                    have hfz34_1 := blk_frozen BK339.out 1
                    have hfz34_2 := blk_frozen BK339.out 2
                    have hfz34_3 := blk_frozen BK339.out 3
                    go_wp2
                    go_meet
                    case rel => exact ⟨_, (false), (by first | rfl | (simp; done) | (simp [*]; done)), H', ⟨by have := HK1.out; have := HK2.out; have := HJ12.out; have := HJ17.out; first | omega | exact Nat.le_refl _⟩, ⟨by (with_reducible repeat (first | apply Kd.R_alloc | apply Kd.R_drewN | apply Kd.R_drew)); exact HO_7.out⟩, ⟨by (with_reducible repeat (first | apply Kd.R_alloc | apply Kd.R_drewN | apply Kd.R_drew)); exact HO_8.out⟩, ⟨by (with_reducible repeat (first | refine blk_drewN ?_ _ | refine blk_drew ?_ | refine blk_alloc ?_ _)); exact BK339.out⟩, ⟨by repeat (first | (with_reducible first | exact HB.out | apply below_alloc | apply pw_below_drewN | apply below_drew1 | refine below_set ?_ GE339.out) | exact HB.out)⟩⟩
                  case rest =>
                   clear HC31
                   try clear c1
                   try clear c2
                   try clear p2
                   try clear c3
                   try clear p3
                   try clear q3
                   try clear hx3
                   try clear p6
                   try clear c7
                   try clear c7b0
                   try clear c8
                   try clear c8b0
                   try clear c9
                   try clear c9b0
                   try clear c9b1
                   try clear c9b2
                   try clear c11
                   try clear c11b0
                   try clear c12
                   try clear c12b0
                   try clear c14
                   try clear c14b0
                   try clear c15
                   try clear c16
                   try clear c16b0
                   try clear c17
                   try clear c17b0
                   try clear c21
                   try clear c21b0
                   try clear c21b1
                   try clear c24
                   try clear c25
                   try clear c26
                   try clear c32
                   try clear c32b0
                   try clear c32b1
                   try clear p33
                   try clear q33
                   try clear hx33
                   try clear hcz20_0
                   try clear hcz20_1
                   try clear hcz20_2
                   try clear hcz20_3
                   try clear hcz22_0
                   try clear hcz22_1
                   try clear hcz22_2
                   try clear hcz22_3
                   try clear hcz23_0
                   try clear hcz23_1
                   try clear hcz23_2
                   try clear hcz23_3
                   try clear hcz27_0
                   try clear hcz27_1
                   try clear hcz27_2
                   try clear hcz27_3
                   try clear hcz29_0
                   try clear hcz29_1
                   try clear hcz29_2
                   try clear hcz29_3
                   try clear hcz33_0
                   try clear hcz33_1
                   try clear hcz33_2
                   try clear hcz33_3
                   try clear hcz34_0
                   try clear hcz34_1
                   try clear hcz34_2
                   try clear hcz34_3
                   try clear hfz20_0
                   try clear hfz20_1
                   try clear hfz20_2
                   try clear hfz20_3
                   try clear hfz22_0
                   try clear hfz22_1
                   try clear hfz22_2
                   try clear hfz22_3
                   try clear hfz23_0
                   try clear hfz23_1
                   try clear hfz23_2
                   try clear hfz23_3
                   try clear hfz27_0
                   try clear hfz27_1
                   try clear hfz27_2
                   try clear hfz27_3
                   try clear hfz29_0
                   try clear hfz29_1
                   try clear hfz29_2
                   try clear hfz29_3
                   try clear hfz33_0
                   try clear hfz33_1
                   try clear hfz33_2
                   try clear hfz33_3
                   try clear hfz34_0
                   try clear hfz34_1
                   try clear hfz34_2
                   try clear hfz34_3
                   try clear hx336_0
                   try clear hx337_0
                   try clear hx338_0
                   try clear hx338_1
                   try clear hx338_2
                   try clear hx338_3
                   try clear p2
                   try clear p3
                   try clear p336
                   try clear p337
                   try clear p338
                   try clear p6
                   try clear q3
                   try clear q336
                   try clear q337
                   try clear q338
                   obtain ⟨kq, x73_30, rfl, HA, HJ30, HO_7, HO_8, BK339, HB⟩ := hcut
                   cases kq with
                   | zero => exact absurd HA.out (by simp [spec_l26Sides.j4])
                   | succ kj30 =>
                    have H := HA.out
                    clear HA
                    simp only [spec_l26Sides.j4] at H
                    by_cases c35 : x73_30 = true
                    ·subst c35
                     have H1 : (if x7_2.length < 17592186044416 then (if x8_2.length < 17592186044416 then (spec_l26Sides.l1 kj30 l0 l1 (x7_2 ++ [wrap64 (-((rd_T51 l0 x13_2).f2))]) (x8_2 ++ [((rd_T51 l0 x13_2).f3)]) x9_1 (rd l1 x9_1) (rd l1 (ji10)) true (wrap64 (x13_2 + 1))) else (none)) else (none)) = some (r1, r2, r3) := by rw [if_pos rfl] at H; exact H
                     clear H
                     have H := H1
                     clear H1
                     by_cases c36 : x7_2.length < 17592186044416
                     ·rw [if_pos c36] at H
                      have LMc36 := Aside0.mk c36
                      clear c36
                      obtain ⟨y346, hy346⟩ : ∃ y_ : List Int, y_ = (x7_2 ++ [wrap64 (-((rd_T51 l0 x13_2).f2))]) := ⟨_, rfl⟩
                      replace H : (if x8_2.length < 17592186044416 then (spec_l26Sides.l1 kj30 l0 l1 y346 (x8_2 ++ [((rd_T51 l0 x13_2).f3)]) x9_1 (rd l1 x9_1) (rd l1 (ji10)) true (wrap64 (x13_2 + 1))) else (none)) = some (r1, r2, r3) := by first | (rw [hy346]; with_reducible exact H) | (have H2_ := (Option.bind_some _ _).symm.trans H; rw [hy346]; with_reducible exact H2_) | (have H2_ := (Option.bind_some _ _).symm.trans H; with_reducible exact H2_) | with_reducible exact H | (rw [hy346]; exact H) | exact H
                      have Ny346 := Aside0.mk hy346
                      clear hy346
                      by_cases c37 : x8_2.length < 17592186044416
                      ·rw [if_pos c37] at H
                       have LMc37 := Aside0.mk c37
                       clear c37
                       obtain ⟨y349, hy349⟩ : ∃ y_ : List Int, y_ = (x8_2 ++ [((rd_T51 l0 x13_2).f3)]) := ⟨_, rfl⟩
                       replace H : (spec_l26Sides.l1 kj30 l0 l1 y346 y349 x9_1 (rd l1 x9_1) (rd l1 (ji10)) true (wrap64 (x13_2 + 1))) = some (r1, r2, r3) := by first | (rw [hy349]; with_reducible exact H) | (have H2_ := (Option.bind_some _ _).symm.trans H; rw [hy349]; with_reducible exact H2_) | (have H2_ := (Option.bind_some _ _).symm.trans H; with_reducible exact H2_) | with_reducible exact H | (rw [hy349]; exact H) | exact H
                       have Ny349 := Aside0.mk hy349
                       clear hy349
                       have H' := Aside0.mk H
                       clear H
                       have hcz38_0 : wc.cell? ⟨gb339, 0, none⟩ = some (.int .i64 ((rd_T51 l0 x13_2).f0)) := (blk_cell BK339.out 0).trans rfl
                       have hcz38_1 : wc.cell? ⟨gb339, 1, none⟩ = some (.int .i64 ((rd_T51 l0 x13_2).f1)) := (blk_cell BK339.out 1).trans rfl
                       have hcz38_2 : wc.cell? ⟨gb339, 2, none⟩ = some (.int .i64 ((rd_T51 l0 x13_2).f2)) := (blk_cell BK339.out 2).trans rfl
                       have hcz38_3 : wc.cell? ⟨gb339, 3, none⟩ = some (.int .i64 ((rd_T51 l0 x13_2).f3)) := (blk_cell BK339.out 3).trans rfl
                       have hfz38_0 := blk_frozen BK339.out 0
                       have hfz38_1 := blk_frozen BK339.out 1
                       have hfz38_2 := blk_frozen BK339.out 2
                       have hfz38_3 := blk_frozen BK339.out 3
                       go_wp2_with (first | ((with_reducible refine gate_builtin (b := .append) (xs := #[.tmp 74, .tmp 78]) rfl ?_); at_builtin; refine Kd.R_append (Kd.int .i64) (w0 := w) w.heap.size rfl (.tmp 74) (.tmp 78) 30 2 (.int .i64 0) 8 rfl Try.underlying30 info2 rfl (by decide) (by omega) u7 x7_2 (wrap64 (-((rd_T51 l0 x13_2).f2))) [.int .i64 (wrap64 (-((rd_T51 l0 x13_2).f2)))] (fun k_ => some k_ ≠ (u8 : Value).ownBlock) (fun _ => False) rfl rfl ?aP (fun _ hk => hk.elim) ?aF ?aO ?aB ?aS ?aL ?_; (case aP => exact rfl); (case aB => exact (by repeat (first | (with_reducible first | exact HB.out | apply below_alloc | apply pw_below_drewN | apply below_drew1 | refine below_set ?_ GE339.out) | exact HB.out))); (case aF => exact (fun k_ hk => Kd.fresh' (Kd.R_lt (by (with_reducible repeat (first | apply Kd.R_alloc | apply Kd.R_drewN | apply Kd.R_drew)); exact HO_8.out)) k_ hk)); (case aO => exact (by (with_reducible repeat (first | apply Kd.R_alloc | apply Kd.R_drewN | apply Kd.R_drew)); exact HO_7.out)); (case aS => exact (below_size (by repeat (first | (with_reducible first | exact HB.out | apply below_alloc | apply pw_below_drewN | apply below_drew1 | refine below_set ?_ GE339.out) | exact HB.out)))); (case aL => have := LMc36.out; omega); intro v347 w39 ho hb hg hat; rw [← Ny346.out] at ho; have n0_ := Aside0.mk (Kd.R_after (ok := (fun _ => True)) (by (with_reducible repeat (first | apply Kd.R_alloc | apply Kd.R_drewN | apply Kd.R_drew)); exact Kd.R_mono HO_8.out (fun _ hk => ⟨trivial, hk⟩)) hg hat); have n1_ := Aside0.mk (blk_grown (g := gb339) (o := .cells #[.int .i64 ((rd_T51 l0 x13_2).f0), .int .i64 ((rd_T51 l0 x13_2).f1), .int .i64 ((rd_T51 l0 x13_2).f2), .int .i64 ((rd_T51 l0 x13_2).f3)] 51 (0, 0)) (by (with_reducible repeat (first | refine blk_drewN ?_ _ | refine blk_drew ?_ | refine blk_alloc ?_ _)); exact BK339.out) hg (Kd.R_ne HO_7.out BK339.out (by decide))); have n2_ := Aside0.mk (hb); have n3_ := Aside0.mk (ho); clear HO_8; clear BK339; clear HB; clear HO_7; have HO_8 := n0_; have BK339 := n1_; have HB := n2_; have HO348 := n3_; clear n0_ n1_ n2_ n3_; clear ho hb hg hat; have hcz40_0 : w39.cell? ⟨gb339, 0, none⟩ = some (.int .i64 ((rd_T51 l0 x13_2).f0)) := (blk_cell BK339.out 0).trans rfl; have hcz40_1 : w39.cell? ⟨gb339, 1, none⟩ = some (.int .i64 ((rd_T51 l0 x13_2).f1)) := (blk_cell BK339.out 1).trans rfl; have hcz40_2 : w39.cell? ⟨gb339, 2, none⟩ = some (.int .i64 ((rd_T51 l0 x13_2).f2)) := (blk_cell BK339.out 2).trans rfl; have hcz40_3 : w39.cell? ⟨gb339, 3, none⟩ = some (.int .i64 ((rd_T51 l0 x13_2).f3)) := (blk_cell BK339.out 3).trans rfl; have hfz40_0 := blk_frozen BK339.out 0; have hfz40_1 := blk_frozen BK339.out 1; have hfz40_2 := blk_frozen BK339.out 2; have hfz40_3 := blk_frozen BK339.out 3) | ((with_reducible refine gate_builtin (b := .append) (xs := #[.tmp 81, .tmp 84]) rfl ?_); at_builtin; refine Kd.R_append (Kd.int .i64) (w0 := w) w.heap.size rfl (.tmp 81) (.tmp 84) 30 2 (.int .i64 0) 8 rfl Try.underlying30 info2 rfl (by decide) (by omega) u8 x8_2 ((rd_T51 l0 x13_2).f3) [.int .i64 ((rd_T51 l0 x13_2).f3)] (fun k_ => some k_ ≠ (v347 : Value).ownBlock) (fun _ => False) rfl rfl ?aP (fun _ hk => hk.elim) ?aF ?aO ?aB ?aS ?aL ?_; (case aP => exact rfl); (case aB => exact (by repeat (first | (with_reducible first | exact HB.out | apply below_alloc | apply pw_below_drewN | apply below_drew1 | refine below_set ?_ GE339.out) | exact HB.out))); (case aF => exact (fun k_ hk => Kd.fresh' (Kd.R_lt (by (with_reducible repeat (first | apply Kd.R_alloc | apply Kd.R_drewN | apply Kd.R_drew)); exact HO348.out)) k_ hk)); (case aO => exact (by (with_reducible repeat (first | apply Kd.R_alloc | apply Kd.R_drewN | apply Kd.R_drew)); exact Kd.R_mono HO_8.out (fun _ hk => hk.2))); (case aS => exact (below_size (by repeat (first | (with_reducible first | exact HB.out | apply below_alloc | apply pw_below_drewN | apply below_drew1 | refine below_set ?_ GE339.out) | exact HB.out)))); (case aL => have := LMc37.out; omega); intro v350 w41 ho hb hg hat; rw [← Ny349.out] at ho; have n0_ := Aside0.mk (blk_grown (g := gb339) (o := .cells #[.int .i64 ((rd_T51 l0 x13_2).f0), .int .i64 ((rd_T51 l0 x13_2).f1), .int .i64 ((rd_T51 l0 x13_2).f2), .int .i64 ((rd_T51 l0 x13_2).f3)] 51 (0, 0)) (by (with_reducible repeat (first | refine blk_drewN ?_ _ | refine blk_drew ?_ | refine blk_alloc ?_ _)); exact BK339.out) hg (Kd.R_ne HO_8.out BK339.out (by decide))); have n1_ := Aside0.mk (Kd.R_after (ok := (fun _ => True)) (by (with_reducible repeat (first | apply Kd.R_alloc | apply Kd.R_drewN | apply Kd.R_drew)); exact Kd.R_mono HO348.out (fun _ hk => ⟨trivial, hk⟩)) hg hat); have n2_ := Aside0.mk (hb); have n3_ := Aside0.mk (ho); clear BK339; clear HO348; clear HB; clear HO_8; have BK339 := n0_; have HO348 := n1_; have HB := n2_; have HO351 := n3_; clear n0_ n1_ n2_ n3_; clear ho hb hg hat))
                       go_roundg kj30
                       case measure => have := HK1.out; have := HK2.out; have := HJ12.out; have := HJ17.out; have := HJ30.out; omega
                       case rel => exact ⟨(y346), (y349), (true), (wrap64 (x13_2 + 1)), (by first | rfl | (simp; done) | (simp [*]; done)), (by first | rfl | (simp; done) | (simp [*]; done)), H', ⟨by have := HK1.out; have := HK2.out; have := HJ12.out; have := HJ17.out; have := HJ30.out; omega⟩, ⟨by (with_reducible repeat (first | apply Kd.R_alloc | apply Kd.R_drewN | apply Kd.R_drew)); exact Kd.R_mono HO348.out (fun _ hk => hk.2)⟩, ⟨by (with_reducible repeat (first | apply Kd.R_alloc | apply Kd.R_drewN | apply Kd.R_drew)); exact HO351.out⟩, ⟨by repeat (first | (with_reducible first | exact HB.out | apply below_alloc | apply pw_below_drewN | apply below_drew1 | refine below_set ?_ GE339.out) | exact HB.out)⟩⟩
                      ·rw [if_neg c37] at H
                       exact absurd H (by simp)
                     ·rw [if_neg c36] at H
                      exact absurd H (by simp)
                    ·replace c35 := Bool.eq_false_iff.mpr c35
                     subst c35
                     have H1 : (if x12_2 = true then (if x8_2.length < 17592186044416 then (spec_l26Sides.l1 kj30 l0 l1 x7_2 (x8_2 ++ [((rd_T51 l0 x13_2).f3)]) x9_1 (rd l1 x9_1) (rd l1 (ji10)) x12_2 (wrap64 (x13_2 + 1))) else (none)) else (spec_l26Sides.l1 kj30 l0 l1 x7_2 x8_2 x9_1 (rd l1 x9_1) (rd l1 (ji10)) x12_2 (wrap64 (x13_2 + 1)))) = some (r1, r2, r3) := by rw [if_neg (show ¬ (false = true) by decide)] at H; exact H
                     clear H
                     have H := H1
                     clear H1
                     by_cases c42 : x12_2 = true
                     ·subst c42
                      have H1 : (if x8_2.length < 17592186044416 then (spec_l26Sides.l1 kj30 l0 l1 x7_2 (x8_2 ++ [((rd_T51 l0 x13_2).f3)]) x9_1 (rd l1 x9_1) (rd l1 (ji10)) true (wrap64 (x13_2 + 1))) else (none)) = some (r1, r2, r3) := by rw [if_pos rfl] at H; exact H
                      clear H
                      have H := H1
                      clear H1
                      by_cases c43 : x8_2.length < 17592186044416
                      ·rw [if_pos c43] at H
                       have LMc43 := Aside0.mk c43
                       clear c43
                       obtain ⟨y352, hy352⟩ : ∃ y_ : List Int, y_ = (x8_2 ++ [((rd_T51 l0 x13_2).f3)]) := ⟨_, rfl⟩
                       replace H : (spec_l26Sides.l1 kj30 l0 l1 x7_2 y352 x9_1 (rd l1 x9_1) (rd l1 (ji10)) true (wrap64 (x13_2 + 1))) = some (r1, r2, r3) := by first | (rw [hy352]; with_reducible exact H) | (have H2_ := (Option.bind_some _ _).symm.trans H; rw [hy352]; with_reducible exact H2_) | (have H2_ := (Option.bind_some _ _).symm.trans H; with_reducible exact H2_) | with_reducible exact H | (rw [hy352]; exact H) | exact H
                       have Ny352 := Aside0.mk hy352
                       clear hy352
                       have H' := Aside0.mk H
                       clear H
                       have hcz44_0 : wc.cell? ⟨gb339, 0, none⟩ = some (.int .i64 ((rd_T51 l0 x13_2).f0)) := (blk_cell BK339.out 0).trans rfl
                       have hcz44_1 : wc.cell? ⟨gb339, 1, none⟩ = some (.int .i64 ((rd_T51 l0 x13_2).f1)) := (blk_cell BK339.out 1).trans rfl
                       have hcz44_2 : wc.cell? ⟨gb339, 2, none⟩ = some (.int .i64 ((rd_T51 l0 x13_2).f2)) := (blk_cell BK339.out 2).trans rfl
                       have hcz44_3 : wc.cell? ⟨gb339, 3, none⟩ = some (.int .i64 ((rd_T51 l0 x13_2).f3)) := (blk_cell BK339.out 3).trans rfl
                       have hfz44_0 := blk_frozen BK339.out 0
                       have hfz44_1 := blk_frozen BK339.out 1
                       have hfz44_2 := blk_frozen BK339.out 2
                       have hfz44_3 := blk_frozen BK339.out 3
                       go_wp2_with (first | ((with_reducible refine gate_builtin (b := .append) (xs := #[.tmp 81, .tmp 84]) rfl ?_); at_builtin; refine Kd.R_append (Kd.int .i64) (w0 := w) w.heap.size rfl (.tmp 81) (.tmp 84) 30 2 (.int .i64 0) 8 rfl Try.underlying30 info2 rfl (by decide) (by omega) u8 x8_2 ((rd_T51 l0 x13_2).f3) [.int .i64 ((rd_T51 l0 x13_2).f3)] (fun k_ => some k_ ≠ (u7 : Value).ownBlock) (fun _ => False) rfl rfl ?aP (fun _ hk => hk.elim) ?aF ?aO ?aB ?aS ?aL ?_; (case aP => exact rfl); (case aB => exact (by repeat (first | (with_reducible first | exact HB.out | apply below_alloc | apply pw_below_drewN | apply below_drew1 | refine below_set ?_ GE339.out) | exact HB.out))); (case aF => exact (fun k_ hk => Kd.fresh' (Kd.R_lt (by (with_reducible repeat (first | apply Kd.R_alloc | apply Kd.R_drewN | apply Kd.R_drew)); exact HO_7.out)) k_ hk)); (case aO => exact (by (with_reducible repeat (first | apply Kd.R_alloc | apply Kd.R_drewN | apply Kd.R_drew)); exact HO_8.out)); (case aS => exact (below_size (by repeat (first | (with_reducible first | exact HB.out | apply below_alloc | apply pw_below_drewN | apply below_drew1 | refine below_set ?_ GE339.out) | exact HB.out)))); (case aL => have := LMc43.out; omega); intro v353 w45 ho hb hg hat; rw [← Ny352.out] at ho; have n0_ := Aside0.mk (Kd.R_after (ok := (fun _ => True)) (by (with_reducible repeat (first | apply Kd.R_alloc | apply Kd.R_drewN | apply Kd.R_drew)); exact Kd.R_mono HO_7.out (fun _ hk => ⟨trivial, hk⟩)) hg hat); have n1_ := Aside0.mk (blk_grown (g := gb339) (o := .cells #[.int .i64 ((rd_T51 l0 x13_2).f0), .int .i64 ((rd_T51 l0 x13_2).f1), .int .i64 ((rd_T51 l0 x13_2).f2), .int .i64 ((rd_T51 l0 x13_2).f3)] 51 (0, 0)) (by (with_reducible repeat (first | refine blk_drewN ?_ _ | refine blk_drew ?_ | refine blk_alloc ?_ _)); exact BK339.out) hg (Kd.R_ne HO_8.out BK339.out (by decide))); have n2_ := Aside0.mk (hb); have n3_ := Aside0.mk (ho); clear HO_7; clear BK339; clear HB; clear HO_8; have HO_7 := n0_; have BK339 := n1_; have HB := n2_; have HO354 := n3_; clear n0_ n1_ n2_ n3_; clear ho hb hg hat))
                       go_roundg kj30
                       case measure => have := HK1.out; have := HK2.out; have := HJ12.out; have := HJ17.out; have := HJ30.out; omega
                       case rel => exact ⟨(x7_2), (y352), (true), (wrap64 (x13_2 + 1)), (by first | rfl | (simp; done) | (simp [*]; done)), (by first | rfl | (simp; done) | (simp [*]; done)), H', ⟨by have := HK1.out; have := HK2.out; have := HJ12.out; have := HJ17.out; have := HJ30.out; omega⟩, ⟨by (with_reducible repeat (first | apply Kd.R_alloc | apply Kd.R_drewN | apply Kd.R_drew)); exact Kd.R_mono HO_7.out (fun _ hk => hk.2)⟩, ⟨by (with_reducible repeat (first | apply Kd.R_alloc | apply Kd.R_drewN | apply Kd.R_drew)); exact HO354.out⟩, ⟨by repeat (first | (with_reducible first | exact HB.out | apply below_alloc | apply pw_below_drewN | apply below_drew1 | refine below_set ?_ GE339.out) | exact HB.out)⟩⟩
                      ·rw [if_neg c43] at H
                       exact absurd H (by simp)
                     ·replace c42 := Bool.eq_false_iff.mpr c42
                      subst c42
                      have H1 : (spec_l26Sides.l1 kj30 l0 l1 x7_2 x8_2 x9_1 (rd l1 x9_1) (rd l1 (ji10)) false (wrap64 (x13_2 + 1))) = some (r1, r2, r3) := by rw [if_neg (show ¬ (false = true) by decide)] at H; exact H
                      clear H
                      have H := H1
                      clear H1
                      have H' := Aside0.mk H
                      clear H
                      go_wp2
                      go_roundg kj30
                      case measure => have := HK1.out; have := HK2.out; have := HJ12.out; have := HJ17.out; have := HJ30.out; omega
                      case rel => exact ⟨(x7_2), (x8_2), (false), (wrap64 (x13_2 + 1)), (by first | rfl | (simp; done) | (simp [*]; done)), (by first | rfl | (simp; done) | (simp [*]; done)), H', ⟨by have := HK1.out; have := HK2.out; have := HJ12.out; have := HJ17.out; have := HJ30.out; omega⟩, ⟨by (with_reducible repeat (first | apply Kd.R_alloc | apply Kd.R_drewN | apply Kd.R_drew)); exact HO_7.out⟩, ⟨by (with_reducible repeat (first | apply Kd.R_alloc | apply Kd.R_drewN | apply Kd.R_drew)); exact HO_8.out⟩, ⟨by repeat (first | (with_reducible first | exact HB.out | apply below_alloc | apply pw_below_drewN | apply below_drew1 | refine below_set ?_ GE339.out) | exact HB.out)⟩⟩
              ·rw [if_neg c17] at H
               exact absurd H (by simp)
             ·rw [if_neg c16] at H
              exact absurd H (by simp)
            ·replace c15 := Bool.eq_false_iff.mpr c15
             subst c15
             have H1 : (if x12_2 = true then (spec_l26Sides.l0 kj12 l0 l1 x7_2 x8_2 (wrap64 (x9_1 + 1))) else (some (([] : List Int), ([] : List Int), false))) = some (r1, r2, r3) := by rw [if_neg (show ¬ (false = true) by decide)] at H; exact H
             clear H
             have H := H1
             clear H1
             by_cases c46 : x12_2 = true
             ·subst c46
              have H1 : (spec_l26Sides.l0 kj12 l0 l1 x7_2 x8_2 (wrap64 (x9_1 + 1))) = some (r1, r2, r3) := by rw [if_pos rfl] at H; exact H
              clear H
              have H := H1
              clear H1
              have H' := Aside0.mk H
              clear H
              go_wp2
              go_roundg kj12
              case measure => have := HK1.out; have := HK2.out; have := HJ12.out; omega
              case rel => exact ⟨(x7_2), (x8_2), (wrap64 (x9_1 + 1)), (by first | rfl | (simp; done) | (simp [*]; done)), H', ⟨by have := HK1.out; have := HK2.out; have := HJ12.out; omega⟩, ⟨by (with_reducible repeat (first | apply Kd.R_alloc | apply Kd.R_drewN | apply Kd.R_drew)); exact HO_7.out⟩, ⟨by (with_reducible repeat (first | apply Kd.R_alloc | apply Kd.R_drewN | apply Kd.R_drew)); exact HO_8.out⟩, ⟨by repeat (first | (with_reducible first | exact HB.out | apply below_alloc | apply pw_below_drewN | apply below_drew1) | exact HB.out)⟩⟩
             ·replace c46 := Bool.eq_false_iff.mpr c46
              subst c46
              have H1 : (some (([] : List Int), ([] : List Int), false)) = some (r1, r2, r3) := by rw [if_neg (show ¬ (false = true) by decide)] at H; exact H
              clear H
              have H := H1
              clear H1
              simp only [Option.some.injEq, Prod.mk.injEq] at H
              obtain ⟨rfl, rfl, rfl⟩ := H
              go_wp2
              go_ret3
              exact ⟨_, _, by first | rfl | (simp [errW_none, errW_some] <;> rfl) | (simp only [← hji10]; first | rfl | (simp [errW_none, errW_some] <;> rfl)) | (simp [*, errW_none, errW_some] <;> rfl), by first | exact Kd.R_nil _ _ _ _ _ | exact Kd.N_nil _ _ _ _ _ | exact Kd.V_nil _ _ _ _ _ | exact Kd.Q_nil _ _ _ _ _ | exact Kd.S_nil _ _ _ _ _, by first | exact Kd.R_nil _ _ _ _ _ | exact Kd.N_nil _ _ _ _ _ | exact Kd.V_nil _ _ _ _ _ | exact Kd.Q_nil _ _ _ _ _ | exact Kd.S_nil _ _ _ _ _, by repeat (first | (with_reducible first | exact HB.out | apply below_alloc | apply pw_below_drewN | apply below_drew1) | exact HB.out)⟩
       ·rw [if_neg c12] at H
        exact absurd H (by simp)
      ·rw [if_neg c11] at H
       exact absurd H (by simp)
    ·rw [if_neg c8] at H
     exact absurd H (by simp)
   ·rw [if_neg c7] at H
    have c7b0 : decide (x9_1 < (l1.length : Int)) = false := decide_eq_false c7
    clear c7
    simp only [Option.some.injEq, Prod.mk.injEq] at H
    obtain ⟨rfl, rfl, rfl⟩ := H
    go_wp2
    go_ret3
    exact ⟨_, _, by first | rfl | (simp [errW_none, errW_some] <;> rfl) | (simp [*, errW_none, errW_some] <;> rfl), by (with_reducible repeat (first | apply Kd.R_alloc | apply Kd.R_drewN | apply Kd.R_drew)); exact HO_7.out, by (with_reducible repeat (first | apply Kd.R_alloc | apply Kd.R_drewN | apply Kd.R_drew)); exact HO_8.out, by repeat (first | (with_reducible first | exact HB.out | apply below_alloc | apply pw_below_drewN | apply below_drew1) | exact HB.out)⟩


/-! ## XSpecL26Code -/

def spec_l26Code.f (k : Nat) (a0 : Int) (l1 : List (S51)) (l2 : List Int) : Option (List Int × List Int × Int) := (spec_l26Ok.f k a0 l1).bind fun t355 => (if t355 = true then ((spec_l26Loop.f k a0 l2).bind fun t356 => (if t356 = true then ((spec_l26Sides.f k l1 l2).bind fun bt357 => (if bt357.2.2 = true then (some (bt357.1, bt357.2.1, 0)) else (some (([] : List Int), ([] : List Int), 3)))) else (some (([] : List Int), ([] : List Int), 2)))) else (some (([] : List Int), ([] : List Int), 1)))
theorem spec_l26Code.mono : ∀ a0 a1 a2 k, LeO (spec_l26Code.f k a0 a1 a2) (spec_l26Code.f (k + 1) a0 a1 a2) := by
 intro a0 a1 a2 k
 unfold spec_l26Code.f
 repeat' first
   | (with_reducible exact spec_l26Loop.mono _ _ _)
   | (with_reducible exact spec_l26Ok.mono _ _ _)
   | (with_reducible exact spec_l26Sides.mono _ _ _)
   | (with_reducible exact LeO.refl _)
   | (with_reducible exact LeO.none _)
   | (with_reducible refine LeO.ite ?_ ?_)
   | (with_reducible refine LeO.bind ?_ (fun _ => ?_))
   | exact spec_l26Loop.mono _ _ _
   | exact spec_l26Ok.mono _ _ _
   | exact spec_l26Sides.mono _ _ _
   | exact LeO.none _
   | refine LeO.ite ?_ ?_
   | refine LeO.bind ?_ (fun _ => ?_)
set_option maxHeartbeats 8000000 in
set_option maxRecDepth 100000 in
theorem spec_l26Code.calls (k : Nat) (a0 : Int) (A1 : Option Addr) (c1 : Nat) (l1 : List (S51)) (A2 : Option Addr) (c2 : Nat) (l2 : List Int) (r1 : List Int) (r2 : List Int) (r3 : Int) (w : World) (hr1 : Kd.C k51 w A1 l1.length l1) (hc1 : l1.length ≤ c1) (hr2 : Kd.C (Kd.int .i64) w A2 l2.length l2) (hc2 : l2.length ≤ c2) (h : spec_l26Code.f k a0 l1 l2 = some (r1, r2, r3)) :
  Calls Try.prog 50 #[.int .i64 a0, .slice A1 l1.length c1, .slice A2 l2.length c2] w fun e w' => ∃ v0_ v1_ : Value, e = .returned (.tuple #[v0_, v1_, .int .i64 r3]) ∧ Kd.R (Kd.int .i64) 2 w' w.heap.size (fun k_ => some k_ ≠ (v1_ : Value).ownBlock) v0_ r1 ∧ Kd.R (Kd.int .i64) 2 w' w.heap.size (fun k_ => some k_ ≠ (v0_ : Value).ownBlock) v1_ r2 ∧ Below w.heap.size w w' := by
 have HR1 := Aside0.mk hr1
 have HC1 := Aside0.mk hc1
 clear hr1 hc1
 have HR2 := Aside0.mk hr2
 have HC2 := Aside0.mk hc2
 clear hr2 hc2
 have HB := Aside0.mk (Below.refl w.heap.size w)
 have H : ((spec_l26Ok.f k a0 l1).bind fun t355 => (if t355 = true then ((spec_l26Loop.f k a0 l2).bind fun t356 => (if t356 = true then ((spec_l26Sides.f k l1 l2).bind fun bt357 => (if bt357.2.2 = true then (some (bt357.1, bt357.2.1, 0)) else (some (([] : List Int), ([] : List Int), 3)))) else (some (([] : List Int), ([] : List Int), 2)))) else (some (([] : List Int), ([] : List Int), 1)))) = some (r1, r2, r3) := h
 clear h
 replace H := Option.bind_eq_some_iff.mp H
 obtain ⟨t355, A40, H⟩ := H
 replace H : (if t355 = true then ((spec_l26Loop.f k a0 l2).bind fun t356 => (if t356 = true then ((spec_l26Sides.f k l1 l2).bind fun bt357 => (if bt357.2.2 = true then (some (bt357.1, bt357.2.1, 0)) else (some (([] : List Int), ([] : List Int), 3)))) else (some (([] : List Int), ([] : List Int), 2)))) else (some (([] : List Int), ([] : List Int), 1))) = some (r1, r2, r3) := H
 have A4 := Aside0.mk A40
 clear A40
 by_cases c5 : t355 = true
 ·subst c5
  have H1 : ((spec_l26Loop.f k a0 l2).bind fun t356 => (if t356 = true then ((spec_l26Sides.f k l1 l2).bind fun bt357 => (if bt357.2.2 = true then (some (bt357.1, bt357.2.1, 0)) else (some (([] : List Int), ([] : List Int), 3)))) else (some (([] : List Int), ([] : List Int), 2)))) = some (r1, r2, r3) := by rw [if_pos rfl] at H; exact H
  clear H
  have H := H1
  clear H1
  replace H := Option.bind_eq_some_iff.mp H
  obtain ⟨t356, A60, H⟩ := H
  replace H : (if t356 = true then ((spec_l26Sides.f k l1 l2).bind fun bt357 => (if bt357.2.2 = true then (some (bt357.1, bt357.2.1, 0)) else (some (([] : List Int), ([] : List Int), 3)))) else (some (([] : List Int), ([] : List Int), 2))) = some (r1, r2, r3) := H
  have A6 := Aside0.mk A60
  clear A60
  by_cases c7 : t356 = true
  ·subst c7
   have H1 : ((spec_l26Sides.f k l1 l2).bind fun bt357 => (if bt357.2.2 = true then (some (bt357.1, bt357.2.1, 0)) else (some (([] : List Int), ([] : List Int), 3)))) = some (r1, r2, r3) := by rw [if_pos rfl] at H; exact H
   clear H
   have H := H1
   clear H1
   replace H := Option.bind_eq_some_iff.mp H
   obtain ⟨⟨t357, t358, t359⟩, A80, H⟩ := H
   replace H : (if t359 = true then (some (t357, t358, 0)) else (some (([] : List Int), ([] : List Int), 3))) = some (r1, r2, r3) := H
   have A8 := Aside0.mk A80
   clear A80
   by_cases c9 : t359 = true
   ·subst c9
    have H1 : (some (t357, t358, 0)) = some (r1, r2, r3) := by rw [if_pos rfl] at H; exact H
    clear H
    have H := H1
    clear H1
    simp only [Option.some.injEq, Prod.mk.injEq] at H
    obtain ⟨rfl, rfl, rfl⟩ := H
    go_enter Try.func50, Try.ntmps50
    go_wp2_with (first | ((with_reducible refine gate_callee (f := 39) rfl ?_); refine goesL_ (some 14) rfl rfl Try.func39 (by kernel_rfl) rfl #[.int .i64 a0, .slice A1 l1.length c1] rfl (by (try simp only [List.map_toArray, List.map_cons, List.map_nil]); first | done | rfl | (simp only [List.length_drop, List.length_take]; rfl)) ?_; (with_reducible refine (spec_l26Ok.calls k a0 _ _ l1 true _ ?side1 ?side2 A4.out).mono ?_); (case side1 => repeat (first | exact HR1.out | (with_reducible refine Kd.C_alloc ?_ _) | (with_reducible refine Kd.C_drewN ?_ _) | (with_reducible refine Kd.C_drew ?_))); (case side2 => exact HC1.out); rintro e w10 ⟨rfl, hb⟩; refine ⟨_, rfl, ?_⟩; have n0_ := Aside0.mk (below_step (by repeat (first | (with_reducible first | exact HB.out | apply below_alloc | apply pw_below_drewN | apply below_drew1) | exact HB.out)) hb); clear HB; have HB := n0_; clear n0_; (try clear hb); (try clear hb2); (try clear hk); (try clear hi)) | ((with_reducible refine gate_callee (f := 72) rfl ?_); refine goesL_ (some 18) rfl rfl Try.func72 (by kernel_rfl) rfl #[.int .i64 a0, .slice A2 l2.length c2] rfl (by (try simp only [List.map_toArray, List.map_cons, List.map_nil]); first | done | rfl | (simp only [List.length_drop, List.length_take]; rfl)) ?_; (with_reducible refine (spec_l26Loop.calls k a0 _ _ l2 true _ ?side1 ?side2 A6.out).mono ?_); (case side1 => repeat (first | exact (Kd.C_below HR2.out HB.out) | (with_reducible refine Kd.C_alloc ?_ _) | (with_reducible refine Kd.C_drewN ?_ _) | (with_reducible refine Kd.C_drew ?_))); (case side2 => exact HC2.out); rintro e w11 ⟨rfl, hb⟩; refine ⟨_, rfl, ?_⟩; have n0_ := Aside0.mk (below_step (by repeat (first | (with_reducible first | exact HB.out | apply below_alloc | apply pw_below_drewN | apply below_drew1) | exact HB.out)) hb); clear HB; have HB := n0_; clear n0_; (try clear hb); (try clear hb2); (try clear hk); (try clear hi)) | ((with_reducible refine gate_callee (f := 73) rfl ?_); refine goesL_ (some 23) rfl rfl Try.func73 (by kernel_rfl) rfl #[.slice A1 l1.length c1, .slice A2 l2.length c2] rfl (by (try simp only [List.map_toArray, List.map_cons, List.map_nil]); first | done | rfl | (simp only [List.length_drop, List.length_take]; rfl)) ?_; (with_reducible refine (spec_l26Sides.calls k _ _ l1 _ _ l2 t357 t358 true _ ?side1 ?side2 ?side3 ?side4 A8.out).mono ?_); (case side1 => repeat (first | exact (Kd.C_below HR1.out HB.out) | (with_reducible refine Kd.C_alloc ?_ _) | (with_reducible refine Kd.C_drewN ?_ _) | (with_reducible refine Kd.C_drew ?_))); (case side2 => exact HC1.out); (case side3 => repeat (first | exact (Kd.C_below HR2.out HB.out) | (with_reducible refine Kd.C_alloc ?_ _) | (with_reducible refine Kd.C_drewN ?_ _) | (with_reducible refine Kd.C_drew ?_))); (case side4 => exact HC2.out); rintro e w12 ⟨v360, v362, rfl, ho0, ho1, hb⟩; refine ⟨_, rfl, ?_⟩; have n0_ := Aside0.mk (Kd.R_lower ho0 (below_size (by repeat (first | (with_reducible first | exact HB.out | apply below_alloc | apply pw_below_drewN | apply below_drew1) | exact HB.out)))); have n1_ := Aside0.mk (Kd.R_lower ho1 (below_size (by repeat (first | (with_reducible first | exact HB.out | apply below_alloc | apply pw_below_drewN | apply below_drew1) | exact HB.out)))); have n2_ := Aside0.mk (below_step (by repeat (first | (with_reducible first | exact HB.out | apply below_alloc | apply pw_below_drewN | apply below_drew1) | exact HB.out)) hb); clear HB; have HO361 := n0_; have HO363 := n1_; have HB := n2_; clear n0_ n1_ n2_; (try clear hb); (try clear hb2); (try clear hk); (try clear hi); (try clear ho0); (try clear ho1)))
    go_ret3
    exact ⟨_, _, by first | rfl | (simp [errW_none, errW_some] <;> rfl) | (simp [*, errW_none, errW_some] <;> rfl), by (with_reducible repeat (first | apply Kd.R_alloc | apply Kd.R_drewN | apply Kd.R_drew)); exact HO361.out, by (with_reducible repeat (first | apply Kd.R_alloc | apply Kd.R_drewN | apply Kd.R_drew)); exact HO363.out, by repeat (first | (with_reducible first | exact HB.out | apply below_alloc | apply pw_below_drewN | apply below_drew1) | exact HB.out)⟩
   ·replace c9 := Bool.eq_false_iff.mpr c9
    subst c9
    have H1 : (some (([] : List Int), ([] : List Int), 3)) = some (r1, r2, r3) := by rw [if_neg (show ¬ (false = true) by decide)] at H; exact H
    clear H
    have H := H1
    clear H1
    simp only [Option.some.injEq, Prod.mk.injEq] at H
    obtain ⟨rfl, rfl, rfl⟩ := H
    go_enter Try.func50, Try.ntmps50
    go_wp2_with (first | ((with_reducible refine gate_callee (f := 39) rfl ?_); refine goesL_ (some 14) rfl rfl Try.func39 (by kernel_rfl) rfl #[.int .i64 a0, .slice A1 l1.length c1] rfl (by (try simp only [List.map_toArray, List.map_cons, List.map_nil]); first | done | rfl | (simp only [List.length_drop, List.length_take]; rfl)) ?_; (with_reducible refine (spec_l26Ok.calls k a0 _ _ l1 true _ ?side1 ?side2 A4.out).mono ?_); (case side1 => repeat (first | exact HR1.out | (with_reducible refine Kd.C_alloc ?_ _) | (with_reducible refine Kd.C_drewN ?_ _) | (with_reducible refine Kd.C_drew ?_))); (case side2 => exact HC1.out); rintro e w13 ⟨rfl, hb⟩; refine ⟨_, rfl, ?_⟩; have n0_ := Aside0.mk (below_step (by repeat (first | (with_reducible first | exact HB.out | apply below_alloc | apply pw_below_drewN | apply below_drew1) | exact HB.out)) hb); clear HB; have HB := n0_; clear n0_; (try clear hb); (try clear hb2); (try clear hk); (try clear hi)) | ((with_reducible refine gate_callee (f := 72) rfl ?_); refine goesL_ (some 18) rfl rfl Try.func72 (by kernel_rfl) rfl #[.int .i64 a0, .slice A2 l2.length c2] rfl (by (try simp only [List.map_toArray, List.map_cons, List.map_nil]); first | done | rfl | (simp only [List.length_drop, List.length_take]; rfl)) ?_; (with_reducible refine (spec_l26Loop.calls k a0 _ _ l2 true _ ?side1 ?side2 A6.out).mono ?_); (case side1 => repeat (first | exact (Kd.C_below HR2.out HB.out) | (with_reducible refine Kd.C_alloc ?_ _) | (with_reducible refine Kd.C_drewN ?_ _) | (with_reducible refine Kd.C_drew ?_))); (case side2 => exact HC2.out); rintro e w14 ⟨rfl, hb⟩; refine ⟨_, rfl, ?_⟩; have n0_ := Aside0.mk (below_step (by repeat (first | (with_reducible first | exact HB.out | apply below_alloc | apply pw_below_drewN | apply below_drew1) | exact HB.out)) hb); clear HB; have HB := n0_; clear n0_; (try clear hb); (try clear hb2); (try clear hk); (try clear hi)) | ((with_reducible refine gate_callee (f := 73) rfl ?_); refine goesL_ (some 23) rfl rfl Try.func73 (by kernel_rfl) rfl #[.slice A1 l1.length c1, .slice A2 l2.length c2] rfl (by (try simp only [List.map_toArray, List.map_cons, List.map_nil]); first | done | rfl | (simp only [List.length_drop, List.length_take]; rfl)) ?_; (with_reducible refine (spec_l26Sides.calls k _ _ l1 _ _ l2 t357 t358 false _ ?side1 ?side2 ?side3 ?side4 A8.out).mono ?_); (case side1 => repeat (first | exact (Kd.C_below HR1.out HB.out) | (with_reducible refine Kd.C_alloc ?_ _) | (with_reducible refine Kd.C_drewN ?_ _) | (with_reducible refine Kd.C_drew ?_))); (case side2 => exact HC1.out); (case side3 => repeat (first | exact (Kd.C_below HR2.out HB.out) | (with_reducible refine Kd.C_alloc ?_ _) | (with_reducible refine Kd.C_drewN ?_ _) | (with_reducible refine Kd.C_drew ?_))); (case side4 => exact HC2.out); rintro e w15 ⟨v360, v362, rfl, ho0, ho1, hb⟩; refine ⟨_, rfl, ?_⟩; have n0_ := Aside0.mk (Kd.R_lower ho0 (below_size (by repeat (first | (with_reducible first | exact HB.out | apply below_alloc | apply pw_below_drewN | apply below_drew1) | exact HB.out)))); have n1_ := Aside0.mk (Kd.R_lower ho1 (below_size (by repeat (first | (with_reducible first | exact HB.out | apply below_alloc | apply pw_below_drewN | apply below_drew1) | exact HB.out)))); have n2_ := Aside0.mk (below_step (by repeat (first | (with_reducible first | exact HB.out | apply below_alloc | apply pw_below_drewN | apply below_drew1) | exact HB.out)) hb); clear HB; have HO361 := n0_; have HO363 := n1_; have HB := n2_; clear n0_ n1_ n2_; (try clear hb); (try clear hb2); (try clear hk); (try clear hi); (try clear ho0); (try clear ho1)))
    go_ret3
    exact ⟨_, _, by first | rfl | (simp [errW_none, errW_some] <;> rfl) | (simp [*, errW_none, errW_some] <;> rfl), by first | exact Kd.R_nil _ _ _ _ _ | exact Kd.N_nil _ _ _ _ _ | exact Kd.V_nil _ _ _ _ _ | exact Kd.Q_nil _ _ _ _ _ | exact Kd.S_nil _ _ _ _ _, by first | exact Kd.R_nil _ _ _ _ _ | exact Kd.N_nil _ _ _ _ _ | exact Kd.V_nil _ _ _ _ _ | exact Kd.Q_nil _ _ _ _ _ | exact Kd.S_nil _ _ _ _ _, by repeat (first | (with_reducible first | exact HB.out | apply below_alloc | apply pw_below_drewN | apply below_drew1) | exact HB.out)⟩
  ·replace c7 := Bool.eq_false_iff.mpr c7
   subst c7
   have H1 : (some (([] : List Int), ([] : List Int), 2)) = some (r1, r2, r3) := by rw [if_neg (show ¬ (false = true) by decide)] at H; exact H
   clear H
   have H := H1
   clear H1
   simp only [Option.some.injEq, Prod.mk.injEq] at H
   obtain ⟨rfl, rfl, rfl⟩ := H
   go_enter Try.func50, Try.ntmps50
   go_wp2_with (first | ((with_reducible refine gate_callee (f := 39) rfl ?_); refine goesL_ (some 14) rfl rfl Try.func39 (by kernel_rfl) rfl #[.int .i64 a0, .slice A1 l1.length c1] rfl (by (try simp only [List.map_toArray, List.map_cons, List.map_nil]); first | done | rfl | (simp only [List.length_drop, List.length_take]; rfl)) ?_; (with_reducible refine (spec_l26Ok.calls k a0 _ _ l1 true _ ?side1 ?side2 A4.out).mono ?_); (case side1 => repeat (first | exact HR1.out | (with_reducible refine Kd.C_alloc ?_ _) | (with_reducible refine Kd.C_drewN ?_ _) | (with_reducible refine Kd.C_drew ?_))); (case side2 => exact HC1.out); rintro e w16 ⟨rfl, hb⟩; refine ⟨_, rfl, ?_⟩; have n0_ := Aside0.mk (below_step (by repeat (first | (with_reducible first | exact HB.out | apply below_alloc | apply pw_below_drewN | apply below_drew1) | exact HB.out)) hb); clear HB; have HB := n0_; clear n0_; (try clear hb); (try clear hb2); (try clear hk); (try clear hi)) | ((with_reducible refine gate_callee (f := 72) rfl ?_); refine goesL_ (some 18) rfl rfl Try.func72 (by kernel_rfl) rfl #[.int .i64 a0, .slice A2 l2.length c2] rfl (by (try simp only [List.map_toArray, List.map_cons, List.map_nil]); first | done | rfl | (simp only [List.length_drop, List.length_take]; rfl)) ?_; (with_reducible refine (spec_l26Loop.calls k a0 _ _ l2 false _ ?side1 ?side2 A6.out).mono ?_); (case side1 => repeat (first | exact (Kd.C_below HR2.out HB.out) | (with_reducible refine Kd.C_alloc ?_ _) | (with_reducible refine Kd.C_drewN ?_ _) | (with_reducible refine Kd.C_drew ?_))); (case side2 => exact HC2.out); rintro e w17 ⟨rfl, hb⟩; refine ⟨_, rfl, ?_⟩; have n0_ := Aside0.mk (below_step (by repeat (first | (with_reducible first | exact HB.out | apply below_alloc | apply pw_below_drewN | apply below_drew1) | exact HB.out)) hb); clear HB; have HB := n0_; clear n0_; (try clear hb); (try clear hb2); (try clear hk); (try clear hi)))
   go_ret3
   exact ⟨_, _, by first | rfl | (simp [errW_none, errW_some] <;> rfl) | (simp [*, errW_none, errW_some] <;> rfl), by first | exact Kd.R_nil _ _ _ _ _ | exact Kd.N_nil _ _ _ _ _ | exact Kd.V_nil _ _ _ _ _ | exact Kd.Q_nil _ _ _ _ _ | exact Kd.S_nil _ _ _ _ _, by first | exact Kd.R_nil _ _ _ _ _ | exact Kd.N_nil _ _ _ _ _ | exact Kd.V_nil _ _ _ _ _ | exact Kd.Q_nil _ _ _ _ _ | exact Kd.S_nil _ _ _ _ _, by repeat (first | (with_reducible first | exact HB.out | apply below_alloc | apply pw_below_drewN | apply below_drew1) | exact HB.out)⟩
 ·replace c5 := Bool.eq_false_iff.mpr c5
  subst c5
  have H1 : (some (([] : List Int), ([] : List Int), 1)) = some (r1, r2, r3) := by rw [if_neg (show ¬ (false = true) by decide)] at H; exact H
  clear H
  have H := H1
  clear H1
  simp only [Option.some.injEq, Prod.mk.injEq] at H
  obtain ⟨rfl, rfl, rfl⟩ := H
  go_enter Try.func50, Try.ntmps50
  go_wp2_with (first | ((with_reducible refine gate_callee (f := 39) rfl ?_); refine goesL_ (some 14) rfl rfl Try.func39 (by kernel_rfl) rfl #[.int .i64 a0, .slice A1 l1.length c1] rfl (by (try simp only [List.map_toArray, List.map_cons, List.map_nil]); first | done | rfl | (simp only [List.length_drop, List.length_take]; rfl)) ?_; (with_reducible refine (spec_l26Ok.calls k a0 _ _ l1 false _ ?side1 ?side2 A4.out).mono ?_); (case side1 => repeat (first | exact HR1.out | (with_reducible refine Kd.C_alloc ?_ _) | (with_reducible refine Kd.C_drewN ?_ _) | (with_reducible refine Kd.C_drew ?_))); (case side2 => exact HC1.out); rintro e w18 ⟨rfl, hb⟩; refine ⟨_, rfl, ?_⟩; have n0_ := Aside0.mk (below_step (by repeat (first | (with_reducible first | exact HB.out | apply below_alloc | apply pw_below_drewN | apply below_drew1) | exact HB.out)) hb); clear HB; have HB := n0_; clear n0_; (try clear hb); (try clear hb2); (try clear hk); (try clear hi)))
  go_ret3
  exact ⟨_, _, by first | rfl | (simp [errW_none, errW_some] <;> rfl) | (simp [*, errW_none, errW_some] <;> rfl), by first | exact Kd.R_nil _ _ _ _ _ | exact Kd.N_nil _ _ _ _ _ | exact Kd.V_nil _ _ _ _ _ | exact Kd.Q_nil _ _ _ _ _ | exact Kd.S_nil _ _ _ _ _, by first | exact Kd.R_nil _ _ _ _ _ | exact Kd.N_nil _ _ _ _ _ | exact Kd.V_nil _ _ _ _ _ | exact Kd.Q_nil _ _ _ _ _ | exact Kd.S_nil _ _ _ _ _, by repeat (first | (with_reducible first | exact HB.out | apply below_alloc | apply pw_below_drewN | apply below_drew1) | exact HB.out)⟩

end Go.Proofs.Ytppfdndnojbmjaa.X

/-! ## PLoop -/
/- Plain laws of loops of marks: both find the same sides of a loop, or tell the same fault. No condition but the lengths that fit in memory. -/
namespace Go.Proofs.Ytppfdndnojbmjaa.PLoop
open Go.RowKit Go.Proofs.YtppfdndnojbmjaaW.PrintWords Go.Proofs.Ytppfdndnojbmjaa.X Go.Proofs.Ytppfdndnojbmjaa.B Go.Proofs.Ytppfdndnojbmjaa.C Go.Proofs.Ytppfdndnojbmjaa.PLineOk Go.Proofs.Ytppfdndnojbmjaa.PSum Go.Proofs.Ytppfdndnojbmjaa.PHas

/-- What a line tells of the way from a to b. -/
def hit (x : M) (a b : Int) : Option (Int × Int) := if x.f0 = a ∧ x.f1 = b then some (x.f2, x.f3) else if x.f0 = b ∧ x.f1 = a then some (wrap64 (-x.f2), x.f3) else none
/-- What the first line between a and b tells. -/
def btw (ls : List M) (a b : Int) : Option (Int × Int) := ls.findSome? fun x => hit x a b
theorem btw_cons (x : M) (ls : List M) (a b : Int) : btw (x :: ls) a b = match hit x a b with | some r => some r | none => btw ls a b := by
  unfold btw
  rw [List.findSome?_cons]
  cases hit x a b <;> rfl
theorem implBtw_ev (ls : List M) (a b : Int) (hn : ls.length ≤ 9223372036854775807) : ∃ r : Int × Int × Int × Int × Bool, Ev (fun k => impl_lineBetween.f k ls a b) r ∧ (match btw ls a b with | some p => r.2.2.2.2 = true ∧ r.2.2.1 = p.1 ∧ r.2.2.2.1 = p.2 | none => r.2.2.2.2 = false) := by
  have key : ∀ (suf pre : List M), ls = pre ++ suf → ∃ r : Int × Int × Int × Int × Bool, Ev (fun k => impl_lineBetween.l0 k a b ls (ls.length : Int) (pre.length : Int)) r ∧ (match btw suf a b with | some p => r.2.2.2.2 = true ∧ r.2.2.1 = p.1 ∧ r.2.2.2.1 = p.2 | none => r.2.2.2.2 = false) := by
    intro suf
    induction suf with
    | nil =>
      intro pre hx
      have hl : ls.length = pre.length := by rw [hx]; simp
      refine ⟨(0, 0, 0, 0, false), Ev.up (g := fun k => impl_lineBetween.l0 k a b ls (ls.length : Int) (pre.length : Int)) (Ev.const fun k => ?_), rfl⟩
      simp only [impl_lineBetween.l0]
      rw [if_neg (by omega)]
    | cons x suf ih =>
      intro pre hx
      have hlen : ls.length = pre.length + (suf.length + 1) := by rw [hx]; simp
      have hi : pre.length < ls.length := by omega
      have hxi : ls[pre.length] = x := by simp [hx]
      have hj : ∀ (c : Bool) r, (c = (decide (x.f0 = a) && decide (x.f1 = b))) → Ev (fun k => impl_lineBetween.j1 k a b ls (ls.length : Int) (pre.length : Int) c x.f0 x.f1 x.f2 x.f3) r → Ev (fun k => impl_lineBetween.l0 k a b ls (ls.length : Int) (pre.length : Int)) r := by
        intro c r hc he
        refine Ev.up (g := fun k => impl_lineBetween.l0 k a b ls (ls.length : Int) (pre.length : Int)) ?_
        simp only [impl_lineBetween.l0, rdM hi, hxi]
        refine Ev.ifPos (by omega) (Ev.ifPos (by omega) (Ev.ifPos (by omega) (Ev.ite (fun h => ?_) (fun h => ?_))))
        · have : (x.f1 == b) = c := by rw [hc, decide_eq_true h, Bool.true_and]; rfl
          rw [this]; exact he
        · have : false = c := by rw [hc, decide_eq_false h, Bool.false_and]
          rw [this]; exact he
      rw [btw_cons]
      unfold hit
      by_cases h1 : x.f0 = a ∧ x.f1 = b
      · rw [if_pos h1]
        refine ⟨(x.f0, x.f1, x.f2, x.f3, true), hj true _ (by rw [decide_eq_true h1.1, decide_eq_true h1.2]; rfl) (Ev.up (g := fun k => impl_lineBetween.j1 k a b ls (ls.length : Int) (pre.length : Int) true x.f0 x.f1 x.f2 x.f3) (Ev.const fun k => ?_)), rfl, rfl, rfl⟩
        simp only [impl_lineBetween.j1]
        rw [if_pos trivial]
      · rw [if_neg h1]
        have hc : false = (decide (x.f0 = a) && decide (x.f1 = b)) := by
          by_cases q : x.f0 = a
          · have : ¬ x.f1 = b := fun e => h1 ⟨q, e⟩
            simp [this]
          · simp [q]
        by_cases h2 : x.f0 = b ∧ x.f1 = a
        · rw [if_pos h2]
          refine ⟨(x.f1, x.f0, wrap64 (-x.f2), x.f3, true), hj false _ hc (Ev.up (g := fun k => impl_lineBetween.j1 k a b ls (ls.length : Int) (pre.length : Int) false x.f0 x.f1 x.f2 x.f3) (Ev.const fun k => ?_)), rfl, rfl, rfl⟩
          simp only [impl_lineBetween.j1, impl_Line_reverse.f, Option.bind_some]
          rw [if_neg (by simp), if_pos h2.1, if_pos h2.2]
        · rw [if_neg h2]
          obtain ⟨r, hr, hr'⟩ := ih (pre ++ [x]) (by rw [hx]; simp)
          refine ⟨r, hj false _ hc (Ev.up (g := fun k => impl_lineBetween.j1 k a b ls (ls.length : Int) (pre.length : Int) false x.f0 x.f1 x.f2 x.f3) ?_), hr'⟩
          have e1 : ((pre ++ [x]).length : Int) = wrap64 ((pre.length : Int) + 1) := by rw [wnext hi (by omega)]; simp
          rw [e1] at hr
          simp only [impl_lineBetween.j1]
          refine Ev.ifNeg (by simp) (Ev.ite (fun q => Ev.ite (fun q' => absurd ⟨q, q'⟩ h2) (fun _ => hr)) (fun _ => hr))
  exact key ls [] rfl

/-- The way from mark i of a loop to the next one. -/
def next (xs : List Int) (i : Int) : Int := rd xs (Int.tmod (wrap64 (i + 1)) (xs.length : Int))
def side (ls : List M) (xs : List Int) (i : Nat) : Option (Int × Int) := btw ls (rd xs (i : Int)) (next xs (i : Int))
def hs (ls : List M) (xs : List Int) (i : Nat) : List Int := (List.range i).map fun j => ((side ls xs j).getD (0, 0)).1
def ms (ls : List M) (xs : List Int) (i : Nat) : List Int := (List.range i).map fun j => ((side ls xs j).getD (0, 0)).2
theorem hs_len (ls : List M) (xs : List Int) (i : Nat) : (hs ls xs i).length = i := by simp [hs]
theorem ms_len (ls : List M) (xs : List Int) (i : Nat) : (ms ls xs i).length = i := by simp [ms]
theorem hs_succ {ls : List M} {xs : List Int} {i : Nat} {p : Int × Int} (h : side ls xs i = some p) : hs ls xs (i + 1) = hs ls xs i ++ [p.1] := by
  simp [hs, List.range_succ, h]
theorem ms_succ {ls : List M} {xs : List Int} {i : Nat} {p : Int × Int} (h : side ls xs i = some p) : ms ls xs (i + 1) = ms ls xs i ++ [p.2] := by
  simp [ms, List.range_succ, h]
def sided (ls : List M) (xs : List Int) (j : Nat) : Bool := (side ls xs j).isSome
theorem tmod_lt {i n : Nat} (h : i < n) (hn : (n : Int) ≤ 9223372036854775807) : 0 ≤ Int.tmod (wrap64 ((i : Int) + 1)) (n : Int) ∧ Int.tmod (wrap64 ((i : Int) + 1)) (n : Int) < (n : Int) := by
  rw [wnext h hn]
  have h0 : 0 ≤ ((i + 1 : Nat) : Int) := by omega
  exact ⟨Int.tmod_nonneg _ h0, Int.tmod_lt_of_pos _ (by omega)⟩

/-- What both find of a loop's sides. -/
def sidesOf {ρ : Type} (ls : List M) (xs : List Int) (i : Nat) (ok : List Int → List Int → ρ) (no : ρ) : ρ := if allFrom (sided ls xs) i xs.length = true then ok (hs ls xs xs.length) (ms ls xs xs.length) else no
theorem sidesOf_end {ρ : Type} (ls : List M) (xs : List Int) (ok : List Int → List Int → ρ) (no : ρ) : sidesOf ls xs xs.length ok no = ok (hs ls xs xs.length) (ms ls xs xs.length) := by
  unfold sidesOf; rw [allFrom_end, if_pos rfl]
theorem sidesOf_step {ρ : Type} (ls : List M) (xs : List Int) {i : Nat} (h : i < xs.length) (ok : List Int → List Int → ρ) (no : ρ) : sidesOf ls xs i ok no = match side ls xs i with | some _ => sidesOf ls xs (i + 1) ok no | none => no := by
  unfold sidesOf
  rw [allFrom_step _ h]
  unfold sided
  cases side ls xs i <;> simp

theorem implSides_ev (ls : List M) (xs : List Int) (hn : ls.length ≤ 9223372036854775807) (hx : xs.length ≤ 1048576) : Ev (fun k => impl_loopOf.l1 k ls xs [] [] xs (xs.length : Int) 0) (sidesOf ls xs 0 (fun a b => (a, b, (0 : Int))) ([], [], 3)) := by
  have h := scanI (fun k i => impl_loopOf.l1 k ls xs (hs ls xs i) (ms ls xs i) xs (xs.length : Int) (i : Int)) xs.length (fun i => sidesOf ls xs i (fun a b => (a, b, (0 : Int))) ([], [], 3)) (Ev.up (g := fun k => impl_loopOf.l1 k ls xs (hs ls xs xs.length) (ms ls xs xs.length) xs (xs.length : Int) (xs.length : Int)) (Ev.const fun k => by
      simp only [impl_loopOf.l1]
      rw [if_neg (by omega), sidesOf_end])) (by
    intro i hi ih
    obtain ⟨t0, t1⟩ := tmod_lt hi (by omega)
    obtain ⟨r, hr, hr'⟩ := implBtw_ev ls (rd xs (i : Int)) (next xs (i : Int)) hn
    rw [sidesOf_step ls xs hi]
    refine Ev.up (g := fun k => impl_loopOf.l1 k ls xs (hs ls xs i) (ms ls xs i) xs (xs.length : Int) (i : Int)) ?_
    simp only [impl_loopOf.l1, Option.bind_some]
    refine Ev.ifPos (by omega) (Ev.ifPos (by omega) (Ev.ifPos (by omega) (Ev.ifNeg (by omega) (Ev.ifPos t0 (Ev.ifPos t1 (Ev.bindE hr ?_))))))
    rw [show btw ls (rd xs (i : Int)) (next xs (i : Int)) = side ls xs i from rfl] at hr'
    cases hsd : side ls xs i with
    | none =>
      rw [hsd] at hr'
      exact Ev.ifNeg (by rw [hr']; simp) (Ev.const fun _ => rfl)
    | some p =>
      rw [hsd] at hr'
      obtain ⟨e1, e2, e3⟩ := hr'
      rw [hs_succ hsd, ms_succ hsd] at ih
      refine Ev.ifPos e1 (Ev.ifPos (by simp [hs_len]; omega) (Ev.ifPos (by simp [ms_len]; omega) ?_))
      rw [e2, e3, wnext hi (by omega)]
      exact ih) 0 (by omega)
  exact h

theorem specSide_ev {ρ : Type} (ls : List M) (xs h m : List Int) (i : Int) (a b : Int) (hn : ls.length ≤ 9223372036854775807) (hh : h.length < 1048576) (hm : m.length < 1048576) (R : List Int × List Int × Bool)
    (hok : ∀ p, btw ls a b = some p → Ev (fun k => spec_l26Sides.l0 k ls xs (h ++ [p.1]) (m ++ [p.2]) (wrap64 (i + 1))) R) (hno : btw ls a b = none → R = ([], [], false)) : Ev (fun k => spec_l26Sides.l1 k ls xs h m i a b false 0) R := by
  have fin : ∀ (h m : List Int) (j : Nat), j ≤ ls.length → Ev (fun k => spec_l26Sides.l0 k ls xs h m (wrap64 (i + 1))) R → Ev (fun k => spec_l26Sides.l1 k ls xs h m i a b true (j : Int)) R := by
    intro h m j hj he
    have hj2 : Ev (fun k => spec_l26Sides.j2 k ls xs h m i a b true (j : Int) false) R := by
      refine Ev.up (g := fun k => spec_l26Sides.j2 k ls xs h m i a b true (j : Int) false) ?_
      simp only [spec_l26Sides.j2]
      exact Ev.ifNeg (by simp) (Ev.ifPos trivial he)
    refine Ev.up (g := fun k => spec_l26Sides.l1 k ls xs h m i a b true (j : Int)) ?_
    simp only [spec_l26Sides.l1]
    exact Ev.ite (fun _ => hj2) (fun _ => hj2)
  have key : ∀ (suf pre : List M), ls = pre ++ suf → btw suf a b = btw ls a b → Ev (fun k => spec_l26Sides.l1 k ls xs h m i a b false (pre.length : Int)) R := by
    intro suf
    induction suf with
    | nil =>
      intro pre hx hb
      have hl : ls.length = pre.length := by rw [hx]; simp
      refine Ev.up (g := fun k => spec_l26Sides.l1 k ls xs h m i a b false (pre.length : Int)) ?_
      simp only [spec_l26Sides.l1]
      refine Ev.ifNeg (by omega) (Ev.up (g := fun k => spec_l26Sides.j2 k ls xs h m i a b false (pre.length : Int) false) ?_)
      simp only [spec_l26Sides.j2]
      rw [hno (by rw [← hb]; rfl)]
      exact Ev.ifNeg (by simp) (Ev.ifNeg (by simp) (Ev.const fun _ => rfl))
    | cons x suf ih =>
      intro pre hx hb
      have hlen : ls.length = pre.length + (suf.length + 1) := by rw [hx]; simp
      have hi : pre.length < ls.length := by omega
      have hxi : ls[pre.length] = x := by simp [hx]
      have e1 : wrap64 ((pre.length : Int) + 1) = ((pre.length + 1 : Nat) : Int) := wnext hi (by omega)
      rw [btw_cons] at hb
      have J4 : ∀ c : Bool, c = (decide (x.f0 = b) && decide (x.f1 = a)) → ¬ (x.f0 = a ∧ x.f1 = b) → Ev (fun k => spec_l26Sides.j4 k ls xs h m i a b false (pre.length : Int) c x.f0 x.f1 x.f2 x.f3) R := by
        intro c hc h1
        refine Ev.up (g := fun k => spec_l26Sides.j4 k ls xs h m i a b false (pre.length : Int) c x.f0 x.f1 x.f2 x.f3) ?_
        simp only [spec_l26Sides.j4, e1]
        by_cases h2 : x.f0 = b ∧ x.f1 = a
        · rw [hit, if_neg h1, if_pos h2] at hb
          rw [hc, decide_eq_true h2.1, decide_eq_true h2.2]
          refine Ev.ifPos rfl (Ev.ifPos (by omega) (Ev.ifPos (by omega) (fin _ _ _ (by omega) (hok (wrap64 (-x.f2), x.f3) hb.symm))))
        · have hcf : c = false := by
            rw [hc]
            by_cases q : x.f0 = b
            · have : ¬ x.f1 = a := fun e => h2 ⟨q, e⟩
              simp [this]
            · simp [q]
          rw [hit, if_neg h1, if_neg h2] at hb
          have hr := ih (pre ++ [x]) (by rw [hx]; simp) hb
          rw [show ((pre ++ [x]).length : Int) = ((pre.length + 1 : Nat) : Int) by simp] at hr
          rw [hcf]
          exact Ev.ifNeg (by simp) (Ev.ifNeg (by simp) hr)
      have J3 : ∀ c : Bool, c = (decide (x.f0 = a) && decide (x.f1 = b)) → Ev (fun k => spec_l26Sides.j3 k ls xs h m i a b false (pre.length : Int) c x.f0 x.f1 x.f2 x.f3) R := by
        intro c hc
        refine Ev.up (g := fun k => spec_l26Sides.j3 k ls xs h m i a b false (pre.length : Int) c x.f0 x.f1 x.f2 x.f3) ?_
        simp only [spec_l26Sides.j3, e1]
        by_cases h1 : x.f0 = a ∧ x.f1 = b
        · rw [hit, if_pos h1] at hb
          rw [hc, decide_eq_true h1.1, decide_eq_true h1.2]
          refine Ev.ifPos rfl (Ev.ifPos (by omega) (Ev.ifPos (by omega) (fin _ _ _ (by omega) (hok (x.f2, x.f3) hb.symm))))
        · have hcf : c = false := by
            rw [hc]
            by_cases q : x.f0 = a
            · have : ¬ x.f1 = b := fun e => h1 ⟨q, e⟩
              simp [this]
            · simp [q]
          rw [hcf]
          refine Ev.ifNeg (by simp) (Ev.ite (fun q => J4 _ ?_ h1) (fun q => J4 _ ?_ h1))
          · rw [decide_eq_true q, Bool.true_and]; rfl
          · rw [decide_eq_false q, Bool.false_and]
      refine Ev.up (g := fun k => spec_l26Sides.l1 k ls xs h m i a b false (pre.length : Int)) ?_
      simp only [spec_l26Sides.l1]
      refine Ev.ifPos (by omega) (Ev.up (g := fun k => spec_l26Sides.j2 k ls xs h m i a b false (pre.length : Int) true) ?_)
      simp only [spec_l26Sides.j2, rdM hi, hxi]
      refine Ev.ifPos trivial (Ev.ifPos (by omega) (Ev.ifPos (by omega) (Ev.ite (fun q => J3 _ ?_) (fun q => J3 _ ?_))))
      · rw [decide_eq_true q, Bool.true_and]; rfl
      · rw [decide_eq_false q, Bool.false_and]
  exact key ls [] rfl rfl
theorem specSides_ev (ls : List M) (xs : List Int) (hn : ls.length ≤ 9223372036854775807) (hx : xs.length ≤ 1048576) : Ev (fun k => spec_l26Sides.f k ls xs) (sidesOf ls xs 0 (fun a b => (a, b, true)) ([], [], false)) := by
  have h := scanI (fun k i => spec_l26Sides.l0 k ls xs (hs ls xs i) (ms ls xs i) (i : Int)) xs.length (fun i => sidesOf ls xs i (fun a b => (a, b, true)) ([], [], false)) (Ev.up (g := fun k => spec_l26Sides.l0 k ls xs (hs ls xs xs.length) (ms ls xs xs.length) (xs.length : Int)) (Ev.const fun k => by
      simp only [spec_l26Sides.l0]
      rw [if_neg (by omega), sidesOf_end])) (by
    intro i hi ih
    obtain ⟨t0, t1⟩ := tmod_lt hi (by omega)
    rw [sidesOf_step ls xs hi]
    refine Ev.up (g := fun k => spec_l26Sides.l0 k ls xs (hs ls xs i) (ms ls xs i) (i : Int)) ?_
    simp only [spec_l26Sides.l0]
    refine Ev.ifPos (by omega) (Ev.ifPos (by omega) (Ev.ifNeg (by omega) (Ev.ifPos t0 (Ev.ifPos t1 ?_))))
    refine specSide_ev (ρ := Unit) ls xs _ _ _ _ _ hn (by rw [hs_len]; omega) (by rw [ms_len]; omega) _ ?_ ?_
    · intro p hp
      have hsd : side ls xs i = some p := hp
      rw [hs_succ hsd, ms_succ hsd] at ih
      rw [hsd, wnext hi (by omega)]
      exact ih
    · intro hp
      have hsd : side ls xs i = none := hp
      rw [hsd]) 0 (by omega)
  exact h

/-- Marks that make a loop: each is one of the marks, and comes once. -/
def markOk (m : Int) (xs : List Int) (i : Nat) : Bool := decide (0 ≤ rd xs (i : Int) ∧ rd xs (i : Int) ≤ m - 1) && !decide (rd xs (i : Int) ∈ xs.take i)
theorem specLoop_ev (m : Int) (xs : List Int) (hm : 2 ≤ m ∧ m ≤ 10) (hx : xs.length ≤ 1048576) : Ev (fun k => spec_l26Loop.f k m xs) (allFrom (markOk m xs) 0 xs.length && decide ((xs.length : Int) ≥ 2)) := by
  have h := scanI (fun k i => spec_l26Loop.l0 k m xs (i : Int)) xs.length (fun i => allFrom (markOk m xs) i xs.length && decide ((xs.length : Int) ≥ 2)) (Ev.up (g := fun k => spec_l26Loop.l0 k m xs (xs.length : Int)) (Ev.const fun k => by
      simp only [spec_l26Loop.l0]
      rw [if_neg (by omega), allFrom_end, Bool.true_and])) (by
    intro i hi ih
    rw [allFrom_step _ hi]
    refine Ev.up (g := fun k => spec_l26Loop.l0 k m xs (i : Int)) ?_
    simp only [spec_l26Loop.l0, specIn_eq, Option.bind_some, w64 (x := m - 1) (by omega) (by omega), Int.toNat_natCast]
    refine Ev.ifPos (by omega) (Ev.ifPos (by omega) (Ev.ite (fun c => ?_) (fun c => ?_)))
    · refine Ev.ifPos (by omega) (Ev.bindE (specHas_ev _ _ (by rw [List.length_take]; omega)) (Ev.ite (fun d => ?_) (fun d => ?_)))
      · unfold markOk; rw [d]; simpa using Ev.const (fun _ => rfl)
      · have : markOk m xs i = true := by unfold markOk; rw [c, Bool.eq_false_iff.2 d]; rfl
        rw [this, Bool.true_and, wnext hi (by omega)]
        exact ih
    · unfold markOk; rw [Bool.eq_false_iff.2 c]; simpa using Ev.const (fun _ => rfl)) 0 (by omega)
  exact h
theorem implLoop_ev (m : Int) (ls : List M) (xs : List Int) (hm : 2 ≤ m ∧ m ≤ 10) (hn : ls.length ≤ 9223372036854775807) (hx : xs.length ≤ 1048576) : Ev (fun k => impl_loopOf.l0 k m ls xs xs (xs.length : Int) 0) (if allFrom (markOk m xs) 0 xs.length = true then (if 2 ≤ (xs.length : Int) ∧ (xs.length : Int) ≤ 10 then sidesOf ls xs 0 (fun a b => (a, b, (0 : Int))) ([], [], 3) else ([], [], 2)) else ([], [], 2)) := by
  have h := scanI (fun k i => impl_loopOf.l0 k m ls xs xs (xs.length : Int) (i : Int)) xs.length (fun i => if allFrom (markOk m xs) i xs.length = true then (if 2 ≤ (xs.length : Int) ∧ (xs.length : Int) ≤ 10 then sidesOf ls xs 0 (fun a b => (a, b, (0 : Int))) ([], [], 3) else ([], [], 2)) else ([], [], 2)) (Ev.up (g := fun k => impl_loopOf.l0 k m ls xs xs (xs.length : Int) (xs.length : Int)) (by
      simp only [impl_loopOf.l0, impl_size_int64.f, implIn_eq, Option.bind_some]
      refine Ev.ifNeg (by omega) ?_
      rw [allFrom_end, if_pos rfl]
      refine Ev.ite (fun c => ?_) (fun c => ?_)
      · rw [if_pos (by simpa using c)]; exact implSides_ev ls xs hn hx
      · rw [if_neg (by simpa using c)]; exact Ev.const fun _ => rfl)) (by
    intro i hi ih
    rw [allFrom_step _ hi]
    refine Ev.up (g := fun k => impl_loopOf.l0 k m ls xs xs (xs.length : Int) (i : Int)) ?_
    simp only [impl_loopOf.l0, implIn_eq, Option.bind_some, w64 (x := m - 1) (by omega) (by omega), Int.toNat_natCast]
    refine Ev.ifPos (by omega) (Ev.ifPos (by omega) (Ev.ifPos (by omega) (Ev.ite (fun c => ?_) (fun c => ?_))))
    · refine Ev.ifPos (by omega) (Ev.bindE (implHas_ev _ _ (by rw [List.length_take]; omega)) (Ev.ite (fun d => ?_) (fun d => ?_)))
      · have : markOk m xs i = false := by unfold markOk; rw [d]; simp
        rw [this, Bool.false_and, if_neg (by simp)]; exact Ev.const fun _ => rfl
      · have : markOk m xs i = true := by unfold markOk; rw [c, Bool.eq_false_iff.2 d]; rfl
        rw [this, Bool.true_and, wnext hi (by omega)]
        exact ih
    · have : markOk m xs i = false := by unfold markOk; rw [Bool.eq_false_iff.2 c]; rfl
      rw [this, Bool.false_and, if_neg (by simp)]; exact Ev.const fun _ => rfl) 0 (by omega)
  exact h
/-- Marks that come once are no more than there are marks. -/
theorem few (m : Nat) : ∀ xs : List Int, xs.Nodup → (∀ x ∈ xs, 0 ≤ x ∧ x ≤ (m : Int) - 1) → xs.length ≤ m := by
  induction m with
  | zero =>
    intro xs _ h
    cases xs with
    | nil => simp
    | cons x xs => have := h x (by simp); omega
  | succ m ih =>
    intro xs hd h
    have h1 := ih (xs.erase (m : Int)) (hd.erase _) (by
      intro x hx
      have hx' := (List.Nodup.mem_erase_iff hd).1 hx
      have := h x hx'.2
      have := hx'.1
      omega)
    have h2 := List.length_erase (a := (m : Int)) (l := xs)
    split at h2 <;> omega
theorem loop_few (m : Int) (xs : List Int) (hm : 2 ≤ m ∧ m ≤ 10) (h : allFrom (markOk m xs) 0 xs.length = true) : xs.length ≤ 10 := by
  rw [allFrom_iff] at h
  have hh : ∀ (j : Nat) (hj : j < xs.length), (0 ≤ xs[j] ∧ xs[j] ≤ m - 1) ∧ ¬ xs[j] ∈ xs.take j := by
    intro j hj
    have := h j (by omega) hj
    unfold markOk at this
    rw [rd_at hj] at this
    simpa using this
  have hd : xs.Nodup := by
    rw [List.Nodup, List.pairwise_iff_getElem]
    intro i j hi hj hij e
    refine (hh j hj).2 ?_
    rw [← e, List.mem_take_iff_getElem]
    exact ⟨i, by omega, rfl⟩
  have := few m.toNat xs hd (by
    intro x hx
    obtain ⟨j, hj, rfl⟩ := List.getElem_of_mem hx
    have := (hh j hj).1
    omega)
  omega
/-- What both tell of a loop: the heights and metres of its sides, and a code. -/
def loopOf (m : Int) (ls : List M) (xs : List Int) : List Int × List Int × Int :=
  if okLines m ls = true then (if (allFrom (markOk m xs) 0 xs.length && decide ((xs.length : Int) ≥ 2)) = true then sidesOf ls xs 0 (fun a b => (a, b, (0 : Int))) ([], [], 3) else ([], [], 2)) else ([], [], 1)
theorem okLines_marks {m : Int} {ls : List M} (h : okLines m ls = true) : 2 ≤ m ∧ m ≤ 10 := by
  unfold okLines at h
  simp only [Bool.and_eq_true, decide_eq_true_eq] at h
  exact h.1
theorem specCode_ev (m : Int) (ls : List M) (xs : List Int) (hn : ls.length ≤ 9223372036854775807) (hx : xs.length ≤ 1048576) : Ev (fun k => spec_l26Code.f k m ls xs) (loopOf m ls xs) := by
  unfold spec_l26Code.f loopOf
  refine Ev.bindE (specOk_ev m ls hn) (Ev.ite (fun c => ?_) (fun c => ?_))
  · rw [if_pos c]
    refine Ev.bindE (specLoop_ev m xs (okLines_marks c) hx) (Ev.ite (fun d => ?_) (fun d => ?_))
    · rw [if_pos d]
      refine Ev.bindE (specSides_ev ls xs hn hx) ?_
      unfold sidesOf
      by_cases e : allFrom (sided ls xs) 0 xs.length = true
      · simp only [if_pos e]; exact Ev.ifPos trivial (Ev.const fun _ => rfl)
      · simp only [if_neg e]; exact Ev.ifNeg (by simp) (Ev.const fun _ => rfl)
    · rw [if_neg d]; exact Ev.const fun _ => rfl
  · rw [if_neg c]; exact Ev.const fun _ => rfl
theorem implCode_ev (m : Int) (ls : List M) (xs : List Int) (hn : ls.length ≤ 9223372036854775807) (hx : xs.length ≤ 1048576) : Ev (fun k => impl_loopOf.f k m ls xs) (loopOf m ls xs) := by
  unfold impl_loopOf.f loopOf
  refine Ev.bindE (implOk_ev m ls hn) (Ev.ite (fun c => ?_) (fun c => ?_))
  · rw [if_pos c]
    have hm := okLines_marks c
    refine Ev.ofEq (EvEq.now fun _ => rfl) ?_
    have h := implLoop_ev m ls xs hm hn hx
    by_cases d : allFrom (markOk m xs) 0 xs.length = true
    · have hf := loop_few m xs hm d
      rw [d, Bool.true_and]
      rw [if_pos d] at h
      by_cases e : (xs.length : Int) ≥ 2
      · rw [if_pos ⟨e, by omega⟩] at h; rw [if_pos (by simpa using e)]; exact h
      · rw [if_neg (by omega)] at h; rw [if_neg (by simpa using e)]; exact h
    · rw [if_neg d] at h
      rw [if_neg (by simp [d])]
      exact h
  · rw [if_neg c]; exact Ev.const fun _ => rfl
end Go.Proofs.Ytppfdndnojbmjaa.PLoop

/-! ## PCloseLoop -/
/- Plain laws of impl.CloseLoop and impl.ClosingOf: what they answer, said plainly. No condition but lengths that fit. -/
namespace Go.Proofs.Ytppfdndnojbmjaa.PCloseLoop
open Go.RowKit Go.Proofs.YtppfdndnojbmjaaW.PrintWords Go.Proofs.Ytppfdndnojbmjaa.X Go.Proofs.Ytppfdndnojbmjaa.B Go.Proofs.Ytppfdndnojbmjaa.PLineOk Go.Proofs.Ytppfdndnojbmjaa.PSum Go.Proofs.Ytppfdndnojbmjaa.PLoop Go.Proofs.Ytppfdndnojbmjaa.PShare Go.Proofs.Ytppfdndnojbmjaa.PClosed
theorem hit_ok {x : M} {m a b : Int} {p : Int × Int} (h : okLine x m = true) (e : hit x a b = some p) : (-100000 ≤ p.1 ∧ p.1 ≤ 100000) ∧ 1 ≤ p.2 ∧ p.2 ≤ 10000 := by
  simp only [okLine, decide_eq_true_eq] at h
  unfold hit at e
  split at e
  · injection e with e; subst e; simp only; omega
  · split at e
    · injection e with e; subst e
      simp only
      rw [w64 (by omega) (by omega)]
      omega
    · cases e
theorem btw_ok {ls : List M} {m a b : Int} {p : Int × Int} (h : okLines m ls = true) (e : btw ls a b = some p) : (-100000 ≤ p.1 ∧ p.1 ≤ 100000) ∧ 1 ≤ p.2 ∧ p.2 ≤ 10000 := by
  obtain ⟨x, hx, hp⟩ := List.exists_of_findSome?_eq_some e
  obtain ⟨i, hi, rfl⟩ := List.mem_iff_getElem.1 hx
  simp only [okLines, Bool.and_eq_true, decide_eq_true_eq] at h
  have := (allFrom_iff _ _ _).1 h.2.1 i (by omega) hi
  rw [getD_at hi] at this
  exact hit_ok this hp
theorem loop_ok {m : Int} {ls : List M} {xs : List Int} (h : (loopOf m ls xs).2.2 = 0) : (loopOf m ls xs).1.length = (loopOf m ls xs).2.1.length ∧ (1 ≤ (loopOf m ls xs).2.1.length ∧ (loopOf m ls xs).2.1.length ≤ 20) ∧ (∀ i, i < (loopOf m ls xs).2.1.length → 1 ≤ rd (loopOf m ls xs).2.1 (i : Int) ∧ rd (loopOf m ls xs).2.1 (i : Int) ≤ 10000) ∧ ∀ i, i < (loopOf m ls xs).1.length → -100000 ≤ rd (loopOf m ls xs).1 (i : Int) ∧ rd (loopOf m ls xs).1 (i : Int) ≤ 100000 := by
  unfold loopOf sidesOf at *
  by_cases a : okLines m ls = true
  · rw [if_pos a] at h ⊢
    by_cases b : (allFrom (markOk m xs) 0 xs.length && decide ((xs.length : Int) ≥ 2)) = true
    · rw [if_pos b] at h ⊢
      by_cases c : allFrom (sided ls xs) 0 xs.length = true
      · rw [if_pos c] at h ⊢
        simp only [Bool.and_eq_true, decide_eq_true_eq] at b
        have hf := loop_few m xs (okLines_marks a) b.1
        have side_ok : ∀ j, j < xs.length → (-100000 ≤ ((side ls xs j).getD (0, 0)).1 ∧ ((side ls xs j).getD (0, 0)).1 ≤ 100000) ∧ 1 ≤ ((side ls xs j).getD (0, 0)).2 ∧ ((side ls xs j).getD (0, 0)).2 ≤ 10000 := by
          intro j hj
          have hs := (allFrom_iff _ _ _).1 c j (by omega) hj
          unfold sided at hs
          obtain ⟨p, hp⟩ := Option.isSome_iff_exists.1 hs
          rw [hp]
          exact btw_ok a hp
        simp only [hs_len, ms_len]
        refine ⟨trivial, by omega, fun i hi => ?_, fun i hi => ?_⟩
        · rw [rd_at (by rw [ms_len]; exact hi)]
          simp only [ms, List.getElem_map, List.getElem_range]
          exact (side_ok i hi).2
        · rw [rd_at (by rw [hs_len]; exact hi)]
          simp only [hs, List.getElem_map, List.getElem_range]
          exact (side_ok i hi).1
      · rw [if_neg c] at h; exact absurd h (by decide)
    · rw [if_neg b] at h; exact absurd h (by decide)
  · rw [if_neg a] at h; exact absurd h (by decide)
theorem sum_in {rs : List Int} (hn : rs.length ≤ 20) (h : ∀ i, i < rs.length → -100000 ≤ rd rs (i : Int) ∧ rd rs (i : Int) ≤ 100000) : -2000000 ≤ sum64 0 rs ∧ sum64 0 rs ≤ 2000000 := by
  have hb : ∀ i, i ≤ rs.length → -(100000 * (i : Int)) ≤ psum (fun j => rd rs (j : Int)) i ∧ psum (fun j => rd rs (j : Int)) i ≤ 100000 * i := by
    intro i
    induction i with
    | zero => intro _; simp [psum]
    | succ i ih =>
      intro hi
      have h1 := ih (by omega)
      have h2 := h i (by omega)
      simp only [psum]
      push_cast
      omega
  rw [sum64_psum rs fun i hi => by have := hb i hi; omega]
  have := hb rs.length (Nat.le_refl _)
  omega
def closing (m : Int) (ls : List M) (xs : List Int) : Int × Int := (sum64 0 (loopOf m ls xs).1, (loopOf m ls xs).2.2)
theorem loopOf_fault (m : Int) (ls : List M) (xs : List Int) (h : ¬ (loopOf m ls xs).2.2 = 0) : (loopOf m ls xs).1 = [] := by
  unfold loopOf sidesOf at *
  by_cases a : okLines m ls = true
  · rw [if_pos a] at h ⊢
    by_cases b : (allFrom (markOk m xs) 0 xs.length && decide ((xs.length : Int) ≥ 2)) = true
    · rw [if_pos b] at h ⊢
      by_cases c : allFrom (sided ls xs) 0 xs.length = true
      · rw [if_pos c] at h; exact absurd rfl h
      · rw [if_neg c]
    · rw [if_neg b]
  · rw [if_neg a]
theorem loopOf_len (m : Int) (ls : List M) (xs : List Int) (hx : xs.length ≤ 1048576) : (loopOf m ls xs).1.length ≤ 9223372036854775807 := by
  unfold loopOf sidesOf
  repeat' split
  all_goals simp [hs_len]
  omega
theorem implClosing_ev (m : Int) (ls : List M) (xs : List Int) (hn : ls.length ≤ 9223372036854775807) (hx : xs.length ≤ 1048576) : Ev (fun k => impl_ClosingOf.f k m ls xs) (closing m ls xs) := by
  unfold impl_ClosingOf.f closing
  exact Ev.bindE (implCode_ev m ls xs hn hx) (Ev.bindE (implSum_ev _ (loopOf_len m ls xs hx)) (Ev.const fun _ => rfl))
def closedLoop (m : Int) (ls : List M) (xs : List Int) : List Int × Int := if (loopOf m ls xs).2.2 = 0 then (closed (loopOf m ls xs).1 (loopOf m ls xs).2.1 (sum64 0 (loopOf m ls xs).1), 0) else ([], (loopOf m ls xs).2.2)
theorem implClosedLoop_ev (m : Int) (ls : List M) (xs : List Int) (hn : ls.length ≤ 9223372036854775807) (hx : xs.length ≤ 1048576) : Ev (fun k => impl_CloseLoop.f k m ls xs) (closedLoop m ls xs) := by
  unfold impl_CloseLoop.f closedLoop
  refine Ev.bindE (implCode_ev m ls xs hn hx) (Ev.ite (fun c => ?_) (fun c => ?_))
  · obtain ⟨e, ⟨l1, l2⟩, hw, hr⟩ := loop_ok c
    have hs := sum_in (by omega) hr
    rw [if_pos c]
    exact Ev.bindE (implSum_ev _ (by omega)) (Ev.bindE (implClosed_ev e l1 l2 hw (by omega)) (Ev.const fun _ => rfl))
  · rw [if_neg c]; exact Ev.const fun _ => rfl
theorem closedLoop_len (m : Int) (ls : List M) (xs : List Int) : (closedLoop m ls xs).1.length ≤ 1048576 := by
  unfold closedLoop
  split
  · rename_i c
    obtain ⟨e, ⟨l1, l2⟩, _, _⟩ := loop_ok c
    rw [closed_len]; omega
  · simp
end Go.Proofs.Ytppfdndnojbmjaa.PCloseLoop

/-! ## PSource -/
/- Plain laws of the source of draws: each pick is a number below its bound, whatever the bytes are. For sources that have been asked fewer than a million times. -/
namespace Go.Proofs.Ytppfdndnojbmjaa.PSource
open Go.RowKit Go.Proofs.YtppfdndnojbmjaaW.PrintWords Go.Proofs.Ytppfdndnojbmjaa.X Go.Proofs.Ytppfdndnojbmjaa.B

theorem u64_range (n : Int) : 0 ≤ IntKind.u64.wrap n ∧ IntKind.u64.wrap n < 18446744073709551616 := by
  simp [IntKind.wrap, IntKind.bits, IntKind.signed]
  omega
theorem byte_of (n : Int) : 0 ≤ wrap64 (Go.bits .and .u64 (IntKind.u64.wrap n / 1099511627776) 255) ∧ wrap64 (Go.bits .and .u64 (IntKind.u64.wrap n / 1099511627776) 255) ≤ 255 := by
  have hr := u64_range n
  have h := Go.bits_mask .u64 24 (by decide) (fun n h h' => by simp [IntKind.wrap, IntKind.bits, IntKind.signed] at h' ⊢; omega) 8 (by decide) (IntKind.u64.wrap n / 1099511627776) (by omega) (by simp; omega)
  have e : Go.bits .and .u64 (IntKind.u64.wrap n / 1099511627776) 255 = (IntKind.u64.wrap n / 1099511627776) % 256 := by simpa using h
  rw [e, w64 (by omega) (by omega)]
  omega
/-- A source that gives bytes, and has not been asked too often. -/
def Src (code : List Int) (at_ : Int) : Prop := (∀ x ∈ code, 0 ≤ x ∧ x ≤ 255) ∧ 0 ≤ at_
theorem next_eq {code : List Int} {at_ seed : Int} (h : Src code at_) (hb : at_ ≤ 1000000000) : ∃ b s', spec_l00Src_next.f code at_ seed = some (b, at_ + 1, s') ∧ 0 ≤ b ∧ b ≤ 255 := by
  obtain ⟨hc, h0⟩ := h
  unfold spec_l00Src_next.f
  rw [w64 (x := at_ + 1) (by omega) (by omega)]
  by_cases h1 : at_ < (code.length : Int)
  · have hx : 0 ≤ rd code at_ ∧ rd code at_ ≤ 255 := by
      obtain ⟨i, rfl⟩ : ∃ i : Nat, at_ = (i : Int) := ⟨at_.toNat, by omega⟩
      rw [rd_at (by omega)]
      exact hc _ (List.getElem_mem _)
    rw [if_pos h1, if_pos h0, if_pos (by omega)]
    refine ⟨_, _, rfl, ?_⟩
    rw [w64 (by omega) (by omega)]
    exact hx
  · rw [if_neg h1]
    by_cases h2 : at_ + 1 ≤ (code.length : Int)
    · omega
    · rw [if_neg h2]
      exact ⟨_, _, rfl, byte_of _⟩
theorem pick_eq {code : List Int} {at_ seed n : Int} (h : Src code at_) (hb : at_ ≤ 999999998) (hn : n ≤ 65536) : ∃ x at' s', spec_l00Src_pick.f code at_ seed n = some (x, at', s') ∧ 0 ≤ x ∧ (1 ≤ n → x < n) ∧ (n ≤ 1 → x = 0) ∧ at_ ≤ at' ∧ at' ≤ at_ + 2 := by
  unfold spec_l00Src_pick.f
  by_cases h1 : n ≤ 1
  · rw [if_pos h1]
    exact ⟨_, _, _, rfl, by omega, fun _ => by omega, fun _ => rfl, by omega, by omega⟩
  · rw [if_neg h1]
    obtain ⟨b, s', e, b0, b1⟩ := next_eq (seed := seed) h (by omega)
    rw [e, Option.bind_some]
    by_cases h2 : n > 200
    · rw [if_pos h2]
      obtain ⟨b', s'', e', b0', b1'⟩ := next_eq (seed := s') (code := code) (at_ := at_ + 1) ⟨h.1, by have := h.2; omega⟩ (by omega)
      simp only [e', Option.bind_some]
      rw [if_neg (by omega)]
      refine ⟨_, _, _, rfl, ?_, fun _ => ?_, fun h => by omega, by omega, by omega⟩
      · rw [w64 (x := b * 256) (by omega) (by omega), w64 (by omega) (by omega)]
        exact Int.tmod_nonneg _ (by omega)
      · exact Int.tmod_lt_of_pos _ (by omega)
    · rw [if_neg h2, if_neg (by omega)]
      exact ⟨_, _, _, rfl, Int.tmod_nonneg _ b0, fun _ => Int.tmod_lt_of_pos _ (by omega), fun h => by omega, by dsimp only; omega, by dsimp only; omega⟩
end Go.Proofs.Ytppfdndnojbmjaa.PSource

/-! ## PLoopErr -/
/- Plain laws for FnLoopErrors: the greatest error that MayClose allows; the rises that are drawn; the shares of an error, which are none below 0 and together the error. No condition but small sizes. -/
namespace Go.Proofs.Ytppfdndnojbmjaa.PLoopErr
open Go.RowKit Go.Proofs.YtppfdndnojbmjaaW.PrintWords Go.Proofs.Ytppfdndnojbmjaa.X Go.Proofs.Ytppfdndnojbmjaa.B Go.Proofs.Ytppfdndnojbmjaa.PSum Go.Proofs.Ytppfdndnojbmjaa.PSort Go.Proofs.Ytppfdndnojbmjaa.PShare Go.Proofs.Ytppfdndnojbmjaa.PClosed Go.Proofs.Ytppfdndnojbmjaa.PSource
theorem mayIn_eq (a b c : Int) : impl_in.f a b c = some (decide (b ≤ a ∧ a ≤ c)) := by
  unfold impl_in.f
  by_cases h : a ≥ b <;> by_cases h' : a ≤ c <;> simp [h, h'] <;> omega
theorem mayClose_ev (m : Int) (hm : 1 ≤ m ∧ m ≤ 30000) : ∃ n : Int, Ev (fun k => impl_MayClose.f k m) (n, 0) ∧ (0 ≤ n ∧ n ≤ 40) ∧ 1000 * n * n ≤ 25 * m ∧ 25 * m < 1000 * (n + 1) * (n + 1) := by
  have key : ∀ (d i : Nat), i + d = 40 → 1000 * (i : Int) * (i : Int) ≤ 25 * m → ∃ n : Int, Ev (fun k => impl_MayClose.l0 k m (i : Int)) (n, 0) ∧ (0 ≤ n ∧ n ≤ 40) ∧ 1000 * n * n ≤ 25 * m ∧ 25 * m < 1000 * (n + 1) * (n + 1) := by
    intro d
    induction d with
    | zero =>
      intro i hi hle
      obtain rfl : i = 40 := by omega
      refine ⟨40, Ev.up (g := fun k => impl_MayClose.l0 k m ((40 : Nat) : Int)) (Ev.const fun k => ?_), by omega, hle, by omega⟩
      simp only [impl_MayClose.l0]
      rw [w64 (x := ((40 : Nat) : Int) + 1) (by omega) (by omega), w64 (x := 1000 * (((40 : Nat) : Int) + 1)) (by omega) (by omega), w64 (x := 1000 * (((40 : Nat) : Int) + 1) * (((40 : Nat) : Int) + 1)) (by omega) (by omega), w64 (x := 25 * m) (by omega) (by omega), if_neg (by omega)]
      rfl
    | succ d ih =>
      intro i hi hle
      have h1 : 1000 * ((i : Int) + 1) * ((i : Int) + 1) ≤ 41000 * 41 := Int.mul_le_mul (by omega) (by omega) (by omega) (by omega)
      have h2 : 0 ≤ 1000 * ((i : Int) + 1) * ((i : Int) + 1) := Int.mul_nonneg (by omega) (by omega)
      by_cases c : 1000 * ((i : Int) + 1) * ((i : Int) + 1) ≤ 25 * m
      · obtain ⟨n, hn, r⟩ := ih (i + 1) (by omega) (by push_cast; exact c)
        refine ⟨n, Ev.up (g := fun k => impl_MayClose.l0 k m (i : Int)) ?_, r⟩
        simp only [impl_MayClose.l0, w64 (x := (i : Int) + 1) (by omega) (by omega), w64 (x := 1000 * ((i : Int) + 1)) (by omega) (by omega), w64 (x := 1000 * ((i : Int) + 1) * ((i : Int) + 1)) (by omega) (by omega), w64 (x := 25 * m) (by omega) (by omega)]
        exact Ev.ifPos c hn
      · refine ⟨(i : Int), Ev.up (g := fun k => impl_MayClose.l0 k m (i : Int)) ?_, by omega, hle, by omega⟩
        simp only [impl_MayClose.l0, w64 (x := (i : Int) + 1) (by omega) (by omega), w64 (x := 1000 * ((i : Int) + 1)) (by omega) (by omega), w64 (x := 1000 * ((i : Int) + 1) * ((i : Int) + 1)) (by omega) (by omega), w64 (x := 25 * m) (by omega) (by omega)]
        exact Ev.ifNeg c (Ev.const fun _ => rfl)
  obtain ⟨n, hn, r⟩ := key 40 0 rfl (by omega)
  refine ⟨n, ?_, r⟩
  unfold impl_MayClose.f
  rw [mayIn_eq, decide_eq_true (by omega)]
  exact Ev.ofEq (EvEq.now fun k => rfl) hn
/-- What is drawn: rises, sizes, and where they lead but for an error. -/
theorem rises_ev {code : List Int} (h : ∀ x ∈ code, 0 ≤ x ∧ x ≤ 255) : ∃ (rs ss : List Int) (tq : Int), Ev (fun k => spec_A2Rises.f k code) (rs, ss, tq) ∧ (1 ≤ rs.length ∧ rs.length ≤ 6) ∧ ss.length = rs.length ∧ (∀ x ∈ rs, -100 ≤ x ∧ x ≤ 100) ∧ (∀ x ∈ ss, 1 ≤ x ∧ x ≤ 500) ∧ -15 ≤ tq - rs.sum ∧ tq - rs.sum ≤ 15 := by
  have loop : ∀ (d : Nat) (rs ss : List Int) (tq a s : Int), Src code a → a ≤ 900000100 - 6 * d → rs.length + d ≤ 6 → ss.length = rs.length → (∀ x ∈ rs, -100 ≤ x ∧ x ≤ 100) → (∀ x ∈ ss, 1 ≤ x ∧ x ≤ 500) → -1000000 + 1000 * d ≤ tq → tq ≤ 1000000 - 1000 * d →
      ∃ (rs' ss' : List Int) (tq' : Int), Ev (fun k => spec_A2Rises.l0 k rs ss tq (d : Int) code a s) (rs', ss', tq') ∧ rs'.length = rs.length + d ∧ ss'.length = rs'.length ∧ (∀ x ∈ rs', -100 ≤ x ∧ x ≤ 100) ∧ (∀ x ∈ ss', 1 ≤ x ∧ x ≤ 500) ∧ tq' - rs'.sum = tq - rs.sum := by
    intro d
    induction d with
    | zero =>
      intro rs ss tq a s hs ha hl hss hr hz t0 t1
      refine ⟨rs, ss, tq, Ev.up (g := fun k => spec_A2Rises.l0 k rs ss tq ((0 : Nat) : Int) code a s) (Ev.const fun k => ?_), rfl, hss, hr, hz, rfl⟩
      simp only [spec_A2Rises.l0]
      rw [if_neg (by omega)]
    | succ d ih =>
      intro rs ss tq a s hs ha hl hss hr hz t0 t1
      obtain ⟨x, a1, s1, e1, x0, x1, _, b0, b1⟩ := pick_eq (seed := s) (n := 200) hs (by omega) (by omega)
      have hx := x1 (by omega)
      have hs1 : Src code a1 := ⟨hs.1, by have := hs.2; omega⟩
      obtain ⟨y, a2, s2, e2, y0, y1, _, c0, c1⟩ := pick_eq (seed := s1) (n := 500) hs1 (by omega) (by omega)
      have hy := y1 (by omega)
      have e4 : wrap64 (((d + 1 : Nat) : Int) - 1) = (d : Int) := by rw [w64 (by omega) (by omega)]; omega
      have e5 : wrap64 (x - 100) = x - 100 := w64 (by omega) (by omega)
      have e6 : wrap64 (1 + y) = 1 + y := w64 (by omega) (by omega)
      have e7 : wrap64 (tq + (x - 100)) = tq + (x - 100) := w64 (by omega) (by omega)
      obtain ⟨rs', ss', tq', hE, g1, g2, g3, g4, g5⟩ := ih (rs ++ [x - 100]) (ss ++ [1 + y]) (tq + (x - 100)) a2 s2 ⟨hs.1, by have := hs1.2; omega⟩ (by omega) (by simp; omega) (by simp; omega) (by
        intro v hv
        rcases List.mem_append.1 hv with q | q
        · exact hr v q
        · rw [List.mem_singleton.1 q]; omega) (by
        intro v hv
        rcases List.mem_append.1 hv with q | q
        · exact hz v q
        · rw [List.mem_singleton.1 q]; omega) (by omega) (by omega)
      refine ⟨rs', ss', tq', Ev.up (g := fun k => spec_A2Rises.l0 k rs ss tq ((d + 1 : Nat) : Int) code a s) ?_, by rw [g1]; simp; omega, g2, g3, g4, by rw [g5]; simp; omega⟩
      simp only [spec_A2Rises.l0, e1, Option.bind_some, e4, e5, e7]
      refine Ev.ifPos (by omega) (Ev.ifPos (by omega) ?_)
      simp only [e2, Option.bind_some, e6]
      exact Ev.ifPos (by omega) hE
  obtain ⟨w, a0, s0, e0, w0, w1, _, p0, p1⟩ := pick_eq (code := code) (at_ := 0) (seed := 0) (n := 30) ⟨h, by omega⟩ (by omega) (by omega)
  have hw := w1 (by omega)
  obtain ⟨x, a1, s1, e1, x0, x1, _, b0, b1⟩ := pick_eq (code := code) (at_ := a0) (seed := s0) (n := 6) ⟨h, by omega⟩ (by omega) (by omega)
  have hx := x1 (by omega)
  obtain ⟨rs', ss', tq', hE, g1, g2, g3, g4, g5⟩ := loop (x + 1).toNat [] [] (w - 15) a1 s1 ⟨h, by omega⟩ (by omega) (by simp; omega) rfl (by intro v hv; cases hv) (by intro v hv; cases hv) (by omega) (by omega)
  refine ⟨rs', ss', tq', ?_, by rw [g1]; simp; omega, g2, g3, g4, by rw [g5]; simp; omega, by rw [g5]; simp; omega⟩
  unfold spec_A2Rises.f spec_l00From.f
  simp only [Option.bind_some, e0, e1]
  have e : wrap64 (1 + x) = ((x + 1).toNat : Int) := by rw [w64 (by omega) (by omega)]; omega
  rw [e, w64 (x := w - 15) (by omega) (by omega)]
  exact hE
/-! Shares: none below 0, together the error. -/
theorem set_sum : ∀ (xs : List Int) (p : Nat) (v : Int) (h : p < xs.length), (xs.set p v).sum = xs.sum - xs[p] + v
  | [], p, v, h => by simp at h
  | x :: xs, 0, v, h => by simp; omega
  | x :: xs, p + 1, v, h => by
    have := set_sum xs p v (by simpa using h)
    simp only [List.set_cons_succ, List.sum_cons, List.getElem_cons_succ, this]
    omega
theorem upto_sum (f : Nat → Int) : ∀ m, (upto f m).sum = psum f m
  | 0 => rfl
  | m + 1 => by rw [upto_succ, List.sum_append, upto_sum f m]; simp [psum]
section
variable {t s : Int} {lw : List Int}
theorem F_holds (h : Fit t lw s) (ht : t ≤ 1000000000000) : ∀ {m : Nat}, m ≤ (sg t lw s).length → (F t lw s m).sum = psum (Q t lw s) lw.length + m ∧ ∀ x ∈ F t lw s m, 0 ≤ x ∧ x ≤ t + m
  | 0, _ => by
    have hq : ∀ {m : Nat}, m ≤ lw.length → 0 ≤ psum (Q t lw s) m ∧ psum (Q t lw s) m ≤ psum (Q t lw s) lw.length := fun hm => psum_mono (fun j hj => (qr h hj).2.1) hm
    rw [F_zero, upto_sum]
    refine ⟨by simp, fun x hx => ?_⟩
    simp only [upto, List.mem_map, List.mem_range] at hx
    obtain ⟨j, hj, rfl⟩ := hx
    have h1 := (qr h hj).2.1
    have h2 := hq (m := j) (by omega)
    have h3 := hq (m := j + 1) (by omega)
    have h4 := left_in h
    simp only [psum] at h3
    omega
  | m + 1, hm => by
    obtain ⟨i1, i2⟩ := F_holds h ht (m := m) (by omega)
    have hm' : m < (sg t lw s).length := by omega
    have hp : (sg t lw s)[m] < (F t lw s m).length := by rw [F_len]; exact sg_lt h hm'
    have hsl := sg_len h
    have h20 := h.some20
    have hx := i2 _ (List.getElem_mem hp)
    rw [F_succ t lw s hm']
    have e : inc (F t lw s m) (sg t lw s)[m] = (F t lw s m).set (sg t lw s)[m] ((F t lw s m)[(sg t lw s)[m]] + 1) := by
      unfold inc
      rw [rd_at hp, w64 (by omega) (by omega)]
    rw [e, set_sum _ _ _ hp, i1]
    refine ⟨by push_cast; omega, fun x hx' => ?_⟩
    rcases List.mem_or_eq_of_mem_set hx' with q | q
    · have := i2 x q
      push_cast; omega
    · rw [q]; push_cast; omega
end
theorem le_total : ∀ (xs : List Int), (∀ x ∈ xs, 0 ≤ x) → 0 ≤ xs.sum ∧ ∀ x ∈ xs, x ≤ xs.sum
  | [], _ => by simp
  | y :: ys, h => by
    obtain ⟨i1, i2⟩ := le_total ys fun x hx => h x (List.mem_cons_of_mem _ hx)
    have hy := h y (List.mem_cons_self ..)
    rw [List.sum_cons]
    refine ⟨by omega, fun x hx => ?_⟩
    rcases List.mem_cons.1 hx with q | q
    · subst q; omega
    · have := i2 x q; omega
theorem parts_holds {ss : List Int} {c : Int} (h1 : 1 ≤ ss.length) (h20 : ss.length ≤ 20) (hw : ∀ i, i < ss.length → 1 ≤ rd ss (i : Int) ∧ rd ss (i : Int) ≤ 10000) (hc : -1000000000 ≤ c ∧ c ≤ 1000000000) : (parts ss c).sum = ab c ∧ ∀ x ∈ parts ss c, 0 ≤ x ∧ x ≤ ab c := by
  have hf := sizes_fit h1 h20 hw hc
  have ha : 0 ≤ ab c ∧ ab c ≤ 1000000000 := by unfold ab; split <;> omega
  have hl := left_in hf
  have hsl := sg_len hf
  obtain ⟨i1, i2⟩ := F_holds hf (by omega) (m := (ab c - psum (Q (ab c) ss (sum64 0 ss)) ss.length).toNat) (by omega)
  have e : (parts ss c).sum = ab c := by
    unfold parts
    rw [i1]; omega
  have h0 : ∀ x ∈ parts ss c, 0 ≤ x := fun x hx => (i2 x hx).1
  obtain ⟨_, j2⟩ := le_total _ h0
  exact ⟨e, fun x hx => ⟨h0 x hx, by have := j2 x hx; omega⟩⟩
end Go.Proofs.Ytppfdndnojbmjaa.PLoopErr

/-! ## PLoopErr2 -/
/- Plain laws for the plain law of FnLoopErrors: heights between marks take no more of the closing error than there is, and end where they must; a loop's closing error turns its sign with the loop, a closed loop has none; a line turned twice is the same; the allowed error is the greatest one. For any bytes (the law says nothing of more than 3000). -/
namespace Go.Proofs.Ytppfdndnojbmjaa.PLoopErr2
open Go.RowKit Go.Proofs.YtppfdndnojbmjaaW.PrintWords Go.Proofs.Ytppfdndnojbmjaa.X Go.Proofs.Ytppfdndnojbmjaa.B Go.Proofs.Ytppfdndnojbmjaa.PSum Go.Proofs.Ytppfdndnojbmjaa.PSort Go.Proofs.Ytppfdndnojbmjaa.PShare Go.Proofs.Ytppfdndnojbmjaa.PClosed Go.Proofs.Ytppfdndnojbmjaa.PLineOk Go.Proofs.Ytppfdndnojbmjaa.PLoop Go.Proofs.Ytppfdndnojbmjaa.PLoopErr
theorem a2At_eq {l : List Int} (h : ∀ x ∈ l, 0 ≤ x ∧ x ≤ 255) (a n : Int) (ha : 0 ≤ a) (hn : 1 ≤ n) : ∃ x, laws_a2At.f l a n = some x ∧ 0 ≤ x ∧ x < n := by
  unfold laws_a2At.f
  by_cases c : a ≥ (l.length : Int)
  · rw [if_pos c]; exact ⟨0, rfl, by omega, by omega⟩
  · rw [if_neg c, if_neg (by omega), if_pos ha, if_pos (by omega), if_neg (by omega)]
    obtain ⟨i, rfl⟩ : ∃ i : Nat, a = (i : Int) := ⟨a.toNat, by omega⟩
    have hi : i < l.length := by omega
    have hx : 0 ≤ rd l (i : Int) ∧ rd l (i : Int) ≤ 255 := by rw [rd_at hi]; exact h _ (List.getElem_mem hi)
    refine ⟨_, rfl, Int.tmod_nonneg _ ?_, Int.tmod_lt_of_pos _ (by omega)⟩
    rw [w64 (by omega) (by omega)]
    exact hx.1
theorem psum_take (xs : List Int) : ∀ i, i ≤ xs.length → psum (fun j => rd xs (j : Int)) i = (xs.take i).sum
  | 0, _ => by simp [psum]
  | i + 1, h => by
    have hi : i < xs.length := by omega
    rw [List.take_succ_eq_append_getElem hi, List.sum_append, ← psum_take xs i (by omega)]
    simp only [psum, rd_at hi]
    simp
theorem sum_small : ∀ (xs : List Int) (b : Int), 0 ≤ b → (∀ x ∈ xs, -b ≤ x ∧ x ≤ b) → -(b * xs.length) ≤ xs.sum ∧ xs.sum ≤ b * xs.length
  | [], b, _, _ => by simp
  | x :: xs, b, hb, h => by
    have := sum_small xs b hb fun y hy => h y (List.mem_cons_of_mem _ hy)
    have hx := h x (List.mem_cons_self ..)
    have e : b * ((x :: xs).length : Int) = b * xs.length + b := by rw [List.length_cons]; push_cast; rw [Int.mul_add, Int.mul_one]
    rw [List.sum_cons]
    omega
theorem sum64_sum {xs : List Int} (hn : xs.length ≤ 20) (h : ∀ x ∈ xs, -1000000 ≤ x ∧ x ≤ 1000000) : sum64 0 xs = xs.sum := by
  have e : psum (fun j => rd xs (j : Int)) xs.length = xs.sum := by rw [psum_take xs _ (Nat.le_refl _), List.take_length]
  rw [← e]
  refine sum64_psum xs fun i hi => ?_
  rw [psum_take xs i hi]
  have := sum_small (xs.take i) 1000000 (by omega) fun x hx => h x (List.mem_of_mem_take hx)
  have hl : (xs.take i).length ≤ 20 := by rw [List.length_take]; omega
  omega
theorem a2Sum_ev (xs : List Int) (hn : xs.length ≤ 1000) : Ev (fun k => laws_a2Sum.f k xs) (sum64 0 xs) := by
  have h := scanI (fun k i => laws_a2Sum.l0 k xs (sum64 0 (xs.take i)) (i : Int)) xs.length (fun _ => sum64 0 xs) (Ev.up (g := fun k => laws_a2Sum.l0 k xs (sum64 0 (xs.take xs.length)) (xs.length : Int)) (Ev.const fun k => by
      simp only [laws_a2Sum.l0]
      rw [if_neg (by omega), List.take_length])) (by
    intro i hi ih
    refine Ev.up (g := fun k => laws_a2Sum.l0 k xs (sum64 0 (xs.take i)) (i : Int)) ?_
    simp only [laws_a2Sum.l0, rd_at hi, wnext hi (by omega : (xs.length : Int) ≤ _)]
    rw [sum64_take xs hi] at ih
    exact Ev.ifPos (by omega) (Ev.ifPos (by omega) ih)) 0 (by omega)
  exact h
/-! Closing: each rise less its share; the sum less the error. -/
section
variable {rs ss : List Int} {c : Int}
theorem less_eq (hl : rs.length = ss.length) (h1 : 1 ≤ ss.length) (h20 : ss.length ≤ 20) (hr : ∀ x ∈ rs, -1000000 ≤ x ∧ x ≤ 1000000) (hw : ∀ i, i < ss.length → 1 ≤ rd ss (i : Int) ∧ rd ss (i : Int) ≤ 10000) (hc : -10000000 ≤ c ∧ c ≤ 10000000) {i : Nat} (hi : i < rs.length) :
    rd (closed rs ss c) (i : Int) = (if c < 0 then rd rs (i : Int) + rd (parts ss c) (i : Int) else rd rs (i : Int) - rd (parts ss c) (i : Int)) ∧ 0 ≤ rd (parts ss c) (i : Int) ∧ rd (parts ss c) (i : Int) ≤ ab c := by
  obtain ⟨_, p⟩ := parts_holds h1 h20 hw (c := c) (by omega)
  have hpl := parts_len ss c
  have hip : i < (parts ss c).length := by omega
  have hb := p _ (List.getElem_mem hip)
  have hx := hr _ (List.getElem_mem hi)
  have ha : ab c ≤ 10000000 := by unfold ab; split <;> omega
  rw [rd_at hip]
  refine ⟨?_, hb⟩
  unfold closed
  rw [upto_at _ hi]
  unfold less1
  rw [rd_at hi, rd_at hip]
  split
  · exact w64 (by omega) (by omega)
  · exact w64 (by omega) (by omega)
theorem closed_psum (hl : rs.length = ss.length) (h1 : 1 ≤ ss.length) (h20 : ss.length ≤ 20) (hr : ∀ x ∈ rs, -1000000 ≤ x ∧ x ≤ 1000000) (hw : ∀ i, i < ss.length → 1 ≤ rd ss (i : Int) ∧ rd ss (i : Int) ≤ 10000) (hc : -10000000 ≤ c ∧ c ≤ 10000000) : ∀ i, i ≤ rs.length →
    psum (fun j => rd (closed rs ss c) (j : Int)) i = (if c < 0 then psum (fun j => rd rs (j : Int)) i + psum (fun j => rd (parts ss c) (j : Int)) i else psum (fun j => rd rs (j : Int)) i - psum (fun j => rd (parts ss c) (j : Int)) i)
  | 0, _ => by simp [psum]
  | i + 1, hi => by
    have ih := closed_psum hl h1 h20 hr hw hc i (by omega)
    have e := (less_eq hl h1 h20 hr hw hc (i := i) (by omega)).1
    simp only [psum, ih, e]
    split <;> omega
theorem closed_sum (hl : rs.length = ss.length) (h1 : 1 ≤ ss.length) (h20 : ss.length ≤ 20) (hr : ∀ x ∈ rs, -1000000 ≤ x ∧ x ≤ 1000000) (hw : ∀ i, i < ss.length → 1 ≤ rd ss (i : Int) ∧ rd ss (i : Int) ≤ 10000) (hc : -10000000 ≤ c ∧ c ≤ 10000000) : (closed rs ss c).sum = rs.sum - c := by
  have e := closed_psum hl h1 h20 hr hw hc rs.length (Nat.le_refl _)
  have hcl := closed_len rs ss c
  have hpl := parts_len ss c
  obtain ⟨p, _⟩ := parts_holds h1 h20 hw (c := c) (by omega)
  have q1 := psum_take (closed rs ss c) rs.length (by omega)
  have q2 := psum_take rs rs.length (Nat.le_refl _)
  have q3 := psum_take (parts ss c) rs.length (by omega)
  rw [show (closed rs ss c).take rs.length = closed rs ss c by rw [← hcl, List.take_length]] at q1
  rw [List.take_length] at q2
  rw [show (parts ss c).take rs.length = parts ss c by rw [hl, ← hpl, List.take_length]] at q3
  rw [q1, q2, q3, p] at e
  rw [e]
  unfold ab
  split <;> omega
end
end Go.Proofs.Ytppfdndnojbmjaa.PLoopErr2

/-! ## PureFnLoopErrors -/
/- The plain law of FnLoopErrors: heights between marks take no more of the closing error than there is, and end where they must; a loop's closing error turns its sign with the loop, a closed loop has none; a line turned twice is the same; the allowed error is the greatest one. For any bytes (the law says nothing of more than 3000). -/
namespace Go.Proofs.Ytppfdndnojbmjaa.Pure
open Go.RowKit Go.Proofs.YtppfdndnojbmjaaW.PrintWords Go.Proofs.Ytppfdndnojbmjaa.X Go.Proofs.Ytppfdndnojbmjaa.B Go.Proofs.Ytppfdndnojbmjaa.PSum Go.Proofs.Ytppfdndnojbmjaa.PSort Go.Proofs.Ytppfdndnojbmjaa.PShare Go.Proofs.Ytppfdndnojbmjaa.PClosed Go.Proofs.Ytppfdndnojbmjaa.PLineOk Go.Proofs.Ytppfdndnojbmjaa.PLoop Go.Proofs.Ytppfdndnojbmjaa.PLoopErr Go.Proofs.Ytppfdndnojbmjaa.PLoopErr2
def L3 (x y z w : Int) : List M := [⟨0, 1, x, 100⟩, ⟨2, 1, y, 1 + w⟩, ⟨0, 2, z, 70⟩]
section
variable {x y z w : Int}
theorem ok3 (hx : 0 ≤ x ∧ x < 100) (hy : 0 ≤ y ∧ y < 100) (hz : 0 ≤ z ∧ z < 200) (hw : 0 ≤ w ∧ w < 200) : okLines 3 (L3 x y z w) = true := by
  unfold okLines
  simp only [Bool.and_eq_true, decide_eq_true_eq]
  refine ⟨by omega, (allFrom_iff _ _ _).2 fun j _ hj => ?_, by simp [L3]⟩
  have hj3 : j < 3 := hj
  rcases (by omega : j = 0 ∨ j = 1 ∨ j = 2) with rfl | rfl | rfl
  · show okLine ⟨0, 1, x, 100⟩ 3 = true
    simp only [okLine, decide_eq_true_eq]; omega
  · show okLine ⟨2, 1, y, 1 + w⟩ 3 = true
    simp only [okLine, decide_eq_true_eq]; omega
  · show okLine ⟨0, 2, z, 70⟩ 3 = true
    simp only [okLine, decide_eq_true_eq]; omega
theorem side_is {ls : List M} {xs : List Int} {i : Nat} {a b : Int} {r : Option (Int × Int)} (h1 : rd xs (i : Int) = a) (h2 : next xs (i : Int) = b) (h : ls.findSome? (fun q => hit q a b) = r) : side ls xs i = r := by
  unfold side btw
  rw [h1, h2]
  exact h
theorem loop3 {ls : List M} {xs : List Int} {p0 p1 p2 : Int × Int} (h3 : xs.length = 3) (hok : okLines 3 ls = true) (hm : (allFrom (markOk 3 xs) 0 xs.length && decide ((xs.length : Int) ≥ 2)) = true) (s0 : side ls xs 0 = some p0) (s1 : side ls xs 1 = some p1) (s2 : side ls xs 2 = some p2) : loopOf 3 ls xs = ([p0.1, p1.1, p2.1], [p0.2, p1.2, p2.2], 0) := by
  have hs : allFrom (sided ls xs) 0 xs.length = true := (allFrom_iff _ _ _).2 fun j _ hj => by
    rcases (by omega : j = 0 ∨ j = 1 ∨ j = 2) with rfl | rfl | rfl
    · unfold sided; rw [s0]; rfl
    · unfold sided; rw [s1]; rfl
    · unfold sided; rw [s2]; rfl
  unfold loopOf sidesOf
  rw [if_pos hok, if_pos hm, if_pos hs, h3]
  have r3 : List.range 3 = [0, 1, 2] := rfl
  simp only [hs, ms, PLoop.hs, r3, List.map_cons, List.map_nil, s0, s1, s2, Option.getD_some]
theorem loopA (hx : 0 ≤ x ∧ x < 100) (hy : 0 ≤ y ∧ y < 100) (hz : 0 ≤ z ∧ z < 200) (hw : 0 ≤ w ∧ w < 200) : loopOf 3 (L3 x y z w) [0, 1, 2] = ([x, wrap64 (-y), wrap64 (-z)], [100, 1 + w, 70], 0) := by
  refine loop3 (p0 := (x, 100)) (p1 := (wrap64 (-y), 1 + w)) (p2 := (wrap64 (-z), 70)) rfl (ok3 hx hy hz hw) (by decide) ?_ ?_ ?_
  · exact side_is (a := 0) (b := 1) (by decide) (by unfold next; rw [w64 (by omega) (by omega)]; decide) (by simp [L3, hit])
  · exact side_is (a := 1) (b := 2) (by decide) (by unfold next; rw [w64 (by omega) (by omega)]; decide) (by simp [L3, hit])
  · exact side_is (a := 2) (b := 0) (by decide) (by unfold next; rw [w64 (by omega) (by omega)]; decide) (by simp [L3, hit])
theorem loopB (hx : 0 ≤ x ∧ x < 100) (hy : 0 ≤ y ∧ y < 100) (hz : 0 ≤ z ∧ z < 200) (hw : 0 ≤ w ∧ w < 200) : loopOf 3 (L3 x y z w) [2, 1, 0] = ([y, wrap64 (-x), z], [1 + w, 100, 70], 0) := by
  refine loop3 (p0 := (y, 1 + w)) (p1 := (wrap64 (-x), 100)) (p2 := (z, 70)) rfl (ok3 hx hy hz hw) (by decide) ?_ ?_ ?_
  · exact side_is (a := 2) (b := 1) (by decide) (by unfold next; rw [w64 (by omega) (by omega)]; decide) (by simp [L3, hit])
  · exact side_is (a := 1) (b := 0) (by decide) (by unfold next; rw [w64 (by omega) (by omega)]; decide) (by simp [L3, hit])
  · exact side_is (a := 0) (b := 2) (by decide) (by unfold next; rw [w64 (by omega) (by omega)]; decide) (by simp [L3, hit])
theorem sum3 {a b c : Int} (ha : -1000 ≤ a ∧ a ≤ 1000) (hb : -1000 ≤ b ∧ b ≤ 1000) (hc : -1000 ≤ c ∧ c ≤ 1000) : sum64 0 [a, b, c] = a + b + c := by
  show wrap64 (wrap64 (wrap64 (0 + a) + b) + c) = _
  rw [w64 (x := 0 + a) (by omega) (by omega), w64 (x := 0 + a + b) (by omega) (by omega), w64 (by omega) (by omega)]
  omega
theorem closingA (hx : 0 ≤ x ∧ x < 100) (hy : 0 ≤ y ∧ y < 100) (hz : 0 ≤ z ∧ z < 200) (hw : 0 ≤ w ∧ w < 200) : Ev (fun k => impl_ClosingOf.f k 3 (L3 x y z w) [0, 1, 2]) (x - y - z, 0) := by
  have h := PCloseLoop.implClosing_ev 3 (L3 x y z w) [0, 1, 2] (by show (3 : Nat) ≤ _; omega) (by show (3 : Nat) ≤ _; omega)
  unfold PCloseLoop.closing at h
  rw [loopA hx hy hz hw] at h
  have e := sum3 (a := x) (b := wrap64 (-y)) (c := wrap64 (-z)) (by omega) (by rw [w64 (by omega) (by omega)]; omega) (by rw [w64 (by omega) (by omega)]; omega)
  rw [show sum64 0 ([x, wrap64 (-y), wrap64 (-z)], ([100, 1 + w, 70] : List Int), (0 : Int)).1 = x - y - z by rw [e, w64 (x := -y) (by omega) (by omega), w64 (x := -z) (by omega) (by omega)]; omega] at h
  exact h
theorem closingB (hx : 0 ≤ x ∧ x < 100) (hy : 0 ≤ y ∧ y < 100) (hz : 0 ≤ z ∧ z < 200) (hw : 0 ≤ w ∧ w < 200) : Ev (fun k => impl_ClosingOf.f k 3 (L3 x y z w) [2, 1, 0]) (y - x + z, 0) := by
  have h := PCloseLoop.implClosing_ev 3 (L3 x y z w) [2, 1, 0] (by show (3 : Nat) ≤ _; omega) (by show (3 : Nat) ≤ _; omega)
  unfold PCloseLoop.closing at h
  rw [loopB hx hy hz hw] at h
  have e := sum3 (a := y) (b := wrap64 (-x)) (c := z) (by omega) (by rw [w64 (by omega) (by omega)]; omega) (by omega)
  rw [show sum64 0 ([y, wrap64 (-x), z], ([1 + w, 100, 70] : List Int), (0 : Int)).1 = y - x + z by rw [e, w64 (x := -x) (by omega) (by omega)]; omega] at h
  exact h
theorem closeA (hx : 0 ≤ x ∧ x < 100) (hy : 0 ≤ y ∧ y < 100) (hz : 0 ≤ z ∧ z < 200) (hw : 0 ≤ w ∧ w < 200) : ∃ cl : List Int, Ev (fun k => impl_CloseLoop.f k 3 (L3 x y z w) [0, 1, 2]) (cl, 0) ∧ cl.length = 3 ∧ Ev (fun k => laws_a2Sum.f k cl) 0 := by
  have h := PCloseLoop.implClosedLoop_ev 3 (L3 x y z w) [0, 1, 2] (by show (3 : Nat) ≤ _; omega) (by show (3 : Nat) ≤ _; omega)
  unfold PCloseLoop.closedLoop at h
  rw [loopA hx hy hz hw] at h
  simp only [if_true] at h
  rw [w64 (x := -y) (by omega) (by omega), w64 (x := -z) (by omega) (by omega), sum3 (by omega) (by omega) (by omega)] at h
  have hr : ∀ q ∈ [x, -y, -z], -1000000 ≤ q ∧ q ≤ 1000000 := by
    intro q hq
    simp only [List.mem_cons, List.not_mem_nil, or_false] at hq
    omega
  have hs : ∀ i, i < [100, 1 + w, 70].length → 1 ≤ rd [100, 1 + w, 70] (i : Int) ∧ rd [100, 1 + w, 70] (i : Int) ≤ 10000 := by
    intro i hi
    have hi3 : i < 3 := hi
    rw [rd_at hi]
    rcases (by omega : i = 0 ∨ i = 1 ∨ i = 2) with rfl | rfl | rfl
    · show (1 : Int) ≤ 100 ∧ (100 : Int) ≤ 10000; omega
    · show 1 ≤ 1 + w ∧ 1 + w ≤ 10000; omega
    · show (1 : Int) ≤ 70 ∧ (70 : Int) ≤ 10000; omega
  have e := closed_sum (rs := [x, -y, -z]) (ss := [100, 1 + w, 70]) (c := x + -y + -z) rfl (by show (1 : Nat) ≤ 3; omega) (by show (3 : Nat) ≤ 20; omega) hr hs (by omega)
  have hcl := closed_len [x, -y, -z] [100, 1 + w, 70] (x + -y + -z)
  have hin : ∀ q ∈ closed [x, -y, -z] [100, 1 + w, 70] (x + -y + -z), -1000000 ≤ q ∧ q ≤ 1000000 := by
    intro q hq
    obtain ⟨i, hi, rfl⟩ := List.mem_iff_getElem.1 hq
    have hi' : i < [x, -y, -z].length := by rw [← hcl]; exact hi
    obtain ⟨e1, p0, p1⟩ := less_eq (rs := [x, -y, -z]) (ss := [100, 1 + w, 70]) (c := x + -y + -z) rfl (by show (1 : Nat) ≤ 3; omega) (by show (3 : Nat) ≤ 20; omega) hr hs (by omega) hi'
    have hb : -200 ≤ rd [x, -y, -z] (i : Int) ∧ rd [x, -y, -z] (i : Int) ≤ 200 := by
      rw [rd_at hi']
      have := List.getElem_mem hi'
      simp only [List.mem_cons, List.not_mem_nil, or_false] at this
      omega
    have ha : ab (x + -y + -z) ≤ 1000 := by unfold ab; split <;> omega
    rw [rd_at hi] at e1
    rw [e1]
    split <;> omega
  refine ⟨_, h, hcl, ?_⟩
  have hs2 := sum64_sum (xs := closed [x, -y, -z] [100, 1 + w, 70] (x + -y + -z)) (by rw [hcl]; show (3 : Nat) ≤ 20; omega) hin
  have ev := a2Sum_ev (closed [x, -y, -z] [100, 1 + w, 70] (x + -y + -z)) (by rw [hcl]; show (3 : Nat) ≤ 1000; omega)
  rw [hs2, e, show [x, -y, -z].sum = x + -y + -z by simp; omega, show x + -y + -z - (x + -y + -z) = 0 by omega] at ev
  exact ev
theorem rev1 (hy : 0 ≤ y ∧ y < 100) (hw : 0 ≤ w ∧ w < 200) : impl_ReverseLine.f 2 1 y (1 + w) = some (1, 2, -y, 1 + w, 0) := by
  have h := implLineOk_eq (⟨2, 1, y, 1 + w⟩ : M) 10 (by omega) (by omega)
  have ho : okLine (⟨2, 1, y, 1 + w⟩ : M) 10 = true := by simp only [okLine, decide_eq_true_eq]; omega
  simp only [ho] at h
  unfold impl_ReverseLine.f impl_Line_reverse.f
  rw [h]
  simp only [Option.bind_some, if_true]
  rw [w64 (by omega) (by omega)]
theorem rev2 (hy : 0 ≤ y ∧ y < 100) (hw : 0 ≤ w ∧ w < 200) : impl_ReverseLine.f 1 2 (-y) (1 + w) = some (2, 1, y, 1 + w, 0) := by
  have h := implLineOk_eq (⟨1, 2, -y, 1 + w⟩ : M) 10 (by omega) (by omega)
  have ho : okLine (⟨1, 2, -y, 1 + w⟩ : M) 10 = true := by simp only [okLine, decide_eq_true_eq]; omega
  simp only [ho] at h
  unfold impl_ReverseLine.f impl_Line_reverse.f
  rw [h]
  simp only [Option.bind_some, if_true]
  rw [w64 (by omega) (by omega), Int.neg_neg]
end
theorem may_ev {more : List Int} (hm : ∀ x ∈ more, 0 ≤ x ∧ x ≤ 255) : Ev (fun k => laws_FnLoopErrors.j2 k more false) true := by
  obtain ⟨p, ep, p0, p1⟩ := a2At_eq hm 4 256 (by omega) (by omega)
  obtain ⟨q, eq, q0, q1⟩ := a2At_eq hm 5 100 (by omega) (by omega)
  obtain ⟨n, hn, nb, n1, n2⟩ := mayClose_ev (1 + 100 * p + q) (by omega)
  refine Ev.up (g := fun k => laws_FnLoopErrors.j2 k more false) ?_
  simp only [laws_FnLoopErrors.j2, ep, eq, Option.bind_some, w64 (x := 100 * p) (by omega) (by omega), w64 (x := 1 + 100 * p) (by omega) (by omega), w64 (x := 1 + 100 * p + q) (by omega) (by omega)]
  refine Ev.ifNeg (by simp) (Ev.bindE hn ?_)
  have h1 : 1000 * (n + 1) * (n + 1) ≤ 41000 * 41 := Int.mul_le_mul (by omega) (by omega) (by omega) (by omega)
  have h2 : 0 ≤ 1000 * n * n := Int.mul_nonneg (by omega) (by omega)
  simp only [w64 (x := 1000 * n) (by omega) (by omega), w64 (x := 1000 * n * n) (by omega) (by omega), w64 (x := n + 1) (by omega) (by omega), w64 (x := 1000 * (n + 1)) (by omega) (by omega), w64 (x := 1000 * (n + 1) * (n + 1)) (by omega) (by omega), w64 (x := 25 * (1 + 100 * p + q)) (by omega) (by omega)]
  refine Ev.ifPos (by first | trivial | rfl) (Ev.ifPos nb.1 (Ev.ifPos (by omega) (Ev.ifPos n1 (Ev.const fun _ => ?_))))
  rw [decide_eq_true (by omega)]
theorem tail_ev {more : List Int} (hm : ∀ x ∈ more, 0 ≤ x ∧ x ≤ 255) (rs hs : List Int) (c a : Int) (n : Nat) : Ev (fun k => laws_FnLoopErrors.l0 k more rs (n : Int) hs c a (n : Int)) true := by
  obtain ⟨x, ex, x0, x1⟩ := a2At_eq hm 0 100 (by omega) (by omega)
  obtain ⟨y, ey, y0, y1⟩ := a2At_eq hm 1 100 (by omega) (by omega)
  obtain ⟨z, ez, z0, z1⟩ := a2At_eq hm 2 200 (by omega) (by omega)
  obtain ⟨w, ew, w0, w1⟩ := a2At_eq hm 3 200 (by omega) (by omega)
  obtain ⟨cl, hcl, l3, hsum⟩ := closeA (x := x) (y := y) (z := z) (w := w) ⟨x0, x1⟩ ⟨y0, y1⟩ ⟨z0, z1⟩ ⟨w0, w1⟩
  have hA := closingA (x := x) (y := y) (z := z) (w := w) ⟨x0, x1⟩ ⟨y0, y1⟩ ⟨z0, z1⟩ ⟨w0, w1⟩
  have hB := closingB (x := x) (y := y) (z := z) (w := w) ⟨x0, x1⟩ ⟨y0, y1⟩ ⟨z0, z1⟩ ⟨w0, w1⟩
  refine Ev.up (g := fun k => laws_FnLoopErrors.l0 k more rs (n : Int) hs c a (n : Int)) ?_
  simp only [laws_FnLoopErrors.l0, ex, ey, ez, ew, Option.bind_some, w64 (x := 1 + w) (by omega) (by omega)]
  refine Ev.ifNeg (by omega) (Ev.bindE hA (Ev.bindE hB (Ev.bindE hcl ?_)))
  have r1 : rd_T51 [(⟨0, 1, x, 100⟩ : M), ⟨2, 1, y, 1 + w⟩, ⟨0, 2, z, 70⟩] 1 = ⟨2, 1, y, 1 + w⟩ := rfl
  simp only [r1, rev1 (y := y) (w := w) ⟨y0, y1⟩ ⟨w0, w1⟩, rev2 (y := y) (w := w) ⟨y0, y1⟩ ⟨w0, w1⟩, Option.bind_some]
  refine Ev.ifPos (by show (1 : Int) < ((3 : Nat) : Int); omega) (Ev.ifPos (by first | trivial | rfl) (Ev.ifPos (by first | trivial | rfl) (Ev.ifPos ?_ (Ev.ifPos ?_ (Ev.ifPos (by first | trivial | rfl) (Ev.ifPos (by omega) (Ev.bindE hsum (Ev.ifPos (by first | trivial | rfl) (Ev.ifPos (by first | trivial | rfl) (Ev.ifPos ?_ (Ev.ifPos (by first | trivial | rfl) ?_)))))))))))
  · rw [w64 (x := x - y) (by omega) (by omega), w64 (by omega) (by omega)]
  · rw [w64 (by omega) (by omega)]; omega
  · rw [w64 (by omega) (by omega)]
  · simp only [beq_self_eq_true, Bool.not_true, Bool.or_false]
    exact may_ev hm
theorem FnLoopErrors : Say.FnLoopErrors := by
  intro code more hcode hmore
  refine Ev.rounds ?_
  unfold laws_FnLoopErrors.f laws_a2Long.f
  by_cases hl0 : (code.length : Int) > 3000
  · rw [if_pos hl0]; simp only [Option.bind_some]; exact Ev.ifPos trivial (Ev.const fun _ => rfl)
  rw [if_neg hl0]
  simp only [Option.bind_some]
  by_cases hl1 : (more.length : Int) > 3000
  · exact Ev.ifPos (decide_eq_true hl1) (Ev.const fun _ => rfl)
  refine Ev.ifNeg (by simpa using hl1) ?_
  have hmo : ∀ x ∈ more, 0 ≤ x ∧ x ≤ 255 := fun x hx => hmore.2 x hx
  obtain ⟨rs, ss, tq, hE, ⟨n1, n6⟩, hsl, hr, hz, d0, d1⟩ := rises_ev (code := code) (fun x hx => hcode.2 x hx)
  have hr' : ∀ x ∈ rs, -1000000 ≤ x ∧ x ≤ 1000000 := fun x hx => by have := hr x hx; omega
  have hw : ∀ i, i < ss.length → 1 ≤ rd ss (i : Int) ∧ rd ss (i : Int) ≤ 10000 := fun i hi => by
    rw [rd_at hi]
    have := hz _ (List.getElem_mem hi)
    omega
  have hs64 := sum64_sum (xs := rs) (by omega) hr'
  have hb := sum_small rs 100 (by omega) hr
  obtain ⟨c, hc⟩ : ∃ c, c = rs.sum - tq := ⟨_, rfl⟩
  have hwc : wrap64 (wrap64 (0 + sum64 0 rs) - tq) = c := by
    rw [hs64, w64 (x := 0 + rs.sum) (by omega) (by omega), w64 (by omega) (by omega)]; omega
  have hhead : PBetween.head 0 tq rs ss = true := by
    simp only [PBetween.head, PBetween.markIn, Bool.and_eq_true, decide_eq_true_eq]
    omega
  have hall : allFrom (PBetween.both rs ss) 0 rs.length = true := (allFrom_iff _ _ _).2 fun j _ hj => by
    have h1 := hr _ (List.getElem_mem hj)
    have h2 := hw j (by omega)
    simp only [PBetween.both, PBetween.riseIn, PBetween.sizeIn, rd_at hj, Bool.and_eq_true, decide_eq_true_eq]
    omega
  have htold : PBetween.told 0 tq rs ss = (PBetween.heights 0 (closed rs ss c), 0) := by
    unfold PBetween.told PBetween.shut
    rw [hhead, hall, hwc]
    rfl
  have im := PBetween.implTold_ev 0 tq rs ss (by omega)
  rw [htold] at im
  have hcl := closed_len rs ss c
  have hab : ab c ≤ 15 := by unfold ab; split <;> omega
  have hle := fun (i : Nat) (hi : i < rs.length) => less_eq (rs := rs) (ss := ss) (c := c) hsl.symm (by omega) (by omega) hr' hw (by omega) hi
  have hin : ∀ q ∈ closed rs ss c, -1000 ≤ q ∧ q ≤ 1000 := by
    intro q hq
    obtain ⟨i, hi, rfl⟩ := List.mem_iff_getElem.1 hq
    have hi' : i < rs.length := by omega
    obtain ⟨e1, p0, p1⟩ := hle i hi'
    have h1 := hr _ (List.getElem_mem hi')
    rw [rd_at hi, rd_at hi'] at e1
    rw [e1]
    split <;> omega
  have hps : ∀ i, i ≤ rs.length → -20000 ≤ psum (fun j => rd (closed rs ss c) (j : Int)) i ∧ psum (fun j => rd (closed rs ss c) (j : Int)) i ≤ 20000 := by
    intro i hi
    rw [psum_take _ i (by omega)]
    have := sum_small ((closed rs ss c).take i) 1000 (by omega) fun x hx => hin x (List.mem_of_mem_take hx)
    have hl : ((closed rs ss c).take i).length ≤ 6 := by rw [List.length_take]; omega
    omega
  have hrun : ∀ i, i ≤ rs.length → PBetween.run 0 (closed rs ss c) i = psum (fun j => rd (closed rs ss c) (j : Int)) i := by
    intro i
    induction i with
    | zero => intro _; rfl
    | succ i ih =>
      intro hi
      have := hps (i + 1) hi
      simp only [psum] at this
      simp only [PBetween.run, psum, ih (by omega)]
      exact w64 (by omega) (by omega)
  have hlast : PBetween.run 0 (closed rs ss c) rs.length = tq := by
    rw [hrun _ (Nat.le_refl _), psum_take _ _ (by omega), show (closed rs ss c).take rs.length = closed rs ss c by rw [← hcl, List.take_length], closed_sum hsl.symm (by omega) (by omega) hr' hw (by omega)]
    omega
  have hhl : (PBetween.heights 0 (closed rs ss c)).length = rs.length := by unfold PBetween.heights; rw [upto_len, hcl]
  have hH : ∀ i, i < rs.length → rd (PBetween.heights 0 (closed rs ss c)) (i : Int) = PBetween.run 0 (closed rs ss c) (i + 1) := fun i hi => by
    unfold PBetween.heights
    exact upto_at _ (by omega)
  have e1 : wrap64 ((rs.length : Int) - 1) = ((rs.length - 1 : Nat) : Int) := by rw [w64 (by omega) (by omega)]; omega
  refine Ev.bindE hE (Ev.bindE im (Ev.ifPos rfl ?_))
  simp only [hhl, e1]
  refine Ev.ifPos (by first | trivial | rfl) (Ev.ifPos (by omega) (Ev.ifPos (by omega) ?_))
  rw [hH _ (by omega), show rs.length - 1 + 1 = rs.length by omega, hlast]
  simp only [bne_self_eq_false]
  refine Ev.up (g := fun k => laws_FnLoopErrors.j0 k more rs tq (rs.length : Int) (PBetween.heights 0 (closed rs ss c)) false) ?_
  simp only [laws_FnLoopErrors.j0]
  refine Ev.ifNeg (by simp) (Ev.bindE (a2Sum_ev rs (by omega)) ?_)
  rw [hs64, w64 (x := rs.sum - tq) (by omega) (by omega), ← hc]
  refine scanI (fun k i => laws_FnLoopErrors.l0 k more rs (rs.length : Int) (PBetween.heights 0 (closed rs ss c)) c (PBetween.run 0 (closed rs ss c) i) (i : Int)) rs.length (fun _ => true) (tail_ev hmo rs _ c _ rs.length) (fun i hi ih => ?_) 0 (by omega)
  obtain ⟨q1, p0, p1⟩ := hle i hi
  have h1 := hr _ (List.getElem_mem hi)
  have h2 := hps i (by omega)
  have h3 := hps (i + 1) hi
  have hx : rd rs (i : Int) = rs[i] := rd_at hi
  obtain ⟨o, ho⟩ : ∃ o, o = rd rs (i : Int) - rd (closed rs ss c) (i : Int) := ⟨_, rfl⟩
  have e : wrap64 (wrap64 (PBetween.run 0 (closed rs ss c) i + rd rs (i : Int)) - PBetween.run 0 (closed rs ss c) (i + 1)) = o := by
    rw [hrun i (by omega), hrun (i + 1) hi]
    simp only [psum] at h3 ⊢
    rw [w64 (x := psum (fun j => rd (closed rs ss c) (j : Int)) i + rd rs (i : Int)) (by omega) (by omega), w64 (by omega) (by omega)]
    omega
  have hp : 0 ≤ c → 0 ≤ o ∧ o ≤ c := fun h => by
    rw [if_neg (by omega)] at q1
    have : ab c = c := by unfold ab; rw [if_neg (by omega)]
    omega
  have hn : c ≤ 0 → c ≤ o ∧ o ≤ 0 := fun h => by
    by_cases g : c < 0
    · rw [if_pos g] at q1
      have : ab c = -c := by unfold ab; rw [if_pos g]
      omega
    · have := hp (by omega)
      omega
  refine Ev.up (g := fun k => laws_FnLoopErrors.l0 k more rs (rs.length : Int) (PBetween.heights 0 (closed rs ss c)) c (PBetween.run 0 (closed rs ss c) i) (i : Int)) ?_
  simp only [laws_FnLoopErrors.l0, hH i hi, hhl, e, wnext hi (by omega : (rs.length : Int) ≤ _)]
  refine Ev.ifPos (by omega) (Ev.ifPos (by omega) (Ev.ifPos (by omega) (Ev.ifPos (by omega) (Ev.ite (fun g0 => ?_) (fun g0 => ?_)))))
  · have := hp g0
    refine Ev.ifNeg (by omega) (Ev.ifNeg (by omega) (Ev.ite (fun g1 => ?_) (fun _ => ih)))
    have := hn g1
    exact Ev.ifNeg (by omega) (Ev.ifNeg (by omega) ih)
  · refine Ev.ite (fun g1 => ?_) (fun _ => ih)
    have := hn g1
    exact Ev.ifNeg (by omega) (Ev.ifNeg (by omega) ih)
end Go.Proofs.Ytppfdndnojbmjaa.Pure

/-! ## LawFnLoopErrors -/
/- FnLoopErrors: the law's row, out of its plain statement and the walks. -/
namespace Go.Proofs.Ytppfdndnojbmjaa.fnLoopErrors
open Go.ChangeShapes Go.WideShapes Go.ChangeAt Go.RowKit Go.Proofs.Ytppfdndnojbmjaa.X
open Go.ChangeMaps (open_string shut_string)
theorem own : ownKnob Try.prog.godebug = none := by kernel_rfl
theorem laidOut : laidOutB Try.prog = true := by kernel_rfl
open Go.Proofs.YtppfdndnojbmjaaW.PrintWords in
theorem reader0 : Rdr.Reads Try.prog 44 (Kd.slice 5 (Kd.int .u8)) (Rdr.Lst Rdr.U8) := (Rdr.reads_slice Try.underlying44 (by kernel_rfl) (Rdr.reads_u8 Try.underlying5 (by kernel_rfl)))
open Go.Proofs.YtppfdndnojbmjaaW.PrintWords in
theorem reader1 : Rdr.Reads Try.prog 44 (Kd.slice 5 (Kd.int .u8)) (Rdr.Lst Rdr.U8) := (Rdr.reads_slice Try.underlying44 (by kernel_rfl) (Rdr.reads_u8 Try.underlying5 (by kernel_rfl)))
set_option maxRecDepth 100000 in
theorem lifted (os : Os) (started : os.Started) (H : Type) (enc : TypeId × Value → H) :
    ReturnsInHanded {} Try.checked os 10 .any (Rows.fnLoopErrorsSpec.pre6 enc Try.prog Try.f10 Rows.fnLoopErrorsRow.domain false) (Rows.fnLoopErrorsSpec.post enc Try.prog Try.f10 false true false false) := by
  refine returnsInHanded_of_change_sized (C := Try.checked) own started (by kernel_rfl) Try.func10
    (ChangeSpec.witness6 (enc := enc) (C := Try.checked) false ⟨#[], #[.slice none 0 0, .slice none 0 0], []⟩ 8 (by kernel_rfl) (by kernel_rfl) (by kernel_rfl) (by kernel_rfl)) ?_
  intro W base args ds gs before hval0 hW hcnd hsz0 _
  have hval : ∀ (j : Nat) t v, Try.f10.params[j]? = some t → args[j]? = some v → Value.okWide Try.prog W .any base t v := hval0
  have hW' := hW
  obtain ⟨p, q, hA0, hV, rfl, hfz, hnd⟩ := hW
  have hA : DataW.TrodAll enc Try.prog W 0 (fun _ => true) true Try.f10.params.toList args.toList ds p := hA0
  rw [Try.params10] at hA hval
  obtain ⟨v0, vs0, d0, ds0, p0, q0, hargs, rfl, rfl, h0, r0⟩ := trodAll_cons hA
  obtain ⟨v1, vs1, d1, ds1, p1, q1, rfl, rfl, rfl, h1, r1⟩ := trodAll_cons r0
  obtain ⟨rfl, rfl, rfl⟩ := trodAll_nil r1
  obtain rfl : args = #[v0, v1] := by cases args; simp_all
  obtain ⟨rfl, rfl⟩ := trodVars_none hV
  have k0 := h0
  have lt0 : ∀ x ∈ p0, x.block < W.heap.size := by obtain ⟨m, hm⟩ := k0; exact DataW.trod_lt m _ _ _ hm
  obtain ⟨fuel0, hf0⟩ := h0
  obtain ⟨x0, hK0, w0⟩ := reader0.read hf0
  obtain ⟨a0, len0, cap0, rfl⟩ := okWide_slice Try.underlying44 (hval 0 44 v0 rfl rfl)
  obtain ⟨A0, c0, hcs0, hl0, hC0⟩ := hK0
  simp [Value.cells] at hcs0
  obtain ⟨rfl, rfl, rfl⟩ := hcs0
  have k1 := h1
  have lt1 : ∀ x ∈ p1, x.block < W.heap.size := by obtain ⟨m, hm⟩ := k1; exact DataW.trod_lt m _ _ _ hm
  obtain ⟨fuel1, hf1⟩ := h1
  obtain ⟨x1, hK1, w1⟩ := reader1.read hf1
  obtain ⟨a1, len1, cap1, rfl⟩ := okWide_slice Try.underlying44 (hval 1 44 v1 rfl rfl)
  obtain ⟨A1, c1, hcs1, hl1, hC1⟩ := hK1
  simp [Value.cells] at hcs1
  obtain ⟨rfl, rfl, rfl⟩ := hcs1
  clear hA0 hval0 hsz0
  obtain ⟨k, h⟩ := Pure.FnLoopErrors x0 x1 w0 w1
  refine (laws_FnLoopErrors.calls k _ _ x0 _ _ x1 true W hC0 hl0 hC1 hl1 ⟨rfl⟩ h).mono fun e W' ⟨he, hd⟩ => ?_
  have bel : Below W.heap.size W W' := hd
  subst he
  exact ⟨_, rfl, _, _, _, [], _, [], hW', trodAll_mk1 (shut_bool Try.underlying4 _), (trodAll_cons_mk (Below.trod laidOut (by kernel_rfl) (of_decide_eq_true (by kernel_rfl)) k0 bel lt0) (trodAll_cons_mk (Below.trod laidOut (by kernel_rfl) (of_decide_eq_true (by kernel_rfl)) k1 bel lt1) trodAll_mk0)), rfl, bel.frame _, fun h => by cases h⟩
theorem over : Rows.fnLoopErrorsRow.holds Try.pinned (OpenSpec.ofChange Rows.fnLoopErrorsSpec) :=
  OpenClaim.holds_of_wide 10 Try.f10 rfl rfl rfl rfl rfl rfl rfl ⟨rfl, rfl, rfl, rfl, rfl⟩ rfl rfl rfl rfl rfl (by kernel_rfl) Try.func10 (by kernel_rfl)
    (of_decide_eq_true (by kernel_rfl)) (by unfold Func.isWrapper; first | (rw [if_pos (by decide +kernel)]; kernel_rfl) | (rw [if_neg (by decide +kernel)]; exact ⟨rfl, rfl⟩))
    (fun os started H enc _ => lifted os started H enc)
theorem proved : Rows.FnLoopErrorsSaid := over
end Go.Proofs.Ytppfdndnojbmjaa.fnLoopErrors
namespace Go.Proofs.Ytppfdndnojbmjaa
/-- The row, under a short name, for the claim. -/
theorem fnLoopErrors_holds : Rows.FnLoopErrorsSaid := fnLoopErrors.proved
end Go.Proofs.Ytppfdndnojbmjaa
