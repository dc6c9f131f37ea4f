/- A part of the proof of FnLoopErrors: walks of Go functions and plain laws that it uses. No condition of its own. -/
import Derived.Test.YtppfdndnojbmjaaZFnLoopErrors0
import Derived.Test.YtppfdndnojbmjaaZFnLoopErrors1
import Derived.Test.YtppfdndnojbmjaaZFnLoopErrors2
import Derived.Deep.Slices
import Derived.ChangeArms
import Derived.ProofKit
import Derived.OpenShut
set_option linter.unusedVariables false
set_option linter.unusedSimpArgs false

/-! ## XLawsFnLoopErrors -/
namespace Go.Proofs.Ytppfdndnojbmjaa.X
open Go.RowKit Go.Proofs.Ytppfdndnojbmjaa.XV Go.Proofs.YtppfdndnojbmjaaW.PrintWords Go.Proofs.YtppfdndnojbmjaaW.PrintLast Go.Proofs.YtppfdndnojbmjaaW.PrintMore
attribute [local go_sem] max2_int min2_int max_two min_two max_three min_three max_four min_four

attribute [local go_sem high] eqA51
mutual
def laws_FnLoopErrors.j0 : Nat → List Int → List Int → Int → Int → List Int → Bool → Option (Bool)
 | 0, _, _, _, _, _, _ => none
 | k + 1, x1, x5, x7, x8, x9, x66 => if x66 = true then (some false) else ((laws_a2Sum.f k x5).bind fun t562 => (laws_FnLoopErrors.l0 k x1 x5 x8 x9 (wrap64 (t562 - x7)) 0 0))
def laws_FnLoopErrors.l0 : Nat → List Int → List Int → Int → List Int → Int → Int → Int → Option (Bool)
 | 0, _, _, _, _, _, _, _ => none
 | k + 1, x1, x5, x8, x9, x11, x12, x13 => if x13 < x8 then (if 0 ≤ x13 then (if x13 < (x5.length : Int) then (if x13 < (x9.length : Int) then (if x11 ≥ 0 then (if (wrap64 ((wrap64 (x12 + (rd x5 x13))) - (rd x9 x13))) < 0 then (some false) else (if (wrap64 ((wrap64 (x12 + (rd x5 x13))) - (rd x9 x13))) > x11 then (some false) else (if x11 ≤ 0 then (if (wrap64 ((wrap64 (x12 + (rd x5 x13))) - (rd x9 x13))) > 0 then (some false) else (if (wrap64 ((wrap64 (x12 + (rd x5 x13))) - (rd x9 x13))) < x11 then (some false) else (laws_FnLoopErrors.l0 k x1 x5 x8 x9 x11 (rd x9 x13) (wrap64 (x13 + 1))))) else (laws_FnLoopErrors.l0 k x1 x5 x8 x9 x11 (rd x9 x13) (wrap64 (x13 + 1)))))) else (if x11 ≤ 0 then (if (wrap64 ((wrap64 (x12 + (rd x5 x13))) - (rd x9 x13))) > 0 then (some false) else (if (wrap64 ((wrap64 (x12 + (rd x5 x13))) - (rd x9 x13))) < x11 then (some false) else (laws_FnLoopErrors.l0 k x1 x5 x8 x9 x11 (rd x9 x13) (wrap64 (x13 + 1))))) else (laws_FnLoopErrors.l0 k x1 x5 x8 x9 x11 (rd x9 x13) (wrap64 (x13 + 1))))) else (none)) else (none)) else (none)) else ((laws_a2At.f x1 0 100).bind fun t569 => ((laws_a2At.f x1 1 100).bind fun t570 => ((laws_a2At.f x1 2 200).bind fun t571 => ((laws_a2At.f x1 3 200).bind fun t572 => ((some (([(⟨0, 1, t569, 100⟩ : S51), (⟨2, 1, t570, wrap64 (1 + t572)⟩ : S51), (⟨0, 2, t571, 70⟩ : S51)] : List (S51)) : List (S51))).bind fun y573 => ((impl_ClosingOf.f k 3 y573 (([0, 1, 2] : List Int))).bind fun bt579 => ((impl_ClosingOf.f k 3 y573 (([2, 1, 0] : List Int))).bind fun bt584 => ((impl_CloseLoop.f k 3 y573 (([0, 1, 2] : List Int))).bind fun bt589 => (if 1 < (y573.length : Int) then ((impl_ReverseLine.f ((rd_T51 y573 1).f0) ((rd_T51 y573 1).f1) ((rd_T51 y573 1).f2) ((rd_T51 y573 1).f3)).bind fun bt594 => ((impl_ReverseLine.f bt594.1 bt594.2.1 bt594.2.2.1 bt594.2.2.2.1).bind fun bt600 => (if bt579.2 = 0 then (if bt584.2 = 0 then (if bt579.1 = (wrap64 ((wrap64 (t569 - t570)) - t571)) then (if bt584.1 = (wrap64 (-bt579.1)) then (if bt589.2 = 0 then (if (bt589.1.length : Int) = 3 then ((laws_a2Sum.f k bt589.1).bind fun t606 => (if t606 = 0 then (if bt594.2.2.2.2 = 0 then (if bt594.2.2.1 = (wrap64 (-t570)) then (if bt600.2.2.2.2 = 0 then (laws_FnLoopErrors.j2 k x1 (!(bt600.1 == ((rd_T51 y573 1).f0)) || (!(bt600.2.1 == ((rd_T51 y573 1).f1)) || (!(bt600.2.2.1 == ((rd_T51 y573 1).f2)) || (!(bt600.2.2.2.1 == ((rd_T51 y573 1).f3))))))) else (some false)) else (some false)) else (some false)) else (some false))) else (some false)) else (some false)) else (some false)) else (some false)) else (some false)) else (some false)))) else (none))))))))))
def laws_FnLoopErrors.j2 : Nat → List Int → Bool → Option (Bool)
 | 0, _, _ => none
 | k + 1, x1, x217 => if x217 = true then (some false) else ((laws_a2At.f x1 4 256).bind fun t608 => ((laws_a2At.f x1 5 100).bind fun t609 => ((impl_MayClose.f k (wrap64 ((wrap64 (1 + (wrap64 (100 * t608)))) + t609))).bind fun bt610 => (if bt610.2 = 0 then (if bt610.1 ≥ 0 then (if bt610.1 ≤ 10000 then (if (wrap64 ((wrap64 (1000 * bt610.1)) * bt610.1)) ≤ (wrap64 (25 * (wrap64 ((wrap64 (1 + (wrap64 (100 * t608)))) + t609)))) then (some (decide ((wrap64 ((wrap64 (1000 * (wrap64 (bt610.1 + 1)))) * (wrap64 (bt610.1 + 1)))) > (wrap64 (25 * (wrap64 ((wrap64 (1 + (wrap64 (100 * t608)))) + t609))))))) else (some false)) else (some false)) else (some false)) else (some false)))))
end
def laws_FnLoopErrors.f (k : Nat) (l0 : List Int) (l1 : List Int) : Option (Bool) := (laws_a2Long.f l0 l1).bind fun t549 => (if t549 = true then (some true) else ((spec_A2Rises.f k l0).bind fun bt550 => ((impl_BetweenMarks.f k 0 bt550.2.2 bt550.1 bt550.2.1).bind fun bt557 => (if bt557.2 = 0 then (if (bt557.1.length : Int) = (bt550.1.length : Int) then (if 0 ≤ (wrap64 ((bt550.1.length : Int) - 1)) then (if (wrap64 ((bt550.1.length : Int) - 1)) < (bt557.1.length : Int) then (laws_FnLoopErrors.j0 k l1 bt550.1 bt550.2.2 (bt550.1.length : Int) bt557.1 ((rd bt557.1 (wrap64 ((bt550.1.length : Int) - 1))) != bt550.2.2)) else (none)) else (none)) else (some false)) else (some false)))))
theorem laws_FnLoopErrors.mono_l : ∀ k, (∀ y0 y1 y2 y3 y4 y5, LeO (laws_FnLoopErrors.j0 k y0 y1 y2 y3 y4 y5) (laws_FnLoopErrors.j0 (k + 1) y0 y1 y2 y3 y4 y5)) ∧ (∀ y0 y1 y2 y3 y4 y5 y6, LeO (laws_FnLoopErrors.l0 k y0 y1 y2 y3 y4 y5 y6) (laws_FnLoopErrors.l0 (k + 1) y0 y1 y2 y3 y4 y5 y6)) ∧ (∀ y0 y1, LeO (laws_FnLoopErrors.j2 k y0 y1) (laws_FnLoopErrors.j2 (k + 1) y0 y1))
 | 0 => ⟨fun _ _ _ _ _ _ r h => by simp [laws_FnLoopErrors.j0] at h, fun _ _ _ _ _ _ _ r h => by simp [laws_FnLoopErrors.l0] at h, fun _ _ r h => by simp [laws_FnLoopErrors.j2] at h⟩
 | k + 1 => by
  obtain ⟨ih0, ih1, ih2⟩ := laws_FnLoopErrors.mono_l k
  refine ⟨?_, ?_, ?_⟩
  ·intro y0 y1 y2 y3 y4 y5
   unfold laws_FnLoopErrors.j0
   repeat' first
   | (with_reducible exact ih0 _ _ _ _ _ _)
   | (with_reducible exact ih1 _ _ _ _ _ _ _)
   | (with_reducible exact ih2 _ _)
   | (with_reducible exact impl_BetweenMarks.mono _ _ _ _ _)
   | (with_reducible exact impl_CloseLoop.mono _ _ _ _)
   | (with_reducible exact impl_ClosingOf.mono _ _ _ _)
   | (with_reducible exact impl_MayClose.mono _ _)
   | (with_reducible exact laws_a2Sum.mono _ _)
   | (with_reducible exact spec_A2Rises.mono _ _)
   | (with_reducible exact LeO.refl _)
   | (with_reducible exact LeO.none _)
   | (with_reducible refine LeO.ite ?_ ?_)
   | (with_reducible refine LeO.bind ?_ (fun _ => ?_))
   | exact ih0 _ _ _ _ _ _
   | exact ih1 _ _ _ _ _ _ _
   | exact ih2 _ _
   | exact impl_BetweenMarks.mono _ _ _ _ _
   | exact impl_CloseLoop.mono _ _ _ _
   | exact impl_ClosingOf.mono _ _ _ _
   | exact impl_MayClose.mono _ _
   | exact laws_a2Sum.mono _ _
   | exact spec_A2Rises.mono _ _
   | exact LeO.none _
   | refine LeO.ite ?_ ?_
   | refine LeO.bind ?_ (fun _ => ?_)
  ·intro y0 y1 y2 y3 y4 y5 y6
   unfold laws_FnLoopErrors.l0
   repeat' first
   | (with_reducible exact ih0 _ _ _ _ _ _)
   | (with_reducible exact ih1 _ _ _ _ _ _ _)
   | (with_reducible exact ih2 _ _)
   | (with_reducible exact impl_BetweenMarks.mono _ _ _ _ _)
   | (with_reducible exact impl_CloseLoop.mono _ _ _ _)
   | (with_reducible exact impl_ClosingOf.mono _ _ _ _)
   | (with_reducible exact impl_MayClose.mono _ _)
   | (with_reducible exact laws_a2Sum.mono _ _)
   | (with_reducible exact spec_A2Rises.mono _ _)
   | (with_reducible exact LeO.refl _)
   | (with_reducible exact LeO.none _)
   | (with_reducible refine LeO.ite ?_ ?_)
   | (with_reducible refine LeO.bind ?_ (fun _ => ?_))
   | exact ih0 _ _ _ _ _ _
   | exact ih1 _ _ _ _ _ _ _
   | exact ih2 _ _
   | exact impl_BetweenMarks.mono _ _ _ _ _
   | exact impl_CloseLoop.mono _ _ _ _
   | exact impl_ClosingOf.mono _ _ _ _
   | exact impl_MayClose.mono _ _
   | exact laws_a2Sum.mono _ _
   | exact spec_A2Rises.mono _ _
   | exact LeO.none _
   | refine LeO.ite ?_ ?_
   | refine LeO.bind ?_ (fun _ => ?_)
  ·intro y0 y1
   unfold laws_FnLoopErrors.j2
   repeat' first
   | (with_reducible exact ih0 _ _ _ _ _ _)
   | (with_reducible exact ih1 _ _ _ _ _ _ _)
   | (with_reducible exact ih2 _ _)
   | (with_reducible exact impl_BetweenMarks.mono _ _ _ _ _)
   | (with_reducible exact impl_CloseLoop.mono _ _ _ _)
   | (with_reducible exact impl_ClosingOf.mono _ _ _ _)
   | (with_reducible exact impl_MayClose.mono _ _)
   | (with_reducible exact laws_a2Sum.mono _ _)
   | (with_reducible exact spec_A2Rises.mono _ _)
   | (with_reducible exact LeO.refl _)
   | (with_reducible exact LeO.none _)
   | (with_reducible refine LeO.ite ?_ ?_)
   | (with_reducible refine LeO.bind ?_ (fun _ => ?_))
   | exact ih0 _ _ _ _ _ _
   | exact ih1 _ _ _ _ _ _ _
   | exact ih2 _ _
   | exact impl_BetweenMarks.mono _ _ _ _ _
   | exact impl_CloseLoop.mono _ _ _ _
   | exact impl_ClosingOf.mono _ _ _ _
   | exact impl_MayClose.mono _ _
   | exact laws_a2Sum.mono _ _
   | exact spec_A2Rises.mono _ _
   | exact LeO.none _
   | refine LeO.ite ?_ ?_
   | refine LeO.bind ?_ (fun _ => ?_)
theorem laws_FnLoopErrors.mono : ∀ a0 a1 k, LeO (laws_FnLoopErrors.f k a0 a1) (laws_FnLoopErrors.f (k + 1) a0 a1) := by
 intro a0 a1 k
 obtain ⟨ih0, ih1, ih2⟩ := laws_FnLoopErrors.mono_l k
 unfold laws_FnLoopErrors.f
 repeat' first
   | (with_reducible exact ih0 _ _ _ _ _ _)
   | (with_reducible exact ih1 _ _ _ _ _ _ _)
   | (with_reducible exact ih2 _ _)
   | (with_reducible exact impl_BetweenMarks.mono _ _ _ _ _)
   | (with_reducible exact impl_CloseLoop.mono _ _ _ _)
   | (with_reducible exact impl_ClosingOf.mono _ _ _ _)
   | (with_reducible exact impl_MayClose.mono _ _)
   | (with_reducible exact laws_a2Sum.mono _ _)
   | (with_reducible exact spec_A2Rises.mono _ _)
   | (with_reducible exact LeO.refl _)
   | (with_reducible exact LeO.none _)
   | (with_reducible refine LeO.ite ?_ ?_)
   | (with_reducible refine LeO.bind ?_ (fun _ => ?_))
   | exact ih0 _ _ _ _ _ _
   | exact ih1 _ _ _ _ _ _ _
   | exact ih2 _ _
   | exact impl_BetweenMarks.mono _ _ _ _ _
   | exact impl_CloseLoop.mono _ _ _ _
   | exact impl_ClosingOf.mono _ _ _ _
   | exact impl_MayClose.mono _ _
   | exact laws_a2Sum.mono _ _
   | exact spec_A2Rises.mono _ _
   | exact LeO.none _
   | refine LeO.ite ?_ ?_
   | refine LeO.bind ?_ (fun _ => ?_)
def laws_FnLoopErrors.T13 : Bool × List (List Nat × List Nat) := (true, [([], []), ([], []), ([], []), ([1, 2], [1, 2]), ([3], [3]), ([0, 4], [0, 4]), ([], []), ([], []), ([6, 7], [6, 7]), ([8], [8]), ([5, 9], [5, 9]), ([10, 0, 1, 2, 3, 4, 5, 6, 7, 8, 9, 10], [10])])
def laws_FnLoopErrors.B13 : List Nat := [0, 0, 0, 6, 14, 31, 0, 0, 192, 448, 1023, 2047]
theorem laws_FnLoopErrors.tab13 : rtab .any (opsOf Try.f10 13) = laws_FnLoopErrors.T13 := by kernel_rfl
theorem laws_FnLoopErrors.bits13 : waitsOk laws_FnLoopErrors.T13.2 laws_FnLoopErrors.B13 = true := by kernel_rfl
def laws_FnLoopErrors.T26 : Bool × List (List Nat × List Nat) := (true, [([], []), ([0], [0]), ([1], [1]), ([2], [2]), ([3, 2], [2, 3]), ([2, 4], [2, 4]), ([5, 2], [5]), ([6], [6]), ([6], [6]), ([6], [6]), ([8, 9, 6], [6, 8, 9]), ([6], [6]), ([10, 11, 6], [6, 10, 11]), ([7, 12, 6], [6, 7, 12]), ([6, 13], [6, 13]), ([14, 6], [14]), ([15], [15]), ([15], [15]), ([17, 15], [15, 17]), ([16, 18, 15], [15, 16, 18]), ([15, 19], [15, 19]), ([20, 15], [20]), ([21], [21]), ([22, 21], [21, 22]), ([21, 23], [21, 23]), ([24, 21], [24]), ([25], [25]), ([26, 25], [25, 26]), ([27, 25], [25, 27]), ([25, 28], [25, 28]), ([29, 25], [29]), ([30], [30]), ([31, 30, 30], [30, 31]), ([32, 30], [30, 32]), ([30, 33], [30, 33]), ([34, 32], [34]), ([35], [35]), ([36, 35], [35, 36]), ([35, 37], [35, 37]), ([38, 35], [38]), ([39], [39]), ([40, 39], [39, 40]), ([39], [39]), ([42, 39], [39, 42]), ([41, 43, 39], [39, 41, 43]), ([39, 44], [39, 44]), ([45, 39], [45]), ([46], [46]), ([47, 46], [46, 47]), ([46, 48], [46, 48]), ([49, 46], [49]), ([50], [50]), ([50], [50]), ([52, 50], [50, 52]), ([53, 50], [50, 53]), ([51, 54, 50], [50, 51, 54]), ([50, 55], [50, 55])])
def laws_FnLoopErrors.B26 : List Nat := [0, 1, 3, 7, 15, 31, 63, 127, 127, 127, 895, 127, 3967, 8191, 16383, 32767, 65535, 65535, 196607, 524287, 1048575, 2097151, 4194303, 8388607, 16777215, 33554431, 67108863, 134217727, 268435455, 536870911, 1073741823, 2147483647, 4294967295, 8589934591, 17179869183, 34359738367, 68719476735, 137438953471, 274877906943, 549755813887, 1099511627775, 2199023255551, 1099511627775, 5497558138879, 17592186044415, 35184372088831, 70368744177663, 140737488355327, 281474976710655, 562949953421311, 1125899906842623, 2251799813685247, 2251799813685247, 6755399441055743, 15762598695796735, 36028797018963967, 72057594037927935]
theorem laws_FnLoopErrors.tab26 : rtab .any (opsOf Try.f10 26) = laws_FnLoopErrors.T26 := by kernel_rfl
theorem laws_FnLoopErrors.bits26 : waitsOk laws_FnLoopErrors.T26.2 laws_FnLoopErrors.B26 = true := by kernel_rfl
set_option maxHeartbeats 8000000 in
set_option maxRecDepth 100000 in
theorem laws_FnLoopErrors.calls (k : Nat) (A0 : Option Addr) (c0 : Nat) (l0 : List Int) (A1 : Option Addr) (c1 : Nat) (l1 : List Int) (r : Bool) (w : World) (hr0 : Kd.C (Kd.int .u8) w A0 l0.length l0) (hc0 : l0.length ≤ c0) (hr1 : Kd.C (Kd.int .u8) w A1 l1.length l1) (hc1 : l1.length ≤ c1) (hr_ : Aside0 (r = true)) (h : laws_FnLoopErrors.f k l0 l1 = some r) :
  Calls Try.prog 10 #[.slice A0 l0.length c0, .slice A1 l1.length c1] w fun e w' => e = .returned (.bool r) ∧ Below w.heap.size w w' := by
 have hu51 := Try.underlying51
 have HR0 := Aside0.mk hr0
 have HC0 := Aside0.mk hc0
 clear hr0 hc0
 have HR1 := Aside0.mk hr1
 have HC1 := Aside0.mk hc1
 clear hr1 hc1
 have HB := Aside0.mk (Below.refl w.heap.size w)
 have H : ((laws_a2Long.f l0 l1).bind fun t549 => (if t549 = true then (some true) else ((spec_A2Rises.f k l0).bind fun bt550 => ((impl_BetweenMarks.f k 0 bt550.2.2 bt550.1 bt550.2.1).bind fun bt557 => (if bt557.2 = 0 then (if (bt557.1.length : Int) = (bt550.1.length : Int) then (if 0 ≤ (wrap64 ((bt550.1.length : Int) - 1)) then (if (wrap64 ((bt550.1.length : Int) - 1)) < (bt557.1.length : Int) then (laws_FnLoopErrors.j0 k l1 bt550.1 bt550.2.2 (bt550.1.length : Int) bt557.1 ((rd bt557.1 (wrap64 ((bt550.1.length : Int) - 1))) != bt550.2.2)) else (none)) else (none)) else (some false)) else (some false)))))) = some r := h
 clear h
 replace H := Option.bind_eq_some_iff.mp H
 obtain ⟨t549, A30, H⟩ := H
 replace H : (if t549 = true then (some true) else ((spec_A2Rises.f k l0).bind fun bt550 => ((impl_BetweenMarks.f k 0 bt550.2.2 bt550.1 bt550.2.1).bind fun bt557 => (if bt557.2 = 0 then (if (bt557.1.length : Int) = (bt550.1.length : Int) then (if 0 ≤ (wrap64 ((bt550.1.length : Int) - 1)) then (if (wrap64 ((bt550.1.length : Int) - 1)) < (bt557.1.length : Int) then (laws_FnLoopErrors.j0 k l1 bt550.1 bt550.2.2 (bt550.1.length : Int) bt557.1 ((rd bt557.1 (wrap64 ((bt550.1.length : Int) - 1))) != bt550.2.2)) else (none)) else (none)) else (some false)) else (some false))))) = some r := H
 have A3 := Aside0.mk A30
 clear A30
 by_cases c4 : t549 = true
 ·subst c4
  have H1 : (some true) = some r := by rw [if_pos rfl] at H; exact H
  clear H
  have H := H1
  clear H1
  obtain rfl := Option.some.inj H
  go_enter Try.func10, Try.ntmps10
  go_wp2_with (first | ((with_reducible refine gate_callee (f := 33) rfl ?_); refine goesL_ (some 34) rfl rfl Try.func33 (by kernel_rfl) rfl #[.slice A0 l0.length c0, .slice A1 l1.length c1] rfl (by (try simp only [List.map_toArray, List.map_cons, List.map_nil]); first | done | rfl | (simp only [List.length_drop, List.length_take]; rfl)) ?_; (with_reducible refine (laws_a2Long.calls _ _ l0 _ _ l1 true _ ?side1 ?side2 ?side3 ?side4 A3.out).mono ?_); (case side1 => repeat (first | exact HR0.out | (with_reducible refine Kd.C_alloc ?_ _) | (with_reducible refine Kd.C_drewN ?_ _) | (with_reducible refine Kd.C_drew ?_))); (case side2 => exact HC0.out); (case side3 => repeat (first | exact HR1.out | (with_reducible refine Kd.C_alloc ?_ _) | (with_reducible refine Kd.C_drewN ?_ _) | (with_reducible refine Kd.C_drew ?_))); (case side4 => exact HC1.out); rintro e w' ⟨rfl, ⟨nd, rfl⟩⟩; refine ⟨_, rfl, ?_⟩))
  go_ret
  exact ⟨by first | rfl | (simp [errW_none, errW_some] <;> rfl) | (simp [*, errW_none, errW_some] <;> rfl), by repeat (first | (with_reducible first | exact HB.out | apply below_alloc | apply pw_below_drewN | apply below_drew1) | exact HB.out)⟩
 ·replace c4 := Bool.eq_false_iff.mpr c4
  subst c4
  have H1 : ((spec_A2Rises.f k l0).bind fun bt550 => ((impl_BetweenMarks.f k 0 bt550.2.2 bt550.1 bt550.2.1).bind fun bt557 => (if bt557.2 = 0 then (if (bt557.1.length : Int) = (bt550.1.length : Int) then (if 0 ≤ (wrap64 ((bt550.1.length : Int) - 1)) then (if (wrap64 ((bt550.1.length : Int) - 1)) < (bt557.1.length : Int) then (laws_FnLoopErrors.j0 k l1 bt550.1 bt550.2.2 (bt550.1.length : Int) bt557.1 ((rd bt557.1 (wrap64 ((bt550.1.length : Int) - 1))) != bt550.2.2)) else (none)) else (none)) else (some false)) else (some false)))) = some r := by rw [if_neg (show ¬ (false = true) by decide)] at H; exact H
  clear H
  have H := H1
  clear H1
  replace H := Option.bind_eq_some_iff.mp H
  obtain ⟨⟨t550, t551, t552⟩, A50, H⟩ := H
  replace H : ((impl_BetweenMarks.f k 0 t552 t550 t551).bind fun bt557 => (if bt557.2 = 0 then (if (bt557.1.length : Int) = (t550.length : Int) then (if 0 ≤ (wrap64 ((t550.length : Int) - 1)) then (if (wrap64 ((t550.length : Int) - 1)) < (bt557.1.length : Int) then (laws_FnLoopErrors.j0 k l1 t550 t552 (t550.length : Int) bt557.1 ((rd bt557.1 (wrap64 ((t550.length : Int) - 1))) != t552)) else (none)) else (none)) else (some false)) else (some false))) = some r := H
  have A5 := Aside0.mk A50
  clear A50
  replace H := Option.bind_eq_some_iff.mp H
  obtain ⟨⟨t557, t558⟩, A60, H⟩ := H
  replace H : (if t558 = 0 then (if (t557.length : Int) = (t550.length : Int) then (if 0 ≤ (wrap64 ((t550.length : Int) - 1)) then (if (wrap64 ((t550.length : Int) - 1)) < (t557.length : Int) then (laws_FnLoopErrors.j0 k l1 t550 t552 (t550.length : Int) t557 ((rd t557 (wrap64 ((t550.length : Int) - 1))) != t552)) else (none)) else (none)) else (some false)) else (some false)) = some r := H
  have A6 := Aside0.mk A60
  clear A60
  have HC7 := Aside0.mk H
  clear H
  go_enter Try.func10, Try.ntmps10
  go_upto_region 6 with (first | ((with_reducible refine gate_callee (f := 33) rfl ?_); refine goesL_ (some 34) rfl rfl Try.func33 (by kernel_rfl) rfl #[.slice A0 l0.length c0, .slice A1 l1.length c1] rfl (by (try simp only [List.map_toArray, List.map_cons, List.map_nil]); first | done | rfl | (simp only [List.length_drop, List.length_take]; rfl)) ?_; (with_reducible refine (laws_a2Long.calls _ _ l0 _ _ l1 false _ ?side1 ?side2 ?side3 ?side4 A3.out).mono ?_); (case side1 => repeat (first | exact HR0.out | (with_reducible refine Kd.C_alloc ?_ _) | (with_reducible refine Kd.C_drewN ?_ _) | (with_reducible refine Kd.C_drew ?_))); (case side2 => exact HC0.out); (case side3 => repeat (first | exact HR1.out | (with_reducible refine Kd.C_alloc ?_ _) | (with_reducible refine Kd.C_drewN ?_ _) | (with_reducible refine Kd.C_drew ?_))); (case side4 => exact HC1.out); rintro e w' ⟨rfl, ⟨nd, rfl⟩⟩; refine ⟨_, rfl, ?_⟩) | ((with_reducible refine gate_callee (f := 34) rfl ?_); refine goesL_ (some 37) rfl rfl Try.func34 (by kernel_rfl) rfl #[.slice A0 l0.length c0] rfl (by (try simp only [List.map_toArray, List.map_cons, List.map_nil]); first | done | rfl | (simp only [List.length_drop, List.length_take]; rfl)) ?_; (with_reducible refine (spec_A2Rises.calls k _ _ l0 t550 t551 t552 _ ?side1 ?side2 A5.out).mono ?_); (case side1 => repeat (first | exact HR0.out | (with_reducible refine Kd.C_alloc ?_ _) | (with_reducible refine Kd.C_drewN ?_ _) | (with_reducible refine Kd.C_drew ?_))); (case side2 => exact HC0.out); rintro e w8 ⟨v553, v555, rfl, ho0, ho1, hb⟩; refine ⟨_, rfl, ?_⟩; have n0_ := Aside0.mk (Kd.R_lower ho0 (below_size (by repeat (first | (with_reducible first | exact HB.out | apply below_alloc | apply pw_below_drewN | apply below_drew1) | exact HB.out)))); have n1_ := Aside0.mk (Kd.R_lower ho1 (below_size (by repeat (first | (with_reducible first | exact HB.out | apply below_alloc | apply pw_below_drewN | apply below_drew1) | exact HB.out)))); have n2_ := Aside0.mk (below_step (by repeat (first | (with_reducible first | exact HB.out | apply below_alloc | apply pw_below_drewN | apply below_drew1) | exact HB.out)) hb); clear HB; have HO554 := n0_; have HO556 := n1_; have HB := n2_; clear n0_ n1_ n2_; (try clear hb); (try clear hb2); (try clear hk); (try clear hi); (try clear ho0); (try clear ho1); obtain ⟨Ao9, co9, eo9⟩ := Kd.R_slice HO554.out; subst eo9; obtain ⟨Ao10, co10, eo10⟩ := Kd.R_slice HO556.out; subst eo10) | ((with_reducible refine gate_callee (f := 30) rfl ?_); refine goesL_ (some 47) rfl rfl Try.func30 (by kernel_rfl) rfl #[.int .i64 0, .int .i64 t552, .slice Ao9 t550.length co9, .slice Ao10 t551.length co10] rfl (by (try simp only [List.map_toArray, List.map_cons, List.map_nil]); first | done | rfl | (simp only [List.length_drop, List.length_take]; rfl)) ?_; (with_reducible refine (impl_BetweenMarks.calls k 0 t552 _ _ t550 _ _ t551 t557 t558 _ ?side1 ?side2 ?side3 ?side4 A6.out).mono ?_); (case side1 => repeat (first | exact (Kd.R_reads' HO554.out).2.2 | (with_reducible refine Kd.C_alloc ?_ _) | (with_reducible refine Kd.C_drewN ?_ _) | (with_reducible refine Kd.C_drew ?_))); (case side2 => exact (Kd.R_reads' HO554.out).2.1); (case side3 => repeat (first | exact (Kd.R_reads' HO556.out).2.2 | (with_reducible refine Kd.C_alloc ?_ _) | (with_reducible refine Kd.C_drewN ?_ _) | (with_reducible refine Kd.C_drew ?_))); (case side4 => exact (Kd.R_reads' HO556.out).2.1); rintro e w11 ⟨v559, rfl, ho0, hb⟩; refine ⟨_, rfl, ?_⟩; have n0_ := Aside0.mk (Kd.R_elder' (by (with_reducible repeat (first | apply Kd.R_alloc | apply Kd.R_drewN | apply Kd.R_drew)); exact HO554.out) (Kd.R_base ho0) hb); have n1_ := Aside0.mk (Kd.R_elder' (by (with_reducible repeat (first | apply Kd.R_alloc | apply Kd.R_drewN | apply Kd.R_drew)); exact HO556.out) (Kd.R_base ho0) hb); have n2_ := Aside0.mk (Kd.R_lower (Kd.R_new' (Kd.R_new' ho0 (Kd.R_lt (by (with_reducible repeat (first | apply Kd.R_alloc | apply Kd.R_drewN | apply Kd.R_drew)); exact HO554.out))) (Kd.R_lt (by (with_reducible repeat (first | apply Kd.R_alloc | apply Kd.R_drewN | apply Kd.R_drew)); exact HO556.out))) (below_size (by repeat (first | (with_reducible first | exact HB.out | apply below_alloc | apply pw_below_drewN | apply below_drew1) | exact HB.out)))); have n3_ := Aside0.mk (below_step (by repeat (first | (with_reducible first | exact HB.out | apply below_alloc | apply pw_below_drewN | apply below_drew1) | exact HB.out)) hb); clear HO554; clear HO556; clear HB; have HO554 := n0_; have HO556 := n1_; have HO560 := n2_; have HB := n3_; clear n0_ n1_ n2_ n3_; (try clear hb); (try clear hb2); (try clear hk); (try clear hi); (try clear ho0)))
  (try simp only [Act.put, List.setIfInBounds_toArray, List.set_cons_zero, List.set_cons_succ])
  go_cut [66] (fun v66 wc => ∃ (kq : Nat) (x66_6 : Bool), v66 = .bool x66_6 ∧ Aside0 (laws_FnLoopErrors.j0 kq l1 t550 t552 (t550.length : Int) t557 x66_6 = some r) ∧ Aside0 (kq ≤ k) ∧ Aside0 (Kd.R (Kd.int .i64) 2 wc w.heap.size (fun k_ => some k_ ≠ (v559 : Value).ownBlock) (.slice Ao9 t550.length co9) t550) ∧ Aside0 (Kd.R (Kd.int .i64) 2 wc w.heap.size (fun k_ => some k_ ≠ ((.slice Ao9 t550.length co9) : Value).ownBlock) v559 t557) ∧ Aside0 (Below w.heap.size w wc))
  case first =>
   have H := HC7.out
   clear HC7
   by_cases c12 : t558 = 0
   ·rw [if_pos c12] at H
    have c12b0 : (t558 == 0) = true := beq_iff_eq.mpr c12
    have c12b1 : (t558 != 0) = false := bne_eq_false_iff_eq.mpr c12
    clear c12
    (first | rw [c12b0] | (simp only [i64_w, i32_w]; rw [c12b0]) | skip)
    by_cases c13 : (t557.length : Int) = (t550.length : Int)
    ·rw [if_pos c13] at H
     have c13b0 : ((t557.length : Int) == (t550.length : Int)) = true := beq_iff_eq.mpr c13
     have c13b1 : ((t557.length : Int) != (t550.length : Int)) = false := bne_eq_false_iff_eq.mpr c13
     have c13b2 : (t557.length == t550.length) = true := by first | simpa using c13 | (simp at c13 ⊢; omega)
     clear c13
     obtain ⟨ji14, hji14⟩ : ∃ j_ : Int, (wrap64 ((t550.length : Int) - 1)) = j_ := ⟨_, rfl⟩
     replace H : (if 0 ≤ (ji14) then (if (ji14) < (t557.length : Int) then (laws_FnLoopErrors.j0 k l1 t550 t552 (t550.length : Int) t557 ((rd t557 (ji14)) != t552)) else (none)) else (none)) = some r := by first | (rw [hji14] at H; exact H) | (simp only [hji14] at H ⊢; exact H)
     have hji14w : (IntKind.i64.wrap ((t550.length : Int) - 1)) = ji14 := (i64_w _).trans hji14
     by_cases c15 : 0 ≤ (ji14)
     ·rw [if_pos c15] at H
      have c15b0 : decide (0 ≤ (ji14)) = true := decide_eq_true c15
      clear c15
      by_cases c16 : (ji14) < (t557.length : Int)
      ·rw [if_pos c16] at H
       have c16b0 : decide ((ji14) < (t557.length : Int)) = true := decide_eq_true c16
       clear c16
       have H' := Aside0.mk H
       clear H
       obtain ⟨Ao17, co17, eo17⟩ := Kd.R_slice HO560.out
       subst eo17
       have p561 : 0 ≤ ((ji14) : Int) := of_decide_eq_true (by first | (with_reducible assumption) | assumption)
       have q561 : (ji14) < (t557.length : Int) := of_decide_eq_true (by first | (with_reducible assumption) | assumption)
       obtain ⟨ad561, e561, hx561_0⟩ := Kd.at_int (Kd.R_reads' HO560.out).2.2 (ji14) p561 q561
       cases e561
       replace p561 := eq_true p561
       replace q561 := eq_true q561
       go_wp2
       go_meet
       case rel => exact ⟨_, (((rd t557 (ji14)) != t552)), (by first | rfl | (simp; done) | (simp only [← hji14] <;> (first | rfl | simp)) | (simp [*]; done)), H', ⟨by first | omega | exact Nat.le_refl _⟩, ⟨by (with_reducible repeat (first | apply Kd.R_alloc | apply Kd.R_drewN | apply Kd.R_drew)); exact Kd.R_mono HO554.out (fun _ hk => hk.2)⟩, ⟨by (with_reducible repeat (first | apply Kd.R_alloc | apply Kd.R_drewN | apply Kd.R_drew)); exact Kd.R_mono HO560.out (fun _ hk => hk.1.2)⟩, ⟨by repeat (first | (with_reducible first | exact HB.out | apply below_alloc | apply pw_below_drewN | apply below_drew1) | exact HB.out)⟩⟩
      ·rw [if_neg c16] at H
       exact absurd H (by simp)
     ·rw [if_neg c15] at H
      exact absurd H (by simp)
    ·rw [if_neg c13] at H
     have c13b0 : ((t557.length : Int) == (t550.length : Int)) = false := beq_eq_false_iff_ne.mpr c13
     have c13b1 : ((t557.length : Int) != (t550.length : Int)) = true := bne_iff_ne.mpr c13
     have c13b2 : (t557.length == t550.length) = false := by first | simpa using c13 | (simp at c13 ⊢; omega)
     exact absurd (Option.some.inj H) (by rw [hr_.out]; decide)
   ·rw [if_neg c12] at H
    have c12b0 : (t558 == 0) = false := beq_eq_false_iff_ne.mpr c12
    have c12b1 : (t558 != 0) = true := bne_iff_ne.mpr c12
    (first | rw [c12b0] | (simp only [i64_w, i32_w]; rw [c12b0]) | skip)
    exact absurd (Option.some.inj H) (by rw [hr_.out]; decide)
  case rest =>
   clear HC7
   try clear c1
   try clear p2
   try clear c3
   try clear c4
   try clear p5
   try clear q5
   try clear hx5
   try clear p6
   try clear c10
   try clear c12
   try clear c12b0
   try clear c12b1
   try clear c13
   try clear c13b0
   try clear c13b1
   try clear c13b2
   try clear c15
   try clear c15b0
   try clear c16
   try clear c16b0
   try clear hx561_0
   try clear p561
   try clear q561
   obtain ⟨kq, x66_6, rfl, HA, HJ6, HO_5, HO_9, HB⟩ := hcut
   cases kq with
   | zero => exact absurd HA.out (by simp [laws_FnLoopErrors.j0])
   | succ kj6 =>
    have H := HA.out
    clear HA
    simp only [laws_FnLoopErrors.j0] at H
    by_cases c18 : x66_6 = true
    ·subst c18
     have H1 : (some false) = some r := by rw [if_pos rfl] at H; exact H
     clear H
     have H := H1
     clear H1
     exact absurd (Option.some.inj H) (by rw [hr_.out]; decide)
    ·replace c18 := Bool.eq_false_iff.mpr c18
     subst c18
     have H1 : ((laws_a2Sum.f kj6 t550).bind fun t562 => (laws_FnLoopErrors.l0 kj6 l1 t550 (t550.length : Int) t557 (wrap64 (t562 - t552)) 0 0)) = some r := by rw [if_neg (show ¬ (false = true) by decide)] at H; exact H
     clear H
     have H := H1
     clear H1
     replace H := Option.bind_eq_some_iff.mp H
     obtain ⟨t562, A190, H⟩ := H
     replace H : (laws_FnLoopErrors.l0 kj6 l1 t550 (t550.length : Int) t557 (wrap64 (t562 - t552)) 0 0) = some r := H
     have A19 := Aside0.mk A190
     clear A190
     have H' := Aside0.mk H
     clear H
     go_wp2_with (first | ((with_reducible refine gate_callee (f := 35) rfl ?_); refine goesL_ (some 68) rfl rfl Try.func35 (by kernel_rfl) rfl #[.slice Ao9 t550.length co9] rfl (by (try simp only [List.map_toArray, List.map_cons, List.map_nil]); first | done | rfl | (simp only [List.length_drop, List.length_take]; rfl)) ?_; (with_reducible refine (laws_a2Sum.calls kj6 _ _ t550 t562 _ ?side1 ?side2 A19.out).mono ?_); (case side1 => repeat (first | exact (Kd.R_reads' HO_5.out).2.2 | (with_reducible refine Kd.C_alloc ?_ _) | (with_reducible refine Kd.C_drewN ?_ _) | (with_reducible refine Kd.C_drew ?_))); (case side2 => exact (Kd.R_reads' HO_5.out).2.1); rintro e w' ⟨rfl, ⟨nd, rfl⟩⟩; refine ⟨_, rfl, ?_⟩))
     go_loopg [12, 13] kj6 (fun kq v12 v13 w' => ∃ (x12_2 : Int) (x13_2 : Int), v12 = .int .i64 x12_2 ∧ v13 = .int .i64 x13_2 ∧ Aside0 (laws_FnLoopErrors.l0 kq l1 t550 (t550.length : Int) t557 (wrap64 (t562 - t552)) x12_2 x13_2 = some r) ∧ Aside0 (kq ≤ kj6) ∧ Aside0 (Kd.R (Kd.int .i64) 2 w' w.heap.size (fun k_ => some k_ ≠ (v559 : Value).ownBlock) (.slice Ao9 t550.length co9) t550) ∧ Aside0 (Kd.R (Kd.int .i64) 2 w' w.heap.size (fun k_ => some k_ ≠ ((.slice Ao9 t550.length co9) : Value).ownBlock) v559 t557) ∧ Aside0 (Below w.heap.size w w'))
     case atStart => exact ⟨(0), (0), (by first | rfl | (simp; done) | (simp [*]; done)), (by first | rfl | (simp; done) | (simp [*]; done)), H', ⟨Nat.le_refl _⟩, ⟨by (with_reducible repeat (first | apply Kd.R_alloc | apply Kd.R_drewN | apply Kd.R_drew)); exact HO_5.out⟩, ⟨by (with_reducible repeat (first | apply Kd.R_alloc | apply Kd.R_drewN | apply Kd.R_drew)); exact HO_9.out⟩, ⟨by repeat (first | (with_reducible first | exact HB.out | apply below_alloc | apply pw_below_drewN | apply below_drew1) | exact HB.out)⟩⟩
     case round =>
      clear H'
      try clear c1
      try clear p2
      try clear c3
      try clear c4
      try clear p5
      try clear q5
      try clear hx5
      try clear p6
      try clear c10
      try clear c12
      try clear c12b0
      try clear c12b1
      try clear c13
      try clear c13b0
      try clear c13b1
      try clear c13b2
      try clear c15
      try clear c15b0
      try clear c16
      try clear c16b0
      try clear c18
      try clear hx561_0
      try clear p2
      try clear p5
      try clear p561
      try clear p6
      try clear q5
      try clear q561
      obtain ⟨x12_2, x13_2, rfl, rfl, HA, HK2, HO_5, HO_9, HB⟩ := hrel
      cases gk with
      | zero => exact absurd HA.out (by simp [laws_FnLoopErrors.l0])
      | succ k2 =>
       have H := HA.out
       clear HA
       simp only [laws_FnLoopErrors.l0] at H
       by_cases c20 : x13_2 < (t550.length : Int)
       ·rw [if_pos c20] at H
        have c20b0 : decide (x13_2 < (t550.length : Int)) = true := decide_eq_true c20
        clear c20
        by_cases c21 : 0 ≤ x13_2
        ·rw [if_pos c21] at H
         have c21b0 : decide (0 ≤ x13_2) = true := decide_eq_true c21
         clear c21
         by_cases c22 : x13_2 < (t550.length : Int)
         ·rw [if_pos c22] at H
          have c22b0 : decide (x13_2 < (t550.length : Int)) = true := decide_eq_true c22
          clear c22
          by_cases c23 : x13_2 < (t557.length : Int)
          ·rw [if_pos c23] at H
           have c23b0 : decide (x13_2 < (t557.length : Int)) = true := decide_eq_true c23
           clear c23
           by_cases c24 : (wrap64 (t562 - t552)) ≥ 0
           ·rw [if_pos c24] at H
            have c24b0 : decide (0 ≤ (wrap64 (t562 - t552))) = true := decide_eq_true c24
            clear c24
            by_cases c25 : (wrap64 ((wrap64 (x12_2 + (rd t550 x13_2))) - (rd t557 x13_2))) < 0
            ·rw [if_pos c25] at H
             have c25b0 : decide ((wrap64 ((wrap64 (x12_2 + (rd t550 x13_2))) - (rd t557 x13_2))) < 0) = true := decide_eq_true c25
             clear c25
             exact absurd (Option.some.inj H) (by rw [hr_.out]; decide)
            ·rw [if_neg c25] at H
             have c25b0 : decide ((wrap64 ((wrap64 (x12_2 + (rd t550 x13_2))) - (rd t557 x13_2))) < 0) = false := decide_eq_false c25
             clear c25
             by_cases c26 : (wrap64 ((wrap64 (x12_2 + (rd t550 x13_2))) - (rd t557 x13_2))) > (wrap64 (t562 - t552))
             ·rw [if_pos c26] at H
              have c26b0 : decide ((wrap64 (t562 - t552)) < (wrap64 ((wrap64 (x12_2 + (rd t550 x13_2))) - (rd t557 x13_2)))) = true := decide_eq_true c26
              clear c26
              exact absurd (Option.some.inj H) (by rw [hr_.out]; decide)
             ·rw [if_neg c26] at H
              have c26b0 : decide ((wrap64 (t562 - t552)) < (wrap64 ((wrap64 (x12_2 + (rd t550 x13_2))) - (rd t557 x13_2)))) = false := decide_eq_false c26
              clear c26
              by_cases c27 : (wrap64 (t562 - t552)) ≤ 0
              ·rw [if_pos c27] at H
               have c27b0 : decide ((wrap64 (t562 - t552)) ≤ 0) = true := decide_eq_true c27
               clear c27
               by_cases c28 : (wrap64 ((wrap64 (x12_2 + (rd t550 x13_2))) - (rd t557 x13_2))) > 0
               ·rw [if_pos c28] at H
                have c28b0 : decide (0 < (wrap64 ((wrap64 (x12_2 + (rd t550 x13_2))) - (rd t557 x13_2)))) = true := decide_eq_true c28
                clear c28
                exact absurd (Option.some.inj H) (by rw [hr_.out]; decide)
               ·rw [if_neg c28] at H
                have c28b0 : decide (0 < (wrap64 ((wrap64 (x12_2 + (rd t550 x13_2))) - (rd t557 x13_2)))) = false := decide_eq_false c28
                clear c28
                by_cases c29 : (wrap64 ((wrap64 (x12_2 + (rd t550 x13_2))) - (rd t557 x13_2))) < (wrap64 (t562 - t552))
                ·rw [if_pos c29] at H
                 have c29b0 : decide ((wrap64 ((wrap64 (x12_2 + (rd t550 x13_2))) - (rd t557 x13_2))) < (wrap64 (t562 - t552))) = true := decide_eq_true c29
                 clear c29
                 exact absurd (Option.some.inj H) (by rw [hr_.out]; decide)
                ·rw [if_neg c29] at H
                 have c29b0 : decide ((wrap64 ((wrap64 (x12_2 + (rd t550 x13_2))) - (rd t557 x13_2))) < (wrap64 (t562 - t552))) = false := decide_eq_false c29
                 clear c29
                 have H' := Aside0.mk H
                 clear H
                 try go_wp2
                 have n0_ := Aside0.mk (Kd.R_drew HO_5.out)
                 have n1_ := Aside0.mk (Kd.R_drew HO_9.out)
                 have n2_ := Aside0.mk (below_drew1 HB.out)
                 clear HO_5
                 clear HO_9
                 clear HB
                 have HO_5 := n0_
                 have HO_9 := n1_
                 have HB := n2_
                 clear n0_ n1_ n2_
                 have p563 : 0 ≤ (x13_2 : Int) := of_decide_eq_true (by first | (with_reducible assumption) | assumption)
                 have q563 : x13_2 < (t550.length : Int) := of_decide_eq_true (by first | (with_reducible assumption) | assumption)
                 obtain ⟨ad563, e563, hx563_0⟩ := Kd.at_int (Kd.R_reads' HO_5.out).2.2 x13_2 p563 q563
                 cases e563
                 replace p563 := eq_true p563
                 replace q563 := eq_true q563
                 obtain ⟨Ao31, co31, eo31⟩ := Kd.R_slice HO_9.out
                 (first | subst eo31 | (injection eo31 with f1_ f2_ f3_; have f4_ := f1_.symm; have f5_ := f3_.symm; clear f1_ f2_ f3_; subst f4_; subst f5_))
                 have p564 : 0 ≤ (x13_2 : Int) := of_decide_eq_true (by first | (with_reducible assumption) | assumption)
                 have q564 : x13_2 < (t557.length : Int) := of_decide_eq_true (by first | (with_reducible assumption) | assumption)
                 obtain ⟨ad564, e564, hx564_0⟩ := Kd.at_int (Kd.R_reads' HO_9.out).2.2 x13_2 p564 q564
                 cases e564
                 replace p564 := eq_true p564
                 replace q564 := eq_true q564
                 refine start_ (n := 12) (S := fun w' => w'.cell? (ad563.add (x13_2).toNat) = some (.int .i64 (rd t550 x13_2)) ∧ w'.cell? (ad564.add (x13_2).toNat) = some (.int .i64 (rd t557 x13_2))) (ds := []) #[false, false, false, false, false, false, false, false, false, false, false, false] (by kernel_rfl) rfl rfl ⟨hx563_0, hx564_0⟩ (fun hHeld => ?_); refine with_tabW laws_FnLoopErrors.tab13 laws_FnLoopErrors.bits13 (fun HT_ HW_ => ?_)
                 generalize wr.drew = w30 at HO_5 HO_9 HB hx563_0 hx564_0 hHeld ⊢
                 refine pure_ (i := 0) (N := some 76) (v := ?_) (a' := ?_) #[true, false, false, false, false, false, false, false, false, false, false, false] rfl rfl (any_of HT_.out (by kernel_rfl)) (fun _ _ _ h => h) (Or.inl ⟨by rfl, ?_⟩) ?_ ?_
                 rotate_left
                 ·intro w'
                  go_simp
                  with_reducible rfl
                 rotate_left
                 ·simp only [Act.put, List.setIfInBounds_toArray, List.set_cons_zero, List.set_cons_succ, i64_w, i32_w]; rfl
                 refine pure_ (i := 1) (N := some 77) (v := ?_) (a' := ?_) #[true, true, false, false, false, false, false, false, false, false, false, false] rfl rfl (any_of HT_.out (by kernel_rfl)) (fun _ _ _ h => h) (Or.inl ⟨by rfl, ?_⟩) ?_ ?_
                 rotate_left
                 ·intro w'
                  go_simp
                  with_reducible rfl
                 rotate_left
                 ·simp only [Act.put, List.setIfInBounds_toArray, List.set_cons_zero, List.set_cons_succ, i64_w, i32_w]; rfl
                 refine pure_ (i := 2) (N := some 78) (v := ?_) (a' := ?_) #[true, true, true, false, false, false, false, false, false, false, false, false] rfl rfl (any_of HT_.out (by kernel_rfl)) (fun _ _ _ h => h) (Or.inl ⟨by rfl, ?_⟩) ?_ ?_
                 rotate_left
                 ·intro w'
                  go_simp
                  with_reducible rfl
                 rotate_left
                 ·simp only [Act.put, List.setIfInBounds_toArray, List.set_cons_zero, List.set_cons_succ, i64_w, i32_w]; rfl
                 refine pure_ (i := 3) (N := some 79) (v := ?_) (a' := ?_) #[true, true, true, true, false, false, false, false, false, false, false, false] rfl rfl (any_of HT_.out (by kernel_rfl)) (fun _ _ _ h => h) (Or.inl ⟨by rfl, ?_⟩) ?_ ?_
                 rotate_left
                 ·intro w'
                  go_simp
                  with_reducible rfl
                 rotate_left
                 ·simp only [Act.put, List.setIfInBounds_toArray, List.set_cons_zero, List.set_cons_succ, i64_w, i32_w]; rfl
                 refine pure_ (i := 6) (N := some 82) (v := ?_) (a' := ?_) #[true, true, true, true, false, false, true, false, false, false, false, false] rfl rfl (any_of HT_.out (by kernel_rfl)) (fun _ _ _ h => h) (Or.inl ⟨by rfl, ?_⟩) ?_ ?_
                 rotate_left
                 ·intro w'
                  go_simp
                  with_reducible rfl
                 rotate_left
                 ·simp only [Act.put, List.setIfInBounds_toArray, List.set_cons_zero, List.set_cons_succ, i64_w, i32_w]; rfl
                 refine pure_ (i := 7) (N := some 83) (v := ?_) (a' := ?_) #[true, true, true, true, false, false, true, true, false, false, false, false] rfl rfl (any_of HT_.out (by kernel_rfl)) (fun _ _ _ h => h) (Or.inl ⟨by rfl, ?_⟩) ?_ ?_
                 rotate_left
                 ·intro w'
                  go_simp
                  with_reducible rfl
                 rotate_left
                 ·simp only [Act.put, List.setIfInBounds_toArray, List.set_cons_zero, List.set_cons_succ, i64_w, i32_w]; rfl
                 refine pure_ (i := 8) (N := some 84) (v := ?_) (a' := ?_) #[true, true, true, true, false, false, true, true, true, false, false, false] rfl rfl (any_of HT_.out (by kernel_rfl)) (fun _ _ _ h => h) (Or.inl ⟨by rfl, ?_⟩) ?_ ?_
                 rotate_left
                 ·intro w'
                  go_simp
                  with_reducible rfl
                 rotate_left
                 ·simp only [Act.put, List.setIfInBounds_toArray, List.set_cons_zero, List.set_cons_succ, i64_w, i32_w]; rfl
                 refine take_ (i := 4) (N := some 80) (v := ?_) (a' := ?_) #[true, true, true, true, true, false, true, true, true, false, false, false] rfl rfl (take_ofW HT_.out HW_.out (by kernel_rfl)) (fun _ _ _ h => h) (Or.inl ⟨by rfl, ?_⟩) hHeld ?_ ?_
                 rotate_left
                 ·rintro w' ⟨s0, s1⟩
                  go_simp
                  with_reducible rfl
                 rotate_left
                 ·simp only [Act.put, List.setIfInBounds_toArray, List.set_cons_zero, List.set_cons_succ, i64_w, i32_w]; rfl
                 refine pure_ (i := 5) (N := some 81) (v := ?_) (a' := ?_) #[true, true, true, true, true, true, true, true, true, false, false, false] rfl rfl (any_of HT_.out (by kernel_rfl)) (fun _ _ _ h => h) (Or.inl ⟨by rfl, ?_⟩) ?_ ?_
                 rotate_left
                 ·intro w'
                  go_simp
                  with_reducible rfl
                 rotate_left
                 ·simp only [Act.put, List.setIfInBounds_toArray, List.set_cons_zero, List.set_cons_succ, i64_w, i32_w]; rfl
                 refine take_ (i := 9) (N := some 85) (v := ?_) (a' := ?_) #[true, true, true, true, true, true, true, true, true, true, false, false] rfl rfl (take_ofW HT_.out HW_.out (by kernel_rfl)) (fun _ _ _ h => h) (Or.inl ⟨by rfl, ?_⟩) hHeld ?_ ?_
                 rotate_left
                 ·rintro w' ⟨s0, s1⟩
                  go_simp
                  with_reducible rfl
                 rotate_left
                 ·simp only [Act.put, List.setIfInBounds_toArray, List.set_cons_zero, List.set_cons_succ, i64_w, i32_w]; rfl
                 refine pure_ (i := 10) (N := some 86) (v := ?_) (a' := ?_) #[true, true, true, true, true, true, true, true, true, true, true, false] rfl rfl (any_of HT_.out (by kernel_rfl)) (fun _ _ _ h => h) (Or.inl ⟨by rfl, ?_⟩) ?_ ?_
                 rotate_left
                 ·intro w'
                  go_simp
                  with_reducible rfl
                 rotate_left
                 ·simp only [Act.put, List.setIfInBounds_toArray, List.set_cons_zero, List.set_cons_succ, i64_w, i32_w]; rfl
                 refine pure_ (i := 11) (N := some 14) (v := ?_) (a' := ?_) #[true, true, true, true, true, true, true, true, true, true, true, true] rfl rfl (any_of HT_.out (by kernel_rfl)) (fun _ _ _ h => h) (Or.inl ⟨by rfl, ?_⟩) ?_ ?_
                 rotate_left
                 ·intro w'
                  go_simp
                  with_reducible rfl
                 rotate_left
                 ·simp only [Act.put, List.setIfInBounds_toArray, List.set_cons_zero, List.set_cons_succ, i64_w, i32_w]; rfl
                 refine done_ (done_of HT_.out (by kernel_rfl)) ?_
                 have p565 : 0 ≤ (x13_2 : Int) := of_decide_eq_true (by first | (with_reducible assumption) | assumption)
                 have q565 : x13_2 < (t557.length : Int) := of_decide_eq_true (by first | (with_reducible assumption) | assumption)
                 obtain ⟨ad565, e565, hx565_0⟩ := Kd.at_int (Kd.R_reads' HO_9.out).2.2 x13_2 p565 q565
                 obtain rfl : ad564 = ad565 := (by injection e565)
                 replace p565 := eq_true p565
                 replace q565 := eq_true q565
                 try go_wp2
                 go_roundg k2
                 case measure => have := HJ6.out; have := HK2.out; omega
                 case rel => exact ⟨(rd t557 x13_2), (wrap64 (x13_2 + 1)), (by first | rfl | (simp; done) | (simp [*]; done)), (by first | rfl | (simp; done) | (simp [*]; done)), H', ⟨by have := HJ6.out; have := HK2.out; omega⟩, ⟨by (with_reducible repeat (first | apply Kd.R_alloc | apply Kd.R_drewN | apply Kd.R_drew)); exact HO_5.out⟩, ⟨by (with_reducible repeat (first | apply Kd.R_alloc | apply Kd.R_drewN | apply Kd.R_drew)); exact HO_9.out⟩, ⟨by repeat (first | (with_reducible first | exact HB.out | apply below_alloc | apply pw_below_drewN | apply below_drew1) | exact HB.out)⟩⟩
              ·rw [if_neg c27] at H
               have c27b0 : decide ((wrap64 (t562 - t552)) ≤ 0) = false := decide_eq_false c27
               clear c27
               have H' := Aside0.mk H
               clear H
               try go_wp2
               have n0_ := Aside0.mk (Kd.R_drew HO_5.out)
               have n1_ := Aside0.mk (Kd.R_drew HO_9.out)
               have n2_ := Aside0.mk (below_drew1 HB.out)
               clear HO_5
               clear HO_9
               clear HB
               have HO_5 := n0_
               have HO_9 := n1_
               have HB := n2_
               clear n0_ n1_ n2_
               have p563 : 0 ≤ (x13_2 : Int) := of_decide_eq_true (by first | (with_reducible assumption) | assumption)
               have q563 : x13_2 < (t550.length : Int) := of_decide_eq_true (by first | (with_reducible assumption) | assumption)
               obtain ⟨ad563, e563, hx563_0⟩ := Kd.at_int (Kd.R_reads' HO_5.out).2.2 x13_2 p563 q563
               cases e563
               replace p563 := eq_true p563
               replace q563 := eq_true q563
               obtain ⟨Ao33, co33, eo33⟩ := Kd.R_slice HO_9.out
               (first | subst eo33 | (injection eo33 with f1_ f2_ f3_; have f4_ := f1_.symm; have f5_ := f3_.symm; clear f1_ f2_ f3_; subst f4_; subst f5_))
               have p564 : 0 ≤ (x13_2 : Int) := of_decide_eq_true (by first | (with_reducible assumption) | assumption)
               have q564 : x13_2 < (t557.length : Int) := of_decide_eq_true (by first | (with_reducible assumption) | assumption)
               obtain ⟨ad564, e564, hx564_0⟩ := Kd.at_int (Kd.R_reads' HO_9.out).2.2 x13_2 p564 q564
               cases e564
               replace p564 := eq_true p564
               replace q564 := eq_true q564
               refine start_ (n := 12) (S := fun w' => w'.cell? (ad563.add (x13_2).toNat) = some (.int .i64 (rd t550 x13_2)) ∧ w'.cell? (ad564.add (x13_2).toNat) = some (.int .i64 (rd t557 x13_2))) (ds := []) #[false, false, false, false, false, false, false, false, false, false, false, false] (by kernel_rfl) rfl rfl ⟨hx563_0, hx564_0⟩ (fun hHeld => ?_); refine with_tabW laws_FnLoopErrors.tab13 laws_FnLoopErrors.bits13 (fun HT_ HW_ => ?_)
               generalize wr.drew = w32 at HO_5 HO_9 HB hx563_0 hx564_0 hHeld ⊢
               refine pure_ (i := 0) (N := some 76) (v := ?_) (a' := ?_) #[true, false, false, false, false, false, false, false, false, false, false, false] rfl rfl (any_of HT_.out (by kernel_rfl)) (fun _ _ _ h => h) (Or.inl ⟨by rfl, ?_⟩) ?_ ?_
               rotate_left
               ·intro w'
                go_simp
                with_reducible rfl
               rotate_left
               ·simp only [Act.put, List.setIfInBounds_toArray, List.set_cons_zero, List.set_cons_succ, i64_w, i32_w]; rfl
               refine pure_ (i := 1) (N := some 77) (v := ?_) (a' := ?_) #[true, true, false, false, false, false, false, false, false, false, false, false] rfl rfl (any_of HT_.out (by kernel_rfl)) (fun _ _ _ h => h) (Or.inl ⟨by rfl, ?_⟩) ?_ ?_
               rotate_left
               ·intro w'
                go_simp
                with_reducible rfl
               rotate_left
               ·simp only [Act.put, List.setIfInBounds_toArray, List.set_cons_zero, List.set_cons_succ, i64_w, i32_w]; rfl
               refine pure_ (i := 2) (N := some 78) (v := ?_) (a' := ?_) #[true, true, true, false, false, false, false, false, false, false, false, false] rfl rfl (any_of HT_.out (by kernel_rfl)) (fun _ _ _ h => h) (Or.inl ⟨by rfl, ?_⟩) ?_ ?_
               rotate_left
               ·intro w'
                go_simp
                with_reducible rfl
               rotate_left
               ·simp only [Act.put, List.setIfInBounds_toArray, List.set_cons_zero, List.set_cons_succ, i64_w, i32_w]; rfl
               refine pure_ (i := 3) (N := some 79) (v := ?_) (a' := ?_) #[true, true, true, true, false, false, false, false, false, false, false, false] rfl rfl (any_of HT_.out (by kernel_rfl)) (fun _ _ _ h => h) (Or.inl ⟨by rfl, ?_⟩) ?_ ?_
               rotate_left
               ·intro w'
                go_simp
                with_reducible rfl
               rotate_left
               ·simp only [Act.put, List.setIfInBounds_toArray, List.set_cons_zero, List.set_cons_succ, i64_w, i32_w]; rfl
               refine pure_ (i := 6) (N := some 82) (v := ?_) (a' := ?_) #[true, true, true, true, false, false, true, false, false, false, false, false] rfl rfl (any_of HT_.out (by kernel_rfl)) (fun _ _ _ h => h) (Or.inl ⟨by rfl, ?_⟩) ?_ ?_
               rotate_left
               ·intro w'
                go_simp
                with_reducible rfl
               rotate_left
               ·simp only [Act.put, List.setIfInBounds_toArray, List.set_cons_zero, List.set_cons_succ, i64_w, i32_w]; rfl
               refine pure_ (i := 7) (N := some 83) (v := ?_) (a' := ?_) #[true, true, true, true, false, false, true, true, false, false, false, false] rfl rfl (any_of HT_.out (by kernel_rfl)) (fun _ _ _ h => h) (Or.inl ⟨by rfl, ?_⟩) ?_ ?_
               rotate_left
               ·intro w'
                go_simp
                with_reducible rfl
               rotate_left
               ·simp only [Act.put, List.setIfInBounds_toArray, List.set_cons_zero, List.set_cons_succ, i64_w, i32_w]; rfl
               refine pure_ (i := 8) (N := some 84) (v := ?_) (a' := ?_) #[true, true, true, true, false, false, true, true, true, false, false, false] rfl rfl (any_of HT_.out (by kernel_rfl)) (fun _ _ _ h => h) (Or.inl ⟨by rfl, ?_⟩) ?_ ?_
               rotate_left
               ·intro w'
                go_simp
                with_reducible rfl
               rotate_left
               ·simp only [Act.put, List.setIfInBounds_toArray, List.set_cons_zero, List.set_cons_succ, i64_w, i32_w]; rfl
               refine take_ (i := 4) (N := some 80) (v := ?_) (a' := ?_) #[true, true, true, true, true, false, true, true, true, false, false, false] rfl rfl (take_ofW HT_.out HW_.out (by kernel_rfl)) (fun _ _ _ h => h) (Or.inl ⟨by rfl, ?_⟩) hHeld ?_ ?_
               rotate_left
               ·rintro w' ⟨s0, s1⟩
                go_simp
                with_reducible rfl
               rotate_left
               ·simp only [Act.put, List.setIfInBounds_toArray, List.set_cons_zero, List.set_cons_succ, i64_w, i32_w]; rfl
               refine pure_ (i := 5) (N := some 81) (v := ?_) (a' := ?_) #[true, true, true, true, true, true, true, true, true, false, false, false] rfl rfl (any_of HT_.out (by kernel_rfl)) (fun _ _ _ h => h) (Or.inl ⟨by rfl, ?_⟩) ?_ ?_
               rotate_left
               ·intro w'
                go_simp
                with_reducible rfl
               rotate_left
               ·simp only [Act.put, List.setIfInBounds_toArray, List.set_cons_zero, List.set_cons_succ, i64_w, i32_w]; rfl
               refine take_ (i := 9) (N := some 85) (v := ?_) (a' := ?_) #[true, true, true, true, true, true, true, true, true, true, false, false] rfl rfl (take_ofW HT_.out HW_.out (by kernel_rfl)) (fun _ _ _ h => h) (Or.inl ⟨by rfl, ?_⟩) hHeld ?_ ?_
               rotate_left
               ·rintro w' ⟨s0, s1⟩
                go_simp
                with_reducible rfl
               rotate_left
               ·simp only [Act.put, List.setIfInBounds_toArray, List.set_cons_zero, List.set_cons_succ, i64_w, i32_w]; rfl
               refine pure_ (i := 10) (N := some 86) (v := ?_) (a' := ?_) #[true, true, true, true, true, true, true, true, true, true, true, false] rfl rfl (any_of HT_.out (by kernel_rfl)) (fun _ _ _ h => h) (Or.inl ⟨by rfl, ?_⟩) ?_ ?_
               rotate_left
               ·intro w'
                go_simp
                with_reducible rfl
               rotate_left
               ·simp only [Act.put, List.setIfInBounds_toArray, List.set_cons_zero, List.set_cons_succ, i64_w, i32_w]; rfl
               refine pure_ (i := 11) (N := some 14) (v := ?_) (a' := ?_) #[true, true, true, true, true, true, true, true, true, true, true, true] rfl rfl (any_of HT_.out (by kernel_rfl)) (fun _ _ _ h => h) (Or.inl ⟨by rfl, ?_⟩) ?_ ?_
               rotate_left
               ·intro w'
                go_simp
                with_reducible rfl
               rotate_left
               ·simp only [Act.put, List.setIfInBounds_toArray, List.set_cons_zero, List.set_cons_succ, i64_w, i32_w]; rfl
               refine done_ (done_of HT_.out (by kernel_rfl)) ?_
               have p566 : 0 ≤ (x13_2 : Int) := of_decide_eq_true (by first | (with_reducible assumption) | assumption)
               have q566 : x13_2 < (t557.length : Int) := of_decide_eq_true (by first | (with_reducible assumption) | assumption)
               obtain ⟨ad566, e566, hx566_0⟩ := Kd.at_int (Kd.R_reads' HO_9.out).2.2 x13_2 p566 q566
               obtain rfl : ad564 = ad566 := (by injection e566)
               replace p566 := eq_true p566
               replace q566 := eq_true q566
               try go_wp2
               go_roundg k2
               case measure => have := HJ6.out; have := HK2.out; omega
               case rel => exact ⟨(rd t557 x13_2), (wrap64 (x13_2 + 1)), (by first | rfl | (simp; done) | (simp [*]; done)), (by first | rfl | (simp; done) | (simp [*]; done)), H', ⟨by have := HJ6.out; have := HK2.out; omega⟩, ⟨by (with_reducible repeat (first | apply Kd.R_alloc | apply Kd.R_drewN | apply Kd.R_drew)); exact HO_5.out⟩, ⟨by (with_reducible repeat (first | apply Kd.R_alloc | apply Kd.R_drewN | apply Kd.R_drew)); exact HO_9.out⟩, ⟨by repeat (first | (with_reducible first | exact HB.out | apply below_alloc | apply pw_below_drewN | apply below_drew1) | exact HB.out)⟩⟩
           ·rw [if_neg c24] at H
            have c24b0 : decide (0 ≤ (wrap64 (t562 - t552))) = false := decide_eq_false c24
            clear c24
            by_cases c34 : (wrap64 (t562 - t552)) ≤ 0
            ·rw [if_pos c34] at H
             have c34b0 : decide ((wrap64 (t562 - t552)) ≤ 0) = true := decide_eq_true c34
             clear c34
             by_cases c35 : (wrap64 ((wrap64 (x12_2 + (rd t550 x13_2))) - (rd t557 x13_2))) > 0
             ·rw [if_pos c35] at H
              have c35b0 : decide (0 < (wrap64 ((wrap64 (x12_2 + (rd t550 x13_2))) - (rd t557 x13_2)))) = true := decide_eq_true c35
              clear c35
              exact absurd (Option.some.inj H) (by rw [hr_.out]; decide)
             ·rw [if_neg c35] at H
              have c35b0 : decide (0 < (wrap64 ((wrap64 (x12_2 + (rd t550 x13_2))) - (rd t557 x13_2)))) = false := decide_eq_false c35
              clear c35
              by_cases c36 : (wrap64 ((wrap64 (x12_2 + (rd t550 x13_2))) - (rd t557 x13_2))) < (wrap64 (t562 - t552))
              ·rw [if_pos c36] at H
               have c36b0 : decide ((wrap64 ((wrap64 (x12_2 + (rd t550 x13_2))) - (rd t557 x13_2))) < (wrap64 (t562 - t552))) = true := decide_eq_true c36
               clear c36
               exact absurd (Option.some.inj H) (by rw [hr_.out]; decide)
              ·rw [if_neg c36] at H
               have c36b0 : decide ((wrap64 ((wrap64 (x12_2 + (rd t550 x13_2))) - (rd t557 x13_2))) < (wrap64 (t562 - t552))) = false := decide_eq_false c36
               clear c36
               have H' := Aside0.mk H
               clear H
               try go_wp2
               have n0_ := Aside0.mk (Kd.R_drew HO_5.out)
               have n1_ := Aside0.mk (Kd.R_drew HO_9.out)
               have n2_ := Aside0.mk (below_drew1 HB.out)
               clear HO_5
               clear HO_9
               clear HB
               have HO_5 := n0_
               have HO_9 := n1_
               have HB := n2_
               clear n0_ n1_ n2_
               have p563 : 0 ≤ (x13_2 : Int) := of_decide_eq_true (by first | (with_reducible assumption) | assumption)
               have q563 : x13_2 < (t550.length : Int) := of_decide_eq_true (by first | (with_reducible assumption) | assumption)
               obtain ⟨ad563, e563, hx563_0⟩ := Kd.at_int (Kd.R_reads' HO_5.out).2.2 x13_2 p563 q563
               cases e563
               replace p563 := eq_true p563
               replace q563 := eq_true q563
               obtain ⟨Ao38, co38, eo38⟩ := Kd.R_slice HO_9.out
               (first | subst eo38 | (injection eo38 with f1_ f2_ f3_; have f4_ := f1_.symm; have f5_ := f3_.symm; clear f1_ f2_ f3_; subst f4_; subst f5_))
               have p564 : 0 ≤ (x13_2 : Int) := of_decide_eq_true (by first | (with_reducible assumption) | assumption)
               have q564 : x13_2 < (t557.length : Int) := of_decide_eq_true (by first | (with_reducible assumption) | assumption)
               obtain ⟨ad564, e564, hx564_0⟩ := Kd.at_int (Kd.R_reads' HO_9.out).2.2 x13_2 p564 q564
               cases e564
               replace p564 := eq_true p564
               replace q564 := eq_true q564
               refine start_ (n := 12) (S := fun w' => w'.cell? (ad563.add (x13_2).toNat) = some (.int .i64 (rd t550 x13_2)) ∧ w'.cell? (ad564.add (x13_2).toNat) = some (.int .i64 (rd t557 x13_2))) (ds := []) #[false, false, false, false, false, false, false, false, false, false, false, false] (by kernel_rfl) rfl rfl ⟨hx563_0, hx564_0⟩ (fun hHeld => ?_); refine with_tabW laws_FnLoopErrors.tab13 laws_FnLoopErrors.bits13 (fun HT_ HW_ => ?_)
               generalize wr.drew = w37 at HO_5 HO_9 HB hx563_0 hx564_0 hHeld ⊢
               refine pure_ (i := 0) (N := some 76) (v := ?_) (a' := ?_) #[true, false, false, false, false, false, false, false, false, false, false, false] rfl rfl (any_of HT_.out (by kernel_rfl)) (fun _ _ _ h => h) (Or.inl ⟨by rfl, ?_⟩) ?_ ?_
               rotate_left
               ·intro w'
                go_simp
                with_reducible rfl
               rotate_left
               ·simp only [Act.put, List.setIfInBounds_toArray, List.set_cons_zero, List.set_cons_succ, i64_w, i32_w]; rfl
               refine pure_ (i := 1) (N := some 77) (v := ?_) (a' := ?_) #[true, true, false, false, false, false, false, false, false, false, false, false] rfl rfl (any_of HT_.out (by kernel_rfl)) (fun _ _ _ h => h) (Or.inl ⟨by rfl, ?_⟩) ?_ ?_
               rotate_left
               ·intro w'
                go_simp
                with_reducible rfl
               rotate_left
               ·simp only [Act.put, List.setIfInBounds_toArray, List.set_cons_zero, List.set_cons_succ, i64_w, i32_w]; rfl
               refine pure_ (i := 2) (N := some 78) (v := ?_) (a' := ?_) #[true, true, true, false, false, false, false, false, false, false, false, false] rfl rfl (any_of HT_.out (by kernel_rfl)) (fun _ _ _ h => h) (Or.inl ⟨by rfl, ?_⟩) ?_ ?_
               rotate_left
               ·intro w'
                go_simp
                with_reducible rfl
               rotate_left
               ·simp only [Act.put, List.setIfInBounds_toArray, List.set_cons_zero, List.set_cons_succ, i64_w, i32_w]; rfl
               refine pure_ (i := 3) (N := some 79) (v := ?_) (a' := ?_) #[true, true, true, true, false, false, false, false, false, false, false, false] rfl rfl (any_of HT_.out (by kernel_rfl)) (fun _ _ _ h => h) (Or.inl ⟨by rfl, ?_⟩) ?_ ?_
               rotate_left
               ·intro w'
                go_simp
                with_reducible rfl
               rotate_left
               ·simp only [Act.put, List.setIfInBounds_toArray, List.set_cons_zero, List.set_cons_succ, i64_w, i32_w]; rfl
               refine pure_ (i := 6) (N := some 82) (v := ?_) (a' := ?_) #[true, true, true, true, false, false, true, false, false, false, false, false] rfl rfl (any_of HT_.out (by kernel_rfl)) (fun _ _ _ h => h) (Or.inl ⟨by rfl, ?_⟩) ?_ ?_
               rotate_left
               ·intro w'
                go_simp
                with_reducible rfl
               rotate_left
               ·simp only [Act.put, List.setIfInBounds_toArray, List.set_cons_zero, List.set_cons_succ, i64_w, i32_w]; rfl
               refine pure_ (i := 7) (N := some 83) (v := ?_) (a' := ?_) #[true, true, true, true, false, false, true, true, false, false, false, false] rfl rfl (any_of HT_.out (by kernel_rfl)) (fun _ _ _ h => h) (Or.inl ⟨by rfl, ?_⟩) ?_ ?_
               rotate_left
               ·intro w'
                go_simp
                with_reducible rfl
               rotate_left
               ·simp only [Act.put, List.setIfInBounds_toArray, List.set_cons_zero, List.set_cons_succ, i64_w, i32_w]; rfl
               refine pure_ (i := 8) (N := some 84) (v := ?_) (a' := ?_) #[true, true, true, true, false, false, true, true, true, false, false, false] rfl rfl (any_of HT_.out (by kernel_rfl)) (fun _ _ _ h => h) (Or.inl ⟨by rfl, ?_⟩) ?_ ?_
               rotate_left
               ·intro w'
                go_simp
                with_reducible rfl
               rotate_left
               ·simp only [Act.put, List.setIfInBounds_toArray, List.set_cons_zero, List.set_cons_succ, i64_w, i32_w]; rfl
               refine take_ (i := 4) (N := some 80) (v := ?_) (a' := ?_) #[true, true, true, true, true, false, true, true, true, false, false, false] rfl rfl (take_ofW HT_.out HW_.out (by kernel_rfl)) (fun _ _ _ h => h) (Or.inl ⟨by rfl, ?_⟩) hHeld ?_ ?_
               rotate_left
               ·rintro w' ⟨s0, s1⟩
                go_simp
                with_reducible rfl
               rotate_left
               ·simp only [Act.put, List.setIfInBounds_toArray, List.set_cons_zero, List.set_cons_succ, i64_w, i32_w]; rfl
               refine pure_ (i := 5) (N := some 81) (v := ?_) (a' := ?_) #[true, true, true, true, true, true, true, true, true, false, false, false] rfl rfl (any_of HT_.out (by kernel_rfl)) (fun _ _ _ h => h) (Or.inl ⟨by rfl, ?_⟩) ?_ ?_
               rotate_left
               ·intro w'
                go_simp
                with_reducible rfl
               rotate_left
               ·simp only [Act.put, List.setIfInBounds_toArray, List.set_cons_zero, List.set_cons_succ, i64_w, i32_w]; rfl
               refine take_ (i := 9) (N := some 85) (v := ?_) (a' := ?_) #[true, true, true, true, true, true, true, true, true, true, false, false] rfl rfl (take_ofW HT_.out HW_.out (by kernel_rfl)) (fun _ _ _ h => h) (Or.inl ⟨by rfl, ?_⟩) hHeld ?_ ?_
               rotate_left
               ·rintro w' ⟨s0, s1⟩
                go_simp
                with_reducible rfl
               rotate_left
               ·simp only [Act.put, List.setIfInBounds_toArray, List.set_cons_zero, List.set_cons_succ, i64_w, i32_w]; rfl
               refine pure_ (i := 10) (N := some 86) (v := ?_) (a' := ?_) #[true, true, true, true, true, true, true, true, true, true, true, false] rfl rfl (any_of HT_.out (by kernel_rfl)) (fun _ _ _ h => h) (Or.inl ⟨by rfl, ?_⟩) ?_ ?_
               rotate_left
               ·intro w'
                go_simp
                with_reducible rfl
               rotate_left
               ·simp only [Act.put, List.setIfInBounds_toArray, List.set_cons_zero, List.set_cons_succ, i64_w, i32_w]; rfl
               refine pure_ (i := 11) (N := some 14) (v := ?_) (a' := ?_) #[true, true, true, true, true, true, true, true, true, true, true, true] rfl rfl (any_of HT_.out (by kernel_rfl)) (fun _ _ _ h => h) (Or.inl ⟨by rfl, ?_⟩) ?_ ?_
               rotate_left
               ·intro w'
                go_simp
                with_reducible rfl
               rotate_left
               ·simp only [Act.put, List.setIfInBounds_toArray, List.set_cons_zero, List.set_cons_succ, i64_w, i32_w]; rfl
               refine done_ (done_of HT_.out (by kernel_rfl)) ?_
               have p567 : 0 ≤ (x13_2 : Int) := of_decide_eq_true (by first | (with_reducible assumption) | assumption)
               have q567 : x13_2 < (t557.length : Int) := of_decide_eq_true (by first | (with_reducible assumption) | assumption)
               obtain ⟨ad567, e567, hx567_0⟩ := Kd.at_int (Kd.R_reads' HO_9.out).2.2 x13_2 p567 q567
               obtain rfl : ad564 = ad567 := (by injection e567)
               replace p567 := eq_true p567
               replace q567 := eq_true q567
               try go_wp2
               go_roundg k2
               case measure => have := HJ6.out; have := HK2.out; omega
               case rel => exact ⟨(rd t557 x13_2), (wrap64 (x13_2 + 1)), (by first | rfl | (simp; done) | (simp [*]; done)), (by first | rfl | (simp; done) | (simp [*]; done)), H', ⟨by have := HJ6.out; have := HK2.out; omega⟩, ⟨by (with_reducible repeat (first | apply Kd.R_alloc | apply Kd.R_drewN | apply Kd.R_drew)); exact HO_5.out⟩, ⟨by (with_reducible repeat (first | apply Kd.R_alloc | apply Kd.R_drewN | apply Kd.R_drew)); exact HO_9.out⟩, ⟨by repeat (first | (with_reducible first | exact HB.out | apply below_alloc | apply pw_below_drewN | apply below_drew1) | exact HB.out)⟩⟩
            ·rw [if_neg c34] at H
             have c34b0 : decide ((wrap64 (t562 - t552)) ≤ 0) = false := decide_eq_false c34
             clear c34
             have H' := Aside0.mk H
             clear H
             try go_wp2
             have n0_ := Aside0.mk (Kd.R_drew HO_5.out)
             have n1_ := Aside0.mk (Kd.R_drew HO_9.out)
             have n2_ := Aside0.mk (below_drew1 HB.out)
             clear HO_5
             clear HO_9
             clear HB
             have HO_5 := n0_
             have HO_9 := n1_
             have HB := n2_
             clear n0_ n1_ n2_
             have p563 : 0 ≤ (x13_2 : Int) := of_decide_eq_true (by first | (with_reducible assumption) | assumption)
             have q563 : x13_2 < (t550.length : Int) := of_decide_eq_true (by first | (with_reducible assumption) | assumption)
             obtain ⟨ad563, e563, hx563_0⟩ := Kd.at_int (Kd.R_reads' HO_5.out).2.2 x13_2 p563 q563
             cases e563
             replace p563 := eq_true p563
             replace q563 := eq_true q563
             obtain ⟨Ao40, co40, eo40⟩ := Kd.R_slice HO_9.out
             (first | subst eo40 | (injection eo40 with f1_ f2_ f3_; have f4_ := f1_.symm; have f5_ := f3_.symm; clear f1_ f2_ f3_; subst f4_; subst f5_))
             have p564 : 0 ≤ (x13_2 : Int) := of_decide_eq_true (by first | (with_reducible assumption) | assumption)
             have q564 : x13_2 < (t557.length : Int) := of_decide_eq_true (by first | (with_reducible assumption) | assumption)
             obtain ⟨ad564, e564, hx564_0⟩ := Kd.at_int (Kd.R_reads' HO_9.out).2.2 x13_2 p564 q564
             cases e564
             replace p564 := eq_true p564
             replace q564 := eq_true q564
             refine start_ (n := 12) (S := fun w' => w'.cell? (ad563.add (x13_2).toNat) = some (.int .i64 (rd t550 x13_2)) ∧ w'.cell? (ad564.add (x13_2).toNat) = some (.int .i64 (rd t557 x13_2))) (ds := []) #[false, false, false, false, false, false, false, false, false, false, false, false] (by kernel_rfl) rfl rfl ⟨hx563_0, hx564_0⟩ (fun hHeld => ?_); refine with_tabW laws_FnLoopErrors.tab13 laws_FnLoopErrors.bits13 (fun HT_ HW_ => ?_)
             generalize wr.drew = w39 at HO_5 HO_9 HB hx563_0 hx564_0 hHeld ⊢
             refine pure_ (i := 0) (N := some 76) (v := ?_) (a' := ?_) #[true, false, false, false, false, false, false, false, false, false, false, false] rfl rfl (any_of HT_.out (by kernel_rfl)) (fun _ _ _ h => h) (Or.inl ⟨by rfl, ?_⟩) ?_ ?_
             rotate_left
             ·intro w'
              go_simp
              with_reducible rfl
             rotate_left
             ·simp only [Act.put, List.setIfInBounds_toArray, List.set_cons_zero, List.set_cons_succ, i64_w, i32_w]; rfl
             refine pure_ (i := 1) (N := some 77) (v := ?_) (a' := ?_) #[true, true, false, false, false, false, false, false, false, false, false, false] rfl rfl (any_of HT_.out (by kernel_rfl)) (fun _ _ _ h => h) (Or.inl ⟨by rfl, ?_⟩) ?_ ?_
             rotate_left
             ·intro w'
              go_simp
              with_reducible rfl
             rotate_left
             ·simp only [Act.put, List.setIfInBounds_toArray, List.set_cons_zero, List.set_cons_succ, i64_w, i32_w]; rfl
             refine pure_ (i := 2) (N := some 78) (v := ?_) (a' := ?_) #[true, true, true, false, false, false, false, false, false, false, false, false] rfl rfl (any_of HT_.out (by kernel_rfl)) (fun _ _ _ h => h) (Or.inl ⟨by rfl, ?_⟩) ?_ ?_
             rotate_left
             ·intro w'
              go_simp
              with_reducible rfl
             rotate_left
             ·simp only [Act.put, List.setIfInBounds_toArray, List.set_cons_zero, List.set_cons_succ, i64_w, i32_w]; rfl
             refine pure_ (i := 3) (N := some 79) (v := ?_) (a' := ?_) #[true, true, true, true, false, false, false, false, false, false, false, false] rfl rfl (any_of HT_.out (by kernel_rfl)) (fun _ _ _ h => h) (Or.inl ⟨by rfl, ?_⟩) ?_ ?_
             rotate_left
             ·intro w'
              go_simp
              with_reducible rfl
             rotate_left
             ·simp only [Act.put, List.setIfInBounds_toArray, List.set_cons_zero, List.set_cons_succ, i64_w, i32_w]; rfl
             refine pure_ (i := 6) (N := some 82) (v := ?_) (a' := ?_) #[true, true, true, true, false, false, true, false, false, false, false, false] rfl rfl (any_of HT_.out (by kernel_rfl)) (fun _ _ _ h => h) (Or.inl ⟨by rfl, ?_⟩) ?_ ?_
             rotate_left
             ·intro w'
              go_simp
              with_reducible rfl
             rotate_left
             ·simp only [Act.put, List.setIfInBounds_toArray, List.set_cons_zero, List.set_cons_succ, i64_w, i32_w]; rfl
             refine pure_ (i := 7) (N := some 83) (v := ?_) (a' := ?_) #[true, true, true, true, false, false, true, true, false, false, false, false] rfl rfl (any_of HT_.out (by kernel_rfl)) (fun _ _ _ h => h) (Or.inl ⟨by rfl, ?_⟩) ?_ ?_
             rotate_left
             ·intro w'
              go_simp
              with_reducible rfl
             rotate_left
             ·simp only [Act.put, List.setIfInBounds_toArray, List.set_cons_zero, List.set_cons_succ, i64_w, i32_w]; rfl
             refine pure_ (i := 8) (N := some 84) (v := ?_) (a' := ?_) #[true, true, true, true, false, false, true, true, true, false, false, false] rfl rfl (any_of HT_.out (by kernel_rfl)) (fun _ _ _ h => h) (Or.inl ⟨by rfl, ?_⟩) ?_ ?_
             rotate_left
             ·intro w'
              go_simp
              with_reducible rfl
             rotate_left
             ·simp only [Act.put, List.setIfInBounds_toArray, List.set_cons_zero, List.set_cons_succ, i64_w, i32_w]; rfl
             refine take_ (i := 4) (N := some 80) (v := ?_) (a' := ?_) #[true, true, true, true, true, false, true, true, true, false, false, false] rfl rfl (take_ofW HT_.out HW_.out (by kernel_rfl)) (fun _ _ _ h => h) (Or.inl ⟨by rfl, ?_⟩) hHeld ?_ ?_
             rotate_left
             ·rintro w' ⟨s0, s1⟩
              go_simp
              with_reducible rfl
             rotate_left
             ·simp only [Act.put, List.setIfInBounds_toArray, List.set_cons_zero, List.set_cons_succ, i64_w, i32_w]; rfl
             refine pure_ (i := 5) (N := some 81) (v := ?_) (a' := ?_) #[true, true, true, true, true, true, true, true, true, false, false, false] rfl rfl (any_of HT_.out (by kernel_rfl)) (fun _ _ _ h => h) (Or.inl ⟨by rfl, ?_⟩) ?_ ?_
             rotate_left
             ·intro w'
              go_simp
              with_reducible rfl
             rotate_left
             ·simp only [Act.put, List.setIfInBounds_toArray, List.set_cons_zero, List.set_cons_succ, i64_w, i32_w]; rfl
             refine take_ (i := 9) (N := some 85) (v := ?_) (a' := ?_) #[true, true, true, true, true, true, true, true, true, true, false, false] rfl rfl (take_ofW HT_.out HW_.out (by kernel_rfl)) (fun _ _ _ h => h) (Or.inl ⟨by rfl, ?_⟩) hHeld ?_ ?_
             rotate_left
             ·rintro w' ⟨s0, s1⟩
              go_simp
              with_reducible rfl
             rotate_left
             ·simp only [Act.put, List.setIfInBounds_toArray, List.set_cons_zero, List.set_cons_succ, i64_w, i32_w]; rfl
             refine pure_ (i := 10) (N := some 86) (v := ?_) (a' := ?_) #[true, true, true, true, true, true, true, true, true, true, true, false] rfl rfl (any_of HT_.out (by kernel_rfl)) (fun _ _ _ h => h) (Or.inl ⟨by rfl, ?_⟩) ?_ ?_
             rotate_left
             ·intro w'
              go_simp
              with_reducible rfl
             rotate_left
             ·simp only [Act.put, List.setIfInBounds_toArray, List.set_cons_zero, List.set_cons_succ, i64_w, i32_w]; rfl
             refine pure_ (i := 11) (N := some 14) (v := ?_) (a' := ?_) #[true, true, true, true, true, true, true, true, true, true, true, true] rfl rfl (any_of HT_.out (by kernel_rfl)) (fun _ _ _ h => h) (Or.inl ⟨by rfl, ?_⟩) ?_ ?_
             rotate_left
             ·intro w'
              go_simp
              with_reducible rfl
             rotate_left
             ·simp only [Act.put, List.setIfInBounds_toArray, List.set_cons_zero, List.set_cons_succ, i64_w, i32_w]; rfl
             refine done_ (done_of HT_.out (by kernel_rfl)) ?_
             have p568 : 0 ≤ (x13_2 : Int) := of_decide_eq_true (by first | (with_reducible assumption) | assumption)
             have q568 : x13_2 < (t557.length : Int) := of_decide_eq_true (by first | (with_reducible assumption) | assumption)
             obtain ⟨ad568, e568, hx568_0⟩ := Kd.at_int (Kd.R_reads' HO_9.out).2.2 x13_2 p568 q568
             obtain rfl : ad564 = ad568 := (by injection e568)
             replace p568 := eq_true p568
             replace q568 := eq_true q568
             try go_wp2
             go_roundg k2
             case measure => have := HJ6.out; have := HK2.out; omega
             case rel => exact ⟨(rd t557 x13_2), (wrap64 (x13_2 + 1)), (by first | rfl | (simp; done) | (simp [*]; done)), (by first | rfl | (simp; done) | (simp [*]; done)), H', ⟨by have := HJ6.out; have := HK2.out; omega⟩, ⟨by (with_reducible repeat (first | apply Kd.R_alloc | apply Kd.R_drewN | apply Kd.R_drew)); exact HO_5.out⟩, ⟨by (with_reducible repeat (first | apply Kd.R_alloc | apply Kd.R_drewN | apply Kd.R_drew)); exact HO_9.out⟩, ⟨by repeat (first | (with_reducible first | exact HB.out | apply below_alloc | apply pw_below_drewN | apply below_drew1) | exact HB.out)⟩⟩
          ·rw [if_neg c23] at H
           exact absurd H (by simp)
         ·rw [if_neg c22] at H
          exact absurd H (by simp)
        ·rw [if_neg c21] at H
         exact absurd H (by simp)
       ·rw [if_neg c20] at H
        have c20b0 : decide (x13_2 < (t550.length : Int)) = false := decide_eq_false c20
        clear c20
        replace H := Option.bind_eq_some_iff.mp H
        obtain ⟨t569, A410, H⟩ := H
        replace H : ((laws_a2At.f l1 1 100).bind fun t570 => ((laws_a2At.f l1 2 200).bind fun t571 => ((laws_a2At.f l1 3 200).bind fun t572 => ((some (([(⟨0, 1, t569, 100⟩ : S51), (⟨2, 1, t570, wrap64 (1 + t572)⟩ : S51), (⟨0, 2, t571, 70⟩ : S51)] : List (S51)) : List (S51))).bind fun y573 => ((impl_ClosingOf.f k2 3 y573 (([0, 1, 2] : List Int))).bind fun bt579 => ((impl_ClosingOf.f k2 3 y573 (([2, 1, 0] : List Int))).bind fun bt584 => ((impl_CloseLoop.f k2 3 y573 (([0, 1, 2] : List Int))).bind fun bt589 => (if 1 < (y573.length : Int) then ((impl_ReverseLine.f ((rd_T51 y573 1).f0) ((rd_T51 y573 1).f1) ((rd_T51 y573 1).f2) ((rd_T51 y573 1).f3)).bind fun bt594 => ((impl_ReverseLine.f bt594.1 bt594.2.1 bt594.2.2.1 bt594.2.2.2.1).bind fun bt600 => (if bt579.2 = 0 then (if bt584.2 = 0 then (if bt579.1 = (wrap64 ((wrap64 (t569 - t570)) - t571)) then (if bt584.1 = (wrap64 (-bt579.1)) then (if bt589.2 = 0 then (if (bt589.1.length : Int) = 3 then ((laws_a2Sum.f k2 bt589.1).bind fun t606 => (if t606 = 0 then (if bt594.2.2.2.2 = 0 then (if bt594.2.2.1 = (wrap64 (-t570)) then (if bt600.2.2.2.2 = 0 then (laws_FnLoopErrors.j2 k2 l1 (!(bt600.1 == ((rd_T51 y573 1).f0)) || (!(bt600.2.1 == ((rd_T51 y573 1).f1)) || (!(bt600.2.2.1 == ((rd_T51 y573 1).f2)) || (!(bt600.2.2.2.1 == ((rd_T51 y573 1).f3))))))) else (some false)) else (some false)) else (some false)) else (some false))) else (some false)) else (some false)) else (some false)) else (some false)) else (some false)) else (some false)))) else (none))))))))) = some r := H
        have A41 := Aside0.mk A410
        clear A410
        replace H := Option.bind_eq_some_iff.mp H
        obtain ⟨t570, A420, H⟩ := H
        replace H : ((laws_a2At.f l1 2 200).bind fun t571 => ((laws_a2At.f l1 3 200).bind fun t572 => ((some (([(⟨0, 1, t569, 100⟩ : S51), (⟨2, 1, t570, wrap64 (1 + t572)⟩ : S51), (⟨0, 2, t571, 70⟩ : S51)] : List (S51)) : List (S51))).bind fun y573 => ((impl_ClosingOf.f k2 3 y573 (([0, 1, 2] : List Int))).bind fun bt579 => ((impl_ClosingOf.f k2 3 y573 (([2, 1, 0] : List Int))).bind fun bt584 => ((impl_CloseLoop.f k2 3 y573 (([0, 1, 2] : List Int))).bind fun bt589 => (if 1 < (y573.length : Int) then ((impl_ReverseLine.f ((rd_T51 y573 1).f0) ((rd_T51 y573 1).f1) ((rd_T51 y573 1).f2) ((rd_T51 y573 1).f3)).bind fun bt594 => ((impl_ReverseLine.f bt594.1 bt594.2.1 bt594.2.2.1 bt594.2.2.2.1).bind fun bt600 => (if bt579.2 = 0 then (if bt584.2 = 0 then (if bt579.1 = (wrap64 ((wrap64 (t569 - t570)) - t571)) then (if bt584.1 = (wrap64 (-bt579.1)) then (if bt589.2 = 0 then (if (bt589.1.length : Int) = 3 then ((laws_a2Sum.f k2 bt589.1).bind fun t606 => (if t606 = 0 then (if bt594.2.2.2.2 = 0 then (if bt594.2.2.1 = (wrap64 (-t570)) then (if bt600.2.2.2.2 = 0 then (laws_FnLoopErrors.j2 k2 l1 (!(bt600.1 == ((rd_T51 y573 1).f0)) || (!(bt600.2.1 == ((rd_T51 y573 1).f1)) || (!(bt600.2.2.1 == ((rd_T51 y573 1).f2)) || (!(bt600.2.2.2.1 == ((rd_T51 y573 1).f3))))))) else (some false)) else (some false)) else (some false)) else (some false))) else (some false)) else (some false)) else (some false)) else (some false)) else (some false)) else (some false)))) else (none)))))))) = some r := H
        have A42 := Aside0.mk A420
        clear A420
        replace H := Option.bind_eq_some_iff.mp H
        obtain ⟨t571, A430, H⟩ := H
        replace H : ((laws_a2At.f l1 3 200).bind fun t572 => ((some (([(⟨0, 1, t569, 100⟩ : S51), (⟨2, 1, t570, wrap64 (1 + t572)⟩ : S51), (⟨0, 2, t571, 70⟩ : S51)] : List (S51)) : List (S51))).bind fun y573 => ((impl_ClosingOf.f k2 3 y573 (([0, 1, 2] : List Int))).bind fun bt579 => ((impl_ClosingOf.f k2 3 y573 (([2, 1, 0] : List Int))).bind fun bt584 => ((impl_CloseLoop.f k2 3 y573 (([0, 1, 2] : List Int))).bind fun bt589 => (if 1 < (y573.length : Int) then ((impl_ReverseLine.f ((rd_T51 y573 1).f0) ((rd_T51 y573 1).f1) ((rd_T51 y573 1).f2) ((rd_T51 y573 1).f3)).bind fun bt594 => ((impl_ReverseLine.f bt594.1 bt594.2.1 bt594.2.2.1 bt594.2.2.2.1).bind fun bt600 => (if bt579.2 = 0 then (if bt584.2 = 0 then (if bt579.1 = (wrap64 ((wrap64 (t569 - t570)) - t571)) then (if bt584.1 = (wrap64 (-bt579.1)) then (if bt589.2 = 0 then (if (bt589.1.length : Int) = 3 then ((laws_a2Sum.f k2 bt589.1).bind fun t606 => (if t606 = 0 then (if bt594.2.2.2.2 = 0 then (if bt594.2.2.1 = (wrap64 (-t570)) then (if bt600.2.2.2.2 = 0 then (laws_FnLoopErrors.j2 k2 l1 (!(bt600.1 == ((rd_T51 y573 1).f0)) || (!(bt600.2.1 == ((rd_T51 y573 1).f1)) || (!(bt600.2.2.1 == ((rd_T51 y573 1).f2)) || (!(bt600.2.2.2.1 == ((rd_T51 y573 1).f3))))))) else (some false)) else (some false)) else (some false)) else (some false))) else (some false)) else (some false)) else (some false)) else (some false)) else (some false)) else (some false)))) else (none))))))) = some r := H
        have A43 := Aside0.mk A430
        clear A430
        replace H := Option.bind_eq_some_iff.mp H
        obtain ⟨t572, A440, H⟩ := H
        replace H : ((some (([(⟨0, 1, t569, 100⟩ : S51), (⟨2, 1, t570, wrap64 (1 + t572)⟩ : S51), (⟨0, 2, t571, 70⟩ : S51)] : List (S51)) : List (S51))).bind fun y573 => ((impl_ClosingOf.f k2 3 y573 (([0, 1, 2] : List Int))).bind fun bt579 => ((impl_ClosingOf.f k2 3 y573 (([2, 1, 0] : List Int))).bind fun bt584 => ((impl_CloseLoop.f k2 3 y573 (([0, 1, 2] : List Int))).bind fun bt589 => (if 1 < (y573.length : Int) then ((impl_ReverseLine.f ((rd_T51 y573 1).f0) ((rd_T51 y573 1).f1) ((rd_T51 y573 1).f2) ((rd_T51 y573 1).f3)).bind fun bt594 => ((impl_ReverseLine.f bt594.1 bt594.2.1 bt594.2.2.1 bt594.2.2.2.1).bind fun bt600 => (if bt579.2 = 0 then (if bt584.2 = 0 then (if bt579.1 = (wrap64 ((wrap64 (t569 - t570)) - t571)) then (if bt584.1 = (wrap64 (-bt579.1)) then (if bt589.2 = 0 then (if (bt589.1.length : Int) = 3 then ((laws_a2Sum.f k2 bt589.1).bind fun t606 => (if t606 = 0 then (if bt594.2.2.2.2 = 0 then (if bt594.2.2.1 = (wrap64 (-t570)) then (if bt600.2.2.2.2 = 0 then (laws_FnLoopErrors.j2 k2 l1 (!(bt600.1 == ((rd_T51 y573 1).f0)) || (!(bt600.2.1 == ((rd_T51 y573 1).f1)) || (!(bt600.2.2.1 == ((rd_T51 y573 1).f2)) || (!(bt600.2.2.2.1 == ((rd_T51 y573 1).f3))))))) else (some false)) else (some false)) else (some false)) else (some false))) else (some false)) else (some false)) else (some false)) else (some false)) else (some false)) else (some false)))) else (none)))))) = some r := H
        have A44 := Aside0.mk A440
        clear A440
        obtain ⟨y573, hy573⟩ : ∃ y_ : List (S51), y_ = (([(⟨0, 1, t569, 100⟩ : S51), (⟨2, 1, t570, wrap64 (1 + t572)⟩ : S51), (⟨0, 2, t571, 70⟩ : S51)] : List (S51))) := ⟨_, rfl⟩
        replace H : ((impl_ClosingOf.f k2 3 y573 (([0, 1, 2] : List Int))).bind fun bt579 => ((impl_ClosingOf.f k2 3 y573 (([2, 1, 0] : List Int))).bind fun bt584 => ((impl_CloseLoop.f k2 3 y573 (([0, 1, 2] : List Int))).bind fun bt589 => (if 1 < (y573.length : Int) then ((impl_ReverseLine.f ((rd_T51 y573 1).f0) ((rd_T51 y573 1).f1) ((rd_T51 y573 1).f2) ((rd_T51 y573 1).f3)).bind fun bt594 => ((impl_ReverseLine.f bt594.1 bt594.2.1 bt594.2.2.1 bt594.2.2.2.1).bind fun bt600 => (if bt579.2 = 0 then (if bt584.2 = 0 then (if bt579.1 = (wrap64 ((wrap64 (t569 - t570)) - t571)) then (if bt584.1 = (wrap64 (-bt579.1)) then (if bt589.2 = 0 then (if (bt589.1.length : Int) = 3 then ((laws_a2Sum.f k2 bt589.1).bind fun t606 => (if t606 = 0 then (if bt594.2.2.2.2 = 0 then (if bt594.2.2.1 = (wrap64 (-t570)) then (if bt600.2.2.2.2 = 0 then (laws_FnLoopErrors.j2 k2 l1 (!(bt600.1 == ((rd_T51 y573 1).f0)) || (!(bt600.2.1 == ((rd_T51 y573 1).f1)) || (!(bt600.2.2.1 == ((rd_T51 y573 1).f2)) || (!(bt600.2.2.2.1 == ((rd_T51 y573 1).f3))))))) else (some false)) else (some false)) else (some false)) else (some false))) else (some false)) else (some false)) else (some false)) else (some false)) else (some false)) else (some false)))) else (none))))) = some r := by first | (rw [hy573]; with_reducible exact H) | (have H2_ := (Option.bind_some _ _).symm.trans H; rw [hy573]; with_reducible exact H2_) | (have H2_ := (Option.bind_some _ _).symm.trans H; with_reducible exact H2_) | with_reducible exact H | (rw [hy573]; exact H) | exact H
        have Ny573 := Aside0.mk hy573
        clear hy573
        obtain ⟨y576, hy576⟩ : ∃ y_ : List Int, y_ = (([0, 1, 2] : List Int)) := ⟨_, rfl⟩
        replace H : ((impl_ClosingOf.f k2 3 y573 y576).bind fun bt579 => ((impl_ClosingOf.f k2 3 y573 (([2, 1, 0] : List Int))).bind fun bt584 => ((impl_CloseLoop.f k2 3 y573 (([0, 1, 2] : List Int))).bind fun bt589 => (if 1 < (y573.length : Int) then ((impl_ReverseLine.f ((rd_T51 y573 1).f0) ((rd_T51 y573 1).f1) ((rd_T51 y573 1).f2) ((rd_T51 y573 1).f3)).bind fun bt594 => ((impl_ReverseLine.f bt594.1 bt594.2.1 bt594.2.2.1 bt594.2.2.2.1).bind fun bt600 => (if bt579.2 = 0 then (if bt584.2 = 0 then (if bt579.1 = (wrap64 ((wrap64 (t569 - t570)) - t571)) then (if bt584.1 = (wrap64 (-bt579.1)) then (if bt589.2 = 0 then (if (bt589.1.length : Int) = 3 then ((laws_a2Sum.f k2 bt589.1).bind fun t606 => (if t606 = 0 then (if bt594.2.2.2.2 = 0 then (if bt594.2.2.1 = (wrap64 (-t570)) then (if bt600.2.2.2.2 = 0 then (laws_FnLoopErrors.j2 k2 l1 (!(bt600.1 == ((rd_T51 y573 1).f0)) || (!(bt600.2.1 == ((rd_T51 y573 1).f1)) || (!(bt600.2.2.1 == ((rd_T51 y573 1).f2)) || (!(bt600.2.2.2.1 == ((rd_T51 y573 1).f3))))))) else (some false)) else (some false)) else (some false)) else (some false))) else (some false)) else (some false)) else (some false)) else (some false)) else (some false)) else (some false)))) else (none))))) = some r := by first | (rw [hy576]; with_reducible exact H) | (have H2_ := (Option.bind_some _ _).symm.trans H; rw [hy576]; with_reducible exact H2_) | (have H2_ := (Option.bind_some _ _).symm.trans H; with_reducible exact H2_) | with_reducible exact H | (rw [hy576]; exact H) | exact H
        have Ny576 := Aside0.mk hy576
        clear hy576
        replace H := Option.bind_eq_some_iff.mp H
        obtain ⟨⟨t579, t580⟩, A450, H⟩ := H
        replace H : ((impl_ClosingOf.f k2 3 y573 (([2, 1, 0] : List Int))).bind fun bt584 => ((impl_CloseLoop.f k2 3 y573 (([0, 1, 2] : List Int))).bind fun bt589 => (if 1 < (y573.length : Int) then ((impl_ReverseLine.f ((rd_T51 y573 1).f0) ((rd_T51 y573 1).f1) ((rd_T51 y573 1).f2) ((rd_T51 y573 1).f3)).bind fun bt594 => ((impl_ReverseLine.f bt594.1 bt594.2.1 bt594.2.2.1 bt594.2.2.2.1).bind fun bt600 => (if t580 = 0 then (if bt584.2 = 0 then (if t579 = (wrap64 ((wrap64 (t569 - t570)) - t571)) then (if bt584.1 = (wrap64 (-t579)) then (if bt589.2 = 0 then (if (bt589.1.length : Int) = 3 then ((laws_a2Sum.f k2 bt589.1).bind fun t606 => (if t606 = 0 then (if bt594.2.2.2.2 = 0 then (if bt594.2.2.1 = (wrap64 (-t570)) then (if bt600.2.2.2.2 = 0 then (laws_FnLoopErrors.j2 k2 l1 (!(bt600.1 == ((rd_T51 y573 1).f0)) || (!(bt600.2.1 == ((rd_T51 y573 1).f1)) || (!(bt600.2.2.1 == ((rd_T51 y573 1).f2)) || (!(bt600.2.2.2.1 == ((rd_T51 y573 1).f3))))))) else (some false)) else (some false)) else (some false)) else (some false))) else (some false)) else (some false)) else (some false)) else (some false)) else (some false)) else (some false)))) else (none)))) = some r := H
        have A45 := Aside0.mk A450
        clear A450
        obtain ⟨y581, hy581⟩ : ∃ y_ : List Int, y_ = (([2, 1, 0] : List Int)) := ⟨_, rfl⟩
        replace H : ((impl_ClosingOf.f k2 3 y573 y581).bind fun bt584 => ((impl_CloseLoop.f k2 3 y573 (([0, 1, 2] : List Int))).bind fun bt589 => (if 1 < (y573.length : Int) then ((impl_ReverseLine.f ((rd_T51 y573 1).f0) ((rd_T51 y573 1).f1) ((rd_T51 y573 1).f2) ((rd_T51 y573 1).f3)).bind fun bt594 => ((impl_ReverseLine.f bt594.1 bt594.2.1 bt594.2.2.1 bt594.2.2.2.1).bind fun bt600 => (if t580 = 0 then (if bt584.2 = 0 then (if t579 = (wrap64 ((wrap64 (t569 - t570)) - t571)) then (if bt584.1 = (wrap64 (-t579)) then (if bt589.2 = 0 then (if (bt589.1.length : Int) = 3 then ((laws_a2Sum.f k2 bt589.1).bind fun t606 => (if t606 = 0 then (if bt594.2.2.2.2 = 0 then (if bt594.2.2.1 = (wrap64 (-t570)) then (if bt600.2.2.2.2 = 0 then (laws_FnLoopErrors.j2 k2 l1 (!(bt600.1 == ((rd_T51 y573 1).f0)) || (!(bt600.2.1 == ((rd_T51 y573 1).f1)) || (!(bt600.2.2.1 == ((rd_T51 y573 1).f2)) || (!(bt600.2.2.2.1 == ((rd_T51 y573 1).f3))))))) else (some false)) else (some false)) else (some false)) else (some false))) else (some false)) else (some false)) else (some false)) else (some false)) else (some false)) else (some false)))) else (none)))) = some r := by first | (rw [hy581]; with_reducible exact H) | (have H2_ := (Option.bind_some _ _).symm.trans H; rw [hy581]; with_reducible exact H2_) | (have H2_ := (Option.bind_some _ _).symm.trans H; with_reducible exact H2_) | with_reducible exact H | (rw [hy581]; exact H) | exact H
        have Ny581 := Aside0.mk hy581
        clear hy581
        replace H := Option.bind_eq_some_iff.mp H
        obtain ⟨⟨t584, t585⟩, A460, H⟩ := H
        replace H : ((impl_CloseLoop.f k2 3 y573 (([0, 1, 2] : List Int))).bind fun bt589 => (if 1 < (y573.length : Int) then ((impl_ReverseLine.f ((rd_T51 y573 1).f0) ((rd_T51 y573 1).f1) ((rd_T51 y573 1).f2) ((rd_T51 y573 1).f3)).bind fun bt594 => ((impl_ReverseLine.f bt594.1 bt594.2.1 bt594.2.2.1 bt594.2.2.2.1).bind fun bt600 => (if t580 = 0 then (if t585 = 0 then (if t579 = (wrap64 ((wrap64 (t569 - t570)) - t571)) then (if t584 = (wrap64 (-t579)) then (if bt589.2 = 0 then (if (bt589.1.length : Int) = 3 then ((laws_a2Sum.f k2 bt589.1).bind fun t606 => (if t606 = 0 then (if bt594.2.2.2.2 = 0 then (if bt594.2.2.1 = (wrap64 (-t570)) then (if bt600.2.2.2.2 = 0 then (laws_FnLoopErrors.j2 k2 l1 (!(bt600.1 == ((rd_T51 y573 1).f0)) || (!(bt600.2.1 == ((rd_T51 y573 1).f1)) || (!(bt600.2.2.1 == ((rd_T51 y573 1).f2)) || (!(bt600.2.2.2.1 == ((rd_T51 y573 1).f3))))))) else (some false)) else (some false)) else (some false)) else (some false))) else (some false)) else (some false)) else (some false)) else (some false)) else (some false)) else (some false)))) else (none))) = some r := H
        have A46 := Aside0.mk A460
        clear A460
        obtain ⟨y586, hy586⟩ : ∃ y_ : List Int, y_ = (([0, 1, 2] : List Int)) := ⟨_, rfl⟩
        replace H : ((impl_CloseLoop.f k2 3 y573 y586).bind fun bt589 => (if 1 < (y573.length : Int) then ((impl_ReverseLine.f ((rd_T51 y573 1).f0) ((rd_T51 y573 1).f1) ((rd_T51 y573 1).f2) ((rd_T51 y573 1).f3)).bind fun bt594 => ((impl_ReverseLine.f bt594.1 bt594.2.1 bt594.2.2.1 bt594.2.2.2.1).bind fun bt600 => (if t580 = 0 then (if t585 = 0 then (if t579 = (wrap64 ((wrap64 (t569 - t570)) - t571)) then (if t584 = (wrap64 (-t579)) then (if bt589.2 = 0 then (if (bt589.1.length : Int) = 3 then ((laws_a2Sum.f k2 bt589.1).bind fun t606 => (if t606 = 0 then (if bt594.2.2.2.2 = 0 then (if bt594.2.2.1 = (wrap64 (-t570)) then (if bt600.2.2.2.2 = 0 then (laws_FnLoopErrors.j2 k2 l1 (!(bt600.1 == ((rd_T51 y573 1).f0)) || (!(bt600.2.1 == ((rd_T51 y573 1).f1)) || (!(bt600.2.2.1 == ((rd_T51 y573 1).f2)) || (!(bt600.2.2.2.1 == ((rd_T51 y573 1).f3))))))) else (some false)) else (some false)) else (some false)) else (some false))) else (some false)) else (some false)) else (some false)) else (some false)) else (some false)) else (some false)))) else (none))) = some r := by first | (rw [hy586]; with_reducible exact H) | (have H2_ := (Option.bind_some _ _).symm.trans H; rw [hy586]; with_reducible exact H2_) | (have H2_ := (Option.bind_some _ _).symm.trans H; with_reducible exact H2_) | with_reducible exact H | (rw [hy586]; exact H) | exact H
        have Ny586 := Aside0.mk hy586
        clear hy586
        replace H := Option.bind_eq_some_iff.mp H
        obtain ⟨⟨t589, t590⟩, A470, H⟩ := H
        replace H : (if 1 < (y573.length : Int) then ((impl_ReverseLine.f ((rd_T51 y573 1).f0) ((rd_T51 y573 1).f1) ((rd_T51 y573 1).f2) ((rd_T51 y573 1).f3)).bind fun bt594 => ((impl_ReverseLine.f bt594.1 bt594.2.1 bt594.2.2.1 bt594.2.2.2.1).bind fun bt600 => (if t580 = 0 then (if t585 = 0 then (if t579 = (wrap64 ((wrap64 (t569 - t570)) - t571)) then (if t584 = (wrap64 (-t579)) then (if t590 = 0 then (if (t589.length : Int) = 3 then ((laws_a2Sum.f k2 t589).bind fun t606 => (if t606 = 0 then (if bt594.2.2.2.2 = 0 then (if bt594.2.2.1 = (wrap64 (-t570)) then (if bt600.2.2.2.2 = 0 then (laws_FnLoopErrors.j2 k2 l1 (!(bt600.1 == ((rd_T51 y573 1).f0)) || (!(bt600.2.1 == ((rd_T51 y573 1).f1)) || (!(bt600.2.2.1 == ((rd_T51 y573 1).f2)) || (!(bt600.2.2.2.1 == ((rd_T51 y573 1).f3))))))) else (some false)) else (some false)) else (some false)) else (some false))) else (some false)) else (some false)) else (some false)) else (some false)) else (some false)) else (some false)))) else (none)) = some r := H
        have A47 := Aside0.mk A470
        clear A470
        by_cases c48 : 1 < (y573.length : Int)
        ·rw [if_pos c48] at H
         have c48b0 : decide (1 < (y573.length : Int)) = true := decide_eq_true c48
         have c48b1 : decide (1 < y573.length) = true := decide_eq_true (by omega)
         clear c48
         replace H := Option.bind_eq_some_iff.mp H
         obtain ⟨⟨t594, t595, t596, t597, t598⟩, A490, H⟩ := H
         replace H : ((impl_ReverseLine.f t594 t595 t596 t597).bind fun bt600 => (if t580 = 0 then (if t585 = 0 then (if t579 = (wrap64 ((wrap64 (t569 - t570)) - t571)) then (if t584 = (wrap64 (-t579)) then (if t590 = 0 then (if (t589.length : Int) = 3 then ((laws_a2Sum.f k2 t589).bind fun t606 => (if t606 = 0 then (if t598 = 0 then (if t596 = (wrap64 (-t570)) then (if bt600.2.2.2.2 = 0 then (laws_FnLoopErrors.j2 k2 l1 (!(bt600.1 == ((rd_T51 y573 1).f0)) || (!(bt600.2.1 == ((rd_T51 y573 1).f1)) || (!(bt600.2.2.1 == ((rd_T51 y573 1).f2)) || (!(bt600.2.2.2.1 == ((rd_T51 y573 1).f3))))))) else (some false)) else (some false)) else (some false)) else (some false))) else (some false)) else (some false)) else (some false)) else (some false)) else (some false)) else (some false))) = some r := H
         have A49 := Aside0.mk A490
         clear A490
         replace H := Option.bind_eq_some_iff.mp H
         obtain ⟨⟨t600, t601, t602, t603, t604⟩, A500, H⟩ := H
         replace H : (if t580 = 0 then (if t585 = 0 then (if t579 = (wrap64 ((wrap64 (t569 - t570)) - t571)) then (if t584 = (wrap64 (-t579)) then (if t590 = 0 then (if (t589.length : Int) = 3 then ((laws_a2Sum.f k2 t589).bind fun t606 => (if t606 = 0 then (if t598 = 0 then (if t596 = (wrap64 (-t570)) then (if t604 = 0 then (laws_FnLoopErrors.j2 k2 l1 (!(t600 == ((rd_T51 y573 1).f0)) || (!(t601 == ((rd_T51 y573 1).f1)) || (!(t602 == ((rd_T51 y573 1).f2)) || (!(t603 == ((rd_T51 y573 1).f3))))))) else (some false)) else (some false)) else (some false)) else (some false))) else (some false)) else (some false)) else (some false)) else (some false)) else (some false)) else (some false)) = some r := H
         have A50 := Aside0.mk A500
         clear A500
         have HC51 := Aside0.mk H
         clear H
         go_upto_region 26 with (first | ((with_reducible refine gate_callee (f := 36) rfl ?_); refine goesL_ (some 116) rfl rfl Try.func36 (by kernel_rfl) rfl #[.slice A1 l1.length c1, .int .i64 0, .int .i64 100] rfl (by (try simp only [List.map_toArray, List.map_cons, List.map_nil]); first | done | rfl | (simp only [List.length_drop, List.length_take]; rfl)) ?_; (with_reducible refine (laws_a2At.calls _ _ l1 0 100 t569 _ ?side1 ?side2 A41.out).mono ?_); (case side1 => repeat (first | exact (Kd.C_below HR1.out HB.out) | (with_reducible refine Kd.C_alloc ?_ _) | (with_reducible refine Kd.C_drewN ?_ _) | (with_reducible refine Kd.C_drew ?_))); (case side2 => exact HC1.out); rintro e w' ⟨rfl, ⟨nd, rfl⟩⟩; refine ⟨_, rfl, ?_⟩; (try (rw [drewN_self wr]; generalize hq_ : World.drewN wr _ = wr; have n0_ : Aside0 (Kd.R (Kd.int .i64) 2 wr w.heap.size (fun k_ => some k_ ≠ (v559 : Value).ownBlock) (.slice Ao9 t550.length co9) t550) := ⟨by rw [← hq_]; exact (by (with_reducible repeat (first | apply Kd.R_alloc | apply Kd.R_drewN | apply Kd.R_drew)); exact HO_5.out)⟩; have n1_ : Aside0 (Kd.R (Kd.int .i64) 2 wr w.heap.size (fun k_ => some k_ ≠ (.slice Ao9 t550.length co9 : Value).ownBlock) v559 t557) := ⟨by rw [← hq_]; exact (by (with_reducible repeat (first | apply Kd.R_alloc | apply Kd.R_drewN | apply Kd.R_drew)); exact HO_9.out)⟩; have n2_ : Aside0 (Below w.heap.size w wr) := ⟨by rw [← hq_]; exact (by repeat (first | (with_reducible first | exact HB.out | apply below_alloc | apply pw_below_drewN | apply below_drew1) | exact HB.out))⟩; clear HO_5 HO_9 HB hq_; have HO_5 := n0_; have HO_9 := n1_; have HB := n2_; clear n0_ n1_ n2_))) | ((with_reducible refine gate_callee (f := 36) rfl ?_); refine goesL_ (some 118) rfl rfl Try.func36 (by kernel_rfl) rfl #[.slice A1 l1.length c1, .int .i64 1, .int .i64 100] rfl (by (try simp only [List.map_toArray, List.map_cons, List.map_nil]); first | done | rfl | (simp only [List.length_drop, List.length_take]; rfl)) ?_; (with_reducible refine (laws_a2At.calls _ _ l1 1 100 t570 _ ?side1 ?side2 A42.out).mono ?_); (case side1 => repeat (first | exact (Kd.C_below HR1.out HB.out) | (with_reducible refine Kd.C_alloc ?_ _) | (with_reducible refine Kd.C_drewN ?_ _) | (with_reducible refine Kd.C_drew ?_))); (case side2 => exact HC1.out); rintro e w' ⟨rfl, ⟨nd, rfl⟩⟩; refine ⟨_, rfl, ?_⟩; (try (rw [drewN_self wr]; generalize hq_ : World.drewN wr _ = wr; have n0_ : Aside0 (Kd.R (Kd.int .i64) 2 wr w.heap.size (fun k_ => some k_ ≠ (v559 : Value).ownBlock) (.slice Ao9 t550.length co9) t550) := ⟨by rw [← hq_]; exact (by (with_reducible repeat (first | apply Kd.R_alloc | apply Kd.R_drewN | apply Kd.R_drew)); exact HO_5.out)⟩; have n1_ : Aside0 (Kd.R (Kd.int .i64) 2 wr w.heap.size (fun k_ => some k_ ≠ (.slice Ao9 t550.length co9 : Value).ownBlock) v559 t557) := ⟨by rw [← hq_]; exact (by (with_reducible repeat (first | apply Kd.R_alloc | apply Kd.R_drewN | apply Kd.R_drew)); exact HO_9.out)⟩; have n2_ : Aside0 (Below w.heap.size w wr) := ⟨by rw [← hq_]; exact (by repeat (first | (with_reducible first | exact HB.out | apply below_alloc | apply pw_below_drewN | apply below_drew1) | exact HB.out))⟩; clear HO_5 HO_9 HB hq_; have HO_5 := n0_; have HO_9 := n1_; have HB := n2_; clear n0_ n1_ n2_))) | ((with_reducible refine gate_callee (f := 36) rfl ?_); refine goesL_ (some 120) rfl rfl Try.func36 (by kernel_rfl) rfl #[.slice A1 l1.length c1, .int .i64 2, .int .i64 200] rfl (by (try simp only [List.map_toArray, List.map_cons, List.map_nil]); first | done | rfl | (simp only [List.length_drop, List.length_take]; rfl)) ?_; (with_reducible refine (laws_a2At.calls _ _ l1 2 200 t571 _ ?side1 ?side2 A43.out).mono ?_); (case side1 => repeat (first | exact (Kd.C_below HR1.out HB.out) | (with_reducible refine Kd.C_alloc ?_ _) | (with_reducible refine Kd.C_drewN ?_ _) | (with_reducible refine Kd.C_drew ?_))); (case side2 => exact HC1.out); rintro e w' ⟨rfl, ⟨nd, rfl⟩⟩; refine ⟨_, rfl, ?_⟩; (try (rw [drewN_self wr]; generalize hq_ : World.drewN wr _ = wr; have n0_ : Aside0 (Kd.R (Kd.int .i64) 2 wr w.heap.size (fun k_ => some k_ ≠ (v559 : Value).ownBlock) (.slice Ao9 t550.length co9) t550) := ⟨by rw [← hq_]; exact (by (with_reducible repeat (first | apply Kd.R_alloc | apply Kd.R_drewN | apply Kd.R_drew)); exact HO_5.out)⟩; have n1_ : Aside0 (Kd.R (Kd.int .i64) 2 wr w.heap.size (fun k_ => some k_ ≠ (.slice Ao9 t550.length co9 : Value).ownBlock) v559 t557) := ⟨by rw [← hq_]; exact (by (with_reducible repeat (first | apply Kd.R_alloc | apply Kd.R_drewN | apply Kd.R_drew)); exact HO_9.out)⟩; have n2_ : Aside0 (Below w.heap.size w wr) := ⟨by rw [← hq_]; exact (by repeat (first | (with_reducible first | exact HB.out | apply below_alloc | apply pw_below_drewN | apply below_drew1) | exact HB.out))⟩; clear HO_5 HO_9 HB hq_; have HO_5 := n0_; have HO_9 := n1_; have HB := n2_; clear n0_ n1_ n2_))) | ((with_reducible refine gate_callee (f := 36) rfl ?_); refine goesL_ (some 125) rfl rfl Try.func36 (by kernel_rfl) rfl #[.slice A1 l1.length c1, .int .i64 3, .int .i64 200] rfl (by (try simp only [List.map_toArray, List.map_cons, List.map_nil]); first | done | rfl | (simp only [List.length_drop, List.length_take]; rfl)) ?_; (with_reducible refine (laws_a2At.calls _ _ l1 3 200 t572 _ ?side1 ?side2 A44.out).mono ?_); (case side1 => repeat (first | exact (Kd.C_below HR1.out HB.out) | (with_reducible refine Kd.C_alloc ?_ _) | (with_reducible refine Kd.C_drewN ?_ _) | (with_reducible refine Kd.C_drew ?_))); (case side2 => exact HC1.out); rintro e w' ⟨rfl, ⟨nd, rfl⟩⟩; refine ⟨_, rfl, ?_⟩; (try (rw [drewN_self wr]; generalize hq_ : World.drewN wr _ = wr; have n0_ : Aside0 (Kd.R (Kd.int .i64) 2 wr w.heap.size (fun k_ => some k_ ≠ (v559 : Value).ownBlock) (.slice Ao9 t550.length co9) t550) := ⟨by rw [← hq_]; exact (by (with_reducible repeat (first | apply Kd.R_alloc | apply Kd.R_drewN | apply Kd.R_drew)); exact HO_5.out)⟩; have n1_ : Aside0 (Kd.R (Kd.int .i64) 2 wr w.heap.size (fun k_ => some k_ ≠ (.slice Ao9 t550.length co9 : Value).ownBlock) v559 t557) := ⟨by rw [← hq_]; exact (by (with_reducible repeat (first | apply Kd.R_alloc | apply Kd.R_drewN | apply Kd.R_drew)); exact HO_9.out)⟩; have n2_ : Aside0 (Below w.heap.size w wr) := ⟨by rw [← hq_]; exact (by repeat (first | (with_reducible first | exact HB.out | apply below_alloc | apply pw_below_drewN | apply below_drew1) | exact HB.out))⟩; clear HO_5 HO_9 HB hq_; have HO_5 := n0_; have HO_9 := n1_; have HB := n2_; clear n0_ n1_ n2_))) | ((with_reducible refine gate_dst (N := 130) rfl ?_); (try (refine gate_guard (by rfl) ?_; dsimp only)); refine Kd.R_lit k51 _ 51 ?hg (N := 130) ?hd (xs := ([(⟨0, 1, t569, 100⟩ : S51), (⟨2, 1, t570, wrap64 (1 + t572)⟩ : S51), (⟨0, 2, t571, 70⟩ : S51)] : List (S51))) (inner := [.int .i64 0, .int .i64 1, .int .i64 t569, .int .i64 100, .int .i64 2, .int .i64 1, .int .i64 t570, .int .i64 (wrap64 (1 + t572)), .int .i64 0, .int .i64 2, .int .i64 t571, .int .i64 70]) (ok := fun _ => True) (okp := fun _ => True) ?hr ?hp (fun _ hk => hk) trivial (Below.refl _ _) (Nat.le_refl _) (by simp) ?_; (case hd => rfl); (case hg => rfl); (case hr => first | (go_simp; done) | (go_simp; rfl)); (case hp => exact (Reps.c4 (show Kd.M k51 _ _ _ (⟨0, 1, t569, 100⟩ : S51) [.int .i64 0, .int .i64 1, .int .i64 t569, .int .i64 100] from (k51_mkM _ _ _ (⟨0, 1, t569, 100⟩ : S51) )) (Reps.c4 (show Kd.M k51 _ _ _ (⟨2, 1, t570, wrap64 (1 + t572)⟩ : S51) [.int .i64 2, .int .i64 1, .int .i64 t570, .int .i64 (wrap64 (1 + t572))] from (k51_mkM _ _ _ (⟨2, 1, t570, wrap64 (1 + t572)⟩ : S51) )) (Reps.c4 (show Kd.M k51 _ _ _ (⟨0, 2, t571, 70⟩ : S51) [.int .i64 0, .int .i64 2, .int .i64 t571, .int .i64 70] from (k51_mkM _ _ _ (⟨0, 2, t571, 70⟩ : S51) )) (Reps.none _ _))))); intro v574 w52 ho53 hb hg_ hnew_; clear hg_ hnew_; (first | rw [← Ny573.out] at ho53 | (simp only [Int.reduceToNat] at ho53; rw [← Ny573.out] at ho53)); have n0_ := Aside0.mk (Kd.R_below (by (with_reducible repeat (first | apply Kd.R_alloc | apply Kd.R_drewN | apply Kd.R_drew)); exact HO_5.out) hb); have n1_ := Aside0.mk (Kd.R_below (by (with_reducible repeat (first | apply Kd.R_alloc | apply Kd.R_drewN | apply Kd.R_drew)); exact HO_9.out) hb); have n2_ := Aside0.mk (Kd.R_lower ho53 (below_size (by repeat (first | (with_reducible first | exact HB.out | apply below_alloc | apply pw_below_drewN | apply below_drew1) | exact HB.out)))); have n3_ := Aside0.mk (below_step (by repeat (first | (with_reducible first | exact HB.out | apply below_alloc | apply pw_below_drewN | apply below_drew1) | exact HB.out)) hb); clear HO_5; clear HO_9; clear HB; have HO_5 := n0_; have HO_9 := n1_; have HO575 := n2_; have HB := n3_; clear n0_ n1_ n2_ n3_; clear hb ho53) | ((with_reducible refine gate_dst (N := 133) rfl ?_); (try (refine gate_guard (by rfl) ?_; dsimp only)); refine Kd.R_lit (Kd.int .i64) _ 2 ?hg (N := 133) ?hd (xs := ([0, 1, 2] : List Int)) (inner := [.int .i64 0, .int .i64 1, .int .i64 2]) (ok := fun _ => True) (okp := fun _ => True) ?hr ?hp (fun _ hk => hk) trivial (Below.refl _ _) (Nat.le_refl _) (by simp) ?_; (case hd => rfl); (case hg => rfl); (case hr => first | (go_simp; done) | (go_simp; rfl)); (case hp => exact (Reps.one (show Kd.M (Kd.int .i64) _ _ _ 0 [.int .i64 0] from rfl) (Reps.one (show Kd.M (Kd.int .i64) _ _ _ 1 [.int .i64 1] from rfl) (Reps.one (show Kd.M (Kd.int .i64) _ _ _ 2 [.int .i64 2] from rfl) (Reps.none _ _))))); intro v577 w54 ho55 hb hg_ hnew_; clear hg_ hnew_; (first | rw [← Ny576.out] at ho55 | (simp only [Int.reduceToNat] at ho55; rw [← Ny576.out] at ho55)); have n0_ := Aside0.mk (Kd.R_elder' (by (with_reducible repeat (first | apply Kd.R_alloc | apply Kd.R_drewN | apply Kd.R_drew)); exact HO_5.out) (Kd.R_base ho55) hb); have n1_ := Aside0.mk (Kd.R_elder' (by (with_reducible repeat (first | apply Kd.R_alloc | apply Kd.R_drewN | apply Kd.R_drew)); exact HO_9.out) (Kd.R_base ho55) hb); have n2_ := Aside0.mk (Kd.R_below (by (with_reducible repeat (first | apply Kd.R_alloc | apply Kd.R_drewN | apply Kd.R_drew)); exact HO575.out) hb); have n3_ := Aside0.mk (Kd.R_lower (Kd.R_new' (Kd.R_new' ho55 (Kd.R_lt (by (with_reducible repeat (first | apply Kd.R_alloc | apply Kd.R_drewN | apply Kd.R_drew)); exact HO_5.out))) (Kd.R_lt (by (with_reducible repeat (first | apply Kd.R_alloc | apply Kd.R_drewN | apply Kd.R_drew)); exact HO_9.out))) (below_size (by repeat (first | (with_reducible first | exact HB.out | apply below_alloc | apply pw_below_drewN | apply below_drew1) | exact HB.out)))); have n4_ := Aside0.mk (below_step (by repeat (first | (with_reducible first | exact HB.out | apply below_alloc | apply pw_below_drewN | apply below_drew1) | exact HB.out)) hb); clear HO_5; clear HO_9; clear HO575; clear HB; have HO_5 := n0_; have HO_9 := n1_; have HO575 := n2_; have HO578 := n3_; have HB := n4_; clear n0_ n1_ n2_ n3_ n4_; clear hb ho55; obtain ⟨Ao56, co56, eo56⟩ := Kd.R_slice HO575.out; subst eo56; obtain ⟨Ao57, co57, eo57⟩ := Kd.R_slice HO578.out; subst eo57) | ((with_reducible refine gate_callee (f := 26) rfl ?_); refine goesL_ (some 134) rfl rfl Try.func26 (by kernel_rfl) rfl #[.int .i64 3, .slice Ao56 y573.length co56, .slice Ao57 y576.length co57] rfl (by (try simp only [List.map_toArray, List.map_cons, List.map_nil]); first | done | rfl | (simp only [List.length_drop, List.length_take]; rfl)) ?_; (with_reducible refine (impl_ClosingOf.calls k2 3 _ _ y573 _ _ y576 t579 t580 _ ?side1 ?side2 ?side3 ?side4 A45.out).mono ?_); (case side1 => repeat (first | exact (Kd.R_reads' HO575.out).2.2 | (with_reducible refine Kd.C_alloc ?_ _) | (with_reducible refine Kd.C_drewN ?_ _) | (with_reducible refine Kd.C_drew ?_))); (case side2 => exact (Kd.R_reads' HO575.out).2.1); (case side3 => repeat (first | exact (Kd.R_reads' HO578.out).2.2 | (with_reducible refine Kd.C_alloc ?_ _) | (with_reducible refine Kd.C_drewN ?_ _) | (with_reducible refine Kd.C_drew ?_))); (case side4 => exact (Kd.R_reads' HO578.out).2.1); rintro e w58 ⟨rfl, hb⟩; refine ⟨_, rfl, ?_⟩; have n0_ := Aside0.mk (Kd.R_below (by (with_reducible repeat (first | apply Kd.R_alloc | apply Kd.R_drewN | apply Kd.R_drew)); exact HO_5.out) hb); have n1_ := Aside0.mk (Kd.R_below (by (with_reducible repeat (first | apply Kd.R_alloc | apply Kd.R_drewN | apply Kd.R_drew)); exact HO_9.out) hb); have n2_ := Aside0.mk (Kd.R_below (by (with_reducible repeat (first | apply Kd.R_alloc | apply Kd.R_drewN | apply Kd.R_drew)); exact HO575.out) hb); have n3_ := Aside0.mk (Kd.R_below (by (with_reducible repeat (first | apply Kd.R_alloc | apply Kd.R_drewN | apply Kd.R_drew)); exact HO578.out) hb); have n4_ := Aside0.mk (below_step (by repeat (first | (with_reducible first | exact HB.out | apply below_alloc | apply pw_below_drewN | apply below_drew1) | exact HB.out)) hb); clear HO_5; clear HO_9; clear HO575; clear HO578; clear HB; have HO_5 := n0_; have HO_9 := n1_; have HO575 := n2_; have HO578 := n3_; have HB := n4_; clear n0_ n1_ n2_ n3_ n4_; (try clear hb); (try clear hb2); (try clear hk); (try clear hi)) | ((with_reducible refine gate_dst (N := 139) rfl ?_); (try (refine gate_guard (by rfl) ?_; dsimp only)); refine Kd.R_lit (Kd.int .i64) _ 2 ?hg (N := 139) ?hd (xs := ([2, 1, 0] : List Int)) (inner := [.int .i64 2, .int .i64 1, .int .i64 0]) (ok := fun _ => True) (okp := fun _ => True) ?hr ?hp (fun _ hk => hk) trivial (Below.refl _ _) (Nat.le_refl _) (by simp) ?_; (case hd => rfl); (case hg => rfl); (case hr => first | (go_simp; done) | (go_simp; rfl)); (case hp => exact (Reps.one (show Kd.M (Kd.int .i64) _ _ _ 2 [.int .i64 2] from rfl) (Reps.one (show Kd.M (Kd.int .i64) _ _ _ 1 [.int .i64 1] from rfl) (Reps.one (show Kd.M (Kd.int .i64) _ _ _ 0 [.int .i64 0] from rfl) (Reps.none _ _))))); intro v582 w59 ho60 hb hg_ hnew_; clear hg_ hnew_; (first | rw [← Ny581.out] at ho60 | (simp only [Int.reduceToNat] at ho60; rw [← Ny581.out] at ho60)); have n0_ := Aside0.mk (Kd.R_elder' (by (with_reducible repeat (first | apply Kd.R_alloc | apply Kd.R_drewN | apply Kd.R_drew)); exact HO_5.out) (Kd.R_base ho60) hb); have n1_ := Aside0.mk (Kd.R_elder' (by (with_reducible repeat (first | apply Kd.R_alloc | apply Kd.R_drewN | apply Kd.R_drew)); exact HO_9.out) (Kd.R_base ho60) hb); have n2_ := Aside0.mk (Kd.R_below (by (with_reducible repeat (first | apply Kd.R_alloc | apply Kd.R_drewN | apply Kd.R_drew)); exact HO575.out) hb); have n3_ := Aside0.mk (Kd.R_elder' (by (with_reducible repeat (first | apply Kd.R_alloc | apply Kd.R_drewN | apply Kd.R_drew)); exact HO578.out) (Kd.R_base ho60) hb); have n4_ := Aside0.mk (Kd.R_lower (Kd.R_new' (Kd.R_new' (Kd.R_new' ho60 (Kd.R_lt (by (with_reducible repeat (first | apply Kd.R_alloc | apply Kd.R_drewN | apply Kd.R_drew)); exact HO_5.out))) (Kd.R_lt (by (with_reducible repeat (first | apply Kd.R_alloc | apply Kd.R_drewN | apply Kd.R_drew)); exact HO_9.out))) (Kd.R_lt (by (with_reducible repeat (first | apply Kd.R_alloc | apply Kd.R_drewN | apply Kd.R_drew)); exact HO578.out))) (below_size (by repeat (first | (with_reducible first | exact HB.out | apply below_alloc | apply pw_below_drewN | apply below_drew1) | exact HB.out)))); have n5_ := Aside0.mk (below_step (by repeat (first | (with_reducible first | exact HB.out | apply below_alloc | apply pw_below_drewN | apply below_drew1) | exact HB.out)) hb); clear HO_5; clear HO_9; clear HO575; clear HO578; clear HB; have HO_5 := n0_; have HO_9 := n1_; have HO575 := n2_; have HO578 := n3_; have HO583 := n4_; have HB := n5_; clear n0_ n1_ n2_ n3_ n4_ n5_; clear hb ho60; obtain ⟨Ao61, co61, eo61⟩ := Kd.R_slice HO583.out; subst eo61) | ((with_reducible refine gate_callee (f := 26) rfl ?_); refine goesL_ (some 140) rfl rfl Try.func26 (by kernel_rfl) rfl #[.int .i64 3, .slice Ao56 y573.length co56, .slice Ao61 y581.length co61] rfl (by (try simp only [List.map_toArray, List.map_cons, List.map_nil]); first | done | rfl | (simp only [List.length_drop, List.length_take]; rfl)) ?_; (with_reducible refine (impl_ClosingOf.calls k2 3 _ _ y573 _ _ y581 t584 t585 _ ?side1 ?side2 ?side3 ?side4 A46.out).mono ?_); (case side1 => repeat (first | exact (Kd.R_reads' HO575.out).2.2 | (with_reducible refine Kd.C_alloc ?_ _) | (with_reducible refine Kd.C_drewN ?_ _) | (with_reducible refine Kd.C_drew ?_))); (case side2 => exact (Kd.R_reads' HO575.out).2.1); (case side3 => repeat (first | exact (Kd.R_reads' HO583.out).2.2 | (with_reducible refine Kd.C_alloc ?_ _) | (with_reducible refine Kd.C_drewN ?_ _) | (with_reducible refine Kd.C_drew ?_))); (case side4 => exact (Kd.R_reads' HO583.out).2.1); rintro e w62 ⟨rfl, hb⟩; refine ⟨_, rfl, ?_⟩; have n0_ := Aside0.mk (Kd.R_below (by (with_reducible repeat (first | apply Kd.R_alloc | apply Kd.R_drewN | apply Kd.R_drew)); exact HO_5.out) hb); have n1_ := Aside0.mk (Kd.R_below (by (with_reducible repeat (first | apply Kd.R_alloc | apply Kd.R_drewN | apply Kd.R_drew)); exact HO_9.out) hb); have n2_ := Aside0.mk (Kd.R_below (by (with_reducible repeat (first | apply Kd.R_alloc | apply Kd.R_drewN | apply Kd.R_drew)); exact HO575.out) hb); have n3_ := Aside0.mk (Kd.R_below (by (with_reducible repeat (first | apply Kd.R_alloc | apply Kd.R_drewN | apply Kd.R_drew)); exact HO578.out) hb); have n4_ := Aside0.mk (Kd.R_below (by (with_reducible repeat (first | apply Kd.R_alloc | apply Kd.R_drewN | apply Kd.R_drew)); exact HO583.out) hb); have n5_ := Aside0.mk (below_step (by repeat (first | (with_reducible first | exact HB.out | apply below_alloc | apply pw_below_drewN | apply below_drew1) | exact HB.out)) hb); clear HO_5; clear HO_9; clear HO575; clear HO578; clear HO583; clear HB; have HO_5 := n0_; have HO_9 := n1_; have HO575 := n2_; have HO578 := n3_; have HO583 := n4_; have HB := n5_; clear n0_ n1_ n2_ n3_ n4_ n5_; (try clear hb); (try clear hb2); (try clear hk); (try clear hi)) | ((with_reducible refine gate_dst (N := 145) rfl ?_); (try (refine gate_guard (by rfl) ?_; dsimp only)); refine Kd.R_lit (Kd.int .i64) _ 2 ?hg (N := 145) ?hd (xs := ([0, 1, 2] : List Int)) (inner := [.int .i64 0, .int .i64 1, .int .i64 2]) (ok := fun _ => True) (okp := fun _ => True) ?hr ?hp (fun _ hk => hk) trivial (Below.refl _ _) (Nat.le_refl _) (by simp) ?_; (case hd => rfl); (case hg => rfl); (case hr => first | (go_simp; done) | (go_simp; rfl)); (case hp => exact (Reps.one (show Kd.M (Kd.int .i64) _ _ _ 0 [.int .i64 0] from rfl) (Reps.one (show Kd.M (Kd.int .i64) _ _ _ 1 [.int .i64 1] from rfl) (Reps.one (show Kd.M (Kd.int .i64) _ _ _ 2 [.int .i64 2] from rfl) (Reps.none _ _))))); intro v587 w63 ho64 hb hg_ hnew_; clear hg_ hnew_; (first | rw [← Ny586.out] at ho64 | (simp only [Int.reduceToNat] at ho64; rw [← Ny586.out] at ho64)); have n0_ := Aside0.mk (Kd.R_elder' (by (with_reducible repeat (first | apply Kd.R_alloc | apply Kd.R_drewN | apply Kd.R_drew)); exact HO_5.out) (Kd.R_base ho64) hb); have n1_ := Aside0.mk (Kd.R_elder' (by (with_reducible repeat (first | apply Kd.R_alloc | apply Kd.R_drewN | apply Kd.R_drew)); exact HO_9.out) (Kd.R_base ho64) hb); have n2_ := Aside0.mk (Kd.R_below (by (with_reducible repeat (first | apply Kd.R_alloc | apply Kd.R_drewN | apply Kd.R_drew)); exact HO575.out) hb); have n3_ := Aside0.mk (Kd.R_elder' (by (with_reducible repeat (first | apply Kd.R_alloc | apply Kd.R_drewN | apply Kd.R_drew)); exact HO578.out) (Kd.R_base ho64) hb); have n4_ := Aside0.mk (Kd.R_elder' (by (with_reducible repeat (first | apply Kd.R_alloc | apply Kd.R_drewN | apply Kd.R_drew)); exact HO583.out) (Kd.R_base ho64) hb); have n5_ := Aside0.mk (Kd.R_lower (Kd.R_new' (Kd.R_new' (Kd.R_new' (Kd.R_new' ho64 (Kd.R_lt (by (with_reducible repeat (first | apply Kd.R_alloc | apply Kd.R_drewN | apply Kd.R_drew)); exact HO_5.out))) (Kd.R_lt (by (with_reducible repeat (first | apply Kd.R_alloc | apply Kd.R_drewN | apply Kd.R_drew)); exact HO_9.out))) (Kd.R_lt (by (with_reducible repeat (first | apply Kd.R_alloc | apply Kd.R_drewN | apply Kd.R_drew)); exact HO578.out))) (Kd.R_lt (by (with_reducible repeat (first | apply Kd.R_alloc | apply Kd.R_drewN | apply Kd.R_drew)); exact HO583.out))) (below_size (by repeat (first | (with_reducible first | exact HB.out | apply below_alloc | apply pw_below_drewN | apply below_drew1) | exact HB.out)))); have n6_ := Aside0.mk (below_step (by repeat (first | (with_reducible first | exact HB.out | apply below_alloc | apply pw_below_drewN | apply below_drew1) | exact HB.out)) hb); clear HO_5; clear HO_9; clear HO575; clear HO578; clear HO583; clear HB; have HO_5 := n0_; have HO_9 := n1_; have HO575 := n2_; have HO578 := n3_; have HO583 := n4_; have HO588 := n5_; have HB := n6_; clear n0_ n1_ n2_ n3_ n4_ n5_ n6_; clear hb ho64; obtain ⟨Ao65, co65, eo65⟩ := Kd.R_slice HO588.out; subst eo65) | ((with_reducible refine gate_callee (f := 32) rfl ?_); refine goesL_ (some 146) rfl rfl Try.func32 (by kernel_rfl) rfl #[.int .i64 3, .slice Ao56 y573.length co56, .slice Ao65 y586.length co65] rfl (by (try simp only [List.map_toArray, List.map_cons, List.map_nil]); first | done | rfl | (simp only [List.length_drop, List.length_take]; rfl)) ?_; (with_reducible refine (impl_CloseLoop.calls k2 3 _ _ y573 _ _ y586 t589 t590 _ ?side1 ?side2 ?side3 ?side4 A47.out).mono ?_); (case side1 => repeat (first | exact (Kd.R_reads' HO575.out).2.2 | (with_reducible refine Kd.C_alloc ?_ _) | (with_reducible refine Kd.C_drewN ?_ _) | (with_reducible refine Kd.C_drew ?_))); (case side2 => exact (Kd.R_reads' HO575.out).2.1); (case side3 => repeat (first | exact (Kd.R_reads' HO588.out).2.2 | (with_reducible refine Kd.C_alloc ?_ _) | (with_reducible refine Kd.C_drewN ?_ _) | (with_reducible refine Kd.C_drew ?_))); (case side4 => exact (Kd.R_reads' HO588.out).2.1); rintro e w66 ⟨v591, rfl, ho0, hb⟩; refine ⟨_, rfl, ?_⟩; have n0_ := Aside0.mk (Kd.R_elder' (by (with_reducible repeat (first | apply Kd.R_alloc | apply Kd.R_drewN | apply Kd.R_drew)); exact HO_5.out) (Kd.R_base ho0) hb); have n1_ := Aside0.mk (Kd.R_elder' (by (with_reducible repeat (first | apply Kd.R_alloc | apply Kd.R_drewN | apply Kd.R_drew)); exact HO_9.out) (Kd.R_base ho0) hb); have n2_ := Aside0.mk (Kd.R_below (by (with_reducible repeat (first | apply Kd.R_alloc | apply Kd.R_drewN | apply Kd.R_drew)); exact HO575.out) hb); have n3_ := Aside0.mk (Kd.R_elder' (by (with_reducible repeat (first | apply Kd.R_alloc | apply Kd.R_drewN | apply Kd.R_drew)); exact HO578.out) (Kd.R_base ho0) hb); have n4_ := Aside0.mk (Kd.R_elder' (by (with_reducible repeat (first | apply Kd.R_alloc | apply Kd.R_drewN | apply Kd.R_drew)); exact HO583.out) (Kd.R_base ho0) hb); have n5_ := Aside0.mk (Kd.R_elder' (by (with_reducible repeat (first | apply Kd.R_alloc | apply Kd.R_drewN | apply Kd.R_drew)); exact HO588.out) (Kd.R_base ho0) hb); have n6_ := Aside0.mk (Kd.R_lower (Kd.R_new' (Kd.R_new' (Kd.R_new' (Kd.R_new' (Kd.R_new' ho0 (Kd.R_lt (by (with_reducible repeat (first | apply Kd.R_alloc | apply Kd.R_drewN | apply Kd.R_drew)); exact HO_5.out))) (Kd.R_lt (by (with_reducible repeat (first | apply Kd.R_alloc | apply Kd.R_drewN | apply Kd.R_drew)); exact HO_9.out))) (Kd.R_lt (by (with_reducible repeat (first | apply Kd.R_alloc | apply Kd.R_drewN | apply Kd.R_drew)); exact HO578.out))) (Kd.R_lt (by (with_reducible repeat (first | apply Kd.R_alloc | apply Kd.R_drewN | apply Kd.R_drew)); exact HO583.out))) (Kd.R_lt (by (with_reducible repeat (first | apply Kd.R_alloc | apply Kd.R_drewN | apply Kd.R_drew)); exact HO588.out))) (below_size (by repeat (first | (with_reducible first | exact HB.out | apply below_alloc | apply pw_below_drewN | apply below_drew1) | exact HB.out)))); have n7_ := Aside0.mk (below_step (by repeat (first | (with_reducible first | exact HB.out | apply below_alloc | apply pw_below_drewN | apply below_drew1) | exact HB.out)) hb); clear HO_5; clear HO_9; clear HO575; clear HO578; clear HO583; clear HO588; clear HB; have HO_5 := n0_; have HO_9 := n1_; have HO575 := n2_; have HO578 := n3_; have HO583 := n4_; have HO588 := n5_; have HO592 := n6_; have HB := n7_; clear n0_ n1_ n2_ n3_ n4_ n5_ n6_ n7_; (try clear hb); (try clear hb2); (try clear hk); (try clear hi); (try clear ho0); have p593 : 0 ≤ (1 : Int) := (by omega); have q593 : 1 < (y573.length : Int) := of_decide_eq_true (by first | (with_reducible assumption) | assumption); obtain ⟨ad593, e593, hx593_0, hx593_1, hx593_2, hx593_3⟩ := at_T51 (Kd.R_reads' HO575.out).2.2 1 p593 q593; cases e593; (try simp only [show (1 : Int).toNat = 1 from rfl, Nat.reduceMul, Nat.reduceEqDiff, Go.Addr.add, ↓reduceIte] at hx593_0); (try simp only [show (1 : Int).toNat = 1 from rfl, Nat.reduceMul, Nat.reduceEqDiff, Go.Addr.add, ↓reduceIte] at hx593_1); (try simp only [show (1 : Int).toNat = 1 from rfl, Nat.reduceMul, Nat.reduceEqDiff, Go.Addr.add, ↓reduceIte] at hx593_2); (try simp only [show (1 : Int).toNat = 1 from rfl, Nat.reduceMul, Nat.reduceEqDiff, Go.Addr.add, ↓reduceIte] at hx593_3); have qi593 : (1 < y573.length) = True := eq_true (by omega); (try rw [show ((1 : Int)).toNat = 1 from rfl] at hx593_0); (try rw [show 1 * 4 = 4 from rfl] at hx593_0); (try rw [show ((1 : Int)).toNat = 1 from rfl] at hx593_1); (try rw [show 1 * 4 = 4 from rfl] at hx593_1); (try rw [show ((1 : Int)).toNat = 1 from rfl] at hx593_2); (try rw [show 1 * 4 = 4 from rfl] at hx593_2); (try rw [show ((1 : Int)).toNat = 1 from rfl] at hx593_3); (try rw [show 1 * 4 = 4 from rfl] at hx593_3); replace p593 := eq_true p593; replace q593 := eq_true q593) | ((with_reducible refine gate_callee (f := 37) rfl ?_); refine goesL_ (some 153) rfl rfl Try.func37 (by kernel_rfl) rfl #[.agg #[.int .i64 ((rd_T51 y573 1).f0), .int .i64 ((rd_T51 y573 1).f1), .int .i64 ((rd_T51 y573 1).f2), .int .i64 ((rd_T51 y573 1).f3)]] rfl (by (try simp only [List.map_toArray, List.map_cons, List.map_nil]); first | done | rfl | (simp only [List.length_drop, List.length_take]; rfl)) ?_; (with_reducible refine (impl_ReverseLine.calls ((rd_T51 y573 1).f0) ((rd_T51 y573 1).f1) ((rd_T51 y573 1).f2) ((rd_T51 y573 1).f3) t594 t595 t596 t597 t598 _ A49.out).mono ?_); rintro e w67 ⟨rfl, hb⟩; refine ⟨_, rfl, ?_⟩; have n0_ := Aside0.mk (Kd.R_below (by (with_reducible repeat (first | apply Kd.R_alloc | apply Kd.R_drewN | apply Kd.R_drew)); exact HO_5.out) hb); have n1_ := Aside0.mk (Kd.R_below (by (with_reducible repeat (first | apply Kd.R_alloc | apply Kd.R_drewN | apply Kd.R_drew)); exact HO_9.out) hb); have n2_ := Aside0.mk (Kd.R_below (by (with_reducible repeat (first | apply Kd.R_alloc | apply Kd.R_drewN | apply Kd.R_drew)); exact HO575.out) hb); have n3_ := Aside0.mk (Kd.R_below (by (with_reducible repeat (first | apply Kd.R_alloc | apply Kd.R_drewN | apply Kd.R_drew)); exact HO578.out) hb); have n4_ := Aside0.mk (Kd.R_below (by (with_reducible repeat (first | apply Kd.R_alloc | apply Kd.R_drewN | apply Kd.R_drew)); exact HO583.out) hb); have n5_ := Aside0.mk (Kd.R_below (by (with_reducible repeat (first | apply Kd.R_alloc | apply Kd.R_drewN | apply Kd.R_drew)); exact HO588.out) hb); have n6_ := Aside0.mk (Kd.R_below (by (with_reducible repeat (first | apply Kd.R_alloc | apply Kd.R_drewN | apply Kd.R_drew)); exact HO592.out) hb); have n7_ := Aside0.mk (below_step (by repeat (first | (with_reducible first | exact HB.out | apply below_alloc | apply pw_below_drewN | apply below_drew1) | exact HB.out)) hb); clear HO_5; clear HO_9; clear HO575; clear HO578; clear HO583; clear HO588; clear HO592; clear HB; have HO_5 := n0_; have HO_9 := n1_; have HO575 := n2_; have HO578 := n3_; have HO583 := n4_; have HO588 := n5_; have HO592 := n6_; have HB := n7_; clear n0_ n1_ n2_ n3_ n4_ n5_ n6_ n7_; (try clear hb); (try clear hb2); (try clear hk); (try clear hi)) | ((with_reducible refine gate_dst (N := 25) rfl ?_); (try (refine gate_guard (by rfl) ?_; dsimp only)); refine box_event ?hg (N := 25) ?hd (cs := #[.int .i64 0, .int .i64 0, .int .i64 0, .int .i64 0]) (t := 51) ?hr ?_; (case hd => rfl); (case hg => rfl); (case hr => first | (go_simp; done) | (go_simp; rfl)); intro gb599 hg w68 hbox hb; have n0_ := Aside0.mk (Kd.R_below (by (with_reducible repeat (first | apply Kd.R_alloc | apply Kd.R_drewN | apply Kd.R_drew)); exact HO_5.out) hb); have n1_ := Aside0.mk (Kd.R_below (by (with_reducible repeat (first | apply Kd.R_alloc | apply Kd.R_drewN | apply Kd.R_drew)); exact HO_9.out) hb); have n2_ := Aside0.mk (Kd.R_below (Kd.R_elderB (by (with_reducible repeat (first | apply Kd.R_alloc | apply Kd.R_drewN | apply Kd.R_drew)); exact HO575.out) gb599 (Nat.le_of_eq hg.symm)) hb); have n3_ := Aside0.mk (Kd.R_below (by (with_reducible repeat (first | apply Kd.R_alloc | apply Kd.R_drewN | apply Kd.R_drew)); exact HO578.out) hb); have n4_ := Aside0.mk (Kd.R_below (by (with_reducible repeat (first | apply Kd.R_alloc | apply Kd.R_drewN | apply Kd.R_drew)); exact HO583.out) hb); have n5_ := Aside0.mk (Kd.R_below (by (with_reducible repeat (first | apply Kd.R_alloc | apply Kd.R_drewN | apply Kd.R_drew)); exact HO588.out) hb); have n6_ := Aside0.mk (Kd.R_below (by (with_reducible repeat (first | apply Kd.R_alloc | apply Kd.R_drewN | apply Kd.R_drew)); exact HO592.out) hb); have n7_ := Aside0.mk (below_step (by repeat (first | (with_reducible first | exact HB.out | apply below_alloc | apply pw_below_drewN | apply below_drew1) | exact HB.out)) hb); have n8_ := Aside0.mk (hbox); have n9_ := Aside0.mk ((by rw [hg]; exact (below_size (by repeat (first | (with_reducible first | exact HB.out | apply below_alloc | apply pw_below_drewN | apply below_drew1) | exact HB.out))) : w.heap.size ≤ gb599)); have n10_ := Aside0.mk ((by rw [hg]; exact (below_size (by repeat (first | (with_reducible first | exact HB.out | apply below_alloc | apply pw_below_drewN | apply below_drew1) | exact HB.out))) : w.heap.size ≤ gb599)); clear HO_5; clear HO_9; clear HO575; clear HO578; clear HO583; clear HO588; clear HO592; clear HB; have HO_5 := n0_; have HO_9 := n1_; have HO575 := n2_; have HO578 := n3_; have HO583 := n4_; have HO588 := n5_; have HO592 := n6_; have HB := n7_; have BK599 := n8_; have GW599 := n9_; have GE599 := n10_; clear n0_ n1_ n2_ n3_ n4_ n5_ n6_ n7_ n8_ n9_ n10_; clear hb hbox hg; have hcz69_0 : w68.cell? ⟨gb599, 0, none⟩ = some (.int .i64 0) := (blk_cell BK599.out 0).trans rfl; have hcz69_1 : w68.cell? ⟨gb599, 1, none⟩ = some (.int .i64 0) := (blk_cell BK599.out 1).trans rfl; have hcz69_2 : w68.cell? ⟨gb599, 2, none⟩ = some (.int .i64 0) := (blk_cell BK599.out 2).trans rfl; have hcz69_3 : w68.cell? ⟨gb599, 3, none⟩ = some (.int .i64 0) := (blk_cell BK599.out 3).trans rfl; have hfz69_0 := blk_frozen BK599.out 0; have hfz69_1 := blk_frozen BK599.out 1; have hfz69_2 := blk_frozen BK599.out 2; have hfz69_3 := blk_frozen BK599.out 3) | ((with_reducible refine gate_callee (f := 37) rfl ?_); refine goesL_ (some 158) rfl rfl Try.func37 (by kernel_rfl) rfl #[.agg #[.int .i64 t594, .int .i64 t595, .int .i64 t596, .int .i64 t597]] rfl (by (try simp only [List.map_toArray, List.map_cons, List.map_nil]); first | done | rfl | (simp only [List.length_drop, List.length_take]; rfl)) ?_; (with_reducible refine (impl_ReverseLine.calls t594 t595 t596 t597 t600 t601 t602 t603 t604 _ A50.out).mono ?_); rintro e w70 ⟨rfl, hb⟩; refine ⟨_, rfl, ?_⟩; have n0_ := Aside0.mk (Kd.R_below (by (with_reducible repeat (first | apply Kd.R_alloc | apply Kd.R_drewN | apply Kd.R_drew)); exact (Kd.R_mono (Kd.R_far (p := ⟨gb599, 3, none⟩) (Kd.R_far (p := ⟨gb599, 2, none⟩) (Kd.R_far (p := ⟨gb599, 1, none⟩) (Kd.R_far (p := ⟨gb599, 0, none⟩) (Kd.R_types HO_5.out BK599.out (by decide)) (fun _ hk => hk.2) (.int .i64 t594)) (fun _ hk => hk.2) (.int .i64 t595)) (fun _ hk => hk.2) (.int .i64 t596)) (fun _ hk => hk.2) (.int .i64 t597)) (fun _ h_ => h_.1))) hb); have n1_ := Aside0.mk (Kd.R_below (by (with_reducible repeat (first | apply Kd.R_alloc | apply Kd.R_drewN | apply Kd.R_drew)); exact (Kd.R_mono (Kd.R_far (p := ⟨gb599, 3, none⟩) (Kd.R_far (p := ⟨gb599, 2, none⟩) (Kd.R_far (p := ⟨gb599, 1, none⟩) (Kd.R_far (p := ⟨gb599, 0, none⟩) (Kd.R_types HO_9.out BK599.out (by decide)) (fun _ hk => hk.2) (.int .i64 t594)) (fun _ hk => hk.2) (.int .i64 t595)) (fun _ hk => hk.2) (.int .i64 t596)) (fun _ hk => hk.2) (.int .i64 t597)) (fun _ h_ => h_.1))) hb); have n2_ := Aside0.mk (Kd.R_below (by (with_reducible repeat (first | apply Kd.R_alloc | apply Kd.R_drewN | apply Kd.R_drew)); exact (Kd.R_mono (Kd.R_far (p := ⟨gb599, 3, none⟩) (Kd.R_far (p := ⟨gb599, 2, none⟩) (Kd.R_far (p := ⟨gb599, 1, none⟩) (Kd.R_far (p := ⟨gb599, 0, none⟩) (Kd.R_mono HO575.out (fun k_ hk => (⟨hk, hk.2⟩ : _ ∧ k_ ≠ gb599))) (fun _ hk => hk.2) (.int .i64 t594)) (fun _ hk => hk.2) (.int .i64 t595)) (fun _ hk => hk.2) (.int .i64 t596)) (fun _ hk => hk.2) (.int .i64 t597)) (fun _ h_ => h_.1))) hb); have n3_ := Aside0.mk (Kd.R_below (by (with_reducible repeat (first | apply Kd.R_alloc | apply Kd.R_drewN | apply Kd.R_drew)); exact (Kd.R_mono (Kd.R_far (p := ⟨gb599, 3, none⟩) (Kd.R_far (p := ⟨gb599, 2, none⟩) (Kd.R_far (p := ⟨gb599, 1, none⟩) (Kd.R_far (p := ⟨gb599, 0, none⟩) (Kd.R_types HO578.out BK599.out (by decide)) (fun _ hk => hk.2) (.int .i64 t594)) (fun _ hk => hk.2) (.int .i64 t595)) (fun _ hk => hk.2) (.int .i64 t596)) (fun _ hk => hk.2) (.int .i64 t597)) (fun _ h_ => h_.1))) hb); have n4_ := Aside0.mk (Kd.R_below (by (with_reducible repeat (first | apply Kd.R_alloc | apply Kd.R_drewN | apply Kd.R_drew)); exact (Kd.R_mono (Kd.R_far (p := ⟨gb599, 3, none⟩) (Kd.R_far (p := ⟨gb599, 2, none⟩) (Kd.R_far (p := ⟨gb599, 1, none⟩) (Kd.R_far (p := ⟨gb599, 0, none⟩) (Kd.R_types HO583.out BK599.out (by decide)) (fun _ hk => hk.2) (.int .i64 t594)) (fun _ hk => hk.2) (.int .i64 t595)) (fun _ hk => hk.2) (.int .i64 t596)) (fun _ hk => hk.2) (.int .i64 t597)) (fun _ h_ => h_.1))) hb); have n5_ := Aside0.mk (Kd.R_below (by (with_reducible repeat (first | apply Kd.R_alloc | apply Kd.R_drewN | apply Kd.R_drew)); exact (Kd.R_mono (Kd.R_far (p := ⟨gb599, 3, none⟩) (Kd.R_far (p := ⟨gb599, 2, none⟩) (Kd.R_far (p := ⟨gb599, 1, none⟩) (Kd.R_far (p := ⟨gb599, 0, none⟩) (Kd.R_types HO588.out BK599.out (by decide)) (fun _ hk => hk.2) (.int .i64 t594)) (fun _ hk => hk.2) (.int .i64 t595)) (fun _ hk => hk.2) (.int .i64 t596)) (fun _ hk => hk.2) (.int .i64 t597)) (fun _ h_ => h_.1))) hb); have n6_ := Aside0.mk (Kd.R_below (by (with_reducible repeat (first | apply Kd.R_alloc | apply Kd.R_drewN | apply Kd.R_drew)); exact (Kd.R_mono (Kd.R_far (p := ⟨gb599, 3, none⟩) (Kd.R_far (p := ⟨gb599, 2, none⟩) (Kd.R_far (p := ⟨gb599, 1, none⟩) (Kd.R_far (p := ⟨gb599, 0, none⟩) (Kd.R_types HO592.out BK599.out (by decide)) (fun _ hk => hk.2) (.int .i64 t594)) (fun _ hk => hk.2) (.int .i64 t595)) (fun _ hk => hk.2) (.int .i64 t596)) (fun _ hk => hk.2) (.int .i64 t597)) (fun _ h_ => h_.1))) hb); have n7_ := Aside0.mk (blk_below (g := gb599) (o := .cells #[.int .i64 t594, .int .i64 t595, .int .i64 t596, .int .i64 t597] 51 (0, 0)) (by (with_reducible repeat (first | refine blk_drewN ?_ _ | refine blk_drew ?_ | refine blk_alloc ?_ _)); refine blk_put (cs := #[.int .i64 t594, .int .i64 t595, .int .i64 t596, .int .i64 0]) ?_ 3 _ rfl; (with_reducible repeat (first | refine blk_drewN ?_ _ | refine blk_drew ?_ | refine blk_alloc ?_ _)); refine blk_put (cs := #[.int .i64 t594, .int .i64 t595, .int .i64 0, .int .i64 0]) ?_ 2 _ rfl; (with_reducible repeat (first | refine blk_drewN ?_ _ | refine blk_drew ?_ | refine blk_alloc ?_ _)); refine blk_put (cs := #[.int .i64 t594, .int .i64 0, .int .i64 0, .int .i64 0]) ?_ 1 _ rfl; (with_reducible repeat (first | refine blk_drewN ?_ _ | refine blk_drew ?_ | refine blk_alloc ?_ _)); refine blk_put (cs := #[.int .i64 0, .int .i64 0, .int .i64 0, .int .i64 0]) ?_ 0 _ rfl; (with_reducible repeat (first | refine blk_drewN ?_ _ | refine blk_drew ?_ | refine blk_alloc ?_ _)); exact BK599.out) hb); have n8_ := Aside0.mk (below_step (by repeat (first | (with_reducible first | exact HB.out | apply below_alloc | apply pw_below_drewN | apply below_drew1 | refine below_set ?_ GE599.out) | exact HB.out)) hb); clear HO_5; clear HO_9; clear HO575; clear HO578; clear HO583; clear HO588; clear HO592; clear BK599; clear HB; have HO_5 := n0_; have HO_9 := n1_; have HO575 := n2_; have HO578 := n3_; have HO583 := n4_; have HO588 := n5_; have HO592 := n6_; have BK599 := n7_; have HB := n8_; clear n0_ n1_ n2_ n3_ n4_ n5_ n6_ n7_ n8_; (try clear hb); (try clear hb2); (try clear hk); (try clear hi)) | ((with_reducible refine gate_dst (N := 27) rfl ?_); (try (refine gate_guard (by rfl) ?_; dsimp only)); refine box_event ?hg (N := 27) ?hd (cs := #[.int .i64 0, .int .i64 0, .int .i64 0, .int .i64 0]) (t := 51) ?hr ?_; (case hd => rfl); (case hg => rfl); (case hr => first | (go_simp; done) | (go_simp; rfl)); intro gb605 hg w71 hbox hb; have n0_ := Aside0.mk (Kd.R_below (by (with_reducible repeat (first | apply Kd.R_alloc | apply Kd.R_drewN | apply Kd.R_drew)); exact HO_5.out) hb); have n1_ := Aside0.mk (Kd.R_below (by (with_reducible repeat (first | apply Kd.R_alloc | apply Kd.R_drewN | apply Kd.R_drew)); exact HO_9.out) hb); have n2_ := Aside0.mk (Kd.R_below (Kd.R_elderB (by (with_reducible repeat (first | apply Kd.R_alloc | apply Kd.R_drewN | apply Kd.R_drew)); exact HO575.out) gb605 (Nat.le_of_eq hg.symm)) hb); have n3_ := Aside0.mk (Kd.R_below (by (with_reducible repeat (first | apply Kd.R_alloc | apply Kd.R_drewN | apply Kd.R_drew)); exact HO578.out) hb); have n4_ := Aside0.mk (Kd.R_below (by (with_reducible repeat (first | apply Kd.R_alloc | apply Kd.R_drewN | apply Kd.R_drew)); exact HO583.out) hb); have n5_ := Aside0.mk (Kd.R_below (by (with_reducible repeat (first | apply Kd.R_alloc | apply Kd.R_drewN | apply Kd.R_drew)); exact HO588.out) hb); have n6_ := Aside0.mk (Kd.R_below (by (with_reducible repeat (first | apply Kd.R_alloc | apply Kd.R_drewN | apply Kd.R_drew)); exact HO592.out) hb); have n7_ := Aside0.mk (blk_below (g := gb599) (o := .cells #[.int .i64 t594, .int .i64 t595, .int .i64 t596, .int .i64 t597] 51 (0, 0)) (by (with_reducible repeat (first | refine blk_drewN ?_ _ | refine blk_drew ?_ | refine blk_alloc ?_ _)); exact BK599.out) hb); have n8_ := Aside0.mk (below_step (by repeat (first | (with_reducible first | exact HB.out | apply below_alloc | apply pw_below_drewN | apply below_drew1 | refine below_set ?_ GE599.out) | exact HB.out)) hb); have n9_ := Aside0.mk (hbox); have n10_ := Aside0.mk ((by rw [hg]; exact (below_size (by repeat (first | (with_reducible first | exact HB.out | apply below_alloc | apply pw_below_drewN | apply below_drew1 | refine below_set ?_ GE599.out) | exact HB.out))) : w.heap.size ≤ gb605)); have n11_ := Aside0.mk ((by rw [hg]; exact (below_size (by repeat (first | (with_reducible first | exact HB.out | apply below_alloc | apply pw_below_drewN | apply below_drew1 | refine below_set ?_ GE599.out) | exact HB.out))) : w.heap.size ≤ gb605)); have n12_ := Aside0.mk ((by rw [hg]; exact Nat.ne_of_lt (blk_lt (g := gb599) (o := .cells #[.int .i64 t594, .int .i64 t595, .int .i64 t596, .int .i64 t597] 51 (0, 0)) (by (with_reducible repeat (first | refine blk_drewN ?_ _ | refine blk_drew ?_ | refine blk_alloc ?_ _)); exact BK599.out)) : gb599 ≠ gb605)); have n13_ := Aside0.mk ((by rw [hg]; exact Nat.ne_of_gt (blk_lt (g := gb599) (o := .cells #[.int .i64 t594, .int .i64 t595, .int .i64 t596, .int .i64 t597] 51 (0, 0)) (by (with_reducible repeat (first | refine blk_drewN ?_ _ | refine blk_drew ?_ | refine blk_alloc ?_ _)); exact BK599.out)) : gb605 ≠ gb599)); clear HO_5; clear HO_9; clear HO575; clear HO578; clear HO583; clear HO588; clear HO592; clear BK599; clear HB; have HO_5 := n0_; have HO_9 := n1_; have HO575 := n2_; have HO578 := n3_; have HO583 := n4_; have HO588 := n5_; have HO592 := n6_; have BK599 := n7_; have HB := n8_; have BK605 := n9_; have GW605 := n10_; have GE605 := n11_; have NB599_605 := n12_; have NB605_599 := n13_; clear n0_ n1_ n2_ n3_ n4_ n5_ n6_ n7_ n8_ n9_ n10_ n11_ n12_ n13_; clear hb hbox hg; have hnb72 := NB605_599.out; have hnc72 := NB599_605.out; have hcz73_0 : w71.cell? ⟨gb605, 0, none⟩ = some (.int .i64 0) := (blk_cell BK605.out 0).trans rfl; have hcz73_1 : w71.cell? ⟨gb605, 1, none⟩ = some (.int .i64 0) := (blk_cell BK605.out 1).trans rfl; have hcz73_2 : w71.cell? ⟨gb605, 2, none⟩ = some (.int .i64 0) := (blk_cell BK605.out 2).trans rfl; have hcz73_3 : w71.cell? ⟨gb605, 3, none⟩ = some (.int .i64 0) := (blk_cell BK605.out 3).trans rfl; have hfz73_0 := blk_frozen BK605.out 0; have hfz73_1 := blk_frozen BK605.out 1; have hfz73_2 := blk_frozen BK605.out 2; have hfz73_3 := blk_frozen BK605.out 3))
         (try simp only [Act.put, List.setIfInBounds_toArray, List.set_cons_zero, List.set_cons_succ])
         go_cut [217] (fun v217 wc => ∃ (kq : Nat) (x217_50 : Bool), v217 = .bool x217_50 ∧ Aside0 (laws_FnLoopErrors.j2 kq l1 x217_50 = some r) ∧ Aside0 (kq ≤ k2) ∧ Aside0 (wc.heap[gb599]? = some (.cells #[.int .i64 t594, .int .i64 t595, .int .i64 t596, .int .i64 t597] 51 (0, 0))) ∧ Aside0 (wc.heap[gb605]? = some (.cells #[.int .i64 t600, .int .i64 t601, .int .i64 t602, .int .i64 t603] 51 (0, 0))) ∧ Aside0 (Below w.heap.size w wc))
         case first =>
          have H := HC51.out
          clear HC51
          by_cases c74 : t580 = 0
          ·rw [if_pos c74] at H
           have c74b0 : (t580 == 0) = true := beq_iff_eq.mpr c74
           have c74b1 : (t580 != 0) = false := bne_eq_false_iff_eq.mpr c74
           clear c74
           (first | rw [c74b0] | (simp only [i64_w, i32_w]; rw [c74b0]) | skip)
           by_cases c75 : t585 = 0
           ·rw [if_pos c75] at H
            have c75b0 : (t585 == 0) = true := beq_iff_eq.mpr c75
            have c75b1 : (t585 != 0) = false := bne_eq_false_iff_eq.mpr c75
            clear c75
            by_cases c76 : t579 = (wrap64 ((wrap64 (t569 - t570)) - t571))
            ·rw [if_pos c76] at H
             have c76b0 : (t579 == (wrap64 ((wrap64 (t569 - t570)) - t571))) = true := beq_iff_eq.mpr c76
             have c76b1 : (t579 != (wrap64 ((wrap64 (t569 - t570)) - t571))) = false := bne_eq_false_iff_eq.mpr c76
             clear c76
             by_cases c77 : t584 = (wrap64 (-t579))
             ·rw [if_pos c77] at H
              have c77b0 : (t584 == (wrap64 (-t579))) = true := beq_iff_eq.mpr c77
              have c77b1 : (t584 != (wrap64 (-t579))) = false := bne_eq_false_iff_eq.mpr c77
              clear c77
              by_cases c78 : t590 = 0
              ·rw [if_pos c78] at H
               have c78b0 : (t590 == 0) = true := beq_iff_eq.mpr c78
               have c78b1 : (t590 != 0) = false := bne_eq_false_iff_eq.mpr c78
               clear c78
               by_cases c79 : (t589.length : Int) = 3
               ·rw [if_pos c79] at H
                have c79b0 : ((t589.length : Int) == 3) = true := beq_iff_eq.mpr c79
                have c79b1 : ((t589.length : Int) != 3) = false := bne_eq_false_iff_eq.mpr c79
                clear c79
                replace H := Option.bind_eq_some_iff.mp H
                obtain ⟨t606, A800, H⟩ := H
                replace H : (if t606 = 0 then (if t598 = 0 then (if t596 = (wrap64 (-t570)) then (if t604 = 0 then (laws_FnLoopErrors.j2 k2 l1 (!(t600 == ((rd_T51 y573 1).f0)) || (!(t601 == ((rd_T51 y573 1).f1)) || (!(t602 == ((rd_T51 y573 1).f2)) || (!(t603 == ((rd_T51 y573 1).f3))))))) else (some false)) else (some false)) else (some false)) else (some false)) = some r := H
                have A80 := Aside0.mk A800
                clear A800
                by_cases c81 : t606 = 0
                ·rw [if_pos c81] at H
                 have c81b0 : (t606 == 0) = true := beq_iff_eq.mpr c81
                 have c81b1 : (t606 != 0) = false := bne_eq_false_iff_eq.mpr c81
                 clear c81
                 by_cases c82 : t598 = 0
                 ·rw [if_pos c82] at H
                  have c82b0 : (t598 == 0) = true := beq_iff_eq.mpr c82
                  have c82b1 : (t598 != 0) = false := bne_eq_false_iff_eq.mpr c82
                  clear c82
                  by_cases c83 : t596 = (wrap64 (-t570))
                  ·rw [if_pos c83] at H
                   have c83b0 : (t596 == (wrap64 (-t570))) = true := beq_iff_eq.mpr c83
                   have c83b1 : (t596 != (wrap64 (-t570))) = false := bne_eq_false_iff_eq.mpr c83
                   clear c83
                   by_cases c84 : t604 = 0
                   ·rw [if_pos c84] at H
                    have c84b0 : (t604 == 0) = true := beq_iff_eq.mpr c84
                    have c84b1 : (t604 != 0) = false := bne_eq_false_iff_eq.mpr c84
                    clear c84
                    have H' := Aside0.mk H
                    clear H
                    try go_wp2
                    have n0_ : Aside0 (Kd.R (Kd.int .i64) 2 ((((w71.setCell ⟨gb605, 0, none⟩ (.int .i64 t600)).setCell ⟨gb605, 1, none⟩ (.int .i64 t601)).setCell ⟨gb605, 2, none⟩ (.int .i64 t602)).setCell ⟨gb605, 3, none⟩ (.int .i64 t603)) w.heap.size (fun k_ => some k_ ≠ (v559 : Value).ownBlock ∧ some k_ ≠ (.slice Ao57 y576.length co57 : Value).ownBlock ∧ some k_ ≠ (.slice Ao61 y581.length co61 : Value).ownBlock ∧ some k_ ≠ (.slice Ao65 y586.length co65 : Value).ownBlock ∧ some k_ ≠ (v591 : Value).ownBlock) (.slice Ao9 t550.length co9) t550) := ⟨by (with_reducible repeat (first | apply Kd.R_alloc | apply Kd.R_drewN | apply Kd.R_drew)); exact Kd.R_mono (Kd.R_far (p := ⟨gb605, 3, none⟩) (Kd.R_far (p := ⟨gb605, 2, none⟩) (Kd.R_far (p := ⟨gb605, 1, none⟩) (Kd.R_far (p := ⟨gb605, 0, none⟩) (Kd.R_types HO_5.out BK605.out (by decide)) (fun _ hk => hk.2) (.int .i64 t600)) (fun _ hk => hk.2) (.int .i64 t601)) (fun _ hk => hk.2) (.int .i64 t602)) (fun _ hk => hk.2) (.int .i64 t603)) (fun _ hk => ⟨hk.1.1.1.1.1, ⟨hk.1.1.1.1.2, ⟨hk.1.1.1.2, ⟨hk.1.1.2, hk.1.2⟩⟩⟩⟩)⟩
                    have n1_ : Aside0 (Kd.R (Kd.int .i64) 2 ((((w71.setCell ⟨gb605, 0, none⟩ (.int .i64 t600)).setCell ⟨gb605, 1, none⟩ (.int .i64 t601)).setCell ⟨gb605, 2, none⟩ (.int .i64 t602)).setCell ⟨gb605, 3, none⟩ (.int .i64 t603)) w.heap.size (fun k_ => some k_ ≠ (.slice Ao9 t550.length co9 : Value).ownBlock ∧ some k_ ≠ (.slice Ao57 y576.length co57 : Value).ownBlock ∧ some k_ ≠ (.slice Ao61 y581.length co61 : Value).ownBlock ∧ some k_ ≠ (.slice Ao65 y586.length co65 : Value).ownBlock ∧ some k_ ≠ (v591 : Value).ownBlock) v559 t557) := ⟨by (with_reducible repeat (first | apply Kd.R_alloc | apply Kd.R_drewN | apply Kd.R_drew)); exact Kd.R_mono (Kd.R_far (p := ⟨gb605, 3, none⟩) (Kd.R_far (p := ⟨gb605, 2, none⟩) (Kd.R_far (p := ⟨gb605, 1, none⟩) (Kd.R_far (p := ⟨gb605, 0, none⟩) (Kd.R_types HO_9.out BK605.out (by decide)) (fun _ hk => hk.2) (.int .i64 t600)) (fun _ hk => hk.2) (.int .i64 t601)) (fun _ hk => hk.2) (.int .i64 t602)) (fun _ hk => hk.2) (.int .i64 t603)) (fun _ hk => ⟨hk.1.1.1.1.1, ⟨hk.1.1.1.1.2, ⟨hk.1.1.1.2, ⟨hk.1.1.2, hk.1.2⟩⟩⟩⟩)⟩
                    have n2_ : Aside0 (Kd.R k51 51 ((((w71.setCell ⟨gb605, 0, none⟩ (.int .i64 t600)).setCell ⟨gb605, 1, none⟩ (.int .i64 t601)).setCell ⟨gb605, 2, none⟩ (.int .i64 t602)).setCell ⟨gb605, 3, none⟩ (.int .i64 t603)) w.heap.size (fun k_ => k_ ≠ gb599 ∧ k_ ≠ gb605) (.slice (some ad593) y573.length co56) y573) := ⟨by (with_reducible repeat (first | apply Kd.R_alloc | apply Kd.R_drewN | apply Kd.R_drew)); exact Kd.R_mono (Kd.R_far (p := ⟨gb605, 3, none⟩) (Kd.R_far (p := ⟨gb605, 2, none⟩) (Kd.R_far (p := ⟨gb605, 1, none⟩) (Kd.R_far (p := ⟨gb605, 0, none⟩) (Kd.R_mono HO575.out (fun k_ hk => (⟨hk, hk.2⟩ : _ ∧ k_ ≠ gb605))) (fun _ hk => hk.2) (.int .i64 t600)) (fun _ hk => hk.2) (.int .i64 t601)) (fun _ hk => hk.2) (.int .i64 t602)) (fun _ hk => hk.2) (.int .i64 t603)) (fun _ hk => ⟨hk.1.1.2, hk.1.2⟩)⟩
                    have n3_ : Aside0 (Kd.R (Kd.int .i64) 2 ((((w71.setCell ⟨gb605, 0, none⟩ (.int .i64 t600)).setCell ⟨gb605, 1, none⟩ (.int .i64 t601)).setCell ⟨gb605, 2, none⟩ (.int .i64 t602)).setCell ⟨gb605, 3, none⟩ (.int .i64 t603)) w.heap.size (fun k_ => some k_ ≠ (.slice Ao9 t550.length co9 : Value).ownBlock ∧ some k_ ≠ (v559 : Value).ownBlock ∧ some k_ ≠ (.slice Ao61 y581.length co61 : Value).ownBlock ∧ some k_ ≠ (.slice Ao65 y586.length co65 : Value).ownBlock ∧ some k_ ≠ (v591 : Value).ownBlock) (.slice Ao57 y576.length co57) y576) := ⟨by (with_reducible repeat (first | apply Kd.R_alloc | apply Kd.R_drewN | apply Kd.R_drew)); exact Kd.R_mono (Kd.R_far (p := ⟨gb605, 3, none⟩) (Kd.R_far (p := ⟨gb605, 2, none⟩) (Kd.R_far (p := ⟨gb605, 1, none⟩) (Kd.R_far (p := ⟨gb605, 0, none⟩) (Kd.R_types HO578.out BK605.out (by decide)) (fun _ hk => hk.2) (.int .i64 t600)) (fun _ hk => hk.2) (.int .i64 t601)) (fun _ hk => hk.2) (.int .i64 t602)) (fun _ hk => hk.2) (.int .i64 t603)) (fun _ hk => ⟨hk.1.1.1.1.1.2, ⟨hk.1.1.1.1.2, ⟨hk.1.1.1.2, ⟨hk.1.1.2, hk.1.2⟩⟩⟩⟩)⟩
                    have n4_ : Aside0 (Kd.R (Kd.int .i64) 2 ((((w71.setCell ⟨gb605, 0, none⟩ (.int .i64 t600)).setCell ⟨gb605, 1, none⟩ (.int .i64 t601)).setCell ⟨gb605, 2, none⟩ (.int .i64 t602)).setCell ⟨gb605, 3, none⟩ (.int .i64 t603)) w.heap.size (fun k_ => some k_ ≠ (.slice Ao9 t550.length co9 : Value).ownBlock ∧ some k_ ≠ (v559 : Value).ownBlock ∧ some k_ ≠ (.slice Ao57 y576.length co57 : Value).ownBlock ∧ some k_ ≠ (.slice Ao65 y586.length co65 : Value).ownBlock ∧ some k_ ≠ (v591 : Value).ownBlock) (.slice Ao61 y581.length co61) y581) := ⟨by (with_reducible repeat (first | apply Kd.R_alloc | apply Kd.R_drewN | apply Kd.R_drew)); exact Kd.R_mono (Kd.R_far (p := ⟨gb605, 3, none⟩) (Kd.R_far (p := ⟨gb605, 2, none⟩) (Kd.R_far (p := ⟨gb605, 1, none⟩) (Kd.R_far (p := ⟨gb605, 0, none⟩) (Kd.R_types HO583.out BK605.out (by decide)) (fun _ hk => hk.2) (.int .i64 t600)) (fun _ hk => hk.2) (.int .i64 t601)) (fun _ hk => hk.2) (.int .i64 t602)) (fun _ hk => hk.2) (.int .i64 t603)) (fun _ hk => ⟨hk.1.1.1.1.1.2, ⟨hk.1.1.1.1.2, ⟨hk.1.1.1.2, ⟨hk.1.1.2, hk.1.2⟩⟩⟩⟩)⟩
                    have n5_ : Aside0 (Kd.R (Kd.int .i64) 2 ((((w71.setCell ⟨gb605, 0, none⟩ (.int .i64 t600)).setCell ⟨gb605, 1, none⟩ (.int .i64 t601)).setCell ⟨gb605, 2, none⟩ (.int .i64 t602)).setCell ⟨gb605, 3, none⟩ (.int .i64 t603)) w.heap.size (fun k_ => some k_ ≠ (.slice Ao9 t550.length co9 : Value).ownBlock ∧ some k_ ≠ (v559 : Value).ownBlock ∧ some k_ ≠ (.slice Ao57 y576.length co57 : Value).ownBlock ∧ some k_ ≠ (.slice Ao61 y581.length co61 : Value).ownBlock ∧ some k_ ≠ (v591 : Value).ownBlock) (.slice Ao65 y586.length co65) y586) := ⟨by (with_reducible repeat (first | apply Kd.R_alloc | apply Kd.R_drewN | apply Kd.R_drew)); exact Kd.R_mono (Kd.R_far (p := ⟨gb605, 3, none⟩) (Kd.R_far (p := ⟨gb605, 2, none⟩) (Kd.R_far (p := ⟨gb605, 1, none⟩) (Kd.R_far (p := ⟨gb605, 0, none⟩) (Kd.R_types HO588.out BK605.out (by decide)) (fun _ hk => hk.2) (.int .i64 t600)) (fun _ hk => hk.2) (.int .i64 t601)) (fun _ hk => hk.2) (.int .i64 t602)) (fun _ hk => hk.2) (.int .i64 t603)) (fun _ hk => ⟨hk.1.1.1.1.1.2, ⟨hk.1.1.1.1.2, ⟨hk.1.1.1.2, ⟨hk.1.1.2, hk.1.2⟩⟩⟩⟩)⟩
                    have n6_ : Aside0 (Kd.R (Kd.int .i64) 2 ((((w71.setCell ⟨gb605, 0, none⟩ (.int .i64 t600)).setCell ⟨gb605, 1, none⟩ (.int .i64 t601)).setCell ⟨gb605, 2, none⟩ (.int .i64 t602)).setCell ⟨gb605, 3, none⟩ (.int .i64 t603)) w.heap.size (fun k_ => some k_ ≠ (.slice Ao9 t550.length co9 : Value).ownBlock ∧ some k_ ≠ (v559 : Value).ownBlock ∧ some k_ ≠ (.slice Ao57 y576.length co57 : Value).ownBlock ∧ some k_ ≠ (.slice Ao61 y581.length co61 : Value).ownBlock ∧ some k_ ≠ (.slice Ao65 y586.length co65 : Value).ownBlock) v591 t589) := ⟨by (with_reducible repeat (first | apply Kd.R_alloc | apply Kd.R_drewN | apply Kd.R_drew)); exact Kd.R_mono (Kd.R_far (p := ⟨gb605, 3, none⟩) (Kd.R_far (p := ⟨gb605, 2, none⟩) (Kd.R_far (p := ⟨gb605, 1, none⟩) (Kd.R_far (p := ⟨gb605, 0, none⟩) (Kd.R_types HO592.out BK605.out (by decide)) (fun _ hk => hk.2) (.int .i64 t600)) (fun _ hk => hk.2) (.int .i64 t601)) (fun _ hk => hk.2) (.int .i64 t602)) (fun _ hk => hk.2) (.int .i64 t603)) (fun _ hk => ⟨hk.1.1.1.1.1.2, ⟨hk.1.1.1.1.2, ⟨hk.1.1.1.2, ⟨hk.1.1.2, hk.1.2⟩⟩⟩⟩)⟩
                    have n7_ : Aside0 (((((w71.setCell ⟨gb605, 0, none⟩ (.int .i64 t600)).setCell ⟨gb605, 1, none⟩ (.int .i64 t601)).setCell ⟨gb605, 2, none⟩ (.int .i64 t602)).setCell ⟨gb605, 3, none⟩ (.int .i64 t603)).heap[gb599]? = some (.cells #[.int .i64 t594, .int .i64 t595, .int .i64 t596, .int .i64 t597] 51 (0, 0))) := ⟨by (with_reducible repeat (first | refine blk_drewN ?_ _ | refine blk_drew ?_ | refine blk_alloc ?_ _)); refine blk_far ?_ NB599_605.out _; (with_reducible repeat (first | refine blk_drewN ?_ _ | refine blk_drew ?_ | refine blk_alloc ?_ _)); refine blk_far ?_ NB599_605.out _; (with_reducible repeat (first | refine blk_drewN ?_ _ | refine blk_drew ?_ | refine blk_alloc ?_ _)); refine blk_far ?_ NB599_605.out _; (with_reducible repeat (first | refine blk_drewN ?_ _ | refine blk_drew ?_ | refine blk_alloc ?_ _)); refine blk_far ?_ NB599_605.out _; (with_reducible repeat (first | refine blk_drewN ?_ _ | refine blk_drew ?_ | refine blk_alloc ?_ _)); exact BK599.out⟩
                    have n8_ : Aside0 (((((w71.setCell ⟨gb605, 0, none⟩ (.int .i64 t600)).setCell ⟨gb605, 1, none⟩ (.int .i64 t601)).setCell ⟨gb605, 2, none⟩ (.int .i64 t602)).setCell ⟨gb605, 3, none⟩ (.int .i64 t603)).heap[gb605]? = some (.cells #[.int .i64 t600, .int .i64 t601, .int .i64 t602, .int .i64 t603] 51 (0, 0))) := ⟨by (with_reducible repeat (first | refine blk_drewN ?_ _ | refine blk_drew ?_ | refine blk_alloc ?_ _)); refine blk_put (cs := #[.int .i64 t600, .int .i64 t601, .int .i64 t602, .int .i64 0]) ?_ 3 _ rfl; (with_reducible repeat (first | refine blk_drewN ?_ _ | refine blk_drew ?_ | refine blk_alloc ?_ _)); refine blk_put (cs := #[.int .i64 t600, .int .i64 t601, .int .i64 0, .int .i64 0]) ?_ 2 _ rfl; (with_reducible repeat (first | refine blk_drewN ?_ _ | refine blk_drew ?_ | refine blk_alloc ?_ _)); refine blk_put (cs := #[.int .i64 t600, .int .i64 0, .int .i64 0, .int .i64 0]) ?_ 1 _ rfl; (with_reducible repeat (first | refine blk_drewN ?_ _ | refine blk_drew ?_ | refine blk_alloc ?_ _)); refine blk_put (cs := #[.int .i64 0, .int .i64 0, .int .i64 0, .int .i64 0]) ?_ 0 _ rfl; (with_reducible repeat (first | refine blk_drewN ?_ _ | refine blk_drew ?_ | refine blk_alloc ?_ _)); exact BK605.out⟩
                    have n9_ : Aside0 (Below w.heap.size w ((((w71.setCell ⟨gb605, 0, none⟩ (.int .i64 t600)).setCell ⟨gb605, 1, none⟩ (.int .i64 t601)).setCell ⟨gb605, 2, none⟩ (.int .i64 t602)).setCell ⟨gb605, 3, none⟩ (.int .i64 t603))) := ⟨by repeat (first | (with_reducible first | exact HB.out | apply below_alloc | apply pw_below_drewN | apply below_drew1 | refine below_set ?_ GE599.out | refine below_set ?_ GE605.out) | exact HB.out)⟩
                    (try clear HO_5)
                    (try clear HO_9)
                    (try clear HO575)
                    (try clear HO578)
                    (try clear HO583)
                    (try clear HO588)
                    (try clear HO592)
                    (try clear BK599)
                    (try clear BK605)
                    (try clear HB)
                    generalize ((((w71.setCell ⟨gb605, 0, none⟩ (.int .i64 t600)).setCell ⟨gb605, 1, none⟩ (.int .i64 t601)).setCell ⟨gb605, 2, none⟩ (.int .i64 t602)).setCell ⟨gb605, 3, none⟩ (.int .i64 t603)) = w85 at n0_ n1_ n2_ n3_ n4_ n5_ n6_ n7_ n8_ n9_ ⊢
                    have HO_5 := n0_
                    have HO_9 := n1_
                    have HO575 := n2_
                    have HO578 := n3_
                    have HO583 := n4_
                    have HO588 := n5_
                    have HO592 := n6_
                    have BK599 := n7_
                    have BK605 := n8_
                    have HB := n9_
                    clear n0_ n1_ n2_ n3_ n4_ n5_ n6_ n7_ n8_ n9_
                    have n0_ := Aside0.mk (Kd.R_drew HO_5.out)
                    have n1_ := Aside0.mk (Kd.R_drew HO_9.out)
                    have n2_ := Aside0.mk (Kd.R_drew HO575.out)
                    have n3_ := Aside0.mk (Kd.R_drew HO578.out)
                    have n4_ := Aside0.mk (Kd.R_drew HO583.out)
                    have n5_ := Aside0.mk (Kd.R_drew HO588.out)
                    have n6_ := Aside0.mk (Kd.R_drew HO592.out)
                    have n7_ := Aside0.mk (blk_drew BK599.out)
                    have n8_ := Aside0.mk (blk_drew BK605.out)
                    have n9_ := Aside0.mk (below_drew1 HB.out)
                    clear HO_5
                    clear HO_9
                    clear HO575
                    clear HO578
                    clear HO583
                    clear HO588
                    clear HO592
                    clear BK599
                    clear BK605
                    clear HB
                    have HO_5 := n0_
                    have HO_9 := n1_
                    have HO575 := n2_
                    have HO578 := n3_
                    have HO583 := n4_
                    have HO588 := n5_
                    have HO592 := n6_
                    have BK599 := n7_
                    have BK605 := n8_
                    have HB := n9_
                    clear n0_ n1_ n2_ n3_ n4_ n5_ n6_ n7_ n8_ n9_
                    obtain ⟨Ao87, co87, eo87⟩ := Kd.R_slice HO592.out
                    (first | subst eo87 | (injection eo87 with f1_ f2_ f3_; have f4_ := f1_.symm; have f5_ := f3_.symm; clear f1_ f2_ f3_; subst f4_; subst f5_))
                    have p607 : 0 ≤ (1 : Int) := (by omega)
                    have q607 : 1 < (y573.length : Int) := of_decide_eq_true (by first | (with_reducible assumption) | assumption)
                    obtain ⟨ad607, e607, hx607_0, hx607_1, hx607_2, hx607_3⟩ := at_T51 (Kd.R_reads' HO575.out).2.2 1 p607 q607
                    obtain rfl : ad593 = ad607 := (by injection e607)
                    (try simp only [show (1 : Int).toNat = 1 from rfl, Nat.reduceMul, Nat.reduceEqDiff, Go.Addr.add, ↓reduceIte] at hx607_0)
                    (try simp only [show (1 : Int).toNat = 1 from rfl, Nat.reduceMul, Nat.reduceEqDiff, Go.Addr.add, ↓reduceIte] at hx607_1)
                    (try simp only [show (1 : Int).toNat = 1 from rfl, Nat.reduceMul, Nat.reduceEqDiff, Go.Addr.add, ↓reduceIte] at hx607_2)
                    (try simp only [show (1 : Int).toNat = 1 from rfl, Nat.reduceMul, Nat.reduceEqDiff, Go.Addr.add, ↓reduceIte] at hx607_3)
                    have qi607 : (1 < y573.length) = True := eq_true (by omega)
                    (try rw [show ((1 : Int)).toNat = 1 from rfl] at hx607_0)
                    (try rw [show 1 * 4 = 4 from rfl] at hx607_0)
                    (try rw [show ((1 : Int)).toNat = 1 from rfl] at hx607_1)
                    (try rw [show 1 * 4 = 4 from rfl] at hx607_1)
                    (try rw [show ((1 : Int)).toNat = 1 from rfl] at hx607_2)
                    (try rw [show 1 * 4 = 4 from rfl] at hx607_2)
                    (try rw [show ((1 : Int)).toNat = 1 from rfl] at hx607_3)
                    (try rw [show 1 * 4 = 4 from rfl] at hx607_3)
                    replace p607 := eq_true p607
                    replace q607 := eq_true q607
                    refine start_ (n := 57) (S := fun w' => w'.cell? ⟨gb599, 0, none⟩ = some (.int .i64 t594) ∧ w'.cell? ⟨gb599, 1, none⟩ = some (.int .i64 t595) ∧ w'.cell? ⟨gb599, 2, none⟩ = some (.int .i64 t596) ∧ w'.cell? ⟨gb599, 3, none⟩ = some (.int .i64 t597) ∧ w'.cell? ⟨gb605, 0, none⟩ = some (.int .i64 t600) ∧ w'.cell? ⟨gb605, 1, none⟩ = some (.int .i64 t601) ∧ w'.cell? ⟨gb605, 2, none⟩ = some (.int .i64 t602) ∧ w'.cell? ⟨gb605, 3, none⟩ = some (.int .i64 t603) ∧ w'.cell? ⟨ad593.block, ad593.off + 4, none⟩ = some (.int .i64 ((rd_T51 y573 1).f0)) ∧ w'.cell? ⟨ad593.block, ad593.off + 4 + 1, none⟩ = some (.int .i64 ((rd_T51 y573 1).f1)) ∧ w'.cell? ⟨ad593.block, ad593.off + 4 + 2, none⟩ = some (.int .i64 ((rd_T51 y573 1).f2)) ∧ w'.cell? ⟨ad593.block, ad593.off + 4 + 3, none⟩ = some (.int .i64 ((rd_T51 y573 1).f3))) (ds := []) #[false, false, false, false, false, false, false, false, false, false, false, false, false, false, false, false, false, false, false, false, false, false, false, false, false, false, false, false, false, false, false, false, false, false, false, false, false, false, false, false, false, false, false, false, false, false, false, false, false, false, false, false, false, false, false, false, false] (by kernel_rfl) rfl rfl ⟨(blk_cell BK599.out 0).trans rfl, (blk_cell BK599.out 1).trans rfl, (blk_cell BK599.out 2).trans rfl, (blk_cell BK599.out 3).trans rfl, (blk_cell BK605.out 0).trans rfl, (blk_cell BK605.out 1).trans rfl, (blk_cell BK605.out 2).trans rfl, (blk_cell BK605.out 3).trans rfl, hx607_0, hx607_1, hx607_2, hx607_3⟩ (fun hHeld => ?_); refine with_tabW laws_FnLoopErrors.tab26 laws_FnLoopErrors.bits26 (fun HT_ HW_ => ?_)
                    generalize w85.drew = w86 at HO_5 HO_9 HO575 HO578 HO583 HO588 HO592 BK599 BK605 HB hx607_0 hx607_1 hx607_2 hx607_3 hHeld ⊢
                    refine pure_ (i := 0) (N := some 161) (v := ?_) (a' := ?_) #[true, false, false, false, false, false, false, false, false, false, false, false, false, false, false, false, false, false, false, false, false, false, false, false, false, false, false, false, false, false, false, false, false, false, false, false, false, false, false, false, false, false, false, false, false, false, false, false, false, false, false, false, false, false, false, false, false] rfl rfl (any_of HT_.out (by kernel_rfl)) (fun _ _ _ h => h) (Or.inl ⟨by rfl, ?_⟩) ?_ ?_
                    rotate_left
                    ·intro w'
                     go_simp
                     with_reducible rfl
                    rotate_left
                    ·simp only [Act.put, List.setIfInBounds_toArray, List.set_cons_zero, List.set_cons_succ, i64_w, i32_w]; rfl
                    refine pure_ (i := 1) (N := some 162) (v := ?_) (a' := ?_) #[true, true, false, false, false, false, false, false, false, false, false, false, false, false, false, false, false, false, false, false, false, false, false, false, false, false, false, false, false, false, false, false, false, false, false, false, false, false, false, false, false, false, false, false, false, false, false, false, false, false, false, false, false, false, false, false, false] rfl rfl (any_of HT_.out (by kernel_rfl)) (fun _ _ _ h => h) (Or.inl ⟨by rfl, ?_⟩) ?_ ?_
                    rotate_left
                    ·intro w'
                     go_simp
                     with_reducible rfl
                    rotate_left
                    ·simp only [Act.put, List.setIfInBounds_toArray, List.set_cons_zero, List.set_cons_succ, i64_w, i32_w]; rfl
                    refine pure_ (i := 2) (N := some 163) (v := ?_) (a' := ?_) #[true, true, true, false, false, false, false, false, false, false, false, false, false, false, false, false, false, false, false, false, false, false, false, false, false, false, false, false, false, false, false, false, false, false, false, false, false, false, false, false, false, false, false, false, false, false, false, false, false, false, false, false, false, false, false, false, false] rfl rfl (any_of HT_.out (by kernel_rfl)) (fun _ _ _ h => h) (Or.inl ⟨by rfl, ?_⟩) ?_ ?_
                    rotate_left
                    ·intro w'
                     go_simp
                     with_reducible rfl
                    rotate_left
                    ·simp only [Act.put, List.setIfInBounds_toArray, List.set_cons_zero, List.set_cons_succ, i64_w, i32_w]; rfl
                    refine pure_ (i := 3) (N := some 164) (v := ?_) (a' := ?_) #[true, true, true, true, false, false, false, false, false, false, false, false, false, false, false, false, false, false, false, false, false, false, false, false, false, false, false, false, false, false, false, false, false, false, false, false, false, false, false, false, false, false, false, false, false, false, false, false, false, false, false, false, false, false, false, false, false] rfl rfl (any_of HT_.out (by kernel_rfl)) (fun _ _ _ h => h) (Or.inl ⟨by rfl, ?_⟩) ?_ ?_
                    rotate_left
                    ·intro w'
                     go_simp
                     with_reducible rfl
                    rotate_left
                    ·simp only [Act.put, List.setIfInBounds_toArray, List.set_cons_zero, List.set_cons_succ, i64_w, i32_w]; rfl
                    refine pure_ (i := 4) (N := some 165) (v := ?_) (a' := ?_) #[true, true, true, true, true, false, false, false, false, false, false, false, false, false, false, false, false, false, false, false, false, false, false, false, false, false, false, false, false, false, false, false, false, false, false, false, false, false, false, false, false, false, false, false, false, false, false, false, false, false, false, false, false, false, false, false, false] rfl rfl (any_of HT_.out (by kernel_rfl)) (fun _ _ _ h => h) (Or.inl ⟨by rfl, ?_⟩) ?_ ?_
                    rotate_left
                    ·intro w'
                     go_simp
                     with_reducible rfl
                    rotate_left
                    ·simp only [Act.put, List.setIfInBounds_toArray, List.set_cons_zero, List.set_cons_succ, i64_w, i32_w]; rfl
                    refine pure_ (i := 5) (N := some 166) (v := ?_) (a' := ?_) #[true, true, true, true, true, true, false, false, false, false, false, false, false, false, false, false, false, false, false, false, false, false, false, false, false, false, false, false, false, false, false, false, false, false, false, false, false, false, false, false, false, false, false, false, false, false, false, false, false, false, false, false, false, false, false, false, false] rfl rfl (any_of HT_.out (by kernel_rfl)) (fun _ _ _ h => h) (Or.inl ⟨by rfl, ?_⟩) ?_ ?_
                    rotate_left
                    ·intro w'
                     go_simp
                     with_reducible rfl
                    rotate_left
                    ·simp only [Act.put, List.setIfInBounds_toArray, List.set_cons_zero, List.set_cons_succ, i64_w, i32_w]; rfl
                    refine pure_ (i := 6) (N := some 167) (v := ?_) (a' := ?_) #[true, true, true, true, true, true, true, false, false, false, false, false, false, false, false, false, false, false, false, false, false, false, false, false, false, false, false, false, false, false, false, false, false, false, false, false, false, false, false, false, false, false, false, false, false, false, false, false, false, false, false, false, false, false, false, false, false] rfl rfl (any_of HT_.out (by kernel_rfl)) (fun _ _ _ h => h) (Or.inl ⟨by rfl, ?_⟩) ?_ ?_
                    rotate_left
                    ·intro w'
                     go_simp
                     with_reducible rfl
                    rotate_left
                    ·simp only [Act.put, List.setIfInBounds_toArray, List.set_cons_zero, List.set_cons_succ, i64_w, i32_w]; rfl
                    refine pure_ (i := 7) (N := some 168) (v := ?_) (a' := ?_) #[true, true, true, true, true, true, true, true, false, false, false, false, false, false, false, false, false, false, false, false, false, false, false, false, false, false, false, false, false, false, false, false, false, false, false, false, false, false, false, false, false, false, false, false, false, false, false, false, false, false, false, false, false, false, false, false, false] rfl rfl (any_of HT_.out (by kernel_rfl)) (fun _ _ _ h => h) (Or.inl ⟨by rfl, ?_⟩) ?_ ?_
                    rotate_left
                    ·intro w'
                     go_simp
                     with_reducible rfl
                    rotate_left
                    ·simp only [Act.put, List.setIfInBounds_toArray, List.set_cons_zero, List.set_cons_succ, i64_w, i32_w]; rfl
                    refine pure_ (i := 8) (N := some 169) (v := ?_) (a' := ?_) #[true, true, true, true, true, true, true, true, true, false, false, false, false, false, false, false, false, false, false, false, false, false, false, false, false, false, false, false, false, false, false, false, false, false, false, false, false, false, false, false, false, false, false, false, false, false, false, false, false, false, false, false, false, false, false, false, false] rfl rfl (any_of HT_.out (by kernel_rfl)) (fun _ _ _ h => h) (Or.inl ⟨by rfl, ?_⟩) ?_ ?_
                    rotate_left
                    ·intro w'
                     go_simp
                     with_reducible rfl
                    rotate_left
                    ·simp only [Act.put, List.setIfInBounds_toArray, List.set_cons_zero, List.set_cons_succ, i64_w, i32_w]; rfl
                    refine pure_ (i := 9) (N := some 170) (v := ?_) (a' := ?_) #[true, true, true, true, true, true, true, true, true, true, false, false, false, false, false, false, false, false, false, false, false, false, false, false, false, false, false, false, false, false, false, false, false, false, false, false, false, false, false, false, false, false, false, false, false, false, false, false, false, false, false, false, false, false, false, false, false] rfl rfl (any_of HT_.out (by kernel_rfl)) (fun _ _ _ h => h) (Or.inl ⟨by rfl, ?_⟩) ?_ ?_
                    rotate_left
                    ·intro w'
                     go_simp
                     with_reducible rfl
                    rotate_left
                    ·simp only [Act.put, List.setIfInBounds_toArray, List.set_cons_zero, List.set_cons_succ, i64_w, i32_w]; rfl
                    refine pure_ (i := 10) (N := some 171) (v := ?_) (a' := ?_) #[true, true, true, true, true, true, true, true, true, true, true, false, false, false, false, false, false, false, false, false, false, false, false, false, false, false, false, false, false, false, false, false, false, false, false, false, false, false, false, false, false, false, false, false, false, false, false, false, false, false, false, false, false, false, false, false, false] rfl rfl (any_of HT_.out (by kernel_rfl)) (fun _ _ _ h => h) (Or.inl ⟨by rfl, ?_⟩) ?_ ?_
                    rotate_left
                    ·intro w'
                     go_simp
                     with_reducible rfl
                    rotate_left
                    ·simp only [Act.put, List.setIfInBounds_toArray, List.set_cons_zero, List.set_cons_succ, i64_w, i32_w]; rfl
                    refine pure_ (i := 11) (N := some 172) (v := ?_) (a' := ?_) #[true, true, true, true, true, true, true, true, true, true, true, true, false, false, false, false, false, false, false, false, false, false, false, false, false, false, false, false, false, false, false, false, false, false, false, false, false, false, false, false, false, false, false, false, false, false, false, false, false, false, false, false, false, false, false, false, false] rfl rfl (any_of HT_.out (by kernel_rfl)) (fun _ _ _ h => h) (Or.inl ⟨by rfl, ?_⟩) ?_ ?_
                    rotate_left
                    ·intro w'
                     go_simp
                     with_reducible rfl
                    rotate_left
                    ·simp only [Act.put, List.setIfInBounds_toArray, List.set_cons_zero, List.set_cons_succ, i64_w, i32_w]; rfl
                    refine pure_ (i := 12) (N := some 173) (v := ?_) (a' := ?_) #[true, true, true, true, true, true, true, true, true, true, true, true, true, false, false, false, false, false, false, false, false, false, false, false, false, false, false, false, false, false, false, false, false, false, false, false, false, false, false, false, false, false, false, false, false, false, false, false, false, false, false, false, false, false, false, false, false] rfl rfl (any_of HT_.out (by kernel_rfl)) (fun _ _ _ h => h) (Or.inl ⟨by rfl, ?_⟩) ?_ ?_
                    rotate_left
                    ·intro w'
                     go_simp
                     with_reducible rfl
                    rotate_left
                    ·simp only [Act.put, List.setIfInBounds_toArray, List.set_cons_zero, List.set_cons_succ, i64_w, i32_w]; rfl
                    refine pure_ (i := 13) (N := some 174) (v := ?_) (a' := ?_) #[true, true, true, true, true, true, true, true, true, true, true, true, true, true, false, false, false, false, false, false, false, false, false, false, false, false, false, false, false, false, false, false, false, false, false, false, false, false, false, false, false, false, false, false, false, false, false, false, false, false, false, false, false, false, false, false, false] rfl rfl (any_of HT_.out (by kernel_rfl)) (fun _ _ _ h => h) (Or.inl ⟨by rfl, ?_⟩) ?_ ?_
                    rotate_left
                    ·intro w'
                     go_simp
                     with_reducible rfl
                    rotate_left
                    ·simp only [Act.put, List.setIfInBounds_toArray, List.set_cons_zero, List.set_cons_succ, i64_w, i32_w]; rfl
                    refine pure_ (i := 14) (N := some 175) (v := ?_) (a' := ?_) #[true, true, true, true, true, true, true, true, true, true, true, true, true, true, true, false, false, false, false, false, false, false, false, false, false, false, false, false, false, false, false, false, false, false, false, false, false, false, false, false, false, false, false, false, false, false, false, false, false, false, false, false, false, false, false, false, false] rfl rfl (any_of HT_.out (by kernel_rfl)) (fun _ _ _ h => h) (Or.inl ⟨by rfl, ?_⟩) ?_ ?_
                    rotate_left
                    ·intro w'
                     go_simp
                     with_reducible rfl
                    rotate_left
                    ·simp only [Act.put, List.setIfInBounds_toArray, List.set_cons_zero, List.set_cons_succ, i64_w, i32_w]; rfl
                    refine pure_ (i := 15) (N := some 176) (v := ?_) (a' := ?_) #[true, true, true, true, true, true, true, true, true, true, true, true, true, true, true, true, false, false, false, false, false, false, false, false, false, false, false, false, false, false, false, false, false, false, false, false, false, false, false, false, false, false, false, false, false, false, false, false, false, false, false, false, false, false, false, false, false] rfl rfl (any_of HT_.out (by kernel_rfl)) (fun _ _ _ h => h) (Or.inl ⟨by rfl, ?_⟩) ?_ ?_
                    rotate_left
                    ·intro w'
                     go_simp
                     with_reducible rfl
                    rotate_left
                    ·simp only [Act.put, List.setIfInBounds_toArray, List.set_cons_zero, List.set_cons_succ, i64_w, i32_w]; rfl
                    refine pure_ (i := 16) (N := some 177) (v := ?_) (a' := ?_) #[true, true, true, true, true, true, true, true, true, true, true, true, true, true, true, true, true, false, false, false, false, false, false, false, false, false, false, false, false, false, false, false, false, false, false, false, false, false, false, false, false, false, false, false, false, false, false, false, false, false, false, false, false, false, false, false, false] rfl rfl (any_of HT_.out (by kernel_rfl)) (fun _ _ _ h => h) (Or.inl ⟨by rfl, ?_⟩) ?_ ?_
                    rotate_left
                    ·intro w'
                     go_simp
                     with_reducible rfl
                    rotate_left
                    ·simp only [Act.put, List.setIfInBounds_toArray, List.set_cons_zero, List.set_cons_succ, i64_w, i32_w]; rfl
                    refine pure_ (i := 17) (N := some 178) (v := ?_) (a' := ?_) #[true, true, true, true, true, true, true, true, true, true, true, true, true, true, true, true, true, true, false, false, false, false, false, false, false, false, false, false, false, false, false, false, false, false, false, false, false, false, false, false, false, false, false, false, false, false, false, false, false, false, false, false, false, false, false, false, false] rfl rfl (any_of HT_.out (by kernel_rfl)) (fun _ _ _ h => h) (Or.inl ⟨by rfl, ?_⟩) ?_ ?_
                    rotate_left
                    ·intro w'
                     go_simp
                     with_reducible rfl
                    rotate_left
                    ·simp only [Act.put, List.setIfInBounds_toArray, List.set_cons_zero, List.set_cons_succ, i64_w, i32_w]; rfl
                    refine pure_ (i := 18) (N := some 179) (v := ?_) (a' := ?_) #[true, true, true, true, true, true, true, true, true, true, true, true, true, true, true, true, true, true, true, false, false, false, false, false, false, false, false, false, false, false, false, false, false, false, false, false, false, false, false, false, false, false, false, false, false, false, false, false, false, false, false, false, false, false, false, false, false] rfl rfl (any_of HT_.out (by kernel_rfl)) (fun _ _ _ h => h) (Or.inl ⟨by rfl, ?_⟩) ?_ ?_
                    rotate_left
                    ·intro w'
                     go_simp
                     with_reducible rfl
                    rotate_left
                    ·simp only [Act.put, List.setIfInBounds_toArray, List.set_cons_zero, List.set_cons_succ, i64_w, i32_w]; rfl
                    refine pure_ (i := 19) (N := some 180) (v := ?_) (a' := ?_) #[true, true, true, true, true, true, true, true, true, true, true, true, true, true, true, true, true, true, true, true, false, false, false, false, false, false, false, false, false, false, false, false, false, false, false, false, false, false, false, false, false, false, false, false, false, false, false, false, false, false, false, false, false, false, false, false, false] rfl rfl (any_of HT_.out (by kernel_rfl)) (fun _ _ _ h => h) (Or.inl ⟨by rfl, ?_⟩) ?_ ?_
                    rotate_left
                    ·intro w'
                     go_simp
                     with_reducible rfl
                    rotate_left
                    ·simp only [Act.put, List.setIfInBounds_toArray, List.set_cons_zero, List.set_cons_succ, i64_w, i32_w]; rfl
                    refine pure_ (i := 20) (N := some 181) (v := ?_) (a' := ?_) #[true, true, true, true, true, true, true, true, true, true, true, true, true, true, true, true, true, true, true, true, true, false, false, false, false, false, false, false, false, false, false, false, false, false, false, false, false, false, false, false, false, false, false, false, false, false, false, false, false, false, false, false, false, false, false, false, false] rfl rfl (any_of HT_.out (by kernel_rfl)) (fun _ _ _ h => h) (Or.inl ⟨by rfl, ?_⟩) ?_ ?_
                    rotate_left
                    ·intro w'
                     go_simp
                     with_reducible rfl
                    rotate_left
                    ·simp only [Act.put, List.setIfInBounds_toArray, List.set_cons_zero, List.set_cons_succ, i64_w, i32_w]; rfl
                    refine pure_ (i := 21) (N := some 182) (v := ?_) (a' := ?_) #[true, true, true, true, true, true, true, true, true, true, true, true, true, true, true, true, true, true, true, true, true, true, false, false, false, false, false, false, false, false, false, false, false, false, false, false, false, false, false, false, false, false, false, false, false, false, false, false, false, false, false, false, false, false, false, false, false] rfl rfl (any_of HT_.out (by kernel_rfl)) (fun _ _ _ h => h) (Or.inl ⟨by rfl, ?_⟩) ?_ ?_
                    rotate_left
                    ·intro w'
                     go_simp
                     with_reducible rfl
                    rotate_left
                    ·simp only [Act.put, List.setIfInBounds_toArray, List.set_cons_zero, List.set_cons_succ, i64_w, i32_w]; rfl
                    refine pure_ (i := 22) (N := some 183) (v := ?_) (a' := ?_) #[true, true, true, true, true, true, true, true, true, true, true, true, true, true, true, true, true, true, true, true, true, true, true, false, false, false, false, false, false, false, false, false, false, false, false, false, false, false, false, false, false, false, false, false, false, false, false, false, false, false, false, false, false, false, false, false, false] rfl rfl (any_of HT_.out (by kernel_rfl)) (fun _ _ _ h => h) (Or.inl ⟨by rfl, ?_⟩) ?_ ?_
                    rotate_left
                    ·intro w'
                     go_simp
                     with_reducible rfl
                    rotate_left
                    ·simp only [Act.put, List.setIfInBounds_toArray, List.set_cons_zero, List.set_cons_succ, i64_w, i32_w]; rfl
                    refine pure_ (i := 23) (N := some 184) (v := ?_) (a' := ?_) #[true, true, true, true, true, true, true, true, true, true, true, true, true, true, true, true, true, true, true, true, true, true, true, true, false, false, false, false, false, false, false, false, false, false, false, false, false, false, false, false, false, false, false, false, false, false, false, false, false, false, false, false, false, false, false, false, false] rfl rfl (any_of HT_.out (by kernel_rfl)) (fun _ _ _ h => h) (Or.inl ⟨by rfl, ?_⟩) ?_ ?_
                    rotate_left
                    ·intro w'
                     go_simp
                     with_reducible rfl
                    rotate_left
                    ·simp only [Act.put, List.setIfInBounds_toArray, List.set_cons_zero, List.set_cons_succ, i64_w, i32_w]; rfl
                    refine pure_ (i := 24) (N := some 185) (v := ?_) (a' := ?_) #[true, true, true, true, true, true, true, true, true, true, true, true, true, true, true, true, true, true, true, true, true, true, true, true, true, false, false, false, false, false, false, false, false, false, false, false, false, false, false, false, false, false, false, false, false, false, false, false, false, false, false, false, false, false, false, false, false] rfl rfl (any_of HT_.out (by kernel_rfl)) (fun _ _ _ h => h) (Or.inl ⟨by rfl, ?_⟩) ?_ ?_
                    rotate_left
                    ·intro w'
                     go_simp
                     with_reducible rfl
                    rotate_left
                    ·simp only [Act.put, List.setIfInBounds_toArray, List.set_cons_zero, List.set_cons_succ, i64_w, i32_w]; rfl
                    refine pure_ (i := 25) (N := some 186) (v := ?_) (a' := ?_) #[true, true, true, true, true, true, true, true, true, true, true, true, true, true, true, true, true, true, true, true, true, true, true, true, true, true, false, false, false, false, false, false, false, false, false, false, false, false, false, false, false, false, false, false, false, false, false, false, false, false, false, false, false, false, false, false, false] rfl rfl (any_of HT_.out (by kernel_rfl)) (fun _ _ _ h => h) (Or.inl ⟨by rfl, ?_⟩) ?_ ?_
                    rotate_left
                    ·intro w'
                     go_simp
                     with_reducible rfl
                    rotate_left
                    ·simp only [Act.put, List.setIfInBounds_toArray, List.set_cons_zero, List.set_cons_succ, i64_w, i32_w]; rfl
                    refine pure_ (i := 26) (N := some 187) (v := ?_) (a' := ?_) #[true, true, true, true, true, true, true, true, true, true, true, true, true, true, true, true, true, true, true, true, true, true, true, true, true, true, true, false, false, false, false, false, false, false, false, false, false, false, false, false, false, false, false, false, false, false, false, false, false, false, false, false, false, false, false, false, false] rfl rfl (any_of HT_.out (by kernel_rfl)) (fun _ _ _ h => h) (Or.inl ⟨by rfl, ?_⟩) ?_ ?_
                    rotate_left
                    ·intro w'
                     go_simp
                     with_reducible rfl
                    rotate_left
                    ·simp only [Act.put, List.setIfInBounds_toArray, List.set_cons_zero, List.set_cons_succ, i64_w, i32_w]; rfl
                    refine pure_ (i := 27) (N := some 188) (v := ?_) (a' := ?_) #[true, true, true, true, true, true, true, true, true, true, true, true, true, true, true, true, true, true, true, true, true, true, true, true, true, true, true, true, false, false, false, false, false, false, false, false, false, false, false, false, false, false, false, false, false, false, false, false, false, false, false, false, false, false, false, false, false] rfl rfl (any_of HT_.out (by kernel_rfl)) (fun _ _ _ h => h) (Or.inl ⟨by rfl, ?_⟩) ?_ ?_
                    rotate_left
                    ·intro w'
                     go_simp
                     with_reducible rfl
                    rotate_left
                    ·simp only [Act.put, List.setIfInBounds_toArray, List.set_cons_zero, List.set_cons_succ, i64_w, i32_w]; rfl
                    refine pure_ (i := 28) (N := some 189) (v := ?_) (a' := ?_) #[true, true, true, true, true, true, true, true, true, true, true, true, true, true, true, true, true, true, true, true, true, true, true, true, true, true, true, true, true, false, false, false, false, false, false, false, false, false, false, false, false, false, false, false, false, false, false, false, false, false, false, false, false, false, false, false, false] rfl rfl (any_of HT_.out (by kernel_rfl)) (fun _ _ _ h => h) (Or.inl ⟨by rfl, ?_⟩) ?_ ?_
                    rotate_left
                    ·intro w'
                     go_simp
                     with_reducible rfl
                    rotate_left
                    ·simp only [Act.put, List.setIfInBounds_toArray, List.set_cons_zero, List.set_cons_succ, i64_w, i32_w]; rfl
                    refine pure_ (i := 29) (N := some 190) (v := ?_) (a' := ?_) #[true, true, true, true, true, true, true, true, true, true, true, true, true, true, true, true, true, true, true, true, true, true, true, true, true, true, true, true, true, true, false, false, false, false, false, false, false, false, false, false, false, false, false, false, false, false, false, false, false, false, false, false, false, false, false, false, false] rfl rfl (any_of HT_.out (by kernel_rfl)) (fun _ _ _ h => h) (Or.inl ⟨by rfl, ?_⟩) ?_ ?_
                    rotate_left
                    ·intro w'
                     go_simp
                     with_reducible rfl
                    rotate_left
                    ·simp only [Act.put, List.setIfInBounds_toArray, List.set_cons_zero, List.set_cons_succ, i64_w, i32_w]; rfl
                    refine pure_ (i := 30) (N := some 191) (v := ?_) (a' := ?_) #[true, true, true, true, true, true, true, true, true, true, true, true, true, true, true, true, true, true, true, true, true, true, true, true, true, true, true, true, true, true, true, false, false, false, false, false, false, false, false, false, false, false, false, false, false, false, false, false, false, false, false, false, false, false, false, false, false] rfl rfl (any_of HT_.out (by kernel_rfl)) (fun _ _ _ h => h) (Or.inl ⟨by rfl, ?_⟩) ?_ ?_
                    rotate_left
                    ·intro w'
                     go_simp
                     with_reducible rfl
                    rotate_left
                    ·simp only [Act.put, List.setIfInBounds_toArray, List.set_cons_zero, List.set_cons_succ, i64_w, i32_w]; rfl
                    refine pure_ (i := 31) (N := some 192) (v := ?_) (a' := ?_) #[true, true, true, true, true, true, true, true, true, true, true, true, true, true, true, true, true, true, true, true, true, true, true, true, true, true, true, true, true, true, true, true, false, false, false, false, false, false, false, false, false, false, false, false, false, false, false, false, false, false, false, false, false, false, false, false, false] rfl rfl (any_of HT_.out (by kernel_rfl)) (fun _ _ _ h => h) (Or.inl ⟨by rfl, ?_⟩) ?_ ?_
                    rotate_left
                    ·intro w'
                     go_simp
                     with_reducible rfl
                    rotate_left
                    ·simp only [Act.put, List.setIfInBounds_toArray, List.set_cons_zero, List.set_cons_succ, i64_w, i32_w]; rfl
                    refine one_ (i := 32) (N := some 193) #[true, true, true, true, true, true, true, true, true, true, true, true, true, true, true, true, true, true, true, true, true, true, true, true, true, true, true, true, true, true, true, true, true, false, false, false, false, false, false, false, false, false, false, false, false, false, false, false, false, false, false, false, false, false, false, false, false] rfl rfl (one_of HT_.out (by kernel_rfl)) (by decide) (fun K hK => ?_)
                    refine goes_ Try.func35 (by kernel_rfl) rfl #[.slice Ao87 t589.length co87] (by rfl) rfl rfl (by (try simp only [List.map_toArray, List.map_cons, List.map_nil]); first | done | rfl | (simp only [List.length_drop, List.length_take]; rfl)) ?_
                    with_reducible refine (laws_a2Sum.calls k2 _ _ t589 t606 _ ?side1 ?side2 A80.out).mono ?_
                    (case side1 => repeat (first | exact (Kd.R_reads' HO592.out).2.2 | (with_reducible refine Kd.C_alloc ?_ _) | (with_reducible refine Kd.C_drewN ?_ _) | (with_reducible refine Kd.C_drew ?_)))
                    (case side2 => exact (Kd.R_reads' HO592.out).2.1)
                    rintro e w' ⟨rfl, ⟨nd, rfl⟩⟩
                    refine ⟨_, rfl, ?_⟩
                    refine hK.out _ _ ⟨(blk_cell BK599.out 0).trans rfl, (blk_cell BK599.out 1).trans rfl, (blk_cell BK599.out 2).trans rfl, (blk_cell BK599.out 3).trans rfl, (blk_cell BK605.out 0).trans rfl, (blk_cell BK605.out 1).trans rfl, (blk_cell BK605.out 2).trans rfl, (blk_cell BK605.out 3).trans rfl, hHeld.2.2.2.2.2.2.2.2.1, hHeld.2.2.2.2.2.2.2.2.2.1, hHeld.2.2.2.2.2.2.2.2.2.2.1, hHeld.2.2.2.2.2.2.2.2.2.2.2⟩ (fun hHeld => ?_)
                    clear hK K
                    refine norm_ (a' := ?_) ?_ ?_
                    rotate_left
                    ·show Act.put _ (some 193) _ = _
                     simp only [Act.put, List.setIfInBounds_toArray, List.set_cons_zero, List.set_cons_succ, i64_w, i32_w]
                     rfl
                    refine pure_ (i := 33) (N := some 194) (v := ?_) (a' := ?_) #[true, true, true, true, true, true, true, true, true, true, true, true, true, true, true, true, true, true, true, true, true, true, true, true, true, true, true, true, true, true, true, true, true, true, false, false, false, false, false, false, false, false, false, false, false, false, false, false, false, false, false, false, false, false, false, false, false] rfl rfl (any_of HT_.out (by kernel_rfl)) (fun _ _ _ h => h) (Or.inl ⟨by rfl, ?_⟩) ?_ ?_
                    rotate_left
                    ·intro w'
                     go_simp
                     with_reducible rfl
                    rotate_left
                    ·simp only [Act.put, List.setIfInBounds_toArray, List.set_cons_zero, List.set_cons_succ, i64_w, i32_w]; rfl
                    refine pure_ (i := 34) (N := some 195) (v := ?_) (a' := ?_) #[true, true, true, true, true, true, true, true, true, true, true, true, true, true, true, true, true, true, true, true, true, true, true, true, true, true, true, true, true, true, true, true, true, true, true, false, false, false, false, false, false, false, false, false, false, false, false, false, false, false, false, false, false, false, false, false, false] rfl rfl (any_of HT_.out (by kernel_rfl)) (fun _ _ _ h => h) (Or.inl ⟨by rfl, ?_⟩) ?_ ?_
                    rotate_left
                    ·intro w'
                     go_simp
                     with_reducible rfl
                    rotate_left
                    ·simp only [Act.put, List.setIfInBounds_toArray, List.set_cons_zero, List.set_cons_succ, i64_w, i32_w]; rfl
                    refine pure_ (i := 35) (N := some 196) (v := ?_) (a' := ?_) #[true, true, true, true, true, true, true, true, true, true, true, true, true, true, true, true, true, true, true, true, true, true, true, true, true, true, true, true, true, true, true, true, true, true, true, true, false, false, false, false, false, false, false, false, false, false, false, false, false, false, false, false, false, false, false, false, false] rfl rfl (any_of HT_.out (by kernel_rfl)) (fun _ _ _ h => h) (Or.inl ⟨by rfl, ?_⟩) ?_ ?_
                    rotate_left
                    ·intro w'
                     go_simp
                     with_reducible rfl
                    rotate_left
                    ·simp only [Act.put, List.setIfInBounds_toArray, List.set_cons_zero, List.set_cons_succ, i64_w, i32_w]; rfl
                    refine pure_ (i := 36) (N := some 197) (v := ?_) (a' := ?_) #[true, true, true, true, true, true, true, true, true, true, true, true, true, true, true, true, true, true, true, true, true, true, true, true, true, true, true, true, true, true, true, true, true, true, true, true, true, false, false, false, false, false, false, false, false, false, false, false, false, false, false, false, false, false, false, false, false] rfl rfl (any_of HT_.out (by kernel_rfl)) (fun _ _ _ h => h) (Or.inl ⟨by rfl, ?_⟩) ?_ ?_
                    rotate_left
                    ·intro w'
                     go_simp
                     with_reducible rfl
                    rotate_left
                    ·simp only [Act.put, List.setIfInBounds_toArray, List.set_cons_zero, List.set_cons_succ, i64_w, i32_w]; rfl
                    refine pure_ (i := 37) (N := some 198) (v := ?_) (a' := ?_) #[true, true, true, true, true, true, true, true, true, true, true, true, true, true, true, true, true, true, true, true, true, true, true, true, true, true, true, true, true, true, true, true, true, true, true, true, true, true, false, false, false, false, false, false, false, false, false, false, false, false, false, false, false, false, false, false, false] rfl rfl (any_of HT_.out (by kernel_rfl)) (fun _ _ _ h => h) (Or.inl ⟨by rfl, ?_⟩) ?_ ?_
                    rotate_left
                    ·intro w'
                     go_simp
                     with_reducible rfl
                    rotate_left
                    ·simp only [Act.put, List.setIfInBounds_toArray, List.set_cons_zero, List.set_cons_succ, i64_w, i32_w]; rfl
                    refine pure_ (i := 38) (N := some 199) (v := ?_) (a' := ?_) #[true, true, true, true, true, true, true, true, true, true, true, true, true, true, true, true, true, true, true, true, true, true, true, true, true, true, true, true, true, true, true, true, true, true, true, true, true, true, true, false, false, false, false, false, false, false, false, false, false, false, false, false, false, false, false, false, false] rfl rfl (any_of HT_.out (by kernel_rfl)) (fun _ _ _ h => h) (Or.inl ⟨by rfl, ?_⟩) ?_ ?_
                    rotate_left
                    ·intro w'
                     go_simp
                     with_reducible rfl
                    rotate_left
                    ·simp only [Act.put, List.setIfInBounds_toArray, List.set_cons_zero, List.set_cons_succ, i64_w, i32_w]; rfl
                    refine pure_ (i := 39) (N := some 200) (v := ?_) (a' := ?_) #[true, true, true, true, true, true, true, true, true, true, true, true, true, true, true, true, true, true, true, true, true, true, true, true, true, true, true, true, true, true, true, true, true, true, true, true, true, true, true, true, false, false, false, false, false, false, false, false, false, false, false, false, false, false, false, false, false] rfl rfl (any_of HT_.out (by kernel_rfl)) (fun _ _ _ h => h) (Or.inl ⟨by rfl, ?_⟩) ?_ ?_
                    rotate_left
                    ·intro w'
                     go_simp
                     with_reducible rfl
                    rotate_left
                    ·simp only [Act.put, List.setIfInBounds_toArray, List.set_cons_zero, List.set_cons_succ, i64_w, i32_w]; rfl
                    refine pure_ (i := 40) (N := some 201) (v := ?_) (a' := ?_) #[true, true, true, true, true, true, true, true, true, true, true, true, true, true, true, true, true, true, true, true, true, true, true, true, true, true, true, true, true, true, true, true, true, true, true, true, true, true, true, true, true, false, false, false, false, false, false, false, false, false, false, false, false, false, false, false, false] rfl rfl (any_of HT_.out (by kernel_rfl)) (fun _ _ _ h => h) (Or.inl ⟨by rfl, ?_⟩) ?_ ?_
                    rotate_left
                    ·intro w'
                     go_simp
                     with_reducible rfl
                    rotate_left
                    ·simp only [Act.put, List.setIfInBounds_toArray, List.set_cons_zero, List.set_cons_succ, i64_w, i32_w]; rfl
                    refine pure_ (i := 42) (N := some 203) (v := ?_) (a' := ?_) #[true, true, true, true, true, true, true, true, true, true, true, true, true, true, true, true, true, true, true, true, true, true, true, true, true, true, true, true, true, true, true, true, true, true, true, true, true, true, true, true, true, false, true, false, false, false, false, false, false, false, false, false, false, false, false, false, false] rfl rfl (any_of HT_.out (by kernel_rfl)) (fun _ _ _ h => h) (Or.inl ⟨by rfl, ?_⟩) ?_ ?_
                    rotate_left
                    ·intro w'
                     go_simp
                     with_reducible rfl
                    rotate_left
                    ·simp only [Act.put, List.setIfInBounds_toArray, List.set_cons_zero, List.set_cons_succ, i64_w, i32_w]; rfl
                    refine pure_ (i := 43) (N := some 204) (v := ?_) (a' := ?_) #[true, true, true, true, true, true, true, true, true, true, true, true, true, true, true, true, true, true, true, true, true, true, true, true, true, true, true, true, true, true, true, true, true, true, true, true, true, true, true, true, true, false, true, true, false, false, false, false, false, false, false, false, false, false, false, false, false] rfl rfl (any_of HT_.out (by kernel_rfl)) (fun _ _ _ h => h) (Or.inl ⟨by rfl, ?_⟩) ?_ ?_
                    rotate_left
                    ·intro w'
                     go_simp
                     with_reducible rfl
                    rotate_left
                    ·simp only [Act.put, List.setIfInBounds_toArray, List.set_cons_zero, List.set_cons_succ, i64_w, i32_w]; rfl
                    refine take_ (i := 41) (N := some 202) (v := ?_) (a' := ?_) #[true, true, true, true, true, true, true, true, true, true, true, true, true, true, true, true, true, true, true, true, true, true, true, true, true, true, true, true, true, true, true, true, true, true, true, true, true, true, true, true, true, true, true, true, false, false, false, false, false, false, false, false, false, false, false, false, false] rfl rfl (take_ofW HT_.out HW_.out (by kernel_rfl)) (fun _ _ _ h => h) (Or.inl ⟨by rfl, ?_⟩) hHeld ?_ ?_
                    rotate_left
                    ·rintro w' ⟨s0, s1, s2, s3, s4, s5, s6, s7, s8, s9, s10, s11⟩
                     go_simp
                     with_reducible rfl
                    rotate_left
                    ·simp only [Act.put, List.setIfInBounds_toArray, List.set_cons_zero, List.set_cons_succ, i64_w, i32_w]; rfl
                    refine pure_ (i := 44) (N := some 205) (v := ?_) (a' := ?_) #[true, true, true, true, true, true, true, true, true, true, true, true, true, true, true, true, true, true, true, true, true, true, true, true, true, true, true, true, true, true, true, true, true, true, true, true, true, true, true, true, true, true, true, true, true, false, false, false, false, false, false, false, false, false, false, false, false] rfl rfl (any_of HT_.out (by kernel_rfl)) (fun _ _ _ h => h) (Or.inl ⟨by rfl, ?_⟩) ?_ ?_
                    rotate_left
                    ·intro w'
                     go_simp
                     with_reducible rfl
                    rotate_left
                    ·simp only [Act.put, List.setIfInBounds_toArray, List.set_cons_zero, List.set_cons_succ, i64_w, i32_w]; rfl
                    refine pure_ (i := 45) (N := some 206) (v := ?_) (a' := ?_) #[true, true, true, true, true, true, true, true, true, true, true, true, true, true, true, true, true, true, true, true, true, true, true, true, true, true, true, true, true, true, true, true, true, true, true, true, true, true, true, true, true, true, true, true, true, true, false, false, false, false, false, false, false, false, false, false, false] rfl rfl (any_of HT_.out (by kernel_rfl)) (fun _ _ _ h => h) (Or.inl ⟨by rfl, ?_⟩) ?_ ?_
                    rotate_left
                    ·intro w'
                     go_simp
                     with_reducible rfl
                    rotate_left
                    ·simp only [Act.put, List.setIfInBounds_toArray, List.set_cons_zero, List.set_cons_succ, i64_w, i32_w]; rfl
                    refine pure_ (i := 46) (N := some 207) (v := ?_) (a' := ?_) #[true, true, true, true, true, true, true, true, true, true, true, true, true, true, true, true, true, true, true, true, true, true, true, true, true, true, true, true, true, true, true, true, true, true, true, true, true, true, true, true, true, true, true, true, true, true, true, false, false, false, false, false, false, false, false, false, false] rfl rfl (any_of HT_.out (by kernel_rfl)) (fun _ _ _ h => h) (Or.inl ⟨by rfl, ?_⟩) ?_ ?_
                    rotate_left
                    ·intro w'
                     go_simp
                     with_reducible rfl
                    rotate_left
                    ·simp only [Act.put, List.setIfInBounds_toArray, List.set_cons_zero, List.set_cons_succ, i64_w, i32_w]; rfl
                    refine pure_ (i := 47) (N := some 208) (v := ?_) (a' := ?_) #[true, true, true, true, true, true, true, true, true, true, true, true, true, true, true, true, true, true, true, true, true, true, true, true, true, true, true, true, true, true, true, true, true, true, true, true, true, true, true, true, true, true, true, true, true, true, true, true, false, false, false, false, false, false, false, false, false] rfl rfl (any_of HT_.out (by kernel_rfl)) (fun _ _ _ h => h) (Or.inl ⟨by rfl, ?_⟩) ?_ ?_
                    rotate_left
                    ·intro w'
                     go_simp
                     with_reducible rfl
                    rotate_left
                    ·simp only [Act.put, List.setIfInBounds_toArray, List.set_cons_zero, List.set_cons_succ, i64_w, i32_w]; rfl
                    refine pure_ (i := 48) (N := some 209) (v := ?_) (a' := ?_) #[true, true, true, true, true, true, true, true, true, true, true, true, true, true, true, true, true, true, true, true, true, true, true, true, true, true, true, true, true, true, true, true, true, true, true, true, true, true, true, true, true, true, true, true, true, true, true, true, true, false, false, false, false, false, false, false, false] rfl rfl (any_of HT_.out (by kernel_rfl)) (fun _ _ _ h => h) (Or.inl ⟨by rfl, ?_⟩) ?_ ?_
                    rotate_left
                    ·intro w'
                     go_simp
                     with_reducible rfl
                    rotate_left
                    ·simp only [Act.put, List.setIfInBounds_toArray, List.set_cons_zero, List.set_cons_succ, i64_w, i32_w]; rfl
                    refine pure_ (i := 49) (N := some 210) (v := ?_) (a' := ?_) #[true, true, true, true, true, true, true, true, true, true, true, true, true, true, true, true, true, true, true, true, true, true, true, true, true, true, true, true, true, true, true, true, true, true, true, true, true, true, true, true, true, true, true, true, true, true, true, true, true, true, false, false, false, false, false, false, false] rfl rfl (any_of HT_.out (by kernel_rfl)) (fun _ _ _ h => h) (Or.inl ⟨by rfl, ?_⟩) ?_ ?_
                    rotate_left
                    ·intro w'
                     go_simp
                     with_reducible rfl
                    rotate_left
                    ·simp only [Act.put, List.setIfInBounds_toArray, List.set_cons_zero, List.set_cons_succ, i64_w, i32_w]; rfl
                    refine pure_ (i := 50) (N := some 211) (v := ?_) (a' := ?_) #[true, true, true, true, true, true, true, true, true, true, true, true, true, true, true, true, true, true, true, true, true, true, true, true, true, true, true, true, true, true, true, true, true, true, true, true, true, true, true, true, true, true, true, true, true, true, true, true, true, true, true, false, false, false, false, false, false] rfl rfl (any_of HT_.out (by kernel_rfl)) (fun _ _ _ h => h) (Or.inl ⟨by rfl, ?_⟩) ?_ ?_
                    rotate_left
                    ·intro w'
                     go_simp
                     with_reducible rfl
                    rotate_left
                    ·simp only [Act.put, List.setIfInBounds_toArray, List.set_cons_zero, List.set_cons_succ, i64_w, i32_w]; rfl
                    refine pure_ (i := 52) (N := some 213) (v := ?_) (a' := ?_) #[true, true, true, true, true, true, true, true, true, true, true, true, true, true, true, true, true, true, true, true, true, true, true, true, true, true, true, true, true, true, true, true, true, true, true, true, true, true, true, true, true, true, true, true, true, true, true, true, true, true, true, false, true, false, false, false, false] rfl rfl (any_of HT_.out (by kernel_rfl)) (fun _ _ _ h => h) (Or.inl ⟨by rfl, ?_⟩) ?_ ?_
                    rotate_left
                    ·intro w'
                     go_simp
                     with_reducible rfl
                    rotate_left
                    ·simp only [Act.put, List.setIfInBounds_toArray, List.set_cons_zero, List.set_cons_succ, i64_w, i32_w]; rfl
                    refine pure_ (i := 53) (N := some 214) (v := ?_) (a' := ?_) #[true, true, true, true, true, true, true, true, true, true, true, true, true, true, true, true, true, true, true, true, true, true, true, true, true, true, true, true, true, true, true, true, true, true, true, true, true, true, true, true, true, true, true, true, true, true, true, true, true, true, true, false, true, true, false, false, false] rfl rfl (any_of HT_.out (by kernel_rfl)) (fun _ _ _ h => h) (Or.inl ⟨by rfl, ?_⟩) ?_ ?_
                    rotate_left
                    ·intro w'
                     go_simp
                     with_reducible rfl
                    rotate_left
                    ·simp only [Act.put, List.setIfInBounds_toArray, List.set_cons_zero, List.set_cons_succ, i64_w, i32_w]; rfl
                    refine take_ (i := 51) (N := some 212) (v := ?_) (a' := ?_) #[true, true, true, true, true, true, true, true, true, true, true, true, true, true, true, true, true, true, true, true, true, true, true, true, true, true, true, true, true, true, true, true, true, true, true, true, true, true, true, true, true, true, true, true, true, true, true, true, true, true, true, true, true, true, false, false, false] rfl rfl (take_ofW HT_.out HW_.out (by kernel_rfl)) (fun _ _ _ h => h) (Or.inl ⟨by rfl, ?_⟩) hHeld ?_ ?_
                    rotate_left
                    ·rintro w' ⟨s0, s1, s2, s3, s4, s5, s6, s7, s8, s9, s10, s11⟩
                     go_simp
                     with_reducible rfl
                    rotate_left
                    ·simp only [Act.put, List.setIfInBounds_toArray, List.set_cons_zero, List.set_cons_succ, i64_w, i32_w]; rfl
                    refine take_ (i := 54) (N := some 215) (v := ?_) (a' := ?_) #[true, true, true, true, true, true, true, true, true, true, true, true, true, true, true, true, true, true, true, true, true, true, true, true, true, true, true, true, true, true, true, true, true, true, true, true, true, true, true, true, true, true, true, true, true, true, true, true, true, true, true, true, true, true, true, false, false] rfl rfl (take_ofW HT_.out HW_.out (by kernel_rfl)) (fun _ _ _ h => h) (Or.inl ⟨by rfl, ?_⟩) hHeld ?_ ?_
                    rotate_left
                    ·rintro w' ⟨s0, s1, s2, s3, s4, s5, s6, s7, s8, s9, s10, s11⟩
                     go_simp
                     with_reducible rfl
                    rotate_left
                    ·simp only [Act.put, List.setIfInBounds_toArray, List.set_cons_zero, List.set_cons_succ, i64_w, i32_w]; rfl
                    refine pure_ (i := 55) (N := some 216) (v := ?_) (a' := ?_) #[true, true, true, true, true, true, true, true, true, true, true, true, true, true, true, true, true, true, true, true, true, true, true, true, true, true, true, true, true, true, true, true, true, true, true, true, true, true, true, true, true, true, true, true, true, true, true, true, true, true, true, true, true, true, true, true, false] rfl rfl (any_of HT_.out (by kernel_rfl)) (fun _ _ _ h => h) (Or.inl ⟨by rfl, ?_⟩) ?_ ?_
                    rotate_left
                    ·intro w'
                     go_simp
                     with_reducible rfl
                    rotate_left
                    ·simp only [Act.put, List.setIfInBounds_toArray, List.set_cons_zero, List.set_cons_succ, i64_w, i32_w]; rfl
                    refine pure_ (i := 56) (N := some 217) (v := ?_) (a' := ?_) #[true, true, true, true, true, true, true, true, true, true, true, true, true, true, true, true, true, true, true, true, true, true, true, true, true, true, true, true, true, true, true, true, true, true, true, true, true, true, true, true, true, true, true, true, true, true, true, true, true, true, true, true, true, true, true, true, true] rfl rfl (any_of HT_.out (by kernel_rfl)) (fun _ _ _ h => h) (Or.inl ⟨by rfl, ?_⟩) ?_ ?_
                    rotate_left
                    ·intro w'
                     go_simp
                     with_reducible rfl
                    rotate_left
                    ·simp only [Act.put, List.setIfInBounds_toArray, List.set_cons_zero, List.set_cons_succ, i64_w, i32_w]; rfl
                    refine done_ (done_of HT_.out (by kernel_rfl)) ?_
                    try go_wp2
                    go_meet
                    case rel => exact ⟨_, ((!(t600 == ((rd_T51 y573 1).f0)) || (!(t601 == ((rd_T51 y573 1).f1)) || (!(t602 == ((rd_T51 y573 1).f2)) || (!(t603 == ((rd_T51 y573 1).f3))))))), (by first | rfl | (simp; done) | (simp [*]; done)), H', ⟨by have := HJ6.out; have := HK2.out; first | omega | exact Nat.le_refl _⟩, ⟨by (with_reducible repeat (first | refine blk_drewN ?_ _ | refine blk_drew ?_ | refine blk_alloc ?_ _)); exact BK599.out⟩, ⟨by (with_reducible repeat (first | refine blk_drewN ?_ _ | refine blk_drew ?_ | refine blk_alloc ?_ _)); exact BK605.out⟩, ⟨by repeat (first | (with_reducible first | exact HB.out | apply below_alloc | apply pw_below_drewN | apply below_drew1 | refine below_set ?_ GE599.out | refine below_set ?_ GE605.out) | exact HB.out)⟩⟩
                   ·rw [if_neg c84] at H
                    have c84b0 : (t604 == 0) = false := beq_eq_false_iff_ne.mpr c84
                    have c84b1 : (t604 != 0) = true := bne_iff_ne.mpr c84
                    exact absurd (Option.some.inj H) (by rw [hr_.out]; decide)
                  ·rw [if_neg c83] at H
                   have c83b0 : (t596 == (wrap64 (-t570))) = false := beq_eq_false_iff_ne.mpr c83
                   have c83b1 : (t596 != (wrap64 (-t570))) = true := bne_iff_ne.mpr c83
                   exact absurd (Option.some.inj H) (by rw [hr_.out]; decide)
                 ·rw [if_neg c82] at H
                  have c82b0 : (t598 == 0) = false := beq_eq_false_iff_ne.mpr c82
                  have c82b1 : (t598 != 0) = true := bne_iff_ne.mpr c82
                  exact absurd (Option.some.inj H) (by rw [hr_.out]; decide)
                ·rw [if_neg c81] at H
                 have c81b0 : (t606 == 0) = false := beq_eq_false_iff_ne.mpr c81
                 have c81b1 : (t606 != 0) = true := bne_iff_ne.mpr c81
                 exact absurd (Option.some.inj H) (by rw [hr_.out]; decide)
               ·rw [if_neg c79] at H
                have c79b0 : ((t589.length : Int) == 3) = false := beq_eq_false_iff_ne.mpr c79
                have c79b1 : ((t589.length : Int) != 3) = true := bne_iff_ne.mpr c79
                exact absurd (Option.some.inj H) (by rw [hr_.out]; decide)
              ·rw [if_neg c78] at H
               have c78b0 : (t590 == 0) = false := beq_eq_false_iff_ne.mpr c78
               have c78b1 : (t590 != 0) = true := bne_iff_ne.mpr c78
               exact absurd (Option.some.inj H) (by rw [hr_.out]; decide)
             ·rw [if_neg c77] at H
              have c77b0 : (t584 == (wrap64 (-t579))) = false := beq_eq_false_iff_ne.mpr c77
              have c77b1 : (t584 != (wrap64 (-t579))) = true := bne_iff_ne.mpr c77
              exact absurd (Option.some.inj H) (by rw [hr_.out]; decide)
            ·rw [if_neg c76] at H
             have c76b0 : (t579 == (wrap64 ((wrap64 (t569 - t570)) - t571))) = false := beq_eq_false_iff_ne.mpr c76
             have c76b1 : (t579 != (wrap64 ((wrap64 (t569 - t570)) - t571))) = true := bne_iff_ne.mpr c76
             exact absurd (Option.some.inj H) (by rw [hr_.out]; decide)
           ·rw [if_neg c75] at H
            have c75b0 : (t585 == 0) = false := beq_eq_false_iff_ne.mpr c75
            have c75b1 : (t585 != 0) = true := bne_iff_ne.mpr c75
            exact absurd (Option.some.inj H) (by rw [hr_.out]; decide)
          ·rw [if_neg c74] at H
           have c74b0 : (t580 == 0) = false := beq_eq_false_iff_ne.mpr c74
           have c74b1 : (t580 != 0) = true := bne_iff_ne.mpr c74
           (first | rw [c74b0] | (simp only [i64_w, i32_w]; rw [c74b0]) | skip)
           exact absurd (Option.some.inj H) (by rw [hr_.out]; decide)
         case rest =>
          clear HC51
          try clear p2
          try clear c3
          try clear p6
          try clear q6
          try clear hx6
          try clear qi6
          try clear c7
          try clear c8
          try clear c35
          try clear p60
          try clear q60
          try clear hx60
          try clear qi60
          try clear p64
          try clear c74
          try clear c74b0
          try clear c74b1
          try clear c75
          try clear c75b0
          try clear c75b1
          try clear c76
          try clear c76b0
          try clear c76b1
          try clear c77
          try clear c77b0
          try clear c77b1
          try clear c78
          try clear c78b0
          try clear c78b1
          try clear c79
          try clear c79b0
          try clear c79b1
          try clear c81
          try clear c81b0
          try clear c81b1
          try clear c82
          try clear c82b0
          try clear c82b1
          try clear c83
          try clear c83b0
          try clear c83b1
          try clear c84
          try clear c84b0
          try clear c84b1
          try clear hx607_0
          try clear hx607_1
          try clear hx607_2
          try clear hx607_3
          try clear p607
          try clear q607
          obtain ⟨kq, x217_50, rfl, HA, HJ50, BK599, BK605, HB⟩ := hcut
          cases kq with
          | zero => exact absurd HA.out (by simp [laws_FnLoopErrors.j2])
          | succ kj50 =>
           have H := HA.out
           clear HA
           simp only [laws_FnLoopErrors.j2] at H
           by_cases c88 : x217_50 = true
           ·subst c88
            have H1 : (some false) = some r := by rw [if_pos rfl] at H; exact H
            clear H
            have H := H1
            clear H1
            exact absurd (Option.some.inj H) (by rw [hr_.out]; decide)
           ·replace c88 := Bool.eq_false_iff.mpr c88
            subst c88
            have H1 : ((laws_a2At.f l1 4 256).bind fun t608 => ((laws_a2At.f l1 5 100).bind fun t609 => ((impl_MayClose.f kj50 (wrap64 ((wrap64 (1 + (wrap64 (100 * t608)))) + t609))).bind fun bt610 => (if bt610.2 = 0 then (if bt610.1 ≥ 0 then (if bt610.1 ≤ 10000 then (if (wrap64 ((wrap64 (1000 * bt610.1)) * bt610.1)) ≤ (wrap64 (25 * (wrap64 ((wrap64 (1 + (wrap64 (100 * t608)))) + t609)))) then (some (decide ((wrap64 ((wrap64 (1000 * (wrap64 (bt610.1 + 1)))) * (wrap64 (bt610.1 + 1)))) > (wrap64 (25 * (wrap64 ((wrap64 (1 + (wrap64 (100 * t608)))) + t609))))))) else (some false)) else (some false)) else (some false)) else (some false))))) = some r := by rw [if_neg (show ¬ (false = true) by decide)] at H; exact H
            clear H
            have H := H1
            clear H1
            replace H := Option.bind_eq_some_iff.mp H
            obtain ⟨t608, A890, H⟩ := H
            replace H : ((laws_a2At.f l1 5 100).bind fun t609 => ((impl_MayClose.f kj50 (wrap64 ((wrap64 (1 + (wrap64 (100 * t608)))) + t609))).bind fun bt610 => (if bt610.2 = 0 then (if bt610.1 ≥ 0 then (if bt610.1 ≤ 10000 then (if (wrap64 ((wrap64 (1000 * bt610.1)) * bt610.1)) ≤ (wrap64 (25 * (wrap64 ((wrap64 (1 + (wrap64 (100 * t608)))) + t609)))) then (some (decide ((wrap64 ((wrap64 (1000 * (wrap64 (bt610.1 + 1)))) * (wrap64 (bt610.1 + 1)))) > (wrap64 (25 * (wrap64 ((wrap64 (1 + (wrap64 (100 * t608)))) + t609))))))) else (some false)) else (some false)) else (some false)) else (some false)))) = some r := H
            have A89 := Aside0.mk A890
            clear A890
            replace H := Option.bind_eq_some_iff.mp H
            obtain ⟨t609, A900, H⟩ := H
            replace H : ((impl_MayClose.f kj50 (wrap64 ((wrap64 (1 + (wrap64 (100 * t608)))) + t609))).bind fun bt610 => (if bt610.2 = 0 then (if bt610.1 ≥ 0 then (if bt610.1 ≤ 10000 then (if (wrap64 ((wrap64 (1000 * bt610.1)) * bt610.1)) ≤ (wrap64 (25 * (wrap64 ((wrap64 (1 + (wrap64 (100 * t608)))) + t609)))) then (some (decide ((wrap64 ((wrap64 (1000 * (wrap64 (bt610.1 + 1)))) * (wrap64 (bt610.1 + 1)))) > (wrap64 (25 * (wrap64 ((wrap64 (1 + (wrap64 (100 * t608)))) + t609))))))) else (some false)) else (some false)) else (some false)) else (some false))) = some r := H
            have A90 := Aside0.mk A900
            clear A900
            replace H := Option.bind_eq_some_iff.mp H
            obtain ⟨⟨t610, t611⟩, A910, H⟩ := H
            replace H : (if t611 = 0 then (if t610 ≥ 0 then (if t610 ≤ 10000 then (if (wrap64 ((wrap64 (1000 * t610)) * t610)) ≤ (wrap64 (25 * (wrap64 ((wrap64 (1 + (wrap64 (100 * t608)))) + t609)))) then (some (decide ((wrap64 ((wrap64 (1000 * (wrap64 (t610 + 1)))) * (wrap64 (t610 + 1)))) > (wrap64 (25 * (wrap64 ((wrap64 (1 + (wrap64 (100 * t608)))) + t609))))))) else (some false)) else (some false)) else (some false)) else (some false)) = some r := H
            have A91 := Aside0.mk A910
            clear A910
            by_cases c92 : t611 = 0
            ·rw [if_pos c92] at H
             have c92b0 : (t611 == 0) = true := beq_iff_eq.mpr c92
             have c92b1 : (t611 != 0) = false := bne_eq_false_iff_eq.mpr c92
             clear c92
             by_cases c93 : t610 ≥ 0
             ·rw [if_pos c93] at H
              have c93b0 : decide (0 ≤ t610) = true := decide_eq_true c93
              clear c93
              by_cases c94 : t610 ≤ 10000
              ·rw [if_pos c94] at H
               have c94b0 : decide (t610 ≤ 10000) = true := decide_eq_true c94
               clear c94
               by_cases c95 : (wrap64 ((wrap64 (1000 * t610)) * t610)) ≤ (wrap64 (25 * (wrap64 ((wrap64 (1 + (wrap64 (100 * t608)))) + t609))))
               ·rw [if_pos c95] at H
                have c95b0 : decide ((wrap64 ((wrap64 (1000 * t610)) * t610)) ≤ (wrap64 (25 * (wrap64 ((wrap64 (1 + (wrap64 (100 * t608)))) + t609))))) = true := decide_eq_true c95
                clear c95
                obtain rfl := Option.some.inj H
                go_wp2_with (first | ((with_reducible refine gate_callee (f := 36) rfl ?_); refine goesL_ (some 219) rfl rfl Try.func36 (by kernel_rfl) rfl #[.slice A1 l1.length c1, .int .i64 4, .int .i64 256] rfl (by (try simp only [List.map_toArray, List.map_cons, List.map_nil]); first | done | rfl | (simp only [List.length_drop, List.length_take]; rfl)) ?_; (with_reducible refine (laws_a2At.calls _ _ l1 4 256 t608 _ ?side1 ?side2 A89.out).mono ?_); (case side1 => repeat (first | exact (Kd.C_below HR1.out HB.out) | (with_reducible refine Kd.C_alloc ?_ _) | (with_reducible refine Kd.C_drewN ?_ _) | (with_reducible refine Kd.C_drew ?_))); (case side2 => exact HC1.out); rintro e w' ⟨rfl, ⟨nd, rfl⟩⟩; refine ⟨_, rfl, ?_⟩) | ((with_reducible refine gate_callee (f := 36) rfl ?_); refine goesL_ (some 223) rfl rfl Try.func36 (by kernel_rfl) rfl #[.slice A1 l1.length c1, .int .i64 5, .int .i64 100] rfl (by (try simp only [List.map_toArray, List.map_cons, List.map_nil]); first | done | rfl | (simp only [List.length_drop, List.length_take]; rfl)) ?_; (with_reducible refine (laws_a2At.calls _ _ l1 5 100 t609 _ ?side1 ?side2 A90.out).mono ?_); (case side1 => repeat (first | exact (Kd.C_below HR1.out (by repeat (first | (with_reducible first | exact HB.out | apply below_alloc | apply pw_below_drewN | apply below_drew1 | refine below_set ?_ GE599.out | refine below_set ?_ GE605.out) | exact HB.out))) | (with_reducible refine Kd.C_alloc ?_ _) | (with_reducible refine Kd.C_drewN ?_ _) | (with_reducible refine Kd.C_drew ?_))); (case side2 => exact HC1.out); rintro e w' ⟨rfl, ⟨nd, rfl⟩⟩; refine ⟨_, rfl, ?_⟩) | ((with_reducible refine gate_callee (f := 38) rfl ?_); refine goesL_ (some 227) rfl rfl Try.func38 (by kernel_rfl) rfl #[.int .i64 (wrap64 ((wrap64 (1 + (wrap64 (100 * t608)))) + t609))] rfl (by (try simp only [List.map_toArray, List.map_cons, List.map_nil]); first | done | rfl | (simp only [List.length_drop, List.length_take]; rfl)) ?_; (with_reducible refine (impl_MayClose.calls kj50 (wrap64 ((wrap64 (1 + (wrap64 (100 * t608)))) + t609)) t610 t611 _ A91.out).mono ?_); rintro e w' ⟨rfl, ⟨nd, rfl⟩⟩; refine ⟨_, rfl, ?_⟩))
                go_ret
                exact ⟨by first | rfl | (simp [errW_none, errW_some] <;> rfl) | (simp [*, errW_none, errW_some] <;> rfl), by repeat (first | (with_reducible first | exact HB.out | apply below_alloc | apply pw_below_drewN | apply below_drew1 | refine below_set ?_ GE599.out | refine below_set ?_ GE605.out) | exact HB.out)⟩
               ·rw [if_neg c95] at H
                have c95b0 : decide ((wrap64 ((wrap64 (1000 * t610)) * t610)) ≤ (wrap64 (25 * (wrap64 ((wrap64 (1 + (wrap64 (100 * t608)))) + t609))))) = false := decide_eq_false c95
                clear c95
                exact absurd (Option.some.inj H) (by rw [hr_.out]; decide)
              ·rw [if_neg c94] at H
               have c94b0 : decide (t610 ≤ 10000) = false := decide_eq_false c94
               clear c94
               exact absurd (Option.some.inj H) (by rw [hr_.out]; decide)
             ·rw [if_neg c93] at H
              have c93b0 : decide (0 ≤ t610) = false := decide_eq_false c93
              clear c93
              exact absurd (Option.some.inj H) (by rw [hr_.out]; decide)
            ·rw [if_neg c92] at H
             have c92b0 : (t611 == 0) = false := beq_eq_false_iff_ne.mpr c92
             have c92b1 : (t611 != 0) = true := bne_iff_ne.mpr c92
             exact absurd (Option.some.inj H) (by rw [hr_.out]; decide)
        ·rw [if_neg c48] at H
         exact absurd H (by simp)

end Go.Proofs.Ytppfdndnojbmjaa.X

/-! ## Rdr -/
/- How an argument that reads as data is given to the printed functions: whole numbers, bools, strings, slices and structs of these, of whatever depth. No condition. -/
namespace Go.Proofs.Ytppfdndnojbmjaa.Rdr
open Go.ChangeShapes Go.WideShapes Go.Deep Go.Proofs.YtppfdndnojbmjaaW.PrintWords

def I64 (n : Int) : Prop := -9223372036854775808 ≤ n ∧ n ≤ 9223372036854775807
def Str (s : ByteArray) : Prop := s.size ≤ 9223372036854775807
def Lst {α : Type} (Wf : α → Prop) (xs : List α) : Prop := xs.length ≤ 9223372036854775807 ∧ ∀ x ∈ xs, Wf x

structure Reads (P : Program) (t : TypeId) {α : Type} (κ : Kd α) (Wf : α → Prop) : Prop where
  size : P.cellsOf t = κ.sz
  read : ∀ {H : Type} {enc : TypeId × Value → H} {W : World} {base : Nat} {spare : Nat → Bool} {held : Bool} {fuel : Nat} {cs : List Value} {x : DataW H × List MemPlace}, DataW.trod enc P W base spare held fuel t cs = some x → ∃ a, κ.K W a cs ∧ Wf a

theorem reads_i64 {P : Program} {t : TypeId} (ht : P.underlying t = some (.int .i64)) (hc : P.cellsOf t = 1) : Reads P t (Kd.int .i64) I64 := by
  refine ⟨hc, ?_⟩
  intro H enc W base spare held fuel cs x h
  obtain ⟨n, rfl, _, hw⟩ := DataW.trod_int ht h
  refine ⟨n, rfl, ?_⟩
  have hb := bounds_i64 hw
  unfold I64
  omega
def U8 (n : Int) : Prop := 0 ≤ n ∧ n ≤ 255
theorem reads_u8 {P : Program} {t : TypeId} (ht : P.underlying t = some (.int .u8)) (hc : P.cellsOf t = 1) : Reads P t (Kd.int .u8) U8 := by
  refine ⟨hc, ?_⟩
  intro H enc W base spare held fuel cs x h
  obtain ⟨n, rfl, _, hw⟩ := DataW.trod_int ht h
  exact ⟨n, rfl, bounds_u8 hw⟩
theorem reads_bool {P : Program} {t : TypeId} (ht : P.underlying t = some .bool) (hc : P.cellsOf t = 1) : Reads P t Kd.bool (fun _ => True) := by
  refine ⟨hc, ?_⟩
  intro H enc W base spare held fuel cs x h
  obtain ⟨b, rfl, _⟩ := DataW.trod_bool ht h
  exact ⟨b, rfl, trivial⟩
theorem reads_str {P : Program} {t : TypeId} (ht : P.underlying t = some .string) (hc : P.cellsOf t = 1) : Reads P t Kd.string Str := by
  refine ⟨hc, ?_⟩
  intro H enc W base spare held fuel cs x h
  obtain ⟨s, rfl, _, hs⟩ := DataW.trod_string ht h
  exact ⟨s, rfl, hs⟩

theorem choose_any {α : Type} {n : Nat} {p : Nat → α → Prop} (h : ∀ i, i < n → ∃ x, p i x) : ∃ l : List α, l.length = n ∧ ∀ (j : Nat) (x : α), l[j]? = some x → p j x := by
  induction n with
  | zero => exact ⟨[], rfl, fun j x hj => by simp at hj⟩
  | succ n ih =>
    obtain ⟨l, hl, hp⟩ := ih (fun i hi => h i (by omega))
    obtain ⟨x, hx⟩ := h n (by omega)
    refine ⟨l ++ [x], by simp [hl], fun j y hj => ?_⟩
    rcases Nat.lt_or_ge j l.length with hj' | hj'
    · rw [List.getElem?_append_left hj'] at hj
      exact hp j y hj
    · have := (List.getElem?_eq_some_iff.1 hj).1
      rw [List.length_append, List.length_singleton] at this
      have e : j = l.length := by omega
      subst e
      have e2 : x = y := by simpa using hj
      subst e2
      rw [hl]
      exact hx

theorem reads_slice {P : Program} {t e : TypeId} {α : Type} {κ : Kd α} {Wf : α → Prop} (ht : P.underlying t = some (.slice e)) (hc : P.cellsOf t = 1) (he : Reads P e κ Wf) : Reads P t (Kd.slice e κ) (Lst Wf) := by
  refine ⟨hc, ?_⟩
  intro H enc W base spare held fuel cs x h
  rcases open_slice ht h with ⟨rfl, _⟩ | ⟨a, len, cap, m, n, D, Pl, rfl, hb, hl, hm, hmm, _, hx⟩
  · exact ⟨[], ⟨none, 0, rfl, Nat.le_refl _, rfl, by simp, fun h => by simp at h⟩, by simp [Lst]⟩
  · have hlm : len ≤ m := by rw [hmm]; split <;> omega
    obtain ⟨l, hll, hp⟩ := choose_any (α := α) (n := len) (p := fun i x => Wf x ∧ ∃ c, c.length = κ.sz ∧ κ.K W x c ∧ ∀ j u, c[j]? = some u → W.cell? (a.add (i * κ.sz + j)) = some u) (by
      intro i hi
      obtain ⟨c, hcells, htr⟩ := hx i (by omega)
      obtain ⟨y, hy, hw⟩ := he.read htr
      rw [he.size] at hcells
      obtain ⟨_, hlen, hcell⟩ := World.cells?_some hcells
      refine ⟨y, hw, c, hlen, hy, fun j u hj => ?_⟩
      have hjl := (List.getElem?_eq_some_iff.1 hj).1
      rw [← Go.Deep.add_add, hcell j (by omega)]
      exact hj)
    have hml : maxLen = 9223372036854775807 := by unfold maxLen; rfl
    refine ⟨l, ⟨some a, cap, by rw [hll], by omega, rfl, by omega, fun _ => ⟨a, rfl, fun j p hj => ?_⟩⟩, by omega, fun x hx' => ?_⟩
    · obtain ⟨_, c, h1, h2, h3⟩ := hp j p hj
      exact ⟨c, h1, h2, h3⟩
    · obtain ⟨j, hj⟩ := List.getElem?_of_mem hx'
      exact (hp j x hj).1

/-! The fields of a struct, from one on. -/
structure FReads (P : Program) (fs : List Field) (off : Nat) {α : Type} (κ : Kd α) (Wf : α → Prop) : Prop where
  read : ∀ {H : Type} {enc : TypeId × Value → H} {W : World} {base : Nat} {spare : Nat → Bool} {held : Bool} {n : Nat} (cs : List Value) (ys : List (DataW H × List MemPlace)), ys.length = fs.length →
    (∀ (i : Nat) (f : Field), fs[i]? = some f → DataW.trod enc P W base spare held n f.type ((cs.drop f.offset).take (P.cellsOf f.type)) = ys[i]?) → off + κ.sz = cs.length → ∃ a, κ.K W a (cs.drop off) ∧ Wf a

theorem freads_last {P : Program} {f : Field} {α : Type} {κ : Kd α} {Wf : α → Prop} {off : Nat} (ho : f.offset = off) (h : Reads P f.type κ Wf) : FReads P [f] off κ Wf := by
  constructor
  intro H enc W base spare held n cs ys hl hf hs
  have h0 := hf 0 f rfl
  have hy : 0 < ys.length := by rw [hl]; simp
  rw [List.getElem?_eq_getElem hy, ho, h.size, List.take_of_length_le (by rw [List.length_drop]; omega)] at h0
  exact h.read h0
theorem freads_cons {P : Program} {f : Field} {fs : List Field} {α β : Type} {κ : Kd α} {κ' : Kd β} {Wf : α → Prop} {Wf' : β → Prop} {off off' : Nat} (ho : f.offset = off) (h : Reads P f.type κ Wf) (hoff : off' = off + κ.sz) (h' : FReads P fs off' κ' Wf') :
    FReads P (f :: fs) off (Kd.pair κ κ') (fun x => Wf x.1 ∧ Wf' x.2) := by
  constructor
  intro H enc W base spare held n cs ys hl hf hs
  have hs' : off + (κ.sz + κ'.sz) = cs.length := hs
  have h0 := hf 0 f rfl
  have hy : 0 < ys.length := by rw [hl]; simp
  rw [List.getElem?_eq_getElem hy, ho, h.size] at h0
  obtain ⟨a, ha, hwa⟩ := h.read h0
  obtain ⟨b, hb, hwb⟩ := h'.read (H := H) (enc := enc) (W := W) (base := base) (spare := spare) (held := held) (n := n) cs ys.tail (by rw [List.length_tail, hl]; simp) (fun i g hg => by
    rw [List.getElem?_tail]
    exact hf (i + 1) g (by simpa using hg)) (by omega)
  refine ⟨(a, b), ⟨(cs.drop off).take κ.sz, cs.drop off', ?_, ha, hb⟩, hwa, hwb⟩
  rw [hoff, ← List.drop_drop, List.take_append_drop]
theorem reads_struct {P : Program} {t : TypeId} {fs : Array Field} {α : Type} {κ : Kd α} {Wf : α → Prop} (ht : P.underlying t = some (.struct fs)) (hc : P.cellsOf t = κ.sz) (h : FReads P fs.toList 0 κ Wf) : Reads P t κ Wf := by
  refine ⟨hc, ?_⟩
  intro H enc W base spare held fuel cs x hx
  obtain ⟨ys, n, _, _, hl, hyl, hf⟩ := DataW.trod_struct ht hx
  obtain ⟨a, ha, hw⟩ := h.read (H := H) (enc := enc) (W := W) (base := base) (spare := spare) (held := held) (n := n) cs ys (by simpa using hyl) (fun i f hi => hf i f (by simpa using hi)) (by rw [hl, hc]; omega)
  exact ⟨a, ha, hw⟩
theorem reads_iso {P : Program} {t : TypeId} {α β : Type} {κ : Kd α} {Wf : α → Prop} {f : β → α} (g : α → β) (hg : ∀ a, f (g a) = a) (h : Reads P t κ Wf) : Reads P t (Kd.iso κ f) (fun x => Wf (f x)) := by
  refine ⟨h.size, ?_⟩
  intro H enc W base spare held fuel cs x hx
  obtain ⟨a, ha, hw⟩ := h.read hx
  refine ⟨g a, ?_, ?_⟩
  · show κ.K W (f (g a)) cs
    rw [hg]
    exact ha
  · show Wf (f (g a))
    rw [hg]
    exact hw

end Go.Proofs.Ytppfdndnojbmjaa.Rdr

/-! ## SFnLoopErrors -/
namespace Go.Proofs.Ytppfdndnojbmjaa.Say
open Go.RowKit Go.Proofs.Ytppfdndnojbmjaa.X
/-- The plain statement of laws_FnLoopErrors. -/
def FnLoopErrors : Prop := ∀ (l0 : List Int) (l1 : List Int), (Rdr.Lst Rdr.U8) l0 → (Rdr.Lst Rdr.U8) l1 → ∃ k, laws_FnLoopErrors.f k l0 l1 = some true
end Go.Proofs.Ytppfdndnojbmjaa.Say

/-! ## Base -/
/- Plain words for the plain laws: what ends with a value once there are rounds enough; loops over an index; sums that do not wrap. No condition. -/
namespace Go.Proofs.Ytppfdndnojbmjaa.B
open Go.RowKit Go.Proofs.YtppfdndnojbmjaaW.PrintWords

theorem w64 {x : Int} (h : -9223372036854775808 ≤ x) (h' : x ≤ 9223372036854775807) : wrap64 x = x := by
  unfold wrap64; omega
theorem wnext {i n : Nat} (h : i < n) (hn : (n : Int) ≤ 9223372036854775807) : wrap64 ((i : Int) + 1) = ((i + 1 : Nat) : Int) := by
  rw [w64 (by omega) (by omega)]; omega

/-- From some number of rounds on these two are the same. -/
def EvEq {α : Type} (g f : Nat → Option α) : Prop := ∃ K, ∀ k, K ≤ k → g k = f k
theorem EvEq.now {α : Type} {g f : Nat → Option α} (h : ∀ k, g k = f k) : EvEq g f := ⟨0, fun k _ => h k⟩
theorem EvEq.trans {α : Type} {g f h : Nat → Option α} (a : EvEq g f) (b : EvEq f h) : EvEq g h := by
  obtain ⟨K, hK⟩ := a
  obtain ⟨K', hK'⟩ := b
  exact ⟨K + K', fun k hk => (hK k (by omega)).trans (hK' k (by omega))⟩
theorem EvEq.bind {α β : Type} {g : Nat → Option α} {a : α} {f : Nat → α → Option β} {h : Nat → Option β} (e : Ev g a) (b : EvEq (fun k => f k a) h) : EvEq (fun k => (g k).bind (f k)) h := by
  obtain ⟨K, hK⟩ := e
  obtain ⟨K', hK'⟩ := b
  refine ⟨K + K', fun k hk => ?_⟩
  show (g k).bind (f k) = _
  rw [hK k (by omega)]
  exact hK' k (by omega)
theorem Ev.ofEq {α : Type} {g f : Nat → Option α} {r : α} (a : EvEq g f) (b : Ev f r) : Ev g r := by
  obtain ⟨K, hK⟩ := a
  obtain ⟨K', hK'⟩ := b
  exact ⟨K + K', fun k hk => (hK k (by omega)).trans (hK' k (by omega))⟩
theorem Ev.const {α : Type} {g : Nat → Option α} {r : α} (h : ∀ k, g k = some r) : Ev g r := ⟨0, fun k _ => h k⟩
theorem Ev.up {α : Type} {g : Nat → Option α} {r : α} (h : Ev (fun k => g (k + 1)) r) : Ev g r := by
  obtain ⟨K, hK⟩ := h
  refine ⟨K + 1, fun k hk => ?_⟩
  have e : g (k - 1 + 1) = some r := hK (k - 1) (by omega)
  have : k - 1 + 1 = k := by omega
  rwa [this] at e
theorem Ev.bindE {α β : Type} {g : Nat → Option α} {a : α} {f : Nat → α → Option β} {r : β} (e : Ev g a) (b : Ev (fun k => f k a) r) : Ev (fun k => (g k).bind (f k)) r := Ev.bind e b
theorem Ev.ifPos {α : Type} {c : Prop} [Decidable c] {A B : Nat → Option α} {r : α} (h : c) (e : Ev A r) : Ev (fun k => if c then A k else B k) r := by
  simpa only [if_pos h] using e
theorem Ev.ifNeg {α : Type} {c : Prop} [Decidable c] {A B : Nat → Option α} {r : α} (h : ¬ c) (e : Ev B r) : Ev (fun k => if c then A k else B k) r := by
  simpa only [if_neg h] using e
theorem Ev.uniq {α : Type} {g : Nat → Option α} {a b : α} (h : Ev g a) (h' : Ev g b) : a = b := by
  obtain ⟨K, hK⟩ := h
  obtain ⟨K', hK'⟩ := h'
  have := (hK (K + K') (by omega)).symm.trans (hK' (K + K') (by omega))
  exact Option.some.inj this

/-- A loop by its rounds: at each one it ends, or goes on to the next. F: what it comes to from there. -/
theorem scan {ρ : Type} (L : Nat → Nat → Option ρ) (n : Nat) (F : Nat → ρ) (hend : Ev (fun k => L (k + 1) n) (F n))
    (hstep : ∀ i, i < n → Ev (fun k => L (k + 1) i) (F i) ∨ (F i = F (i + 1) ∧ EvEq (fun k => L (k + 1) i) (fun k => L k (i + 1)))) : ∀ i, i ≤ n → Ev (fun k => L k i) (F i) := by
  have key : ∀ d i, i + d = n → Ev (fun k => L k i) (F i) := by
    intro d
    induction d with
    | zero =>
      intro i hi
      have e : i = n := by omega
      rw [e]
      exact Ev.up (g := fun k => L k n) hend
    | succ d ih =>
      intro i hi
      rcases hstep i (by omega) with h | ⟨h, h'⟩
      · exact Ev.up (g := fun k => L k i) h
      · rw [h]
        exact Ev.up (g := fun k => L k i) (Ev.ofEq h' (ih (i + 1) (by omega)))
  intro i hi
  exact key (n - i) i (by omega)

/-- A loop whose value at the end is known, and at each round that of the next one. -/
theorem scanI {ρ : Type} (L : Nat → Nat → Option ρ) (n : Nat) (F : Nat → ρ) (hend : Ev (fun k => L k n) (F n))
    (hstep : ∀ i, i < n → Ev (fun k => L k (i + 1)) (F (i + 1)) → Ev (fun k => L k i) (F i)) : ∀ i, i ≤ n → Ev (fun k => L k i) (F i) := by
  have key : ∀ d i, i + d = n → Ev (fun k => L k i) (F i) := by
    intro d
    induction d with
    | zero =>
      intro i hi
      have e : i = n := by omega
      rw [e]
      exact hend
    | succ d ih =>
      intro i hi
      exact hstep i (by omega) (ih (i + 1) (by omega))
  intro i hi
  exact key (n - i) i (by omega)
theorem Ev.ite {α : Type} {c : Prop} [Decidable c] {A B : Nat → Option α} {r : α} (h : c → Ev A r) (h' : ¬ c → Ev B r) : Ev (fun k => if c then A k else B k) r := by
  by_cases e : c
  · exact Ev.ifPos e (h e)
  · exact Ev.ifNeg e (h' e)

def allFrom (p : Nat → Bool) (i n : Nat) : Bool := (List.range' i (n - i)).all p
theorem allFrom_end (p : Nat → Bool) (n : Nat) : allFrom p n n = true := by simp [allFrom]
theorem allFrom_step (p : Nat → Bool) {i n : Nat} (h : i < n) : allFrom p i n = (p i && allFrom p (i + 1) n) := by
  unfold allFrom
  obtain ⟨d, hd⟩ : ∃ d, n - i = d + 1 := ⟨n - i - 1, by omega⟩
  have : n - (i + 1) = d := by omega
  rw [hd, this, List.range'_succ, List.all_cons]
theorem allFrom_iff (p : Nat → Bool) (i n : Nat) : allFrom p i n = true ↔ ∀ j, i ≤ j → j < n → p j = true := by
  unfold allFrom
  rw [List.all_eq_true]
  constructor
  · intro h j h1 h2
    exact h j (by rw [List.mem_range'_1]; omega)
  · intro h j hj
    rw [List.mem_range'_1] at hj
    exact h j (by omega) (by omega)
/-- A loop that goes on while p, and ends with false. -/
theorem allScan (L : Nat → Nat → Option Bool) (n : Nat) (p : Nat → Bool) (fin : Bool) (hend : Ev (fun k => L (k + 1) n) fin)
    (hstep : ∀ i, i < n → EvEq (fun k => L (k + 1) i) (fun k => if p i = true then L k (i + 1) else some false)) : ∀ i, i ≤ n → Ev (fun k => L k i) (allFrom p i n && fin) := by
  refine scan L n (fun i => allFrom p i n && fin) ?_ ?_
  · show Ev _ (allFrom p n n && fin)
    rw [allFrom_end, Bool.true_and]
    exact hend
  · intro i hi
    by_cases hp : p i = true
    · right
      refine ⟨by show (allFrom p i n && fin) = (allFrom p (i + 1) n && fin); rw [allFrom_step p hi, hp, Bool.true_and], ?_⟩
      have h := hstep i hi
      simpa only [if_pos hp] using h
    · left
      have h := hstep i hi
      have hp' : p i = false := by simpa using hp
      have e : (allFrom p i n && fin) = false := by rw [allFrom_step p hi, hp']; rfl
      show Ev _ (allFrom p i n && fin)
      rw [e]
      refine Ev.ofEq h (Ev.const fun k => ?_)
      rw [if_neg hp]

def firstFrom (p : Nat → Bool) (i n : Nat) : Int := match (List.range' i (n - i)).find? p with | some j => (j : Int) | none => -1
theorem firstFrom_end (p : Nat → Bool) (n : Nat) : firstFrom p n n = -1 := by simp [firstFrom]
theorem firstFrom_step (p : Nat → Bool) {i n : Nat} (h : i < n) : firstFrom p i n = if p i = true then (i : Int) else firstFrom p (i + 1) n := by
  unfold firstFrom
  obtain ⟨d, hd⟩ : ∃ d, n - i = d + 1 := ⟨n - i - 1, by omega⟩
  have : n - (i + 1) = d := by omega
  rw [hd, this, List.range'_succ, List.find?_cons]
  cases p i <;> simp
/-- A loop that ends at the first index with p, and tells -1 where there is none. -/
theorem firstScan (L : Nat → Nat → Option Int) (n : Nat) (p : Nat → Bool) (hend : Ev (fun k => L (k + 1) n) (-1))
    (hstep : ∀ i, i < n → EvEq (fun k => L (k + 1) i) (fun k => if p i = true then some (i : Int) else L k (i + 1))) : ∀ i, i ≤ n → Ev (fun k => L k i) (firstFrom p i n) := by
  refine scan L n (fun i => firstFrom p i n) ?_ ?_
  · show Ev _ (firstFrom p n n)
    rw [firstFrom_end]
    exact hend
  · intro i hi
    by_cases hp : p i = true
    · left
      show Ev _ (firstFrom p i n)
      rw [firstFrom_step p hi, if_pos hp]
      exact Ev.ofEq (hstep i hi) (Ev.const fun k => by rw [if_pos hp])
    · right
      refine ⟨by show firstFrom p i n = firstFrom p (i + 1) n; rw [firstFrom_step p hi, if_neg hp], ?_⟩
      simpa only [if_neg hp] using hstep i hi
theorem firstFrom_none (p : Nat → Bool) {n : Nat} : ∀ i, i ≤ n → (firstFrom p i n = -1 ↔ ∀ j, i ≤ j → j < n → p j = false) := by
  have key : ∀ d i, i + d = n → (firstFrom p i n = -1 ↔ ∀ j, i ≤ j → j < n → p j = false) := by
    intro d
    induction d with
    | zero =>
      intro i hi
      have e : i = n := by omega
      subst e
      rw [firstFrom_end]
      exact ⟨fun _ j h1 h2 => by omega, fun _ => rfl⟩
    | succ d ih =>
      intro i hi
      rw [firstFrom_step p (by omega)]
      by_cases hp : p i = true
      · rw [if_pos hp]
        constructor
        · intro h; omega
        · intro h
          have := h i (by omega) (by omega)
          rw [hp] at this
          cases this
      · rw [if_neg hp, ih (i + 1) (by omega)]
        constructor
        · intro h j h1 h2
          by_cases e : j = i
          · subst e; simpa using hp
          · exact h j (by omega) h2
        · intro h j h1 h2
          exact h j (by omega) h2
  intro i hi
  exact key (n - i) i (by omega)
theorem firstFrom_some (p : Nat → Bool) {n : Nat} : ∀ i, i ≤ n → firstFrom p i n ≠ -1 → ∃ j : Nat, firstFrom p i n = (j : Int) ∧ i ≤ j ∧ j < n ∧ p j = true := by
  have key : ∀ d i, i + d = n → firstFrom p i n ≠ -1 → ∃ j : Nat, firstFrom p i n = (j : Int) ∧ i ≤ j ∧ j < n ∧ p j = true := by
    intro d
    induction d with
    | zero =>
      intro i hi h
      have e : i = n := by omega
      subst e
      rw [firstFrom_end] at h
      exact absurd rfl h
    | succ d ih =>
      intro i hi h
      rw [firstFrom_step p (by omega)] at h ⊢
      by_cases hp : p i = true
      · rw [if_pos hp]
        exact ⟨i, rfl, by omega, by omega, hp⟩
      · rw [if_neg hp] at h ⊢
        obtain ⟨j, h1, h2, h3, h4⟩ := ih (i + 1) (by omega) h
        exact ⟨j, h1, by omega, h3, h4⟩
  intro i hi
  exact key (n - i) i (by omega)
theorem firstFrom_congr {p q : Nat → Bool} {n : Nat} (h : ∀ j, j < n → p j = q j) : ∀ i, i ≤ n → firstFrom p i n = firstFrom q i n := by
  have key : ∀ d i, i + d = n → firstFrom p i n = firstFrom q i n := by
    intro d
    induction d with
    | zero =>
      intro i hi
      have e : i = n := by omega
      subst e
      rw [firstFrom_end, firstFrom_end]
    | succ d ih =>
      intro i hi
      rw [firstFrom_step p (by omega), firstFrom_step q (by omega), h i (by omega), ih (i + 1) (by omega)]
  intro i hi
  exact key (n - i) i (by omega)

theorem getD_at {α : Type} {xs : List α} {i : Nat} (h : i < xs.length) (d : α) : xs.getD i d = xs[i] := by
  rw [List.getD_eq_getElem?_getD, List.getElem?_eq_getElem h]; rfl
theorem rd_at {xs : List Int} {i : Nat} (h : i < xs.length) : rd xs (i : Int) = xs[i] := by
  unfold rd; rw [Int.toNat_natCast]; exact getD_at h _
theorem rdOf_at {α : Type} {d : α} {xs : List α} {i : Nat} (h : i < xs.length) : rdOf d xs (i : Int) = xs[i] := by
  unfold rdOf; rw [Int.toNat_natCast]; exact getD_at h _
theorem allFrom_congr {p q : Nat → Bool} (h : ∀ j, p j = q j) (i n : Nat) : allFrom p i n = allFrom q i n := by
  rw [show p = q from funext h]
/-- Rows that are compared place by place. -/
theorem rows3 {L : Nat → Int → Option Bool} {n m : Nat} {c : Int → Bool} (hn : n ≤ 9223372036854775807)
    (hL : ∀ k i, L (k + 1) i = if i < (n : Int) then (if 0 ≤ i then (if i < (m : Int) then (if c i = true then some false else L k (wrap64 (i + 1))) else none) else none) else some true) :
    Ev (fun k => if (n : Int) = (m : Int) then L k 0 else some false) (decide (n = m) && allFrom (fun j => !c j) 0 n) := by
  by_cases hl : n = m
  · rw [decide_eq_true hl, Bool.true_and]
    refine Ev.ifPos (by omega) ?_
    have h := allScan (fun k i => L k (i : Int)) n (fun j => !c j) true (Ev.const fun k => by rw [hL, if_neg (by omega)]) (by
      intro i hi
      refine EvEq.now fun k => ?_
      rw [hL, if_pos (by omega), if_pos (by omega), if_pos (by omega), wnext hi (by omega)]
      cases c i <;> rfl) 0 (by omega)
    rw [Bool.and_true] at h
    exact h
  · rw [decide_eq_false hl, Bool.false_and]
    exact Ev.ifNeg (by omega) (Ev.const fun _ => rfl)
theorem rows4 {L : Nat → Int → Option Bool} {n m : Nat} {c : Int → Bool} (hn : n ≤ 9223372036854775807)
    (hL : ∀ k i, L (k + 1) i = if i < (n : Int) then (if 0 ≤ i then (if i < (n : Int) then (if i < (m : Int) then (if c i = true then some false else L k (wrap64 (i + 1))) else none) else none) else none) else some true) :
    Ev (fun k => if (n : Int) = (m : Int) then L k 0 else some false) (decide (n = m) && allFrom (fun j => !c j) 0 n) := by
  refine rows3 hn fun k i => ?_
  rw [hL]
  by_cases h : i < (n : Int)
  · rw [if_pos h, if_pos h, if_pos h]
  · rw [if_neg h, if_neg h]
/-- A row that is filled from its begin. -/
theorem fill_set {α : Type} (xs : List α) (z : α) {i n : Nat} (hi : i < n) (hl : xs.length = n) : (xs.take i ++ List.replicate (n - i) z).set i (xs[i]'(by omega)) = xs.take (i + 1) ++ List.replicate (n - (i + 1)) z := by
  have hlt : (xs.take i).length = i := by rw [List.length_take]; omega
  rw [List.set_append_right _ _ (by omega), hlt, Nat.sub_self]
  obtain ⟨d, hd⟩ : ∃ d, n - i = d + 1 := ⟨n - i - 1, by omega⟩
  have hd' : n - (i + 1) = d := by omega
  rw [hd, hd', List.replicate_succ, List.set_cons_zero, List.take_succ_eq_append_getElem (by omega), List.append_assoc]
  rfl

end Go.Proofs.Ytppfdndnojbmjaa.B

/-! ## XSpecL02Sum -/
namespace Go.Proofs.Ytppfdndnojbmjaa.X
open Go.RowKit Go.Proofs.Ytppfdndnojbmjaa.XV Go.Proofs.YtppfdndnojbmjaaW.PrintWords Go.Proofs.YtppfdndnojbmjaaW.PrintLast Go.Proofs.YtppfdndnojbmjaaW.PrintMore
attribute [local go_sem] max2_int min2_int max_two min_two max_three min_three max_four min_four

def spec_l02Sum.l0 : Nat → List Int → Int → Int → Option (Int)
 | 0, _, _, _ => none
 | k + 1, x0, x3, x4 => if x4 < (x0.length : Int) then (if 0 ≤ x4 then (spec_l02Sum.l0 k x0 (wrap64 (x3 + (rd x0 x4))) (wrap64 (x4 + 1))) else (none)) else (some x3)
def spec_l02Sum.f (k : Nat) (l0 : List Int) : Option (Int) := spec_l02Sum.l0 k l0 0 0
theorem spec_l02Sum.mono_l : ∀ k, (∀ y0 y1 y2, LeO (spec_l02Sum.l0 k y0 y1 y2) (spec_l02Sum.l0 (k + 1) y0 y1 y2))
 | 0 => fun _ _ _ r h => by simp [spec_l02Sum.l0] at h
 | k + 1 => by
  have ih0 := spec_l02Sum.mono_l k
  ·intro y0 y1 y2
   unfold spec_l02Sum.l0
   repeat' first
   | (with_reducible exact ih0 _ _ _)
   | (with_reducible exact LeO.refl _)
   | (with_reducible exact LeO.none _)
   | (with_reducible refine LeO.ite ?_ ?_)
   | (with_reducible refine LeO.bind ?_ (fun _ => ?_))
   | exact ih0 _ _ _
   | exact LeO.none _
   | refine LeO.ite ?_ ?_
   | refine LeO.bind ?_ (fun _ => ?_)
theorem spec_l02Sum.mono : ∀ a0 k, LeO (spec_l02Sum.f k a0) (spec_l02Sum.f (k + 1) a0) := by
 intro a0 k
 have ih0 := spec_l02Sum.mono_l k
 unfold spec_l02Sum.f
 repeat' first
   | (with_reducible exact ih0 _ _ _)
   | (with_reducible exact LeO.refl _)
   | (with_reducible exact LeO.none _)
   | (with_reducible refine LeO.ite ?_ ?_)
   | (with_reducible refine LeO.bind ?_ (fun _ => ?_))
   | exact ih0 _ _ _
   | exact LeO.none _
   | refine LeO.ite ?_ ?_
   | refine LeO.bind ?_ (fun _ => ?_)
set_option maxHeartbeats 8000000 in
set_option maxRecDepth 100000 in
theorem spec_l02Sum.calls (k : Nat) (A0 : Option Addr) (c0 : Nat) (l0 : List Int) (r : Int) (w : World) (hr0 : Kd.C (Kd.int .i64) w A0 l0.length l0) (hc0 : l0.length ≤ c0) (h : spec_l02Sum.f k l0 = some r) :
  Calls Try.prog 51 #[.slice A0 l0.length c0] w fun e w' => e = .returned (.int .i64 r) ∧ Drawn0 w w' := by
 have HR0 := Aside0.mk hr0
 have HC0 := Aside0.mk hc0
 clear hr0 hc0
 have H : (spec_l02Sum.l0 k l0 0 0) = some r := h
 clear h
 have H' := Aside0.mk H
 clear H
 go_enter Try.func51, Try.ntmps51
 go_wp2
 go_loopg [3, 4] k (fun kq v3 v4 w' => ∃ (x3_1 : Int) (x4_1 : Int), v3 = .int .i64 x3_1 ∧ v4 = .int .i64 x4_1 ∧ Aside0 (spec_l02Sum.l0 kq l0 x3_1 x4_1 = some r) ∧ Aside0 (kq ≤ k) ∧ Drawn0 w w')
 case atStart => exact ⟨(0), (0), (by first | rfl | (simp; done) | (simp [*]; done)), (by first | rfl | (simp; done) | (simp [*]; done)), H', ⟨Nat.le_refl _⟩, by repeat (first | exact Drawn0.refl _ | apply Drawn0.step)⟩
 case round =>
  clear H'
  obtain ⟨x3_1, x4_1, rfl, rfl, HA, HK1, ⟨m1, rfl⟩⟩ := hrel
  cases gk with
  | zero => exact absurd HA.out (by simp [spec_l02Sum.l0])
  | succ k1 =>
   have H := HA.out
   clear HA
   simp only [spec_l02Sum.l0] at H
   by_cases c2 : x4_1 < (l0.length : Int)
   ·rw [if_pos c2] at H
    have c2b0 : decide (x4_1 < (l0.length : Int)) = true := decide_eq_true c2
    clear c2
    by_cases c3 : 0 ≤ x4_1
    ·rw [if_pos c3] at H
     have c3b0 : decide (0 ≤ x4_1) = true := decide_eq_true c3
     clear c3
     have H' := Aside0.mk H
     clear H
     have p110 : 0 ≤ (x4_1 : Int) := of_decide_eq_true (by first | (with_reducible assumption) | assumption)
     have q110 : x4_1 < (l0.length : Int) := of_decide_eq_true (by first | (with_reducible assumption) | assumption)
     obtain ⟨ad110, e110, hx110_0⟩ := Kd.at_int HR0.out x4_1 p110 q110
     cases e110
     replace p110 := eq_true p110
     replace q110 := eq_true q110
     go_wp2
     go_roundg k1
     case measure => have := HK1.out; omega
     case rel => exact ⟨(wrap64 (x3_1 + (rd l0 x4_1))), (wrap64 (x4_1 + 1)), (by first | rfl | (simp; done) | (simp [*]; done)), (by first | rfl | (simp; done) | (simp [*]; done)), H', ⟨by have := HK1.out; omega⟩, by repeat (first | exact Drawn0.refl _ | apply Drawn0.step)⟩
    ·rw [if_neg c3] at H
     exact absurd H (by simp)
   ·rw [if_neg c2] at H
    have c2b0 : decide (x4_1 < (l0.length : Int)) = false := decide_eq_false c2
    clear c2
    obtain rfl := Option.some.inj H
    go_wp2
    go_ret
    exact ⟨by first | rfl | (simp; done) | (simp [*]; done), by repeat (first | exact Drawn0.refl _ | apply Drawn0.step)⟩

end Go.Proofs.Ytppfdndnojbmjaa.X

/-! ## PSum -/
/- Plain laws of sums. No condition but the lengths that fit. -/
namespace Go.Proofs.Ytppfdndnojbmjaa.PSum
open Go.RowKit Go.Proofs.YtppfdndnojbmjaaW.PrintWords Go.Proofs.Ytppfdndnojbmjaa.X Go.Proofs.Ytppfdndnojbmjaa.B

def sum64 (c : Int) (xs : List Int) : Int := xs.foldl (fun s x => wrap64 (s + x)) c
theorem sum64_take (xs : List Int) {i : Nat} (h : i < xs.length) : sum64 0 (xs.take (i + 1)) = wrap64 (sum64 0 (xs.take i) + xs[i]) := by
  unfold sum64
  rw [List.take_succ_eq_append_getElem h, List.foldl_append]
  rfl
theorem specSum_ev (xs : List Int) (hn : xs.length ≤ 9223372036854775807) : Ev (fun k => spec_l02Sum.f k xs) (sum64 0 xs) := by
  have h := scanI (fun k i => spec_l02Sum.l0 k xs (sum64 0 (xs.take i)) (i : Int)) xs.length (fun _ => sum64 0 xs) (Ev.up (g := fun k => spec_l02Sum.l0 k xs (sum64 0 (xs.take xs.length)) (xs.length : Int)) (Ev.const fun k => by
      simp only [spec_l02Sum.l0]
      rw [if_neg (by omega), List.take_length])) (by
    intro i hi ih
    refine Ev.up (g := fun k => spec_l02Sum.l0 k xs (sum64 0 (xs.take i)) (i : Int)) ?_
    simp only [spec_l02Sum.l0, rd_at hi, wnext hi (by omega : (xs.length : Int) ≤ _)]
    rw [sum64_take xs hi] at ih
    exact Ev.ifPos (by omega) (Ev.ifPos (by omega) ih)) 0 (by omega)
  exact h
theorem implSum_ev (xs : List Int) (hn : xs.length ≤ 9223372036854775807) : Ev (fun k => impl_sum.f k xs) (sum64 0 xs) := by
  have h := scanI (fun k i => impl_sum.l0 k (sum64 0 (xs.take i)) xs (xs.length : Int) (i : Int)) xs.length (fun _ => sum64 0 xs) (Ev.up (g := fun k => impl_sum.l0 k (sum64 0 (xs.take xs.length)) xs (xs.length : Int) (xs.length : Int)) (Ev.const fun k => by
      simp only [impl_sum.l0]
      rw [if_neg (by omega), List.take_length])) (by
    intro i hi ih
    refine Ev.up (g := fun k => impl_sum.l0 k (sum64 0 (xs.take i)) xs (xs.length : Int) (i : Int)) ?_
    simp only [impl_sum.l0, rd_at hi, wnext hi (by omega : (xs.length : Int) ≤ _)]
    rw [sum64_take xs hi] at ih
    exact Ev.ifPos (by omega) (Ev.ifPos (by omega) (Ev.ifPos (by omega) ih))) 0 (by omega)
  exact h
end Go.Proofs.Ytppfdndnojbmjaa.PSum

/-! ## PSort -/
/- Plain laws of impl.shareOut's sort: the indices, those with greater keys first, equal keys in the order of the indices. No condition but that there is an index. -/
namespace Go.Proofs.Ytppfdndnojbmjaa.PSort
open Go.RowKit Go.Proofs.YtppfdndnojbmjaaW.PrintWords Go.Proofs.Ytppfdndnojbmjaa.X
def ltA (K : Nat → Int) (n : Nat) : Fin (n + 1) → Fin (n + 1) → Bool := fun a b => decide (K b.val < K a.val)
/-- .. and equal keys by the index. -/
def ltB (K : Nat → Int) (n : Nat) : Fin (n + 1) → Fin (n + 1) → Bool := fun a b => decide (K b.val < K a.val ∨ (K a.val = K b.val ∧ a.val < b.val))
theorem swoB (K : Nat → Int) (n : Nat) : Go.Sort.SWO (ltB K n) := by
  constructor
  · intro x; simp [ltB]
  · intro x y z h1 h2
    simp only [ltB, decide_eq_true_eq] at h1 h2 ⊢
    omega
  · intro x y z h1 h2
    simp only [ltB, decide_eq_false_iff_not] at h1 h2 ⊢
    omega
theorem lt_same (K : Nat → Int) {n : Nat} {a b : Fin (n + 1)} (h : b.val < a.val) : ltA K n a b = ltB K n a b := by
  unfold ltA ltB
  exact decide_eq_decide.2 ⟨Or.inl, fun h' => h'.elim id fun h'' => absurd h''.2 (by omega)⟩
theorem inner_eq (K : Nat → Int) (n a : Nat) : ∀ (j : Nat) (d : Array (Fin (n + 1))), j < d.size → (∀ k, k < j → (d[k]!).val < (d[j]!).val) → Go.Sort.insInner (ltA K n) a j d = Go.Sort.insInner (ltB K n) a j d
  | 0, d, _, _ => by unfold Go.Sort.insInner; rfl
  | j + 1, d, hj, h => by
    have e := lt_same K (h j (by omega))
    unfold Go.Sort.insInner
    rw [e]
    by_cases c : (decide (j + 1 > a) && ltB K n d[j + 1]! d[j]!) = true
    · rw [if_pos c, if_pos c]
      refine inner_eq K n a j _ (by rw [Go.Sort.swp_size]; omega) fun k hk => ?_
      rw [Go.Sort.swp_get d hj (by omega), Go.Sort.swp_get d hj (by omega), if_neg (by omega), if_neg (by omega), if_pos rfl]
      exact h k (by omega)
    · rw [if_neg c, if_neg c]
theorem inner_keep {n : Nat} (lt : Fin (n + 1) → Fin (n + 1) → Bool) (a : Nat) (P : Fin (n + 1) → Prop) : ∀ (j : Nat) (d : Array (Fin (n + 1))), j < d.size → (∀ k, k ≤ j → P d[k]!) → (∀ k, k ≤ j → P (Go.Sort.insInner lt a j d)[k]!) ∧ ∀ k, j < k → (Go.Sort.insInner lt a j d)[k]! = d[k]!
  | 0, d, _, h => by unfold Go.Sort.insInner; exact ⟨h, fun _ _ => rfl⟩
  | j + 1, d, hj, h => by
    unfold Go.Sort.insInner
    by_cases c : (decide (j + 1 > a) && lt d[j + 1]! d[j]!) = true
    · rw [if_pos c]
      have g := Go.Sort.swp_get d hj (show j < d.size by omega)
      obtain ⟨i1, i2⟩ := inner_keep lt a P j (Go.Sort.swp d (j + 1) j) (by rw [Go.Sort.swp_size]; omega) (fun k hk => by
        rw [g]
        by_cases e : k = j
        · rw [if_pos e]; exact h _ (by omega)
        · rw [if_neg e, if_neg (by omega)]; exact h _ (by omega))
      refine ⟨fun k hk => ?_, fun k hk => ?_⟩
      · by_cases e : k ≤ j
        · exact i1 k e
        · rw [i2 k (by omega), g, if_neg (by omega), if_pos (by omega)]
          exact h _ (by omega)
      · rw [i2 k (by omega), g, if_neg (by omega), if_neg (by omega)]
    · rw [if_neg c]
      exact ⟨h, fun _ _ => rfl⟩
theorem outer_eq (K : Nat → Int) (n b : Nat) : ∀ (m i : Nat) (d : Array (Fin (n + 1))), b - i = m → b ≤ d.size → (∀ k, k < i → (d[k]!).val < i) → (∀ k, i ≤ k → k < b → (d[k]!).val = k) → Go.Sort.insOuter (ltA K n) 0 b i d = Go.Sort.insOuter (ltB K n) 0 b i d
  | 0, i, d, hm, hb, h1, h2 => by rw [Go.Sort.insOuter, if_neg (by omega), Go.Sort.insOuter, if_neg (by omega)]
  | m + 1, i, d, hm, hb, h1, h2 => by
    have hi : i < b := by omega
    have e := inner_eq K n 0 i d (by omega) fun k hk => by have := h1 k hk; have := h2 i (by omega) hi; omega
    have go : ∀ (lt : Fin (n + 1) → Fin (n + 1) → Bool), Go.Sort.insOuter lt 0 b i d = Go.Sort.insOuter lt 0 b (i + 1) (Go.Sort.insInner lt 0 i d) := fun lt => by rw [Go.Sort.insOuter, if_pos hi]
    rw [go, go, e]
    obtain ⟨i1, i2⟩ := inner_keep (ltB K n) 0 (fun x => x.val < i + 1) i d (by omega) (fun k hk => by
      rcases Nat.lt_or_ge k i with c | c
      · have := h1 k c; omega
      · have := h2 k c (by omega); omega)
    refine outer_eq K n b m (i + 1) _ (by omega) (by rw [insInner_size]; exact hb) (fun k hk => i1 k (by omega)) fun k hk hkb => ?_
    rw [i2 k (by omega)]
    exact h2 k (by omega) hkb
/-- The whole numbers below m, one by one. -/
def upto (f : Nat → Int) (m : Nat) : List Int := (List.range m).map f
theorem upto_len (f : Nat → Int) (m : Nat) : (upto f m).length = m := by simp [upto]
theorem upto_succ (f : Nat → Int) (m : Nat) : upto f (m + 1) = upto f m ++ [f m] := by simp [upto, List.range_succ]
theorem upto_at (f : Nat → Int) {m i : Nat} (h : i < m) : rd (upto f m) (i : Int) = f i := by
  unfold rd upto
  rw [Int.toNat_natCast]
  simp [List.getD, h]
def ids (m : Nat) : List Int := upto (fun j => (j : Int)) m
theorem fin_at (n k : Nat) (h : k < n + 1) : ((shFin n (ids (n + 1)))[k]!).val = k := by
  have e := shFin_at (n := n) (xs := ids (n + 1)) k (by rw [ids, upto_len]; exact h)
  have e1 : (ids (n + 1)).getD k 0 = (k : Int) := by
    have := upto_at (fun j => (j : Int)) h
    unfold rd at this
    rwa [Int.toNat_natCast] at this
  rw [e1] at e
  have := e (by omega) (by omega)
  omega
/-- The indices as sorted. -/
def ord (K : Nat → Int) (n : Nat) : List Nat := (Go.Sort.insertionSort (ltA K n) (shFin n (ids (n + 1))) 0 (n + 1)).toList.map fun a => a.val
theorem ids_fin (n : Nat) : (shFin n (ids (n + 1))).toList.map (fun a => a.val) = List.range (n + 1) := by
  have hs : (shFin n (ids (n + 1))).size = n + 1 := by rw [shFin_size, ids, upto_len]
  apply List.ext_getElem
  · simp [hs]
  · intro i h1 h2
    have hi : i < n + 1 := by simpa using h2
    have := fin_at n i hi
    rw [getElem!_pos _ i (by rw [hs]; exact hi)] at this
    simp [this]
theorem ord_holds (K : Nat → Int) (n : Nat) : (ord K n).Perm (List.range (n + 1)) ∧ ∀ i j (hj : j < (ord K n).length), (hij : i < j) → K (ord K n)[j] < K ((ord K n)[i]'(by omega)) ∨ (K (ord K n)[j] = K ((ord K n)[i]'(by omega)) ∧ (ord K n)[i]'(by omega) < (ord K n)[j]) := by
  have hs : (shFin n (ids (n + 1))).size = n + 1 := by rw [shFin_size, ids, upto_len]
  have e : Go.Sort.insertionSort (ltA K n) (shFin n (ids (n + 1))) 0 (n + 1) = Go.Sort.insertionSort (ltB K n) (shFin n (ids (n + 1))) 0 (n + 1) := by
    unfold Go.Sort.insertionSort
    refine outer_eq K n (n + 1) _ (0 + 1) _ rfl (by rw [hs]; omega) (fun k hk => ?_) (fun k hk hk2 => fin_at n k hk2)
    obtain rfl : k = 0 := by omega
    rw [fin_at n 0 (by omega)]; omega
  obtain ⟨⟨p1, p2, p3⟩, so⟩ := Go.Sort.insertionSort_holds (lt := ltB K n) (swoB K n) (shFin n (ids (n + 1))) 0 (n + 1) (by omega) (by rw [hs]; omega)
  have hz : (Go.Sort.insertionSort (ltB K n) (shFin n (ids (n + 1))) 0 (n + 1)).size = n + 1 := by rw [p1, hs]
  have hp : (ord K n).Perm (List.range (n + 1)) := by
    unfold ord
    rw [e, ← ids_fin n]
    refine List.Perm.map _ ?_
    have ex : ∀ (a : Array (Fin (n + 1))) (q : Nat), a.size = q → a.extract 0 q = a := fun a q h => by subst h; exact Array.extract_size
    rw [ex _ _ hz, ex _ _ hs] at p3
    exact p3
  refine ⟨hp, fun i j hj hij => ?_⟩
  have hn : (ord K n).Nodup := (List.Perm.nodup_iff hp).2 List.nodup_range
  have hl : (ord K n).length = n + 1 := by rw [hp.length_eq, List.length_range]
  have at_ : ∀ q (hq : q < (ord K n).length), (ord K n)[q] = ((Go.Sort.insertionSort (ltB K n) (shFin n (ids (n + 1))) 0 (n + 1))[q]!).val := by
    intro q hq
    rw [getElem!_pos _ q (by rw [hz]; omega)]
    simp only [ord, e, List.getElem_map, Array.getElem_toList]
  have h := so i j (by omega) hij (by omega)
  have hne : (ord K n)[i]'(by omega) ≠ (ord K n)[j] := List.pairwise_iff_getElem.1 hn i j (by omega) hj hij
  simp only [ltB, decide_eq_false_iff_not] at h
  rw [← at_ i (by omega), ← at_ j hj] at h
  omega
end Go.Proofs.Ytppfdndnojbmjaa.PSort
