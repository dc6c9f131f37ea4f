/- The plain law of CloseLoop: both take from the rises of a loop their shares of its closing error, or tell the same fault; what came in is left as it is, and the answer shares nothing with it. For all rows of at most 1048576 elements (the law says nothing of longer ones). -/
import Derived.Test.YtppfdndnojbmjaaZFnExactCloseLoop0
import Derived.Test.YtppfdndnojbmjaaZFnExactCloseLoop1
import Derived.Test.YtppfdndnojbmjaaZFnExactCloseLoop2
import Derived.Test.YtppfdndnojbmjaaZFnExactCloseLoop3
import Derived.Deep.Slices
import Derived.ChangeArms
import Derived.ProofKit
import Derived.OpenShut
import Derived.Test.YtppfdndnojbmjaaRows
import Derived.WalkKit
import Derived.ShutString
import Derived.ChangeOld
import Derived.Below
import Derived.SizedLaws
set_option linter.unusedVariables false
set_option linter.unusedSimpArgs false

/-! ## XLawsFnExactCloseLoop -/
namespace Go.Proofs.Ytppfdndnojbmjaa.X
open Go.RowKit Go.Proofs.Ytppfdndnojbmjaa.XV Go.Proofs.YtppfdndnojbmjaaW.PrintWords Go.Proofs.YtppfdndnojbmjaaW.PrintLast Go.Proofs.YtppfdndnojbmjaaW.PrintMore
attribute [local go_sem] max2_int min2_int max_two min_two max_three min_three max_four min_four

/-! ### laws_FnExactCloseLoop: function 9 -/
mutual
def laws_FnExactCloseLoop.j0 : Nat → Int → List (S60) → List Int → List Int → Int → List (S51) → List Int → List Int → Int → Bool → Option (Bool)
 | 0, _, _, _, _, _, _, _, _, _, _ => none
 | k + 1, x0, x1, x2, x8, x9, x10, x11, x12, x13, x55 => if x55 = true then (some false) else ((laws_toLineS.f k x1).bind fun t467 => ((laws_eqLineS.f k x10 t467).bind fun t470 => (if t470 = true then ((laws_toInt64S.f k x2).bind fun t471 => ((laws_eqInt64S.f k x11 t471).bind fun t474 => (if t474 = true then ((laws_markLineS.f k x10 1).bind fun bt475 => ((laws_markInt64S.f k x11 bt475.1).bind fun bt477 => (if bt477.1 < 0 then (some false) else ((laws_eqInt64S.f k x12 x8).bind fun t479 => (if t479 = true then (laws_FnExactCloseLoop.j1 k x0 x1 x2 x8 x9 x12 (x13 != x9)) else (some false)))))) else (some false)))) else (some false))))
def laws_FnExactCloseLoop.j1 : Nat → Int → List (S60) → List Int → List Int → Int → List Int → Bool → Option (Bool)
 | 0, _, _, _, _, _, _, _ => none
 | k + 1, x0, x1, x2, x8, x9, x12, x84 => if x84 = true then (some false) else ((laws_markInt64S.f k x12 1).bind fun bt480 => ((laws_heldInt64S.f k bt480.2 1).bind fun t482 => (if t482 < 0 then (some false) else (if t482 = bt480.1 then ((laws_toLineS.f k x1).bind fun t483 => ((laws_toInt64S.f k x2).bind fun t486 => ((impl_CloseLoop.f k x0 t483 t486).bind fun bt489 => ((laws_eqInt64S.f k bt489.1 x8).bind fun t493 => (if t493 = true then (laws_FnExactCloseLoop.j2 k bt480.2 bt480.1 (bt489.2 != x9)) else (some false)))))) else (some false)))))
def laws_FnExactCloseLoop.j2 : Nat → List Int → Int → Bool → Option (Bool)
 | 0, _, _, _ => none
 | k + 1, x12, x15, x113 => if x113 = true then (some false) else ((laws_heldInt64S.f k x12 1).bind fun t494 => (if t494 < 0 then (some false) else (if t494 = x15 then (some true) else (some false))))
end
def laws_FnExactCloseLoop.f (k : Nat) (a0 : Int) (l1 : List (S60)) (l2 : List Int) : Option (Bool) := if (l2.length : Int) > 1048576 then (some true) else ((laws_szLineS.f l1 1048576).bind fun t445 => (if t445 < 0 then (some true) else ((laws_toLineS.f k l1).bind fun t446 => ((laws_toInt64S.f k l2).bind fun t449 => ((spec_CloseLoop.f k a0 t446 t449).bind fun bt452 => ((laws_toLineS.f k l1).bind fun t456 => ((laws_toInt64S.f k l2).bind fun t459 => ((impl_CloseLoop.f k a0 t456 t459).bind fun bt462 => ((laws_eqInt64S.f k bt462.1 bt452.1).bind fun t466 => (if t466 = true then (laws_FnExactCloseLoop.j0 k a0 l1 l2 bt452.1 bt452.2 t456 t459 bt462.1 bt462.2 (bt462.2 != bt452.2)) else (some false)))))))))))
theorem laws_FnExactCloseLoop.mono_l : ∀ k, (∀ y0 y1 y2 y3 y4 y5 y6 y7 y8 y9, LeO (laws_FnExactCloseLoop.j0 k y0 y1 y2 y3 y4 y5 y6 y7 y8 y9) (laws_FnExactCloseLoop.j0 (k + 1) y0 y1 y2 y3 y4 y5 y6 y7 y8 y9)) ∧ (∀ y0 y1 y2 y3 y4 y5 y6, LeO (laws_FnExactCloseLoop.j1 k y0 y1 y2 y3 y4 y5 y6) (laws_FnExactCloseLoop.j1 (k + 1) y0 y1 y2 y3 y4 y5 y6)) ∧ (∀ y0 y1 y2, LeO (laws_FnExactCloseLoop.j2 k y0 y1 y2) (laws_FnExactCloseLoop.j2 (k + 1) y0 y1 y2))
 | 0 => ⟨fun _ _ _ _ _ _ _ _ _ _ r h => by simp [laws_FnExactCloseLoop.j0] at h, fun _ _ _ _ _ _ _ r h => by simp [laws_FnExactCloseLoop.j1] at h, fun _ _ _ r h => by simp [laws_FnExactCloseLoop.j2] at h⟩
 | k + 1 => by
  obtain ⟨ih0, ih1, ih2⟩ := laws_FnExactCloseLoop.mono_l k
  refine ⟨?_, ?_, ?_⟩
  ·intro y0 y1 y2 y3 y4 y5 y6 y7 y8 y9
   unfold laws_FnExactCloseLoop.j0
   repeat' first
   | (with_reducible exact ih0 _ _ _ _ _ _ _ _ _ _)
   | (with_reducible exact ih1 _ _ _ _ _ _ _)
   | (with_reducible exact ih2 _ _ _)
   | (with_reducible exact impl_CloseLoop.mono _ _ _ _)
   | (with_reducible exact laws_eqInt64S.mono _ _ _)
   | (with_reducible exact laws_eqLineS.mono _ _ _)
   | (with_reducible exact laws_heldInt64S.mono _ _ _)
   | (with_reducible exact laws_markInt64S.mono _ _ _)
   | (with_reducible exact laws_markLineS.mono _ _ _)
   | (with_reducible exact laws_toInt64S.mono _ _)
   | (with_reducible exact laws_toLineS.mono _ _)
   | (with_reducible exact spec_CloseLoop.mono _ _ _ _)
   | (with_reducible exact LeO.refl _)
   | (with_reducible exact LeO.none _)
   | (with_reducible refine LeO.ite ?_ ?_)
   | (with_reducible refine LeO.bind ?_ (fun _ => ?_))
   | exact ih0 _ _ _ _ _ _ _ _ _ _
   | exact ih1 _ _ _ _ _ _ _
   | exact ih2 _ _ _
   | exact impl_CloseLoop.mono _ _ _ _
   | exact laws_eqInt64S.mono _ _ _
   | exact laws_eqLineS.mono _ _ _
   | exact laws_heldInt64S.mono _ _ _
   | exact laws_markInt64S.mono _ _ _
   | exact laws_markLineS.mono _ _ _
   | exact laws_toInt64S.mono _ _
   | exact laws_toLineS.mono _ _
   | exact spec_CloseLoop.mono _ _ _ _
   | exact LeO.none _
   | refine LeO.ite ?_ ?_
   | refine LeO.bind ?_ (fun _ => ?_)
  ·intro y0 y1 y2 y3 y4 y5 y6
   unfold laws_FnExactCloseLoop.j1
   repeat' first
   | (with_reducible exact ih0 _ _ _ _ _ _ _ _ _ _)
   | (with_reducible exact ih1 _ _ _ _ _ _ _)
   | (with_reducible exact ih2 _ _ _)
   | (with_reducible exact impl_CloseLoop.mono _ _ _ _)
   | (with_reducible exact laws_eqInt64S.mono _ _ _)
   | (with_reducible exact laws_eqLineS.mono _ _ _)
   | (with_reducible exact laws_heldInt64S.mono _ _ _)
   | (with_reducible exact laws_markInt64S.mono _ _ _)
   | (with_reducible exact laws_markLineS.mono _ _ _)
   | (with_reducible exact laws_toInt64S.mono _ _)
   | (with_reducible exact laws_toLineS.mono _ _)
   | (with_reducible exact spec_CloseLoop.mono _ _ _ _)
   | (with_reducible exact LeO.refl _)
   | (with_reducible exact LeO.none _)
   | (with_reducible refine LeO.ite ?_ ?_)
   | (with_reducible refine LeO.bind ?_ (fun _ => ?_))
   | exact ih0 _ _ _ _ _ _ _ _ _ _
   | exact ih1 _ _ _ _ _ _ _
   | exact ih2 _ _ _
   | exact impl_CloseLoop.mono _ _ _ _
   | exact laws_eqInt64S.mono _ _ _
   | exact laws_eqLineS.mono _ _ _
   | exact laws_heldInt64S.mono _ _ _
   | exact laws_markInt64S.mono _ _ _
   | exact laws_markLineS.mono _ _ _
   | exact laws_toInt64S.mono _ _
   | exact laws_toLineS.mono _ _
   | exact spec_CloseLoop.mono _ _ _ _
   | exact LeO.none _
   | refine LeO.ite ?_ ?_
   | refine LeO.bind ?_ (fun _ => ?_)
  ·intro y0 y1 y2
   unfold laws_FnExactCloseLoop.j2
   repeat' first
   | (with_reducible exact ih0 _ _ _ _ _ _ _ _ _ _)
   | (with_reducible exact ih1 _ _ _ _ _ _ _)
   | (with_reducible exact ih2 _ _ _)
   | (with_reducible exact impl_CloseLoop.mono _ _ _ _)
   | (with_reducible exact laws_eqInt64S.mono _ _ _)
   | (with_reducible exact laws_eqLineS.mono _ _ _)
   | (with_reducible exact laws_heldInt64S.mono _ _ _)
   | (with_reducible exact laws_markInt64S.mono _ _ _)
   | (with_reducible exact laws_markLineS.mono _ _ _)
   | (with_reducible exact laws_toInt64S.mono _ _)
   | (with_reducible exact laws_toLineS.mono _ _)
   | (with_reducible exact spec_CloseLoop.mono _ _ _ _)
   | (with_reducible exact LeO.refl _)
   | (with_reducible exact LeO.none _)
   | (with_reducible refine LeO.ite ?_ ?_)
   | (with_reducible refine LeO.bind ?_ (fun _ => ?_))
   | exact ih0 _ _ _ _ _ _ _ _ _ _
   | exact ih1 _ _ _ _ _ _ _
   | exact ih2 _ _ _
   | exact impl_CloseLoop.mono _ _ _ _
   | exact laws_eqInt64S.mono _ _ _
   | exact laws_eqLineS.mono _ _ _
   | exact laws_heldInt64S.mono _ _ _
   | exact laws_markInt64S.mono _ _ _
   | exact laws_markLineS.mono _ _ _
   | exact laws_toInt64S.mono _ _
   | exact laws_toLineS.mono _ _
   | exact spec_CloseLoop.mono _ _ _ _
   | exact LeO.none _
   | refine LeO.ite ?_ ?_
   | refine LeO.bind ?_ (fun _ => ?_)
theorem laws_FnExactCloseLoop.mono : ∀ a0 a1 a2 k, LeO (laws_FnExactCloseLoop.f k a0 a1 a2) (laws_FnExactCloseLoop.f (k + 1) a0 a1 a2) := by
 intro a0 a1 a2 k
 obtain ⟨ih0, ih1, ih2⟩ := laws_FnExactCloseLoop.mono_l k
 unfold laws_FnExactCloseLoop.f
 repeat' first
   | (with_reducible exact ih0 _ _ _ _ _ _ _ _ _ _)
   | (with_reducible exact ih1 _ _ _ _ _ _ _)
   | (with_reducible exact ih2 _ _ _)
   | (with_reducible exact impl_CloseLoop.mono _ _ _ _)
   | (with_reducible exact laws_eqInt64S.mono _ _ _)
   | (with_reducible exact laws_eqLineS.mono _ _ _)
   | (with_reducible exact laws_heldInt64S.mono _ _ _)
   | (with_reducible exact laws_markInt64S.mono _ _ _)
   | (with_reducible exact laws_markLineS.mono _ _ _)
   | (with_reducible exact laws_toInt64S.mono _ _)
   | (with_reducible exact laws_toLineS.mono _ _)
   | (with_reducible exact spec_CloseLoop.mono _ _ _ _)
   | (with_reducible exact LeO.refl _)
   | (with_reducible exact LeO.none _)
   | (with_reducible refine LeO.ite ?_ ?_)
   | (with_reducible refine LeO.bind ?_ (fun _ => ?_))
   | exact ih0 _ _ _ _ _ _ _ _ _ _
   | exact ih1 _ _ _ _ _ _ _
   | exact ih2 _ _ _
   | exact impl_CloseLoop.mono _ _ _ _
   | exact laws_eqInt64S.mono _ _ _
   | exact laws_eqLineS.mono _ _ _
   | exact laws_heldInt64S.mono _ _ _
   | exact laws_markInt64S.mono _ _ _
   | exact laws_markLineS.mono _ _ _
   | exact laws_toInt64S.mono _ _
   | exact laws_toLineS.mono _ _
   | exact spec_CloseLoop.mono _ _ _ _
   | exact LeO.none _
   | refine LeO.ite ?_ ?_
   | refine LeO.bind ?_ (fun _ => ?_)
set_option maxHeartbeats 8000000 in
set_option maxRecDepth 100000 in
theorem laws_FnExactCloseLoop.calls (k : Nat) (a0 : Int) (A1 : Option Addr) (c1 : Nat) (l1 : List (S60)) (A2 : Option Addr) (c2 : Nat) (l2 : List Int) (r : Bool) (w : World) (hr1 : Kd.C k60 w A1 l1.length l1) (hc1 : l1.length ≤ c1) (hr2 : Kd.C (Kd.int .i64) w A2 l2.length l2) (hc2 : l2.length ≤ c2) (hr_ : Aside0 (r = true)) (h : laws_FnExactCloseLoop.f k a0 l1 l2 = some r) :
  Calls Try.prog 9 #[.int .i64 a0, .slice A1 l1.length c1, .slice A2 l2.length c2] w fun e w' => e = .returned (.bool r) ∧ Below w.heap.size w w' := by
 have HR1 := Aside0.mk hr1
 have HC1 := Aside0.mk hc1
 clear hr1 hc1
 have HR2 := Aside0.mk hr2
 have HC2 := Aside0.mk hc2
 clear hr2 hc2
 have HB := Aside0.mk (Below.refl w.heap.size w)
 have H : (if (l2.length : Int) > 1048576 then (some true) else ((laws_szLineS.f l1 1048576).bind fun t445 => (if t445 < 0 then (some true) else ((laws_toLineS.f k l1).bind fun t446 => ((laws_toInt64S.f k l2).bind fun t449 => ((spec_CloseLoop.f k a0 t446 t449).bind fun bt452 => ((laws_toLineS.f k l1).bind fun t456 => ((laws_toInt64S.f k l2).bind fun t459 => ((impl_CloseLoop.f k a0 t456 t459).bind fun bt462 => ((laws_eqInt64S.f k bt462.1 bt452.1).bind fun t466 => (if t466 = true then (laws_FnExactCloseLoop.j0 k a0 l1 l2 bt452.1 bt452.2 t456 t459 bt462.1 bt462.2 (bt462.2 != bt452.2)) else (some false)))))))))))) = some r := h
 clear h
 by_cases c4 : (l2.length : Int) > 1048576
 ·rw [if_pos c4] at H
  have c4b0 : decide (1048576 < (l2.length : Int)) = true := decide_eq_true c4
  have c4b1 : decide (1048576 < l2.length) = true := decide_eq_true (by omega)
  clear c4
  obtain rfl := Option.some.inj H
  go_enter Try.func9, Try.ntmps9
  go_wp2
  go_ret
  exact ⟨by first | rfl | (simp [errW_none, errW_some] <;> rfl) | (simp [*, errW_none, errW_some] <;> rfl), by repeat (first | (with_reducible first | exact HB.out | apply below_alloc | apply pw_below_drewN | apply below_drew1) | exact HB.out)⟩
 ·rw [if_neg c4] at H
  have c4b0 : decide (1048576 < (l2.length : Int)) = false := decide_eq_false c4
  have c4b1 : decide (1048576 < l2.length) = false := decide_eq_false (by omega)
  clear c4
  replace H := Option.bind_eq_some_iff.mp H
  obtain ⟨t445, A50, H⟩ := H
  replace H : (if t445 < 0 then (some true) else ((laws_toLineS.f k l1).bind fun t446 => ((laws_toInt64S.f k l2).bind fun t449 => ((spec_CloseLoop.f k a0 t446 t449).bind fun bt452 => ((laws_toLineS.f k l1).bind fun t456 => ((laws_toInt64S.f k l2).bind fun t459 => ((impl_CloseLoop.f k a0 t456 t459).bind fun bt462 => ((laws_eqInt64S.f k bt462.1 bt452.1).bind fun t466 => (if t466 = true then (laws_FnExactCloseLoop.j0 k a0 l1 l2 bt452.1 bt452.2 t456 t459 bt462.1 bt462.2 (bt462.2 != bt452.2)) else (some false)))))))))) = some r := H
  have A5 := Aside0.mk A50
  clear A50
  by_cases c6 : t445 < 0
  ·rw [if_pos c6] at H
   have c6b0 : decide (t445 < 0) = true := decide_eq_true c6
   clear c6
   obtain rfl := Option.some.inj H
   go_enter Try.func9, Try.ntmps9
   go_wp2_with (first | ((with_reducible refine gate_callee (f := 11) rfl ?_); refine goesL_ (some 24) rfl rfl Try.func11 (by kernel_rfl) rfl #[.slice A1 l1.length c1, .int .i64 1048576] rfl (by (try simp only [List.map_toArray, List.map_cons, List.map_nil]); first | done | rfl | (simp only [List.length_drop, List.length_take]; rfl)) ?_; (with_reducible refine (laws_szLineS.calls _ _ l1 1048576 t445 _ ?side1 ?side2 A5.out).mono ?_); (case side1 => repeat (first | exact HR1.out | (with_reducible refine Kd.C_alloc ?_ _) | (with_reducible refine Kd.C_drewN ?_ _) | (with_reducible refine Kd.C_drew ?_))); (case side2 => exact HC1.out); rintro e w' ⟨rfl, ⟨nd, rfl⟩⟩; refine ⟨_, rfl, ?_⟩))
   go_ret
   exact ⟨by first | rfl | (simp [errW_none, errW_some] <;> rfl) | (simp [*, errW_none, errW_some] <;> rfl), by repeat (first | (with_reducible first | exact HB.out | apply below_alloc | apply pw_below_drewN | apply below_drew1) | exact HB.out)⟩
  ·rw [if_neg c6] at H
   have c6b0 : decide (t445 < 0) = false := decide_eq_false c6
   clear c6
   replace H := Option.bind_eq_some_iff.mp H
   obtain ⟨t446, A70, H⟩ := H
   replace H : ((laws_toInt64S.f k l2).bind fun t449 => ((spec_CloseLoop.f k a0 t446 t449).bind fun bt452 => ((laws_toLineS.f k l1).bind fun t456 => ((laws_toInt64S.f k l2).bind fun t459 => ((impl_CloseLoop.f k a0 t456 t459).bind fun bt462 => ((laws_eqInt64S.f k bt462.1 bt452.1).bind fun t466 => (if t466 = true then (laws_FnExactCloseLoop.j0 k a0 l1 l2 bt452.1 bt452.2 t456 t459 bt462.1 bt462.2 (bt462.2 != bt452.2)) else (some false)))))))) = some r := H
   have A7 := Aside0.mk A70
   clear A70
   replace H := Option.bind_eq_some_iff.mp H
   obtain ⟨t449, A80, H⟩ := H
   replace H : ((spec_CloseLoop.f k a0 t446 t449).bind fun bt452 => ((laws_toLineS.f k l1).bind fun t456 => ((laws_toInt64S.f k l2).bind fun t459 => ((impl_CloseLoop.f k a0 t456 t459).bind fun bt462 => ((laws_eqInt64S.f k bt462.1 bt452.1).bind fun t466 => (if t466 = true then (laws_FnExactCloseLoop.j0 k a0 l1 l2 bt452.1 bt452.2 t456 t459 bt462.1 bt462.2 (bt462.2 != bt452.2)) else (some false))))))) = some r := H
   have A8 := Aside0.mk A80
   clear A80
   replace H := Option.bind_eq_some_iff.mp H
   obtain ⟨⟨t452, t453⟩, A90, H⟩ := H
   replace H : ((laws_toLineS.f k l1).bind fun t456 => ((laws_toInt64S.f k l2).bind fun t459 => ((impl_CloseLoop.f k a0 t456 t459).bind fun bt462 => ((laws_eqInt64S.f k bt462.1 t452).bind fun t466 => (if t466 = true then (laws_FnExactCloseLoop.j0 k a0 l1 l2 t452 t453 t456 t459 bt462.1 bt462.2 (bt462.2 != t453)) else (some false)))))) = some r := H
   have A9 := Aside0.mk A90
   clear A90
   replace H := Option.bind_eq_some_iff.mp H
   obtain ⟨t456, A100, H⟩ := H
   replace H : ((laws_toInt64S.f k l2).bind fun t459 => ((impl_CloseLoop.f k a0 t456 t459).bind fun bt462 => ((laws_eqInt64S.f k bt462.1 t452).bind fun t466 => (if t466 = true then (laws_FnExactCloseLoop.j0 k a0 l1 l2 t452 t453 t456 t459 bt462.1 bt462.2 (bt462.2 != t453)) else (some false))))) = some r := H
   have A10 := Aside0.mk A100
   clear A100
   replace H := Option.bind_eq_some_iff.mp H
   obtain ⟨t459, A110, H⟩ := H
   replace H : ((impl_CloseLoop.f k a0 t456 t459).bind fun bt462 => ((laws_eqInt64S.f k bt462.1 t452).bind fun t466 => (if t466 = true then (laws_FnExactCloseLoop.j0 k a0 l1 l2 t452 t453 t456 t459 bt462.1 bt462.2 (bt462.2 != t453)) else (some false)))) = some r := H
   have A11 := Aside0.mk A110
   clear A110
   replace H := Option.bind_eq_some_iff.mp H
   obtain ⟨⟨t462, t463⟩, A120, H⟩ := H
   replace H : ((laws_eqInt64S.f k t462 t452).bind fun t466 => (if t466 = true then (laws_FnExactCloseLoop.j0 k a0 l1 l2 t452 t453 t456 t459 t462 t463 (t463 != t453)) else (some false))) = some r := H
   have A12 := Aside0.mk A120
   clear A120
   have HC13 := Aside0.mk H
   clear H
   go_enter Try.func9, Try.ntmps9
   go_upto_region 11 with (first | ((with_reducible refine gate_callee (f := 11) rfl ?_); refine goesL_ (some 24) rfl rfl Try.func11 (by kernel_rfl) rfl #[.slice A1 l1.length c1, .int .i64 1048576] rfl (by (try simp only [List.map_toArray, List.map_cons, List.map_nil]); first | done | rfl | (simp only [List.length_drop, List.length_take]; rfl)) ?_; (with_reducible refine (laws_szLineS.calls _ _ l1 1048576 t445 _ ?side1 ?side2 A5.out).mono ?_); (case side1 => repeat (first | exact HR1.out | (with_reducible refine Kd.C_alloc ?_ _) | (with_reducible refine Kd.C_drewN ?_ _) | (with_reducible refine Kd.C_drew ?_))); (case side2 => exact HC1.out); rintro e w' ⟨rfl, ⟨nd, rfl⟩⟩; refine ⟨_, rfl, ?_⟩) | ((with_reducible refine gate_callee (f := 13) rfl ?_); refine goesL_ (some 30) rfl rfl Try.func13 (by kernel_rfl) rfl #[.slice A1 l1.length c1] rfl (by (try simp only [List.map_toArray, List.map_cons, List.map_nil]); first | done | rfl | (simp only [List.length_drop, List.length_take]; rfl)) ?_; (with_reducible refine (laws_toLineS.calls k _ _ l1 t446 _ ?side1 ?side2 A7.out).mono ?_); (case side1 => repeat (first | exact HR1.out | (with_reducible refine Kd.C_alloc ?_ _) | (with_reducible refine Kd.C_drewN ?_ _) | (with_reducible refine Kd.C_drew ?_))); (case side2 => exact HC1.out); rintro e w14 ⟨v447, rfl, ho0, hb⟩; refine ⟨_, rfl, ?_⟩; have n0_ := Aside0.mk (Kd.R_lower ho0 (below_size (by repeat (first | (with_reducible first | exact HB.out | apply below_alloc | apply pw_below_drewN | apply below_drew1) | exact HB.out)))); have n1_ := Aside0.mk (below_step (by repeat (first | (with_reducible first | exact HB.out | apply below_alloc | apply pw_below_drewN | apply below_drew1) | exact HB.out)) hb); clear HB; have HO448 := n0_; have HB := n1_; clear n0_ n1_; (try clear hb); (try clear hb2); (try clear hk); (try clear hi); (try clear ho0)) | ((with_reducible refine gate_callee (f := 25) rfl ?_); refine goesL_ (some 32) rfl rfl Try.func25 (by kernel_rfl) rfl #[.slice A2 l2.length c2] rfl (by (try simp only [List.map_toArray, List.map_cons, List.map_nil]); first | done | rfl | (simp only [List.length_drop, List.length_take]; rfl)) ?_; (with_reducible refine (laws_toInt64S.calls k _ _ l2 t449 _ ?side1 ?side2 A8.out).mono ?_); (case side1 => repeat (first | exact (Kd.C_below HR2.out HB.out) | (with_reducible refine Kd.C_alloc ?_ _) | (with_reducible refine Kd.C_drewN ?_ _) | (with_reducible refine Kd.C_drew ?_))); (case side2 => exact HC2.out); rintro e w15 ⟨v450, rfl, ho0, hb⟩; refine ⟨_, rfl, ?_⟩; have n0_ := Aside0.mk (Kd.R_below (by (with_reducible repeat (first | apply Kd.R_alloc | apply Kd.R_drewN | apply Kd.R_drew)); exact HO448.out) hb); have n1_ := Aside0.mk (Kd.R_lower ho0 (below_size (by repeat (first | (with_reducible first | exact HB.out | apply below_alloc | apply pw_below_drewN | apply below_drew1) | exact HB.out)))); have n2_ := Aside0.mk (below_step (by repeat (first | (with_reducible first | exact HB.out | apply below_alloc | apply pw_below_drewN | apply below_drew1) | exact HB.out)) hb); clear HO448; clear HB; have HO448 := n0_; have HO451 := n1_; have HB := n2_; clear n0_ n1_ n2_; (try clear hb); (try clear hb2); (try clear hk); (try clear hi); (try clear ho0); obtain ⟨Ao16, co16, eo16⟩ := Kd.R_slice HO448.out; subst eo16; obtain ⟨Ao17, co17, eo17⟩ := Kd.R_slice HO451.out; subst eo17) | ((with_reducible refine gate_callee (f := 31) rfl ?_); refine goesL_ (some 33) rfl rfl Try.func31 (by kernel_rfl) rfl #[.int .i64 a0, .slice Ao16 t446.length co16, .slice Ao17 t449.length co17] rfl (by (try simp only [List.map_toArray, List.map_cons, List.map_nil]); first | done | rfl | (simp only [List.length_drop, List.length_take]; rfl)) ?_; (with_reducible refine (spec_CloseLoop.calls k a0 _ _ t446 _ _ t449 t452 t453 _ ?side1 ?side2 ?side3 ?side4 A9.out).mono ?_); (case side1 => repeat (first | exact (Kd.R_reads' HO448.out).2.2 | (with_reducible refine Kd.C_alloc ?_ _) | (with_reducible refine Kd.C_drewN ?_ _) | (with_reducible refine Kd.C_drew ?_))); (case side2 => exact (Kd.R_reads' HO448.out).2.1); (case side3 => repeat (first | exact (Kd.R_reads' HO451.out).2.2 | (with_reducible refine Kd.C_alloc ?_ _) | (with_reducible refine Kd.C_drewN ?_ _) | (with_reducible refine Kd.C_drew ?_))); (case side4 => exact (Kd.R_reads' HO451.out).2.1); rintro e w18 ⟨v454, rfl, ho0, hb⟩; refine ⟨_, rfl, ?_⟩; have n0_ := Aside0.mk (Kd.R_below (by (with_reducible repeat (first | apply Kd.R_alloc | apply Kd.R_drewN | apply Kd.R_drew)); exact HO448.out) hb); have n1_ := Aside0.mk (Kd.R_elder' (by (with_reducible repeat (first | apply Kd.R_alloc | apply Kd.R_drewN | apply Kd.R_drew)); exact HO451.out) (Kd.R_base ho0) hb); have n2_ := Aside0.mk (Kd.R_lower (Kd.R_new' ho0 (Kd.R_lt (by (with_reducible repeat (first | apply Kd.R_alloc | apply Kd.R_drewN | apply Kd.R_drew)); exact HO451.out))) (below_size (by repeat (first | (with_reducible first | exact HB.out | apply below_alloc | apply pw_below_drewN | apply below_drew1) | exact HB.out)))); have n3_ := Aside0.mk (below_step (by repeat (first | (with_reducible first | exact HB.out | apply below_alloc | apply pw_below_drewN | apply below_drew1) | exact HB.out)) hb); clear HO448; clear HO451; clear HB; have HO448 := n0_; have HO451 := n1_; have HO455 := n2_; have HB := n3_; clear n0_ n1_ n2_ n3_; (try clear hb); (try clear hb2); (try clear hk); (try clear hi); (try clear ho0)) | ((with_reducible refine gate_callee (f := 13) rfl ?_); refine goesL_ (some 37) rfl rfl Try.func13 (by kernel_rfl) rfl #[.slice A1 l1.length c1] rfl (by (try simp only [List.map_toArray, List.map_cons, List.map_nil]); first | done | rfl | (simp only [List.length_drop, List.length_take]; rfl)) ?_; (with_reducible refine (laws_toLineS.calls k _ _ l1 t456 _ ?side1 ?side2 A10.out).mono ?_); (case side1 => repeat (first | exact (Kd.C_below HR1.out HB.out) | (with_reducible refine Kd.C_alloc ?_ _) | (with_reducible refine Kd.C_drewN ?_ _) | (with_reducible refine Kd.C_drew ?_))); (case side2 => exact HC1.out); rintro e w19 ⟨v457, rfl, ho0, hb⟩; refine ⟨_, rfl, ?_⟩; have n0_ := Aside0.mk (Kd.R_elder' (by (with_reducible repeat (first | apply Kd.R_alloc | apply Kd.R_drewN | apply Kd.R_drew)); exact HO448.out) (Kd.R_base ho0) hb); have n1_ := Aside0.mk (Kd.R_below (by (with_reducible repeat (first | apply Kd.R_alloc | apply Kd.R_drewN | apply Kd.R_drew)); exact HO451.out) hb); have n2_ := Aside0.mk (Kd.R_below (by (with_reducible repeat (first | apply Kd.R_alloc | apply Kd.R_drewN | apply Kd.R_drew)); exact HO455.out) hb); have n3_ := Aside0.mk (Kd.R_lower (Kd.R_new' ho0 (Kd.R_lt (by (with_reducible repeat (first | apply Kd.R_alloc | apply Kd.R_drewN | apply Kd.R_drew)); exact HO448.out))) (below_size (by repeat (first | (with_reducible first | exact HB.out | apply below_alloc | apply pw_below_drewN | apply below_drew1) | exact HB.out)))); have n4_ := Aside0.mk (below_step (by repeat (first | (with_reducible first | exact HB.out | apply below_alloc | apply pw_below_drewN | apply below_drew1) | exact HB.out)) hb); clear HO448; clear HO451; clear HO455; clear HB; have HO448 := n0_; have HO451 := n1_; have HO455 := n2_; have HO458 := n3_; have HB := n4_; clear n0_ n1_ n2_ n3_ n4_; (try clear hb); (try clear hb2); (try clear hk); (try clear hi); (try clear ho0)) | ((with_reducible refine gate_callee (f := 25) rfl ?_); refine goesL_ (some 39) rfl rfl Try.func25 (by kernel_rfl) rfl #[.slice A2 l2.length c2] rfl (by (try simp only [List.map_toArray, List.map_cons, List.map_nil]); first | done | rfl | (simp only [List.length_drop, List.length_take]; rfl)) ?_; (with_reducible refine (laws_toInt64S.calls k _ _ l2 t459 _ ?side1 ?side2 A11.out).mono ?_); (case side1 => repeat (first | exact (Kd.C_below HR2.out HB.out) | (with_reducible refine Kd.C_alloc ?_ _) | (with_reducible refine Kd.C_drewN ?_ _) | (with_reducible refine Kd.C_drew ?_))); (case side2 => exact HC2.out); rintro e w20 ⟨v460, rfl, ho0, hb⟩; refine ⟨_, rfl, ?_⟩; have n0_ := Aside0.mk (Kd.R_below (by (with_reducible repeat (first | apply Kd.R_alloc | apply Kd.R_drewN | apply Kd.R_drew)); exact HO448.out) hb); have n1_ := Aside0.mk (Kd.R_elder' (by (with_reducible repeat (first | apply Kd.R_alloc | apply Kd.R_drewN | apply Kd.R_drew)); exact HO451.out) (Kd.R_base ho0) hb); have n2_ := Aside0.mk (Kd.R_elder' (by (with_reducible repeat (first | apply Kd.R_alloc | apply Kd.R_drewN | apply Kd.R_drew)); exact HO455.out) (Kd.R_base ho0) hb); have n3_ := Aside0.mk (Kd.R_below (by (with_reducible repeat (first | apply Kd.R_alloc | apply Kd.R_drewN | apply Kd.R_drew)); exact HO458.out) hb); have n4_ := Aside0.mk (Kd.R_lower (Kd.R_new' (Kd.R_new' ho0 (Kd.R_lt (by (with_reducible repeat (first | apply Kd.R_alloc | apply Kd.R_drewN | apply Kd.R_drew)); exact HO451.out))) (Kd.R_lt (by (with_reducible repeat (first | apply Kd.R_alloc | apply Kd.R_drewN | apply Kd.R_drew)); exact HO455.out))) (below_size (by repeat (first | (with_reducible first | exact HB.out | apply below_alloc | apply pw_below_drewN | apply below_drew1) | exact HB.out)))); have n5_ := Aside0.mk (below_step (by repeat (first | (with_reducible first | exact HB.out | apply below_alloc | apply pw_below_drewN | apply below_drew1) | exact HB.out)) hb); clear HO448; clear HO451; clear HO455; clear HO458; clear HB; have HO448 := n0_; have HO451 := n1_; have HO455 := n2_; have HO458 := n3_; have HO461 := n4_; have HB := n5_; clear n0_ n1_ n2_ n3_ n4_ n5_; (try clear hb); (try clear hb2); (try clear hk); (try clear hi); (try clear ho0); obtain ⟨Ao21, co21, eo21⟩ := Kd.R_slice HO458.out; subst eo21; obtain ⟨Ao22, co22, eo22⟩ := Kd.R_slice HO461.out; subst eo22) | ((with_reducible refine gate_callee (f := 32) rfl ?_); refine goesL_ (some 44) rfl rfl Try.func32 (by kernel_rfl) rfl #[.int .i64 a0, .slice Ao21 t456.length co21, .slice Ao22 t459.length co22] rfl (by (try simp only [List.map_toArray, List.map_cons, List.map_nil]); first | done | rfl | (simp only [List.length_drop, List.length_take]; rfl)) ?_; (with_reducible refine (impl_CloseLoop.calls k a0 _ _ t456 _ _ t459 t462 t463 _ ?side1 ?side2 ?side3 ?side4 A12.out).mono ?_); (case side1 => repeat (first | exact (Kd.R_reads' HO458.out).2.2 | (with_reducible refine Kd.C_alloc ?_ _) | (with_reducible refine Kd.C_drewN ?_ _) | (with_reducible refine Kd.C_drew ?_))); (case side2 => exact (Kd.R_reads' HO458.out).2.1); (case side3 => repeat (first | exact (Kd.R_reads' HO461.out).2.2 | (with_reducible refine Kd.C_alloc ?_ _) | (with_reducible refine Kd.C_drewN ?_ _) | (with_reducible refine Kd.C_drew ?_))); (case side4 => exact (Kd.R_reads' HO461.out).2.1); rintro e w23 ⟨v464, rfl, ho0, hb⟩; refine ⟨_, rfl, ?_⟩; have n0_ := Aside0.mk (Kd.R_below (by (with_reducible repeat (first | apply Kd.R_alloc | apply Kd.R_drewN | apply Kd.R_drew)); exact HO448.out) hb); have n1_ := Aside0.mk (Kd.R_elder' (by (with_reducible repeat (first | apply Kd.R_alloc | apply Kd.R_drewN | apply Kd.R_drew)); exact HO451.out) (Kd.R_base ho0) hb); have n2_ := Aside0.mk (Kd.R_elder' (by (with_reducible repeat (first | apply Kd.R_alloc | apply Kd.R_drewN | apply Kd.R_drew)); exact HO455.out) (Kd.R_base ho0) hb); have n3_ := Aside0.mk (Kd.R_below (by (with_reducible repeat (first | apply Kd.R_alloc | apply Kd.R_drewN | apply Kd.R_drew)); exact HO458.out) hb); have n4_ := Aside0.mk (Kd.R_elder' (by (with_reducible repeat (first | apply Kd.R_alloc | apply Kd.R_drewN | apply Kd.R_drew)); exact HO461.out) (Kd.R_base ho0) hb); have n5_ := Aside0.mk (Kd.R_lower (Kd.R_new' (Kd.R_new' (Kd.R_new' ho0 (Kd.R_lt (by (with_reducible repeat (first | apply Kd.R_alloc | apply Kd.R_drewN | apply Kd.R_drew)); exact HO451.out))) (Kd.R_lt (by (with_reducible repeat (first | apply Kd.R_alloc | apply Kd.R_drewN | apply Kd.R_drew)); exact HO455.out))) (Kd.R_lt (by (with_reducible repeat (first | apply Kd.R_alloc | apply Kd.R_drewN | apply Kd.R_drew)); exact HO461.out))) (below_size (by repeat (first | (with_reducible first | exact HB.out | apply below_alloc | apply pw_below_drewN | apply below_drew1) | exact HB.out)))); have n6_ := Aside0.mk (below_step (by repeat (first | (with_reducible first | exact HB.out | apply below_alloc | apply pw_below_drewN | apply below_drew1) | exact HB.out)) hb); clear HO448; clear HO451; clear HO455; clear HO458; clear HO461; clear HB; have HO448 := n0_; have HO451 := n1_; have HO455 := n2_; have HO458 := n3_; have HO461 := n4_; have HO465 := n5_; have HB := n6_; clear n0_ n1_ n2_ n3_ n4_ n5_ n6_; (try clear hb); (try clear hb2); (try clear hk); (try clear hi); (try clear ho0)))
   (try simp only [Act.put, List.setIfInBounds_toArray, List.set_cons_zero, List.set_cons_succ])
   go_cut [55] (fun v55 wc => ∃ (kq : Nat) (x55_12 : Bool), v55 = .bool x55_12 ∧ Aside0 (laws_FnExactCloseLoop.j0 kq a0 l1 l2 t452 t453 t456 t459 t462 t463 x55_12 = some r) ∧ Aside0 (kq ≤ k) ∧ Aside0 (Kd.R (Kd.int .i64) 2 wc w.heap.size (fun k_ => some k_ ≠ ((.slice Ao22 t459.length co22) : Value).ownBlock ∧ some k_ ≠ (v464 : Value).ownBlock) v454 t452) ∧ Aside0 (Kd.R k51 51 wc w.heap.size (fun _ => True) (.slice Ao21 t456.length co21) t456) ∧ Aside0 (Kd.R (Kd.int .i64) 2 wc w.heap.size (fun k_ => some k_ ≠ (v454 : Value).ownBlock ∧ some k_ ≠ (v464 : Value).ownBlock) (.slice Ao22 t459.length co22) t459) ∧ Aside0 (Kd.R (Kd.int .i64) 2 wc w.heap.size (fun k_ => some k_ ≠ (v454 : Value).ownBlock ∧ some k_ ≠ ((.slice Ao22 t459.length co22) : Value).ownBlock) v464 t462) ∧ Aside0 (Below w.heap.size w wc))
   case first =>
    have H := HC13.out
    clear HC13
    replace H := Option.bind_eq_some_iff.mp H
    obtain ⟨t466, A240, H⟩ := H
    replace H : (if t466 = true then (laws_FnExactCloseLoop.j0 k a0 l1 l2 t452 t453 t456 t459 t462 t463 (t463 != t453)) else (some false)) = some r := H
    have A24 := Aside0.mk A240
    clear A240
    by_cases c25 : t466 = true
    ·subst c25
     have H1 : (laws_FnExactCloseLoop.j0 k a0 l1 l2 t452 t453 t456 t459 t462 t463 (t463 != t453)) = some r := by rw [if_pos rfl] at H; exact H
     clear H
     have H := H1
     clear H1
     have H' := Aside0.mk H
     clear H
     obtain ⟨Ao26, co26, eo26⟩ := Kd.R_slice HO465.out
     subst eo26
     obtain ⟨Ao27, co27, eo27⟩ := Kd.R_slice HO455.out
     subst eo27
     go_wp2_with (first | ((with_reducible refine gate_callee (f := 18) rfl ?_); refine goesL_ (some 49) rfl rfl Try.func18 (by kernel_rfl) rfl #[.slice Ao26 t462.length co26, .slice Ao27 t452.length co27] rfl (by (try simp only [List.map_toArray, List.map_cons, List.map_nil]); first | done | rfl | (simp only [List.length_drop, List.length_take]; rfl)) ?_; (with_reducible refine (laws_eqInt64S.calls k _ _ t462 _ _ t452 true _ ?side1 ?side2 ?side3 ?side4 A24.out).mono ?_); (case side1 => repeat (first | exact (Kd.R_reads' HO465.out).2.2 | (with_reducible refine Kd.C_alloc ?_ _) | (with_reducible refine Kd.C_drewN ?_ _) | (with_reducible refine Kd.C_drew ?_))); (case side2 => exact (Kd.R_reads' HO465.out).2.1); (case side3 => repeat (first | exact (Kd.R_reads' HO455.out).2.2 | (with_reducible refine Kd.C_alloc ?_ _) | (with_reducible refine Kd.C_drewN ?_ _) | (with_reducible refine Kd.C_drew ?_))); (case side4 => exact (Kd.R_reads' HO455.out).2.1); rintro e w' ⟨rfl, ⟨nd, rfl⟩⟩; refine ⟨_, rfl, ?_⟩))
     go_meet
     case rel => exact ⟨_, ((t463 != t453)), (by first | rfl | (simp; done) | (simp [*]; done)), H', ⟨by first | omega | exact Nat.le_refl _⟩, ⟨by (with_reducible repeat (first | apply Kd.R_alloc | apply Kd.R_drewN | apply Kd.R_drew)); exact Kd.R_mono HO455.out (fun _ hk => ⟨hk.1.2, hk.2⟩)⟩, ⟨by (with_reducible repeat (first | apply Kd.R_alloc | apply Kd.R_drewN | apply Kd.R_drew)); exact Kd.R_mono HO458.out (fun _ hk => trivial)⟩, ⟨by (with_reducible repeat (first | apply Kd.R_alloc | apply Kd.R_drewN | apply Kd.R_drew)); exact Kd.R_mono HO461.out (fun _ hk => ⟨hk.1.2, hk.2⟩)⟩, ⟨by (with_reducible repeat (first | apply Kd.R_alloc | apply Kd.R_drewN | apply Kd.R_drew)); exact Kd.R_mono HO465.out (fun _ hk => ⟨hk.1.2, hk.2⟩)⟩, ⟨by repeat (first | (with_reducible first | exact HB.out | apply below_alloc | apply pw_below_drewN | apply below_drew1) | exact HB.out)⟩⟩
    ·replace c25 := Bool.eq_false_iff.mpr c25
     subst c25
     have H1 : (some false) = some r := by rw [if_neg (show ¬ (false = true) by decide)] at H; exact H
     clear H
     have H := H1
     clear H1
     exact absurd (Option.some.inj H) (by rw [hr_.out]; decide)
   case rest =>
    clear HC13
    try clear c1
    try clear c2
    try clear p2
    try clear c3
    try clear c4
    try clear c4b0
    try clear c4b1
    try clear c6
    try clear c6b0
    try clear c9
    try clear c11
    try clear c13
    try clear c18
    try clear c25
    obtain ⟨kq, x55_12, rfl, HA, HJ12, HO_8, HO_10, HO_11, HO_12, HB⟩ := hcut
    cases kq with
    | zero => exact absurd HA.out (by simp [laws_FnExactCloseLoop.j0])
    | succ kj12 =>
     have H := HA.out
     clear HA
     simp only [laws_FnExactCloseLoop.j0] at H
     by_cases c28 : x55_12 = true
     ·subst c28
      have H1 : (some false) = some r := by rw [if_pos rfl] at H; exact H
      clear H
      have H := H1
      clear H1
      exact absurd (Option.some.inj H) (by rw [hr_.out]; decide)
     ·replace c28 := Bool.eq_false_iff.mpr c28
      subst c28
      have H1 : ((laws_toLineS.f kj12 l1).bind fun t467 => ((laws_eqLineS.f kj12 t456 t467).bind fun t470 => (if t470 = true then ((laws_toInt64S.f kj12 l2).bind fun t471 => ((laws_eqInt64S.f kj12 t459 t471).bind fun t474 => (if t474 = true then ((laws_markLineS.f kj12 t456 1).bind fun bt475 => ((laws_markInt64S.f kj12 t459 bt475.1).bind fun bt477 => (if bt477.1 < 0 then (some false) else ((laws_eqInt64S.f kj12 t462 t452).bind fun t479 => (if t479 = true then (laws_FnExactCloseLoop.j1 kj12 a0 l1 l2 t452 t453 t462 (t463 != t453)) else (some false)))))) else (some false)))) else (some false)))) = some r := by rw [if_neg (show ¬ (false = true) by decide)] at H; exact H
      clear H
      have H := H1
      clear H1
      replace H := Option.bind_eq_some_iff.mp H
      obtain ⟨t467, A290, H⟩ := H
      replace H : ((laws_eqLineS.f kj12 t456 t467).bind fun t470 => (if t470 = true then ((laws_toInt64S.f kj12 l2).bind fun t471 => ((laws_eqInt64S.f kj12 t459 t471).bind fun t474 => (if t474 = true then ((laws_markLineS.f kj12 t456 1).bind fun bt475 => ((laws_markInt64S.f kj12 t459 bt475.1).bind fun bt477 => (if bt477.1 < 0 then (some false) else ((laws_eqInt64S.f kj12 t462 t452).bind fun t479 => (if t479 = true then (laws_FnExactCloseLoop.j1 kj12 a0 l1 l2 t452 t453 t462 (t463 != t453)) else (some false)))))) else (some false)))) else (some false))) = some r := H
      have A29 := Aside0.mk A290
      clear A290
      replace H := Option.bind_eq_some_iff.mp H
      obtain ⟨t470, A300, H⟩ := H
      replace H : (if t470 = true then ((laws_toInt64S.f kj12 l2).bind fun t471 => ((laws_eqInt64S.f kj12 t459 t471).bind fun t474 => (if t474 = true then ((laws_markLineS.f kj12 t456 1).bind fun bt475 => ((laws_markInt64S.f kj12 t459 bt475.1).bind fun bt477 => (if bt477.1 < 0 then (some false) else ((laws_eqInt64S.f kj12 t462 t452).bind fun t479 => (if t479 = true then (laws_FnExactCloseLoop.j1 kj12 a0 l1 l2 t452 t453 t462 (t463 != t453)) else (some false)))))) else (some false)))) else (some false)) = some r := H
      have A30 := Aside0.mk A300
      clear A300
      by_cases c31 : t470 = true
      ·subst c31
       have H1 : ((laws_toInt64S.f kj12 l2).bind fun t471 => ((laws_eqInt64S.f kj12 t459 t471).bind fun t474 => (if t474 = true then ((laws_markLineS.f kj12 t456 1).bind fun bt475 => ((laws_markInt64S.f kj12 t459 bt475.1).bind fun bt477 => (if bt477.1 < 0 then (some false) else ((laws_eqInt64S.f kj12 t462 t452).bind fun t479 => (if t479 = true then (laws_FnExactCloseLoop.j1 kj12 a0 l1 l2 t452 t453 t462 (t463 != t453)) else (some false)))))) else (some false)))) = some r := by rw [if_pos rfl] at H; exact H
       clear H
       have H := H1
       clear H1
       replace H := Option.bind_eq_some_iff.mp H
       obtain ⟨t471, A320, H⟩ := H
       replace H : ((laws_eqInt64S.f kj12 t459 t471).bind fun t474 => (if t474 = true then ((laws_markLineS.f kj12 t456 1).bind fun bt475 => ((laws_markInt64S.f kj12 t459 bt475.1).bind fun bt477 => (if bt477.1 < 0 then (some false) else ((laws_eqInt64S.f kj12 t462 t452).bind fun t479 => (if t479 = true then (laws_FnExactCloseLoop.j1 kj12 a0 l1 l2 t452 t453 t462 (t463 != t453)) else (some false)))))) else (some false))) = some r := H
       have A32 := Aside0.mk A320
       clear A320
       replace H := Option.bind_eq_some_iff.mp H
       obtain ⟨t474, A330, H⟩ := H
       replace H : (if t474 = true then ((laws_markLineS.f kj12 t456 1).bind fun bt475 => ((laws_markInt64S.f kj12 t459 bt475.1).bind fun bt477 => (if bt477.1 < 0 then (some false) else ((laws_eqInt64S.f kj12 t462 t452).bind fun t479 => (if t479 = true then (laws_FnExactCloseLoop.j1 kj12 a0 l1 l2 t452 t453 t462 (t463 != t453)) else (some false)))))) else (some false)) = some r := H
       have A33 := Aside0.mk A330
       clear A330
       by_cases c34 : t474 = true
       ·subst c34
        have H1 : ((laws_markLineS.f kj12 t456 1).bind fun bt475 => ((laws_markInt64S.f kj12 t459 bt475.1).bind fun bt477 => (if bt477.1 < 0 then (some false) else ((laws_eqInt64S.f kj12 t462 t452).bind fun t479 => (if t479 = true then (laws_FnExactCloseLoop.j1 kj12 a0 l1 l2 t452 t453 t462 (t463 != t453)) else (some false)))))) = some r := by rw [if_pos rfl] at H; exact H
        clear H
        have H := H1
        clear H1
        replace H := Option.bind_eq_some_iff.mp H
        obtain ⟨⟨t475, t476⟩, A350, H⟩ := H
        replace H : ((laws_markInt64S.f kj12 t459 t475).bind fun bt477 => (if bt477.1 < 0 then (some false) else ((laws_eqInt64S.f kj12 t462 t452).bind fun t479 => (if t479 = true then (laws_FnExactCloseLoop.j1 kj12 a0 l1 l2 t452 t453 t462 (t463 != t453)) else (some false))))) = some r := H
        have A35 := Aside0.mk A350
        clear A350
        replace H := Option.bind_eq_some_iff.mp H
        obtain ⟨⟨t477, t478⟩, A360, H⟩ := H
        replace H : (if t477 < 0 then (some false) else ((laws_eqInt64S.f kj12 t462 t452).bind fun t479 => (if t479 = true then (laws_FnExactCloseLoop.j1 kj12 a0 l1 l2 t452 t453 t462 (t463 != t453)) else (some false)))) = some r := H
        have A36 := Aside0.mk A360
        clear A360
        have HC37 := Aside0.mk H
        clear H
        go_upto_region 20 with (first | ((with_reducible refine gate_callee (f := 13) rfl ?_); refine goesL_ (some 58) rfl rfl Try.func13 (by kernel_rfl) rfl #[.slice A1 l1.length c1] rfl (by (try simp only [List.map_toArray, List.map_cons, List.map_nil]); first | done | rfl | (simp only [List.length_drop, List.length_take]; rfl)) ?_; (with_reducible refine (laws_toLineS.calls kj12 _ _ l1 t467 _ ?side1 ?side2 A29.out).mono ?_); (case side1 => repeat (first | exact (Kd.C_below HR1.out HB.out) | (with_reducible refine Kd.C_alloc ?_ _) | (with_reducible refine Kd.C_drewN ?_ _) | (with_reducible refine Kd.C_drew ?_))); (case side2 => exact HC1.out); rintro e w38 ⟨v468, rfl, ho0, hb⟩; refine ⟨_, rfl, ?_⟩; have n0_ := Aside0.mk (Kd.R_below (by (with_reducible repeat (first | apply Kd.R_alloc | apply Kd.R_drewN | apply Kd.R_drew)); exact HO_8.out) hb); have n1_ := Aside0.mk (Kd.R_elder' (by (with_reducible repeat (first | apply Kd.R_alloc | apply Kd.R_drewN | apply Kd.R_drew)); exact HO_10.out) (Kd.R_base ho0) hb); have n2_ := Aside0.mk (Kd.R_below (by (with_reducible repeat (first | apply Kd.R_alloc | apply Kd.R_drewN | apply Kd.R_drew)); exact HO_11.out) hb); have n3_ := Aside0.mk (Kd.R_below (by (with_reducible repeat (first | apply Kd.R_alloc | apply Kd.R_drewN | apply Kd.R_drew)); exact HO_12.out) hb); have n4_ := Aside0.mk (Kd.R_lower (Kd.R_new' ho0 (Kd.R_lt (by (with_reducible repeat (first | apply Kd.R_alloc | apply Kd.R_drewN | apply Kd.R_drew)); exact HO_10.out))) (below_size (by repeat (first | (with_reducible first | exact HB.out | apply below_alloc | apply pw_below_drewN | apply below_drew1) | exact HB.out)))); have n5_ := Aside0.mk (below_step (by repeat (first | (with_reducible first | exact HB.out | apply below_alloc | apply pw_below_drewN | apply below_drew1) | exact HB.out)) hb); clear HO_8; clear HO_10; clear HO_11; clear HO_12; clear HB; have HO_8 := n0_; have HO_10 := n1_; have HO_11 := n2_; have HO_12 := n3_; have HO469 := n4_; have HB := n5_; clear n0_ n1_ n2_ n3_ n4_ n5_; (try clear hb); (try clear hb2); (try clear hk); (try clear hi); (try clear ho0); obtain ⟨Ao39, co39, eo39⟩ := Kd.R_slice HO469.out; subst eo39) | ((with_reducible refine gate_callee (f := 15) rfl ?_); refine goesL_ (some 59) rfl rfl Try.func15 (by kernel_rfl) rfl #[.slice Ao21 t456.length co21, .slice Ao39 t467.length co39] rfl (by (try simp only [List.map_toArray, List.map_cons, List.map_nil]); first | done | rfl | (simp only [List.length_drop, List.length_take]; rfl)) ?_; (with_reducible refine (laws_eqLineS.calls kj12 _ _ t456 _ _ t467 true _ ?side1 ?side2 ?side3 ?side4 A30.out).mono ?_); (case side1 => repeat (first | exact (Kd.R_reads' HO_10.out).2.2 | (with_reducible refine Kd.C_alloc ?_ _) | (with_reducible refine Kd.C_drewN ?_ _) | (with_reducible refine Kd.C_drew ?_))); (case side2 => exact (Kd.R_reads' HO_10.out).2.1); (case side3 => repeat (first | exact (Kd.R_reads' HO469.out).2.2 | (with_reducible refine Kd.C_alloc ?_ _) | (with_reducible refine Kd.C_drewN ?_ _) | (with_reducible refine Kd.C_drew ?_))); (case side4 => exact (Kd.R_reads' HO469.out).2.1); rintro e w40 ⟨rfl, hb⟩; refine ⟨_, rfl, ?_⟩; have n0_ := Aside0.mk (Kd.R_below (by (with_reducible repeat (first | apply Kd.R_alloc | apply Kd.R_drewN | apply Kd.R_drew)); exact HO_8.out) hb); have n1_ := Aside0.mk (Kd.R_below (by (with_reducible repeat (first | apply Kd.R_alloc | apply Kd.R_drewN | apply Kd.R_drew)); exact HO_10.out) hb); have n2_ := Aside0.mk (Kd.R_below (by (with_reducible repeat (first | apply Kd.R_alloc | apply Kd.R_drewN | apply Kd.R_drew)); exact HO_11.out) hb); have n3_ := Aside0.mk (Kd.R_below (by (with_reducible repeat (first | apply Kd.R_alloc | apply Kd.R_drewN | apply Kd.R_drew)); exact HO_12.out) hb); have n4_ := Aside0.mk (Kd.R_below (by (with_reducible repeat (first | apply Kd.R_alloc | apply Kd.R_drewN | apply Kd.R_drew)); exact HO469.out) hb); have n5_ := Aside0.mk (below_step (by repeat (first | (with_reducible first | exact HB.out | apply below_alloc | apply pw_below_drewN | apply below_drew1) | exact HB.out)) hb); clear HO_8; clear HO_10; clear HO_11; clear HO_12; clear HO469; clear HB; have HO_8 := n0_; have HO_10 := n1_; have HO_11 := n2_; have HO_12 := n3_; have HO469 := n4_; have HB := n5_; clear n0_ n1_ n2_ n3_ n4_ n5_; (try clear hb); (try clear hb2); (try clear hk); (try clear hi)) | ((with_reducible refine gate_callee (f := 25) rfl ?_); refine goesL_ (some 63) rfl rfl Try.func25 (by kernel_rfl) rfl #[.slice A2 l2.length c2] rfl (by (try simp only [List.map_toArray, List.map_cons, List.map_nil]); first | done | rfl | (simp only [List.length_drop, List.length_take]; rfl)) ?_; (with_reducible refine (laws_toInt64S.calls kj12 _ _ l2 t471 _ ?side1 ?side2 A32.out).mono ?_); (case side1 => repeat (first | exact (Kd.C_below HR2.out HB.out) | (with_reducible refine Kd.C_alloc ?_ _) | (with_reducible refine Kd.C_drewN ?_ _) | (with_reducible refine Kd.C_drew ?_))); (case side2 => exact HC2.out); rintro e w41 ⟨v472, rfl, ho0, hb⟩; refine ⟨_, rfl, ?_⟩; have n0_ := Aside0.mk (Kd.R_elder' (by (with_reducible repeat (first | apply Kd.R_alloc | apply Kd.R_drewN | apply Kd.R_drew)); exact HO_8.out) (Kd.R_base ho0) hb); have n1_ := Aside0.mk (Kd.R_below (by (with_reducible repeat (first | apply Kd.R_alloc | apply Kd.R_drewN | apply Kd.R_drew)); exact HO_10.out) hb); have n2_ := Aside0.mk (Kd.R_elder' (by (with_reducible repeat (first | apply Kd.R_alloc | apply Kd.R_drewN | apply Kd.R_drew)); exact HO_11.out) (Kd.R_base ho0) hb); have n3_ := Aside0.mk (Kd.R_elder' (by (with_reducible repeat (first | apply Kd.R_alloc | apply Kd.R_drewN | apply Kd.R_drew)); exact HO_12.out) (Kd.R_base ho0) hb); have n4_ := Aside0.mk (Kd.R_below (by (with_reducible repeat (first | apply Kd.R_alloc | apply Kd.R_drewN | apply Kd.R_drew)); exact HO469.out) hb); have n5_ := Aside0.mk (Kd.R_lower (Kd.R_new' (Kd.R_new' (Kd.R_new' ho0 (Kd.R_lt (by (with_reducible repeat (first | apply Kd.R_alloc | apply Kd.R_drewN | apply Kd.R_drew)); exact HO_8.out))) (Kd.R_lt (by (with_reducible repeat (first | apply Kd.R_alloc | apply Kd.R_drewN | apply Kd.R_drew)); exact HO_11.out))) (Kd.R_lt (by (with_reducible repeat (first | apply Kd.R_alloc | apply Kd.R_drewN | apply Kd.R_drew)); exact HO_12.out))) (below_size (by repeat (first | (with_reducible first | exact HB.out | apply below_alloc | apply pw_below_drewN | apply below_drew1) | exact HB.out)))); have n6_ := Aside0.mk (below_step (by repeat (first | (with_reducible first | exact HB.out | apply below_alloc | apply pw_below_drewN | apply below_drew1) | exact HB.out)) hb); clear HO_8; clear HO_10; clear HO_11; clear HO_12; clear HO469; clear HB; have HO_8 := n0_; have HO_10 := n1_; have HO_11 := n2_; have HO_12 := n3_; have HO469 := n4_; have HO473 := n5_; have HB := n6_; clear n0_ n1_ n2_ n3_ n4_ n5_ n6_; (try clear hb); (try clear hb2); (try clear hk); (try clear hi); (try clear ho0); obtain ⟨Ao42, co42, eo42⟩ := Kd.R_slice HO473.out; subst eo42) | ((with_reducible refine gate_callee (f := 18) rfl ?_); refine goesL_ (some 64) rfl rfl Try.func18 (by kernel_rfl) rfl #[.slice Ao22 t459.length co22, .slice Ao42 t471.length co42] rfl (by (try simp only [List.map_toArray, List.map_cons, List.map_nil]); first | done | rfl | (simp only [List.length_drop, List.length_take]; rfl)) ?_; (with_reducible refine (laws_eqInt64S.calls kj12 _ _ t459 _ _ t471 true _ ?side1 ?side2 ?side3 ?side4 A33.out).mono ?_); (case side1 => repeat (first | exact (Kd.R_reads' HO_11.out).2.2 | (with_reducible refine Kd.C_alloc ?_ _) | (with_reducible refine Kd.C_drewN ?_ _) | (with_reducible refine Kd.C_drew ?_))); (case side2 => exact (Kd.R_reads' HO_11.out).2.1); (case side3 => repeat (first | exact (Kd.R_reads' HO473.out).2.2 | (with_reducible refine Kd.C_alloc ?_ _) | (with_reducible refine Kd.C_drewN ?_ _) | (with_reducible refine Kd.C_drew ?_))); (case side4 => exact (Kd.R_reads' HO473.out).2.1); rintro e w' ⟨rfl, ⟨nd, rfl⟩⟩; refine ⟨_, rfl, ?_⟩) | ((with_reducible refine gate_callee (f := 19) rfl ?_); refine goesL_ (some 68) rfl rfl Try.func19 (by kernel_rfl) rfl #[.slice Ao21 t456.length co21, .int .i64 1] rfl (by (try simp only [List.map_toArray, List.map_cons, List.map_nil]); first | done | rfl | (simp only [List.length_drop, List.length_take]; rfl)) ?_; (with_reducible refine (laws_markLineS.calls kj12 (fun k_ => some k_ = (.slice Ao21 t456.length co21 : Value).ownBlock) (.slice Ao21 t456.length co21) t456 1 t475 t476 w _ ?side1 ?side2 A35.out).mono ?_); (case side1 => repeat (first | (with_reducible first | exact HB.out | apply below_alloc | apply pw_below_drewN | apply below_drew1) | exact HB.out)); (case side2 => exact Kd.R_tight rfl HO_10.out); rintro e w43 ⟨rfl, hy0, hb, hkp⟩; refine ⟨_, rfl, ?_⟩; have n0_ := Aside0.mk (Kd.R_mono (ok' := fun k_ => some k_ ≠ (.slice Ao22 t459.length co22 : Value).ownBlock ∧ some k_ ≠ (v464 : Value).ownBlock ∧ some k_ ≠ (.slice Ao42 t471.length co42 : Value).ownBlock) (Kd.R_keptB ((Kd.R_apart' HO_8.out (Kd.R_typed HO_10.out) (by decide))) hkp (fun k_ hk_ hs_ => (hk_.2) hs_)) (fun k_ hk_ => ⟨hk_.1.1.1.1, hk_.1.1.1.2, hk_.1.1.2⟩)); have n1_ := Aside0.mk (Kd.R_reok rfl hy0 (fun k_ e_ => HO_10.out.1 k_ e_)); have n2_ := Aside0.mk (Kd.R_mono (ok' := fun k_ => some k_ ≠ (v454 : Value).ownBlock ∧ some k_ ≠ (v464 : Value).ownBlock ∧ some k_ ≠ (.slice Ao42 t471.length co42 : Value).ownBlock) (Kd.R_keptB ((Kd.R_apart' HO_11.out (Kd.R_typed HO_10.out) (by decide))) hkp (fun k_ hk_ hs_ => (hk_.2) hs_)) (fun k_ hk_ => ⟨hk_.1.1.1.1, hk_.1.1.1.2, hk_.1.1.2⟩)); have n3_ := Aside0.mk (Kd.R_mono (ok' := fun k_ => some k_ ≠ (v454 : Value).ownBlock ∧ some k_ ≠ (.slice Ao22 t459.length co22 : Value).ownBlock ∧ some k_ ≠ (.slice Ao42 t471.length co42 : Value).ownBlock) (Kd.R_keptB ((Kd.R_apart' HO_12.out (Kd.R_typed HO_10.out) (by decide))) hkp (fun k_ hk_ hs_ => (hk_.2) hs_)) (fun k_ hk_ => ⟨hk_.1.1.1.1, hk_.1.1.1.2, hk_.1.1.2⟩)); have n4_ := Aside0.mk (Kd.R_mono (ok' := fun k_ => some k_ ≠ (.slice Ao21 t456.length co21 : Value).ownBlock) (Kd.R_keptB (HO469.out) hkp (fun k_ hk_ hs_ => (hk_.2) hs_)) (fun k_ hk_ => hk_.1.2)); have n5_ := Aside0.mk (Kd.R_mono (ok' := fun k_ => some k_ ≠ (v454 : Value).ownBlock ∧ some k_ ≠ (.slice Ao22 t459.length co22 : Value).ownBlock ∧ some k_ ≠ (v464 : Value).ownBlock) (Kd.R_keptB ((Kd.R_apart' HO473.out (Kd.R_typed HO_10.out) (by decide))) hkp (fun k_ hk_ hs_ => (hk_.2) hs_)) (fun k_ hk_ => ⟨hk_.1.1.1.1.2, hk_.1.1.1.2, hk_.1.1.2⟩)); have n6_ := Aside0.mk (hb); clear HO_8; clear HO_10; clear HO_11; clear HO_12; clear HO469; clear HO473; clear HB; have HO_8 := n0_; have HO_10 := n1_; have HO_11 := n2_; have HO_12 := n3_; have HO469 := n4_; have HO473 := n5_; have HB := n6_; clear n0_ n1_ n2_ n3_ n4_ n5_ n6_; (try clear hb); (try clear hkp); (try clear hy0)) | ((with_reducible refine gate_callee (f := 20) rfl ?_); refine goesL_ (some 71) rfl rfl Try.func20 (by kernel_rfl) rfl #[.slice Ao22 t459.length co22, .int .i64 t475] rfl (by (try simp only [List.map_toArray, List.map_cons, List.map_nil]); first | done | rfl | (simp only [List.length_drop, List.length_take]; rfl)) ?_; (with_reducible refine (laws_markInt64S.calls kj12 (fun k_ => some k_ = (.slice Ao22 t459.length co22 : Value).ownBlock) (.slice Ao22 t459.length co22) t459 t475 t477 t478 w _ ?side1 ?side2 A36.out).mono ?_); (case side1 => repeat (first | (with_reducible first | exact HB.out | apply below_alloc | apply pw_below_drewN | apply below_drew1) | exact HB.out)); (case side2 => exact Kd.R_tight rfl HO_11.out); rintro e w44 ⟨rfl, hy0, hb, hkp⟩; refine ⟨_, rfl, ?_⟩; have n0_ := Aside0.mk (Kd.R_mono (ok' := fun k_ => some k_ ≠ (.slice Ao22 t459.length co22 : Value).ownBlock ∧ some k_ ≠ (v464 : Value).ownBlock ∧ some k_ ≠ (.slice Ao42 t471.length co42 : Value).ownBlock) (Kd.R_keptB (HO_8.out) hkp (fun k_ hk_ hs_ => (hk_.1) hs_)) (fun k_ hk_ => ⟨hk_.1.1, hk_.1.2.1, hk_.1.2.2⟩)); have n1_ := Aside0.mk (Kd.R_mono (ok' := fun k_ => some k_ ≠ (.slice Ao39 t467.length co39 : Value).ownBlock) (Kd.R_keptB ((Kd.R_apart' HO_10.out (Kd.R_typed HO_11.out) (by decide))) hkp (fun k_ hk_ hs_ => (hk_.2) hs_)) (fun k_ hk_ => hk_.1.1.2)); have n2_ := Aside0.mk (Kd.R_reok rfl hy0 (fun k_ e_ => HO_11.out.1 k_ e_)); have n3_ := Aside0.mk (Kd.R_mono (ok' := fun k_ => some k_ ≠ (v454 : Value).ownBlock ∧ some k_ ≠ (.slice Ao22 t459.length co22 : Value).ownBlock ∧ some k_ ≠ (.slice Ao42 t471.length co42 : Value).ownBlock) (Kd.R_keptB (HO_12.out) hkp (fun k_ hk_ hs_ => (hk_.2.1) hs_)) (fun k_ hk_ => ⟨hk_.1.1, hk_.1.2.1, hk_.1.2.2⟩)); have n4_ := Aside0.mk (Kd.R_mono (ok' := fun k_ => some k_ ≠ (.slice Ao21 t456.length co21 : Value).ownBlock) (Kd.R_keptB ((Kd.R_apart' HO469.out (Kd.R_typed HO_11.out) (by decide))) hkp (fun k_ hk_ hs_ => (hk_.2) hs_)) (fun k_ hk_ => hk_.1.1)); have n5_ := Aside0.mk (Kd.R_mono (ok' := fun k_ => some k_ ≠ (v454 : Value).ownBlock ∧ some k_ ≠ (.slice Ao22 t459.length co22 : Value).ownBlock ∧ some k_ ≠ (v464 : Value).ownBlock) (Kd.R_keptB (HO473.out) hkp (fun k_ hk_ hs_ => (hk_.2.1) hs_)) (fun k_ hk_ => ⟨hk_.1.1, hk_.1.2.1, hk_.1.2.2⟩)); have n6_ := Aside0.mk (hb); clear HO_8; clear HO_10; clear HO_11; clear HO_12; clear HO469; clear HO473; clear HB; have HO_8 := n0_; have HO_10 := n1_; have HO_11 := n2_; have HO_12 := n3_; have HO469 := n4_; have HO473 := n5_; have HB := n6_; clear n0_ n1_ n2_ n3_ n4_ n5_ n6_; (try clear hb); (try clear hkp); (try clear hy0)))
        (try simp only [Act.put, List.setIfInBounds_toArray, List.set_cons_zero, List.set_cons_succ])
        go_cut [84] (fun v84 wc => ∃ (kq : Nat) (x84_36 : Bool), v84 = .bool x84_36 ∧ Aside0 (laws_FnExactCloseLoop.j1 kq a0 l1 l2 t452 t453 t462 x84_36 = some r) ∧ Aside0 (kq ≤ kj12) ∧ Aside0 (Kd.R (Kd.int .i64) 2 wc w.heap.size (fun k_ => some k_ ≠ (v464 : Value).ownBlock) v454 t452) ∧ Aside0 (Kd.R (Kd.int .i64) 2 wc w.heap.size (fun k_ => some k_ ≠ (v454 : Value).ownBlock) v464 t462) ∧ Aside0 (Below w.heap.size w wc))
        case first =>
         have H := HC37.out
         clear HC37
         by_cases c45 : t477 < 0
         ·rw [if_pos c45] at H
          have c45b0 : decide (t477 < 0) = true := decide_eq_true c45
          clear c45
          (first | rw [c45b0] | (simp only [i64_w, i32_w]; rw [c45b0]) | skip)
          exact absurd (Option.some.inj H) (by rw [hr_.out]; decide)
         ·rw [if_neg c45] at H
          have c45b0 : decide (t477 < 0) = false := decide_eq_false c45
          clear c45
          (first | rw [c45b0] | (simp only [i64_w, i32_w]; rw [c45b0]) | skip)
          replace H := Option.bind_eq_some_iff.mp H
          obtain ⟨t479, A460, H⟩ := H
          replace H : (if t479 = true then (laws_FnExactCloseLoop.j1 kj12 a0 l1 l2 t452 t453 t462 (t463 != t453)) else (some false)) = some r := H
          have A46 := Aside0.mk A460
          clear A460
          by_cases c47 : t479 = true
          ·subst c47
           have H1 : (laws_FnExactCloseLoop.j1 kj12 a0 l1 l2 t452 t453 t462 (t463 != t453)) = some r := by rw [if_pos rfl] at H; exact H
           clear H
           have H := H1
           clear H1
           have H' := Aside0.mk H
           clear H
           obtain ⟨Ao48, co48, eo48⟩ := Kd.R_slice HO_12.out
           subst eo48
           obtain ⟨Ao49, co49, eo49⟩ := Kd.R_slice HO_8.out
           subst eo49
           go_wp2_with (first | (go_at_call 18; (with_reducible refine (laws_eqInt64S.calls kj12 _ _ t462 _ _ t452 true _ ?side1 ?side2 ?side3 ?side4 A46.out).mono ?_); (case side1 => repeat (first | exact (Kd.R_reads' HO_12.out).2.2 | (with_reducible refine Kd.C_alloc ?_ _) | (with_reducible refine Kd.C_drewN ?_ _) | (with_reducible refine Kd.C_drew ?_))); (case side2 => exact (Kd.R_reads' HO_12.out).2.1); (case side3 => repeat (first | exact (Kd.R_reads' HO_8.out).2.2 | (with_reducible refine Kd.C_alloc ?_ _) | (with_reducible refine Kd.C_drewN ?_ _) | (with_reducible refine Kd.C_drew ?_))); (case side4 => exact (Kd.R_reads' HO_8.out).2.1); rintro e w' ⟨rfl, ⟨nd, rfl⟩⟩))
           go_meet
           case rel => exact ⟨_, ((t463 != t453)), (by first | rfl | (simp; done) | (simp [*]; done)), H', ⟨by have := HJ12.out; first | omega | exact Nat.le_refl _⟩, ⟨by (with_reducible repeat (first | apply Kd.R_alloc | apply Kd.R_drewN | apply Kd.R_drew)); exact Kd.R_mono HO_8.out (fun _ hk => hk.2.1)⟩, ⟨by (with_reducible repeat (first | apply Kd.R_alloc | apply Kd.R_drewN | apply Kd.R_drew)); exact Kd.R_mono HO_12.out (fun _ hk => hk.1)⟩, ⟨by repeat (first | (with_reducible first | exact HB.out | apply below_alloc | apply pw_below_drewN | apply below_drew1) | exact HB.out)⟩⟩
          ·replace c47 := Bool.eq_false_iff.mpr c47
           subst c47
           have H1 : (some false) = some r := by rw [if_neg (show ¬ (false = true) by decide)] at H; exact H
           clear H
           have H := H1
           clear H1
           exact absurd (Option.some.inj H) (by rw [hr_.out]; decide)
        case rest =>
         clear HC37
         try clear c1
         try clear c2
         try clear p2
         try clear c3
         try clear c4
         try clear c4b0
         try clear c4b1
         try clear c6
         try clear c6b0
         try clear c9
         try clear c11
         try clear c13
         try clear c15
         try clear c18
         try clear c19
         try clear c20
         try clear c25
         try clear c28
         try clear c31
         try clear c32
         try clear c34
         try clear c45
         try clear c45b0
         try clear c47
         try clear p2
         obtain ⟨kq, x84_36, rfl, HA, HJ36, HO_8, HO_12, HB⟩ := hcut
         cases kq with
         | zero => exact absurd HA.out (by simp [laws_FnExactCloseLoop.j1])
         | succ kj36 =>
          have H := HA.out
          clear HA
          simp only [laws_FnExactCloseLoop.j1] at H
          by_cases c50 : x84_36 = true
          ·subst c50
           have H1 : (some false) = some r := by rw [if_pos rfl] at H; exact H
           clear H
           have H := H1
           clear H1
           exact absurd (Option.some.inj H) (by rw [hr_.out]; decide)
          ·replace c50 := Bool.eq_false_iff.mpr c50
           subst c50
           have H1 : ((laws_markInt64S.f kj36 t462 1).bind fun bt480 => ((laws_heldInt64S.f kj36 bt480.2 1).bind fun t482 => (if t482 < 0 then (some false) else (if t482 = bt480.1 then ((laws_toLineS.f kj36 l1).bind fun t483 => ((laws_toInt64S.f kj36 l2).bind fun t486 => ((impl_CloseLoop.f kj36 a0 t483 t486).bind fun bt489 => ((laws_eqInt64S.f kj36 bt489.1 t452).bind fun t493 => (if t493 = true then (laws_FnExactCloseLoop.j2 kj36 bt480.2 bt480.1 (bt489.2 != t453)) else (some false)))))) else (some false))))) = some r := by rw [if_neg (show ¬ (false = true) by decide)] at H; exact H
           clear H
           have H := H1
           clear H1
           replace H := Option.bind_eq_some_iff.mp H
           obtain ⟨⟨t480, t481⟩, A510, H⟩ := H
           replace H : ((laws_heldInt64S.f kj36 t481 1).bind fun t482 => (if t482 < 0 then (some false) else (if t482 = t480 then ((laws_toLineS.f kj36 l1).bind fun t483 => ((laws_toInt64S.f kj36 l2).bind fun t486 => ((impl_CloseLoop.f kj36 a0 t483 t486).bind fun bt489 => ((laws_eqInt64S.f kj36 bt489.1 t452).bind fun t493 => (if t493 = true then (laws_FnExactCloseLoop.j2 kj36 t481 t480 (bt489.2 != t453)) else (some false)))))) else (some false)))) = some r := H
           have A51 := Aside0.mk A510
           clear A510
           replace H := Option.bind_eq_some_iff.mp H
           obtain ⟨t482, A520, H⟩ := H
           replace H : (if t482 < 0 then (some false) else (if t482 = t480 then ((laws_toLineS.f kj36 l1).bind fun t483 => ((laws_toInt64S.f kj36 l2).bind fun t486 => ((impl_CloseLoop.f kj36 a0 t483 t486).bind fun bt489 => ((laws_eqInt64S.f kj36 bt489.1 t452).bind fun t493 => (if t493 = true then (laws_FnExactCloseLoop.j2 kj36 t481 t480 (bt489.2 != t453)) else (some false)))))) else (some false))) = some r := H
           have A52 := Aside0.mk A520
           clear A520
           by_cases c53 : t482 < 0
           ·rw [if_pos c53] at H
            have c53b0 : decide (t482 < 0) = true := decide_eq_true c53
            clear c53
            exact absurd (Option.some.inj H) (by rw [hr_.out]; decide)
           ·rw [if_neg c53] at H
            have c53b0 : decide (t482 < 0) = false := decide_eq_false c53
            clear c53
            by_cases c54 : t482 = t480
            ·rw [if_pos c54] at H
             have c54b0 : (t482 == t480) = true := beq_iff_eq.mpr c54
             have c54b1 : (t482 != t480) = false := bne_eq_false_iff_eq.mpr c54
             clear c54
             replace H := Option.bind_eq_some_iff.mp H
             obtain ⟨t483, A550, H⟩ := H
             replace H : ((laws_toInt64S.f kj36 l2).bind fun t486 => ((impl_CloseLoop.f kj36 a0 t483 t486).bind fun bt489 => ((laws_eqInt64S.f kj36 bt489.1 t452).bind fun t493 => (if t493 = true then (laws_FnExactCloseLoop.j2 kj36 t481 t480 (bt489.2 != t453)) else (some false))))) = some r := H
             have A55 := Aside0.mk A550
             clear A550
             replace H := Option.bind_eq_some_iff.mp H
             obtain ⟨t486, A560, H⟩ := H
             replace H : ((impl_CloseLoop.f kj36 a0 t483 t486).bind fun bt489 => ((laws_eqInt64S.f kj36 bt489.1 t452).bind fun t493 => (if t493 = true then (laws_FnExactCloseLoop.j2 kj36 t481 t480 (bt489.2 != t453)) else (some false)))) = some r := H
             have A56 := Aside0.mk A560
             clear A560
             replace H := Option.bind_eq_some_iff.mp H
             obtain ⟨⟨t489, t490⟩, A570, H⟩ := H
             replace H : ((laws_eqInt64S.f kj36 t489 t452).bind fun t493 => (if t493 = true then (laws_FnExactCloseLoop.j2 kj36 t481 t480 (t490 != t453)) else (some false))) = some r := H
             have A57 := Aside0.mk A570
             clear A570
             have HC58 := Aside0.mk H
             clear H
             obtain ⟨Ao59, co59, eo59⟩ := Kd.R_slice HO_12.out
             subst eo59
             go_upto_region 31 with (first | ((with_reducible refine gate_callee (f := 20) rfl ?_); refine goesL_ (some 87) rfl rfl Try.func20 (by kernel_rfl) rfl #[.slice Ao59 t462.length co59, .int .i64 1] rfl (by (try simp only [List.map_toArray, List.map_cons, List.map_nil]); first | done | rfl | (simp only [List.length_drop, List.length_take]; rfl)) ?_; (with_reducible refine (laws_markInt64S.calls kj36 (fun k_ => some k_ = (.slice Ao59 t462.length co59 : Value).ownBlock) (.slice Ao59 t462.length co59) t462 1 t480 t481 w _ ?side1 ?side2 A51.out).mono ?_); (case side1 => repeat (first | (with_reducible first | exact HB.out | apply below_alloc | apply pw_below_drewN | apply below_drew1) | exact HB.out)); (case side2 => exact Kd.R_tight rfl HO_12.out); rintro e w60 ⟨rfl, hy0, hb, hkp⟩; refine ⟨_, rfl, ?_⟩; have n0_ := Aside0.mk (Kd.R_mono (ok' := fun k_ => some k_ ≠ (.slice Ao59 t462.length co59 : Value).ownBlock) (Kd.R_keptB (HO_8.out) hkp (fun k_ hk_ hs_ => (hk_) hs_)) (fun k_ hk_ => hk_.1)); have n1_ := Aside0.mk (Kd.R_reok rfl hy0 (fun k_ e_ => HO_12.out.1 k_ e_)); have n2_ := Aside0.mk (hb); clear HO_8; clear HO_12; clear HB; have HO_8 := n0_; have HO_12 := n1_; have HB := n2_; clear n0_ n1_ n2_; (try clear hb); (try clear hkp); (try clear hy0)) | ((with_reducible refine gate_callee (f := 21) rfl ?_); refine goesL_ (some 90) rfl rfl Try.func21 (by kernel_rfl) rfl #[.slice Ao59 t481.length co59, .int .i64 1] rfl (by (try simp only [List.map_toArray, List.map_cons, List.map_nil]); first | done | (rw [show t481.length = t462.length from (Kd.R_reads' HO_12.out).1.symm] <;> rfl) | rfl | (simp only [List.length_drop, List.length_take]; rfl)) ?_; (with_reducible refine (laws_heldInt64S.calls kj36 _ _ t481 1 t482 _ ?side1 ?side2 A52.out).mono ?_); (case side1 => repeat (first | exact (Kd.R_reads' HO_12.out).2.2 | (with_reducible refine Kd.C_alloc ?_ _) | (with_reducible refine Kd.C_drewN ?_ _) | (with_reducible refine Kd.C_drew ?_))); (case side2 => rw [show t481.length = t462.length from (Kd.R_reads' HO_12.out).1.symm]; exact (Kd.R_reads' HO_12.out).2.1); rintro e w' ⟨rfl, ⟨nd, rfl⟩⟩; refine ⟨_, rfl, ?_⟩) | ((with_reducible refine gate_callee (f := 13) rfl ?_); refine goesL_ (some 99) rfl rfl Try.func13 (by kernel_rfl) rfl #[.slice A1 l1.length c1] rfl (by (try simp only [List.map_toArray, List.map_cons, List.map_nil]); first | done | rfl | (simp only [List.length_drop, List.length_take]; rfl)) ?_; (with_reducible refine (laws_toLineS.calls kj36 _ _ l1 t483 _ ?side1 ?side2 A55.out).mono ?_); (case side1 => repeat (first | exact (Kd.C_below HR1.out (by repeat (first | (with_reducible first | exact HB.out | apply below_alloc | apply pw_below_drewN | apply below_drew1) | exact HB.out))) | (with_reducible refine Kd.C_alloc ?_ _) | (with_reducible refine Kd.C_drewN ?_ _) | (with_reducible refine Kd.C_drew ?_))); (case side2 => exact HC1.out); rintro e w61 ⟨v484, rfl, ho0, hb⟩; refine ⟨_, rfl, ?_⟩; have n0_ := Aside0.mk (Kd.R_below (by (with_reducible repeat (first | apply Kd.R_alloc | apply Kd.R_drewN | apply Kd.R_drew)); exact HO_8.out) hb); have n1_ := Aside0.mk (Kd.R_below (by (with_reducible repeat (first | apply Kd.R_alloc | apply Kd.R_drewN | apply Kd.R_drew)); exact HO_12.out) hb); have n2_ := Aside0.mk (Kd.R_lower ho0 (below_size (by repeat (first | (with_reducible first | exact HB.out | apply below_alloc | apply pw_below_drewN | apply below_drew1) | exact HB.out)))); have n3_ := Aside0.mk (below_step (by repeat (first | (with_reducible first | exact HB.out | apply below_alloc | apply pw_below_drewN | apply below_drew1) | exact HB.out)) hb); clear HO_8; clear HO_12; clear HB; have HO_8 := n0_; have HO_12 := n1_; have HO485 := n2_; have HB := n3_; clear n0_ n1_ n2_ n3_; (try clear hb); (try clear hb2); (try clear hk); (try clear hi); (try clear ho0)) | ((with_reducible refine gate_callee (f := 25) rfl ?_); refine goesL_ (some 101) rfl rfl Try.func25 (by kernel_rfl) rfl #[.slice A2 l2.length c2] rfl (by (try simp only [List.map_toArray, List.map_cons, List.map_nil]); first | done | rfl | (simp only [List.length_drop, List.length_take]; rfl)) ?_; (with_reducible refine (laws_toInt64S.calls kj36 _ _ l2 t486 _ ?side1 ?side2 A56.out).mono ?_); (case side1 => repeat (first | exact (Kd.C_below HR2.out HB.out) | (with_reducible refine Kd.C_alloc ?_ _) | (with_reducible refine Kd.C_drewN ?_ _) | (with_reducible refine Kd.C_drew ?_))); (case side2 => exact HC2.out); rintro e w62 ⟨v487, rfl, ho0, hb⟩; refine ⟨_, rfl, ?_⟩; have n0_ := Aside0.mk (Kd.R_elder' (by (with_reducible repeat (first | apply Kd.R_alloc | apply Kd.R_drewN | apply Kd.R_drew)); exact HO_8.out) (Kd.R_base ho0) hb); have n1_ := Aside0.mk (Kd.R_elder' (by (with_reducible repeat (first | apply Kd.R_alloc | apply Kd.R_drewN | apply Kd.R_drew)); exact HO_12.out) (Kd.R_base ho0) hb); have n2_ := Aside0.mk (Kd.R_below (by (with_reducible repeat (first | apply Kd.R_alloc | apply Kd.R_drewN | apply Kd.R_drew)); exact HO485.out) hb); have n3_ := Aside0.mk (Kd.R_lower (Kd.R_new' (Kd.R_new' ho0 (Kd.R_lt (by (with_reducible repeat (first | apply Kd.R_alloc | apply Kd.R_drewN | apply Kd.R_drew)); exact HO_8.out))) (Kd.R_lt (by (with_reducible repeat (first | apply Kd.R_alloc | apply Kd.R_drewN | apply Kd.R_drew)); exact HO_12.out))) (below_size (by repeat (first | (with_reducible first | exact HB.out | apply below_alloc | apply pw_below_drewN | apply below_drew1) | exact HB.out)))); have n4_ := Aside0.mk (below_step (by repeat (first | (with_reducible first | exact HB.out | apply below_alloc | apply pw_below_drewN | apply below_drew1) | exact HB.out)) hb); clear HO_8; clear HO_12; clear HO485; clear HB; have HO_8 := n0_; have HO_12 := n1_; have HO485 := n2_; have HO488 := n3_; have HB := n4_; clear n0_ n1_ n2_ n3_ n4_; (try clear hb); (try clear hb2); (try clear hk); (try clear hi); (try clear ho0); obtain ⟨Ao63, co63, eo63⟩ := Kd.R_slice HO485.out; subst eo63; obtain ⟨Ao64, co64, eo64⟩ := Kd.R_slice HO488.out; subst eo64) | ((with_reducible refine gate_callee (f := 32) rfl ?_); refine goesL_ (some 102) rfl rfl Try.func32 (by kernel_rfl) rfl #[.int .i64 a0, .slice Ao63 t483.length co63, .slice Ao64 t486.length co64] rfl (by (try simp only [List.map_toArray, List.map_cons, List.map_nil]); first | done | rfl | (simp only [List.length_drop, List.length_take]; rfl)) ?_; (with_reducible refine (impl_CloseLoop.calls kj36 a0 _ _ t483 _ _ t486 t489 t490 _ ?side1 ?side2 ?side3 ?side4 A57.out).mono ?_); (case side1 => repeat (first | exact (Kd.R_reads' HO485.out).2.2 | (with_reducible refine Kd.C_alloc ?_ _) | (with_reducible refine Kd.C_drewN ?_ _) | (with_reducible refine Kd.C_drew ?_))); (case side2 => exact (Kd.R_reads' HO485.out).2.1); (case side3 => repeat (first | exact (Kd.R_reads' HO488.out).2.2 | (with_reducible refine Kd.C_alloc ?_ _) | (with_reducible refine Kd.C_drewN ?_ _) | (with_reducible refine Kd.C_drew ?_))); (case side4 => exact (Kd.R_reads' HO488.out).2.1); rintro e w65 ⟨v491, rfl, ho0, hb⟩; refine ⟨_, rfl, ?_⟩; have n0_ := Aside0.mk (Kd.R_elder' (by (with_reducible repeat (first | apply Kd.R_alloc | apply Kd.R_drewN | apply Kd.R_drew)); exact HO_8.out) (Kd.R_base ho0) hb); have n1_ := Aside0.mk (Kd.R_elder' (by (with_reducible repeat (first | apply Kd.R_alloc | apply Kd.R_drewN | apply Kd.R_drew)); exact HO_12.out) (Kd.R_base ho0) hb); have n2_ := Aside0.mk (Kd.R_below (by (with_reducible repeat (first | apply Kd.R_alloc | apply Kd.R_drewN | apply Kd.R_drew)); exact HO485.out) hb); have n3_ := Aside0.mk (Kd.R_elder' (by (with_reducible repeat (first | apply Kd.R_alloc | apply Kd.R_drewN | apply Kd.R_drew)); exact HO488.out) (Kd.R_base ho0) hb); have n4_ := Aside0.mk (Kd.R_lower (Kd.R_new' (Kd.R_new' (Kd.R_new' ho0 (Kd.R_lt (by (with_reducible repeat (first | apply Kd.R_alloc | apply Kd.R_drewN | apply Kd.R_drew)); exact HO_8.out))) (Kd.R_lt (by (with_reducible repeat (first | apply Kd.R_alloc | apply Kd.R_drewN | apply Kd.R_drew)); exact HO_12.out))) (Kd.R_lt (by (with_reducible repeat (first | apply Kd.R_alloc | apply Kd.R_drewN | apply Kd.R_drew)); exact HO488.out))) (below_size (by repeat (first | (with_reducible first | exact HB.out | apply below_alloc | apply pw_below_drewN | apply below_drew1) | exact HB.out)))); have n5_ := Aside0.mk (below_step (by repeat (first | (with_reducible first | exact HB.out | apply below_alloc | apply pw_below_drewN | apply below_drew1) | exact HB.out)) hb); clear HO_8; clear HO_12; clear HO485; clear HO488; clear HB; have HO_8 := n0_; have HO_12 := n1_; have HO485 := n2_; have HO488 := n3_; have HO492 := n4_; have HB := n5_; clear n0_ n1_ n2_ n3_ n4_ n5_; (try clear hb); (try clear hb2); (try clear hk); (try clear hi); (try clear ho0)))
             (try simp only [Act.put, List.setIfInBounds_toArray, List.set_cons_zero, List.set_cons_succ])
             go_cut [113] (fun v113 wc => ∃ (kq : Nat) (x113_57 : Bool), v113 = .bool x113_57 ∧ Aside0 (laws_FnExactCloseLoop.j2 kq t481 t480 x113_57 = some r) ∧ Aside0 (kq ≤ kj36) ∧ Aside0 (Kd.R (Kd.int .i64) 2 wc w.heap.size (fun _ => True) (.slice Ao59 t462.length co59) t481) ∧ Aside0 (Below w.heap.size w wc))
             case first =>
              have H := HC58.out
              clear HC58
              replace H := Option.bind_eq_some_iff.mp H
              obtain ⟨t493, A660, H⟩ := H
              replace H : (if t493 = true then (laws_FnExactCloseLoop.j2 kj36 t481 t480 (t490 != t453)) else (some false)) = some r := H
              have A66 := Aside0.mk A660
              clear A660
              by_cases c67 : t493 = true
              ·subst c67
               have H1 : (laws_FnExactCloseLoop.j2 kj36 t481 t480 (t490 != t453)) = some r := by rw [if_pos rfl] at H; exact H
               clear H
               have H := H1
               clear H1
               have H' := Aside0.mk H
               clear H
               obtain ⟨Ao68, co68, eo68⟩ := Kd.R_slice HO492.out
               subst eo68
               obtain ⟨Ao69, co69, eo69⟩ := Kd.R_slice HO_8.out
               subst eo69
               go_wp2_with (first | ((with_reducible refine gate_callee (f := 18) rfl ?_); refine goesL_ (some 107) rfl rfl Try.func18 (by kernel_rfl) rfl #[.slice Ao68 t489.length co68, .slice Ao69 t452.length co69] rfl (by (try simp only [List.map_toArray, List.map_cons, List.map_nil]); first | done | rfl | (simp only [List.length_drop, List.length_take]; rfl)) ?_; (with_reducible refine (laws_eqInt64S.calls kj36 _ _ t489 _ _ t452 true _ ?side1 ?side2 ?side3 ?side4 A66.out).mono ?_); (case side1 => repeat (first | exact (Kd.R_reads' HO492.out).2.2 | (with_reducible refine Kd.C_alloc ?_ _) | (with_reducible refine Kd.C_drewN ?_ _) | (with_reducible refine Kd.C_drew ?_))); (case side2 => exact (Kd.R_reads' HO492.out).2.1); (case side3 => repeat (first | exact (Kd.R_reads' HO_8.out).2.2 | (with_reducible refine Kd.C_alloc ?_ _) | (with_reducible refine Kd.C_drewN ?_ _) | (with_reducible refine Kd.C_drew ?_))); (case side4 => exact (Kd.R_reads' HO_8.out).2.1); rintro e w' ⟨rfl, ⟨nd, rfl⟩⟩; refine ⟨_, rfl, ?_⟩))
               go_meet
               case rel => exact ⟨_, ((t490 != t453)), (by first | rfl | (simp; done) | (simp [*]; done)), H', ⟨by have := HJ12.out; have := HJ36.out; first | omega | exact Nat.le_refl _⟩, ⟨by (with_reducible repeat (first | apply Kd.R_alloc | apply Kd.R_drewN | apply Kd.R_drew)); exact Kd.R_mono HO_12.out (fun _ hk => trivial)⟩, ⟨by repeat (first | (with_reducible first | exact HB.out | apply below_alloc | apply pw_below_drewN | apply below_drew1) | exact HB.out)⟩⟩
              ·replace c67 := Bool.eq_false_iff.mpr c67
               subst c67
               have H1 : (some false) = some r := by rw [if_neg (show ¬ (false = true) by decide)] at H; exact H
               clear H
               have H := H1
               clear H1
               exact absurd (Option.some.inj H) (by rw [hr_.out]; decide)
             case rest =>
              clear HC58
              try clear c1
              try clear c2
              try clear p2
              try clear c3
              try clear c4
              try clear c4b0
              try clear c4b1
              try clear c5
              try clear c6
              try clear c6b0
              try clear c9
              try clear c11
              try clear c13
              try clear c15
              try clear c18
              try clear c19
              try clear c20
              try clear c21
              try clear c25
              try clear c28
              try clear c31
              try clear c32
              try clear c34
              try clear c45
              try clear c45b0
              try clear c47
              try clear c50
              try clear c53
              try clear c53b0
              try clear c54
              try clear c54b0
              try clear c54b1
              try clear c67
              try clear p2
              obtain ⟨kq, x113_57, rfl, HA, HJ57, HO_12, HB⟩ := hcut
              have hl12_57 := (Kd.R_reads' HO_12.out).1
              rw [hl12_57] at HO_12
              (try simp only [hl12_57])
              cases kq with
              | zero => exact absurd HA.out (by simp [laws_FnExactCloseLoop.j2])
              | succ kj57 =>
               have H := HA.out
               clear HA
               simp only [laws_FnExactCloseLoop.j2] at H
               by_cases c70 : x113_57 = true
               ·subst c70
                have H1 : (some false) = some r := by rw [if_pos rfl] at H; exact H
                clear H
                have H := H1
                clear H1
                exact absurd (Option.some.inj H) (by rw [hr_.out]; decide)
               ·replace c70 := Bool.eq_false_iff.mpr c70
                subst c70
                have H1 : ((laws_heldInt64S.f kj57 t481 1).bind fun t494 => (if t494 < 0 then (some false) else (if t494 = t480 then (some true) else (some false)))) = some r := by rw [if_neg (show ¬ (false = true) by decide)] at H; exact H
                clear H
                have H := H1
                clear H1
                replace H := Option.bind_eq_some_iff.mp H
                obtain ⟨t494, A710, H⟩ := H
                replace H : (if t494 < 0 then (some false) else (if t494 = t480 then (some true) else (some false))) = some r := H
                have A71 := Aside0.mk A710
                clear A710
                by_cases c72 : t494 < 0
                ·rw [if_pos c72] at H
                 have c72b0 : decide (t494 < 0) = true := decide_eq_true c72
                 clear c72
                 exact absurd (Option.some.inj H) (by rw [hr_.out]; decide)
                ·rw [if_neg c72] at H
                 have c72b0 : decide (t494 < 0) = false := decide_eq_false c72
                 clear c72
                 by_cases c73 : t494 = t480
                 ·rw [if_pos c73] at H
                  have c73b0 : (t494 == t480) = true := beq_iff_eq.mpr c73
                  have c73b1 : (t494 != t480) = false := bne_eq_false_iff_eq.mpr c73
                  clear c73
                  obtain rfl := Option.some.inj H
                  go_wp2_with (first | ((with_reducible refine gate_callee (f := 21) rfl ?_); refine goesL_ (some 116) rfl rfl Try.func21 (by kernel_rfl) rfl #[.slice Ao59 t481.length co59, .int .i64 1] rfl (by (try simp only [List.map_toArray, List.map_cons, List.map_nil]); first | done | rfl | (simp only [List.length_drop, List.length_take]; rfl)) ?_; (with_reducible refine (laws_heldInt64S.calls kj57 _ _ t481 1 t494 _ ?side1 ?side2 A71.out).mono ?_); (case side1 => repeat (first | exact (Kd.R_reads' HO_12.out).2.2 | (with_reducible refine Kd.C_alloc ?_ _) | (with_reducible refine Kd.C_drewN ?_ _) | (with_reducible refine Kd.C_drew ?_))); (case side2 => exact (Kd.R_reads' HO_12.out).2.1); rintro e w' ⟨rfl, ⟨nd, rfl⟩⟩; refine ⟨_, rfl, ?_⟩))
                  go_ret
                  exact ⟨by first | rfl | (simp [errW_none, errW_some] <;> rfl) | (simp [*, errW_none, errW_some] <;> rfl), by repeat (first | (with_reducible first | exact HB.out | apply below_alloc | apply pw_below_drewN | apply below_drew1) | exact HB.out)⟩
                 ·rw [if_neg c73] at H
                  have c73b0 : (t494 == t480) = false := beq_eq_false_iff_ne.mpr c73
                  have c73b1 : (t494 != t480) = true := bne_iff_ne.mpr c73
                  exact absurd (Option.some.inj H) (by rw [hr_.out]; decide)
            ·rw [if_neg c54] at H
             have c54b0 : (t482 == t480) = false := beq_eq_false_iff_ne.mpr c54
             have c54b1 : (t482 != t480) = true := bne_iff_ne.mpr c54
             exact absurd (Option.some.inj H) (by rw [hr_.out]; decide)
       ·replace c34 := Bool.eq_false_iff.mpr c34
        subst c34
        have H1 : (some false) = some r := by rw [if_neg (show ¬ (false = true) by decide)] at H; exact H
        clear H
        have H := H1
        clear H1
        exact absurd (Option.some.inj H) (by rw [hr_.out]; decide)
      ·replace c31 := Bool.eq_false_iff.mpr c31
       subst c31
       have H1 : (some false) = some r := by rw [if_neg (show ¬ (false = true) by decide)] at H; exact H
       clear H
       have H := H1
       clear H1
       exact absurd (Option.some.inj H) (by rw [hr_.out]; decide)

end Go.Proofs.Ytppfdndnojbmjaa.X

/-! ## Rdr -/
/- How an argument that reads as data is given to the printed functions: whole numbers, bools, strings, slices and structs of these, of whatever depth. No condition. -/
namespace Go.Proofs.Ytppfdndnojbmjaa.Rdr
open Go.ChangeShapes Go.WideShapes Go.Deep Go.Proofs.YtppfdndnojbmjaaW.PrintWords

def I64 (n : Int) : Prop := -9223372036854775808 ≤ n ∧ n ≤ 9223372036854775807
def Str (s : ByteArray) : Prop := s.size ≤ 9223372036854775807
def Lst {α : Type} (Wf : α → Prop) (xs : List α) : Prop := xs.length ≤ 9223372036854775807 ∧ ∀ x ∈ xs, Wf x

structure Reads (P : Program) (t : TypeId) {α : Type} (κ : Kd α) (Wf : α → Prop) : Prop where
  size : P.cellsOf t = κ.sz
  read : ∀ {H : Type} {enc : TypeId × Value → H} {W : World} {base : Nat} {spare : Nat → Bool} {held : Bool} {fuel : Nat} {cs : List Value} {x : DataW H × List MemPlace}, DataW.trod enc P W base spare held fuel t cs = some x → ∃ a, κ.K W a cs ∧ Wf a

theorem reads_i64 {P : Program} {t : TypeId} (ht : P.underlying t = some (.int .i64)) (hc : P.cellsOf t = 1) : Reads P t (Kd.int .i64) I64 := by
  refine ⟨hc, ?_⟩
  intro H enc W base spare held fuel cs x h
  obtain ⟨n, rfl, _, hw⟩ := DataW.trod_int ht h
  refine ⟨n, rfl, ?_⟩
  have hb := bounds_i64 hw
  unfold I64
  omega
def U8 (n : Int) : Prop := 0 ≤ n ∧ n ≤ 255
theorem reads_u8 {P : Program} {t : TypeId} (ht : P.underlying t = some (.int .u8)) (hc : P.cellsOf t = 1) : Reads P t (Kd.int .u8) U8 := by
  refine ⟨hc, ?_⟩
  intro H enc W base spare held fuel cs x h
  obtain ⟨n, rfl, _, hw⟩ := DataW.trod_int ht h
  exact ⟨n, rfl, bounds_u8 hw⟩
theorem reads_bool {P : Program} {t : TypeId} (ht : P.underlying t = some .bool) (hc : P.cellsOf t = 1) : Reads P t Kd.bool (fun _ => True) := by
  refine ⟨hc, ?_⟩
  intro H enc W base spare held fuel cs x h
  obtain ⟨b, rfl, _⟩ := DataW.trod_bool ht h
  exact ⟨b, rfl, trivial⟩
theorem reads_str {P : Program} {t : TypeId} (ht : P.underlying t = some .string) (hc : P.cellsOf t = 1) : Reads P t Kd.string Str := by
  refine ⟨hc, ?_⟩
  intro H enc W base spare held fuel cs x h
  obtain ⟨s, rfl, _, hs⟩ := DataW.trod_string ht h
  exact ⟨s, rfl, hs⟩

theorem choose_any {α : Type} {n : Nat} {p : Nat → α → Prop} (h : ∀ i, i < n → ∃ x, p i x) : ∃ l : List α, l.length = n ∧ ∀ (j : Nat) (x : α), l[j]? = some x → p j x := by
  induction n with
  | zero => exact ⟨[], rfl, fun j x hj => by simp at hj⟩
  | succ n ih =>
    obtain ⟨l, hl, hp⟩ := ih (fun i hi => h i (by omega))
    obtain ⟨x, hx⟩ := h n (by omega)
    refine ⟨l ++ [x], by simp [hl], fun j y hj => ?_⟩
    rcases Nat.lt_or_ge j l.length with hj' | hj'
    · rw [List.getElem?_append_left hj'] at hj
      exact hp j y hj
    · have := (List.getElem?_eq_some_iff.1 hj).1
      rw [List.length_append, List.length_singleton] at this
      have e : j = l.length := by omega
      subst e
      have e2 : x = y := by simpa using hj
      subst e2
      rw [hl]
      exact hx

theorem reads_slice {P : Program} {t e : TypeId} {α : Type} {κ : Kd α} {Wf : α → Prop} (ht : P.underlying t = some (.slice e)) (hc : P.cellsOf t = 1) (he : Reads P e κ Wf) : Reads P t (Kd.slice e κ) (Lst Wf) := by
  refine ⟨hc, ?_⟩
  intro H enc W base spare held fuel cs x h
  rcases open_slice ht h with ⟨rfl, _⟩ | ⟨a, len, cap, m, n, D, Pl, rfl, hb, hl, hm, hmm, _, hx⟩
  · exact ⟨[], ⟨none, 0, rfl, Nat.le_refl _, rfl, by simp, fun h => by simp at h⟩, by simp [Lst]⟩
  · have hlm : len ≤ m := by rw [hmm]; split <;> omega
    obtain ⟨l, hll, hp⟩ := choose_any (α := α) (n := len) (p := fun i x => Wf x ∧ ∃ c, c.length = κ.sz ∧ κ.K W x c ∧ ∀ j u, c[j]? = some u → W.cell? (a.add (i * κ.sz + j)) = some u) (by
      intro i hi
      obtain ⟨c, hcells, htr⟩ := hx i (by omega)
      obtain ⟨y, hy, hw⟩ := he.read htr
      rw [he.size] at hcells
      obtain ⟨_, hlen, hcell⟩ := World.cells?_some hcells
      refine ⟨y, hw, c, hlen, hy, fun j u hj => ?_⟩
      have hjl := (List.getElem?_eq_some_iff.1 hj).1
      rw [← Go.Deep.add_add, hcell j (by omega)]
      exact hj)
    have hml : maxLen = 9223372036854775807 := by unfold maxLen; rfl
    refine ⟨l, ⟨some a, cap, by rw [hll], by omega, rfl, by omega, fun _ => ⟨a, rfl, fun j p hj => ?_⟩⟩, by omega, fun x hx' => ?_⟩
    · obtain ⟨_, c, h1, h2, h3⟩ := hp j p hj
      exact ⟨c, h1, h2, h3⟩
    · obtain ⟨j, hj⟩ := List.getElem?_of_mem hx'
      exact (hp j x hj).1

/-! The fields of a struct, from one on. -/
structure FReads (P : Program) (fs : List Field) (off : Nat) {α : Type} (κ : Kd α) (Wf : α → Prop) : Prop where
  read : ∀ {H : Type} {enc : TypeId × Value → H} {W : World} {base : Nat} {spare : Nat → Bool} {held : Bool} {n : Nat} (cs : List Value) (ys : List (DataW H × List MemPlace)), ys.length = fs.length →
    (∀ (i : Nat) (f : Field), fs[i]? = some f → DataW.trod enc P W base spare held n f.type ((cs.drop f.offset).take (P.cellsOf f.type)) = ys[i]?) → off + κ.sz = cs.length → ∃ a, κ.K W a (cs.drop off) ∧ Wf a

theorem freads_last {P : Program} {f : Field} {α : Type} {κ : Kd α} {Wf : α → Prop} {off : Nat} (ho : f.offset = off) (h : Reads P f.type κ Wf) : FReads P [f] off κ Wf := by
  constructor
  intro H enc W base spare held n cs ys hl hf hs
  have h0 := hf 0 f rfl
  have hy : 0 < ys.length := by rw [hl]; simp
  rw [List.getElem?_eq_getElem hy, ho, h.size, List.take_of_length_le (by rw [List.length_drop]; omega)] at h0
  exact h.read h0
theorem freads_cons {P : Program} {f : Field} {fs : List Field} {α β : Type} {κ : Kd α} {κ' : Kd β} {Wf : α → Prop} {Wf' : β → Prop} {off off' : Nat} (ho : f.offset = off) (h : Reads P f.type κ Wf) (hoff : off' = off + κ.sz) (h' : FReads P fs off' κ' Wf') :
    FReads P (f :: fs) off (Kd.pair κ κ') (fun x => Wf x.1 ∧ Wf' x.2) := by
  constructor
  intro H enc W base spare held n cs ys hl hf hs
  have hs' : off + (κ.sz + κ'.sz) = cs.length := hs
  have h0 := hf 0 f rfl
  have hy : 0 < ys.length := by rw [hl]; simp
  rw [List.getElem?_eq_getElem hy, ho, h.size] at h0
  obtain ⟨a, ha, hwa⟩ := h.read h0
  obtain ⟨b, hb, hwb⟩ := h'.read (H := H) (enc := enc) (W := W) (base := base) (spare := spare) (held := held) (n := n) cs ys.tail (by rw [List.length_tail, hl]; simp) (fun i g hg => by
    rw [List.getElem?_tail]
    exact hf (i + 1) g (by simpa using hg)) (by omega)
  refine ⟨(a, b), ⟨(cs.drop off).take κ.sz, cs.drop off', ?_, ha, hb⟩, hwa, hwb⟩
  rw [hoff, ← List.drop_drop, List.take_append_drop]
theorem reads_struct {P : Program} {t : TypeId} {fs : Array Field} {α : Type} {κ : Kd α} {Wf : α → Prop} (ht : P.underlying t = some (.struct fs)) (hc : P.cellsOf t = κ.sz) (h : FReads P fs.toList 0 κ Wf) : Reads P t κ Wf := by
  refine ⟨hc, ?_⟩
  intro H enc W base spare held fuel cs x hx
  obtain ⟨ys, n, _, _, hl, hyl, hf⟩ := DataW.trod_struct ht hx
  obtain ⟨a, ha, hw⟩ := h.read (H := H) (enc := enc) (W := W) (base := base) (spare := spare) (held := held) (n := n) cs ys (by simpa using hyl) (fun i f hi => hf i f (by simpa using hi)) (by rw [hl, hc]; omega)
  exact ⟨a, ha, hw⟩
theorem reads_iso {P : Program} {t : TypeId} {α β : Type} {κ : Kd α} {Wf : α → Prop} {f : β → α} (g : α → β) (hg : ∀ a, f (g a) = a) (h : Reads P t κ Wf) : Reads P t (Kd.iso κ f) (fun x => Wf (f x)) := by
  refine ⟨h.size, ?_⟩
  intro H enc W base spare held fuel cs x hx
  obtain ⟨a, ha, hw⟩ := h.read hx
  refine ⟨g a, ?_, ?_⟩
  · show κ.K W (f (g a)) cs
    rw [hg]
    exact ha
  · show Wf (f (g a))
    rw [hg]
    exact hw

end Go.Proofs.Ytppfdndnojbmjaa.Rdr

/-! ## SFnExactCloseLoop -/
namespace Go.Proofs.Ytppfdndnojbmjaa.Say
open Go.RowKit Go.Proofs.Ytppfdndnojbmjaa.X
/-- The plain statement of laws_FnExactCloseLoop. -/
def FnExactCloseLoop : Prop := ∀ (a0 : Int) (l1 : List (S60)) (l2 : List Int), Rdr.I64 a0 → (Rdr.Lst (fun x : S60 => Rdr.I64 x.f0 ∧ (Rdr.I64 x.f1 ∧ (Rdr.I64 x.f2 ∧ (Rdr.I64 x.f3))))) l1 → (Rdr.Lst Rdr.I64) l2 → ∃ k, laws_FnExactCloseLoop.f k a0 l1 l2 = some true
end Go.Proofs.Ytppfdndnojbmjaa.Say

/-! ## Base -/
/- Plain words for the plain laws: what ends with a value once there are rounds enough; loops over an index; sums that do not wrap. No condition. -/
namespace Go.Proofs.Ytppfdndnojbmjaa.B
open Go.RowKit Go.Proofs.YtppfdndnojbmjaaW.PrintWords

theorem w64 {x : Int} (h : -9223372036854775808 ≤ x) (h' : x ≤ 9223372036854775807) : wrap64 x = x := by
  unfold wrap64; omega
theorem wnext {i n : Nat} (h : i < n) (hn : (n : Int) ≤ 9223372036854775807) : wrap64 ((i : Int) + 1) = ((i + 1 : Nat) : Int) := by
  rw [w64 (by omega) (by omega)]; omega

/-- From some number of rounds on these two are the same. -/
def EvEq {α : Type} (g f : Nat → Option α) : Prop := ∃ K, ∀ k, K ≤ k → g k = f k
theorem EvEq.now {α : Type} {g f : Nat → Option α} (h : ∀ k, g k = f k) : EvEq g f := ⟨0, fun k _ => h k⟩
theorem EvEq.trans {α : Type} {g f h : Nat → Option α} (a : EvEq g f) (b : EvEq f h) : EvEq g h := by
  obtain ⟨K, hK⟩ := a
  obtain ⟨K', hK'⟩ := b
  exact ⟨K + K', fun k hk => (hK k (by omega)).trans (hK' k (by omega))⟩
theorem EvEq.bind {α β : Type} {g : Nat → Option α} {a : α} {f : Nat → α → Option β} {h : Nat → Option β} (e : Ev g a) (b : EvEq (fun k => f k a) h) : EvEq (fun k => (g k).bind (f k)) h := by
  obtain ⟨K, hK⟩ := e
  obtain ⟨K', hK'⟩ := b
  refine ⟨K + K', fun k hk => ?_⟩
  show (g k).bind (f k) = _
  rw [hK k (by omega)]
  exact hK' k (by omega)
theorem Ev.ofEq {α : Type} {g f : Nat → Option α} {r : α} (a : EvEq g f) (b : Ev f r) : Ev g r := by
  obtain ⟨K, hK⟩ := a
  obtain ⟨K', hK'⟩ := b
  exact ⟨K + K', fun k hk => (hK k (by omega)).trans (hK' k (by omega))⟩
theorem Ev.const {α : Type} {g : Nat → Option α} {r : α} (h : ∀ k, g k = some r) : Ev g r := ⟨0, fun k _ => h k⟩
theorem Ev.up {α : Type} {g : Nat → Option α} {r : α} (h : Ev (fun k => g (k + 1)) r) : Ev g r := by
  obtain ⟨K, hK⟩ := h
  refine ⟨K + 1, fun k hk => ?_⟩
  have e : g (k - 1 + 1) = some r := hK (k - 1) (by omega)
  have : k - 1 + 1 = k := by omega
  rwa [this] at e
theorem Ev.bindE {α β : Type} {g : Nat → Option α} {a : α} {f : Nat → α → Option β} {r : β} (e : Ev g a) (b : Ev (fun k => f k a) r) : Ev (fun k => (g k).bind (f k)) r := Ev.bind e b
theorem Ev.ifPos {α : Type} {c : Prop} [Decidable c] {A B : Nat → Option α} {r : α} (h : c) (e : Ev A r) : Ev (fun k => if c then A k else B k) r := by
  simpa only [if_pos h] using e
theorem Ev.ifNeg {α : Type} {c : Prop} [Decidable c] {A B : Nat → Option α} {r : α} (h : ¬ c) (e : Ev B r) : Ev (fun k => if c then A k else B k) r := by
  simpa only [if_neg h] using e
theorem Ev.uniq {α : Type} {g : Nat → Option α} {a b : α} (h : Ev g a) (h' : Ev g b) : a = b := by
  obtain ⟨K, hK⟩ := h
  obtain ⟨K', hK'⟩ := h'
  have := (hK (K + K') (by omega)).symm.trans (hK' (K + K') (by omega))
  exact Option.some.inj this

/-- A loop by its rounds: at each one it ends, or goes on to the next. F: what it comes to from there. -/
theorem scan {ρ : Type} (L : Nat → Nat → Option ρ) (n : Nat) (F : Nat → ρ) (hend : Ev (fun k => L (k + 1) n) (F n))
    (hstep : ∀ i, i < n → Ev (fun k => L (k + 1) i) (F i) ∨ (F i = F (i + 1) ∧ EvEq (fun k => L (k + 1) i) (fun k => L k (i + 1)))) : ∀ i, i ≤ n → Ev (fun k => L k i) (F i) := by
  have key : ∀ d i, i + d = n → Ev (fun k => L k i) (F i) := by
    intro d
    induction d with
    | zero =>
      intro i hi
      have e : i = n := by omega
      rw [e]
      exact Ev.up (g := fun k => L k n) hend
    | succ d ih =>
      intro i hi
      rcases hstep i (by omega) with h | ⟨h, h'⟩
      · exact Ev.up (g := fun k => L k i) h
      · rw [h]
        exact Ev.up (g := fun k => L k i) (Ev.ofEq h' (ih (i + 1) (by omega)))
  intro i hi
  exact key (n - i) i (by omega)

/-- A loop whose value at the end is known, and at each round that of the next one. -/
theorem scanI {ρ : Type} (L : Nat → Nat → Option ρ) (n : Nat) (F : Nat → ρ) (hend : Ev (fun k => L k n) (F n))
    (hstep : ∀ i, i < n → Ev (fun k => L k (i + 1)) (F (i + 1)) → Ev (fun k => L k i) (F i)) : ∀ i, i ≤ n → Ev (fun k => L k i) (F i) := by
  have key : ∀ d i, i + d = n → Ev (fun k => L k i) (F i) := by
    intro d
    induction d with
    | zero =>
      intro i hi
      have e : i = n := by omega
      rw [e]
      exact hend
    | succ d ih =>
      intro i hi
      exact hstep i (by omega) (ih (i + 1) (by omega))
  intro i hi
  exact key (n - i) i (by omega)
theorem Ev.ite {α : Type} {c : Prop} [Decidable c] {A B : Nat → Option α} {r : α} (h : c → Ev A r) (h' : ¬ c → Ev B r) : Ev (fun k => if c then A k else B k) r := by
  by_cases e : c
  · exact Ev.ifPos e (h e)
  · exact Ev.ifNeg e (h' e)

def allFrom (p : Nat → Bool) (i n : Nat) : Bool := (List.range' i (n - i)).all p
theorem allFrom_end (p : Nat → Bool) (n : Nat) : allFrom p n n = true := by simp [allFrom]
theorem allFrom_step (p : Nat → Bool) {i n : Nat} (h : i < n) : allFrom p i n = (p i && allFrom p (i + 1) n) := by
  unfold allFrom
  obtain ⟨d, hd⟩ : ∃ d, n - i = d + 1 := ⟨n - i - 1, by omega⟩
  have : n - (i + 1) = d := by omega
  rw [hd, this, List.range'_succ, List.all_cons]
theorem allFrom_iff (p : Nat → Bool) (i n : Nat) : allFrom p i n = true ↔ ∀ j, i ≤ j → j < n → p j = true := by
  unfold allFrom
  rw [List.all_eq_true]
  constructor
  · intro h j h1 h2
    exact h j (by rw [List.mem_range'_1]; omega)
  · intro h j hj
    rw [List.mem_range'_1] at hj
    exact h j (by omega) (by omega)
/-- A loop that goes on while p, and ends with false. -/
theorem allScan (L : Nat → Nat → Option Bool) (n : Nat) (p : Nat → Bool) (fin : Bool) (hend : Ev (fun k => L (k + 1) n) fin)
    (hstep : ∀ i, i < n → EvEq (fun k => L (k + 1) i) (fun k => if p i = true then L k (i + 1) else some false)) : ∀ i, i ≤ n → Ev (fun k => L k i) (allFrom p i n && fin) := by
  refine scan L n (fun i => allFrom p i n && fin) ?_ ?_
  · show Ev _ (allFrom p n n && fin)
    rw [allFrom_end, Bool.true_and]
    exact hend
  · intro i hi
    by_cases hp : p i = true
    · right
      refine ⟨by show (allFrom p i n && fin) = (allFrom p (i + 1) n && fin); rw [allFrom_step p hi, hp, Bool.true_and], ?_⟩
      have h := hstep i hi
      simpa only [if_pos hp] using h
    · left
      have h := hstep i hi
      have hp' : p i = false := by simpa using hp
      have e : (allFrom p i n && fin) = false := by rw [allFrom_step p hi, hp']; rfl
      show Ev _ (allFrom p i n && fin)
      rw [e]
      refine Ev.ofEq h (Ev.const fun k => ?_)
      rw [if_neg hp]

def firstFrom (p : Nat → Bool) (i n : Nat) : Int := match (List.range' i (n - i)).find? p with | some j => (j : Int) | none => -1
theorem firstFrom_end (p : Nat → Bool) (n : Nat) : firstFrom p n n = -1 := by simp [firstFrom]
theorem firstFrom_step (p : Nat → Bool) {i n : Nat} (h : i < n) : firstFrom p i n = if p i = true then (i : Int) else firstFrom p (i + 1) n := by
  unfold firstFrom
  obtain ⟨d, hd⟩ : ∃ d, n - i = d + 1 := ⟨n - i - 1, by omega⟩
  have : n - (i + 1) = d := by omega
  rw [hd, this, List.range'_succ, List.find?_cons]
  cases p i <;> simp
/-- A loop that ends at the first index with p, and tells -1 where there is none. -/
theorem firstScan (L : Nat → Nat → Option Int) (n : Nat) (p : Nat → Bool) (hend : Ev (fun k => L (k + 1) n) (-1))
    (hstep : ∀ i, i < n → EvEq (fun k => L (k + 1) i) (fun k => if p i = true then some (i : Int) else L k (i + 1))) : ∀ i, i ≤ n → Ev (fun k => L k i) (firstFrom p i n) := by
  refine scan L n (fun i => firstFrom p i n) ?_ ?_
  · show Ev _ (firstFrom p n n)
    rw [firstFrom_end]
    exact hend
  · intro i hi
    by_cases hp : p i = true
    · left
      show Ev _ (firstFrom p i n)
      rw [firstFrom_step p hi, if_pos hp]
      exact Ev.ofEq (hstep i hi) (Ev.const fun k => by rw [if_pos hp])
    · right
      refine ⟨by show firstFrom p i n = firstFrom p (i + 1) n; rw [firstFrom_step p hi, if_neg hp], ?_⟩
      simpa only [if_neg hp] using hstep i hi
theorem firstFrom_none (p : Nat → Bool) {n : Nat} : ∀ i, i ≤ n → (firstFrom p i n = -1 ↔ ∀ j, i ≤ j → j < n → p j = false) := by
  have key : ∀ d i, i + d = n → (firstFrom p i n = -1 ↔ ∀ j, i ≤ j → j < n → p j = false) := by
    intro d
    induction d with
    | zero =>
      intro i hi
      have e : i = n := by omega
      subst e
      rw [firstFrom_end]
      exact ⟨fun _ j h1 h2 => by omega, fun _ => rfl⟩
    | succ d ih =>
      intro i hi
      rw [firstFrom_step p (by omega)]
      by_cases hp : p i = true
      · rw [if_pos hp]
        constructor
        · intro h; omega
        · intro h
          have := h i (by omega) (by omega)
          rw [hp] at this
          cases this
      · rw [if_neg hp, ih (i + 1) (by omega)]
        constructor
        · intro h j h1 h2
          by_cases e : j = i
          · subst e; simpa using hp
          · exact h j (by omega) h2
        · intro h j h1 h2
          exact h j (by omega) h2
  intro i hi
  exact key (n - i) i (by omega)
theorem firstFrom_some (p : Nat → Bool) {n : Nat} : ∀ i, i ≤ n → firstFrom p i n ≠ -1 → ∃ j : Nat, firstFrom p i n = (j : Int) ∧ i ≤ j ∧ j < n ∧ p j = true := by
  have key : ∀ d i, i + d = n → firstFrom p i n ≠ -1 → ∃ j : Nat, firstFrom p i n = (j : Int) ∧ i ≤ j ∧ j < n ∧ p j = true := by
    intro d
    induction d with
    | zero =>
      intro i hi h
      have e : i = n := by omega
      subst e
      rw [firstFrom_end] at h
      exact absurd rfl h
    | succ d ih =>
      intro i hi h
      rw [firstFrom_step p (by omega)] at h ⊢
      by_cases hp : p i = true
      · rw [if_pos hp]
        exact ⟨i, rfl, by omega, by omega, hp⟩
      · rw [if_neg hp] at h ⊢
        obtain ⟨j, h1, h2, h3, h4⟩ := ih (i + 1) (by omega) h
        exact ⟨j, h1, by omega, h3, h4⟩
  intro i hi
  exact key (n - i) i (by omega)
theorem firstFrom_congr {p q : Nat → Bool} {n : Nat} (h : ∀ j, j < n → p j = q j) : ∀ i, i ≤ n → firstFrom p i n = firstFrom q i n := by
  have key : ∀ d i, i + d = n → firstFrom p i n = firstFrom q i n := by
    intro d
    induction d with
    | zero =>
      intro i hi
      have e : i = n := by omega
      subst e
      rw [firstFrom_end, firstFrom_end]
    | succ d ih =>
      intro i hi
      rw [firstFrom_step p (by omega), firstFrom_step q (by omega), h i (by omega), ih (i + 1) (by omega)]
  intro i hi
  exact key (n - i) i (by omega)

theorem getD_at {α : Type} {xs : List α} {i : Nat} (h : i < xs.length) (d : α) : xs.getD i d = xs[i] := by
  rw [List.getD_eq_getElem?_getD, List.getElem?_eq_getElem h]; rfl
theorem rd_at {xs : List Int} {i : Nat} (h : i < xs.length) : rd xs (i : Int) = xs[i] := by
  unfold rd; rw [Int.toNat_natCast]; exact getD_at h _
theorem rdOf_at {α : Type} {d : α} {xs : List α} {i : Nat} (h : i < xs.length) : rdOf d xs (i : Int) = xs[i] := by
  unfold rdOf; rw [Int.toNat_natCast]; exact getD_at h _
theorem allFrom_congr {p q : Nat → Bool} (h : ∀ j, p j = q j) (i n : Nat) : allFrom p i n = allFrom q i n := by
  rw [show p = q from funext h]
/-- Rows that are compared place by place. -/
theorem rows3 {L : Nat → Int → Option Bool} {n m : Nat} {c : Int → Bool} (hn : n ≤ 9223372036854775807)
    (hL : ∀ k i, L (k + 1) i = if i < (n : Int) then (if 0 ≤ i then (if i < (m : Int) then (if c i = true then some false else L k (wrap64 (i + 1))) else none) else none) else some true) :
    Ev (fun k => if (n : Int) = (m : Int) then L k 0 else some false) (decide (n = m) && allFrom (fun j => !c j) 0 n) := by
  by_cases hl : n = m
  · rw [decide_eq_true hl, Bool.true_and]
    refine Ev.ifPos (by omega) ?_
    have h := allScan (fun k i => L k (i : Int)) n (fun j => !c j) true (Ev.const fun k => by rw [hL, if_neg (by omega)]) (by
      intro i hi
      refine EvEq.now fun k => ?_
      rw [hL, if_pos (by omega), if_pos (by omega), if_pos (by omega), wnext hi (by omega)]
      cases c i <;> rfl) 0 (by omega)
    rw [Bool.and_true] at h
    exact h
  · rw [decide_eq_false hl, Bool.false_and]
    exact Ev.ifNeg (by omega) (Ev.const fun _ => rfl)
theorem rows4 {L : Nat → Int → Option Bool} {n m : Nat} {c : Int → Bool} (hn : n ≤ 9223372036854775807)
    (hL : ∀ k i, L (k + 1) i = if i < (n : Int) then (if 0 ≤ i then (if i < (n : Int) then (if i < (m : Int) then (if c i = true then some false else L k (wrap64 (i + 1))) else none) else none) else none) else some true) :
    Ev (fun k => if (n : Int) = (m : Int) then L k 0 else some false) (decide (n = m) && allFrom (fun j => !c j) 0 n) := by
  refine rows3 hn fun k i => ?_
  rw [hL]
  by_cases h : i < (n : Int)
  · rw [if_pos h, if_pos h, if_pos h]
  · rw [if_neg h, if_neg h]
/-- A row that is filled from its begin. -/
theorem fill_set {α : Type} (xs : List α) (z : α) {i n : Nat} (hi : i < n) (hl : xs.length = n) : (xs.take i ++ List.replicate (n - i) z).set i (xs[i]'(by omega)) = xs.take (i + 1) ++ List.replicate (n - (i + 1)) z := by
  have hlt : (xs.take i).length = i := by rw [List.length_take]; omega
  rw [List.set_append_right _ _ (by omega), hlt, Nat.sub_self]
  obtain ⟨d, hd⟩ : ∃ d, n - i = d + 1 := ⟨n - i - 1, by omega⟩
  have hd' : n - (i + 1) = d := by omega
  rw [hd, hd', List.replicate_succ, List.set_cons_zero, List.take_succ_eq_append_getElem (by omega), List.append_assoc]
  rfl

end Go.Proofs.Ytppfdndnojbmjaa.B

/-! ## Conv -/
/- Plain words for the laws' own helpers: measuring an argument, copying it, comparing it with itself, marking a result and finding the marks again. No condition but the lengths that fit. -/
namespace Go.Proofs.Ytppfdndnojbmjaa.B
open Go.RowKit Go.Proofs.YtppfdndnojbmjaaW.PrintWords

def sumOf {α : Type} (f : α → Int) (xs : List α) : Int := (xs.map f).sum
theorem sumOf_nil {α : Type} (f : α → Int) : sumOf f [] = 0 := rfl
theorem sumOf_cons {α : Type} (f : α → Int) (x : α) (xs : List α) : sumOf f (x :: xs) = f x + sumOf f xs := by simp [sumOf]
theorem sumOf_nonneg {α : Type} {f : α → Int} {xs : List α} (h : ∀ x ∈ xs, 0 ≤ f x) : 0 ≤ sumOf f xs := by
  induction xs with
  | nil => simp [sumOf]
  | cons x xs ih =>
    rw [sumOf_cons]
    have h1 := h x (List.mem_cons_self ..)
    have h2 := ih fun y hy => h y (List.mem_cons_of_mem _ hy)
    omega
theorem sumOf_mem {α : Type} {f : α → Int} {xs : List α} (h : ∀ x ∈ xs, 0 ≤ f x) : ∀ x ∈ xs, f x ≤ sumOf f xs := by
  induction xs with
  | nil => intro x hx; cases hx
  | cons y xs ih =>
    intro x hx
    rw [sumOf_cons]
    have h1 := h y (List.mem_cons_self ..)
    have h2 := sumOf_nonneg (f := f) (xs := xs) fun z hz => h z (List.mem_cons_of_mem _ hz)
    rcases List.mem_cons.1 hx with rfl | hx
    · omega
    · have := ih (fun z hz => h z (List.mem_cons_of_mem _ hz)) x hx
      omega

/-- g takes s off what is left, or tells -1 if there is less. -/
def Sz (g : Int → Nat → Option Int) (s : Int) : Prop := 0 ≤ s ∧ ∀ left, 0 ≤ left → left ≤ 1048576 → Ev (fun k => g left k) (if s ≤ left then left - s else -1)
theorem Sz.id : Sz (fun left _ => some left) 0 := ⟨by omega, fun left h h' => Ev.const fun k => by show some left = _; rw [if_pos h, show left - 0 = left by omega]⟩
theorem Sz.seq {g h : Int → Nat → Option Int} {s t : Int} (a : Sz g s) (b : Sz h t) : Sz (fun left k => (g left k).bind fun u => if u < 0 then some (-1) else h u k) (s + t) := by
  refine ⟨by have := a.1; have := b.1; omega, fun left h0 h1 => ?_⟩
  have hs := a.1
  have ht := b.1
  refine Ev.bindE (a.2 left h0 h1) ?_
  by_cases c : s ≤ left
  · simp only [if_pos c]
    refine Ev.ifNeg (by omega) ?_
    have := b.2 (left - s) (by omega) (by omega)
    by_cases d : t ≤ left - s
    · rw [if_pos (by omega)]
      rw [if_pos d] at this
      have e : left - s - t = left - (s + t) := by omega
      rwa [e] at this
    · rw [if_neg (by omega)]
      rwa [if_neg d] at this
  · simp only [if_neg c]
    rw [if_neg (by omega)]
    exact Ev.ifPos (by omega) (Ev.const fun _ => rfl)
theorem Sz.len {n : Nat} (hn : n ≤ 9223372036854775807) {h : Int → Nat → Option Int} {t : Int} (b : Sz h t) : Sz (fun left k => if wrap64 (left - (n : Int)) < 0 then some (-1) else h (wrap64 (left - (n : Int))) k) ((n : Int) + t) := by
  have ht := b.1
  refine ⟨by omega, fun left h0 h1 => ?_⟩
  have e : wrap64 (left - (n : Int)) = left - n := w64 (by omega) (by omega)
  simp only [e]
  by_cases c : (n : Int) ≤ left
  · refine Ev.ifNeg (by omega) ?_
    have := b.2 (left - n) (by omega) (by omega)
    by_cases d : t ≤ left - n
    · rw [if_pos (by omega)]
      rw [if_pos d] at this
      have e : left - n - t = left - (n + t) := by omega
      rwa [e] at this
    · rw [if_neg (by omega)]
      rwa [if_neg d] at this
  · rw [if_neg (by omega)]
    exact Ev.ifPos (by omega) (Ev.const fun _ => rfl)
/-- A row: its length, then each element in turn. -/
theorem Sz.list {α : Type} {xs : List α} {rdx : Int → α} {e : α → Int → Nat → Option Int} {s : α → Int} {L : Nat → Int → Int → Option Int} (hn : xs.length ≤ 9223372036854775807)
    (hrd : ∀ (i : Nat) (h : i < xs.length), rdx (i : Int) = xs[i]) (he : ∀ x ∈ xs, Sz (e x) (s x))
    (hL : ∀ k l i, L (k + 1) l i = if i < (xs.length : Int) then (if 0 ≤ i then ((e (rdx i) l k).bind fun u => if u < 0 then some (-1) else L k u (wrap64 (i + 1))) else none) else some l) :
    Sz (fun left k => if wrap64 (left - (xs.length : Int)) < 0 then some (-1) else L k (wrap64 (left - (xs.length : Int))) 0) ((xs.length : Int) + sumOf s xs) := by
  refine Sz.len hn (h := fun left k => L k left 0) ⟨sumOf_nonneg fun x hx => (he x hx).1, ?_⟩
  have key : ∀ (suf pre : List α), xs = pre ++ suf → ∀ left, 0 ≤ left → left ≤ 1048576 → Ev (fun k => L k left (pre.length : Int)) (if sumOf s suf ≤ left then left - sumOf s suf else -1) := by
    intro suf
    induction suf with
    | nil =>
      intro pre hx left h0 h1
      refine Ev.up (g := fun k => L k left (pre.length : Int)) (Ev.const fun k => ?_)
      have : xs.length = pre.length := by rw [hx]; simp
      rw [hL, if_neg (by omega), sumOf_nil, if_pos h0]
      congr 1; omega
    | cons x suf ih =>
      intro pre hx left h0 h1
      have hlen : xs.length = pre.length + (suf.length + 1) := by rw [hx]; simp
      have hi : pre.length < xs.length := by omega
      have hxi : xs[pre.length] = x := by simp [hx]
      have hm : x ∈ xs := by rw [hx]; simp
      have hs := (he x hm).1
      have hss : 0 ≤ sumOf s suf := sumOf_nonneg fun y hy => (he y (by rw [hx]; simp [hy])).1
      refine Ev.up (g := fun k => L k left (pre.length : Int)) ?_
      simp only [hL, hrd _ hi, hxi]
      refine Ev.ifPos (by omega) (Ev.ifPos (by omega) (Ev.bindE ((he x hm).2 left h0 h1) ?_))
      rw [sumOf_cons]
      by_cases c : s x ≤ left
      · simp only [if_pos c]
        refine Ev.ifNeg (by omega) ?_
        have h' := ih (pre ++ [x]) (by rw [hx]; simp) (left - s x) (by omega) (by omega)
        have e1 : ((pre ++ [x]).length : Int) = wrap64 ((pre.length : Int) + 1) := by rw [wnext hi (by omega)]; simp
        rw [e1] at h'
        by_cases d : sumOf s suf ≤ left - s x
        · rw [if_pos (by omega)]
          rw [if_pos d] at h'
          have e : left - s x - sumOf s suf = left - (s x + sumOf s suf) := by omega
          rwa [e] at h'
        · rw [if_neg (by omega)]
          rwa [if_neg d] at h'
      · simp only [if_neg c]
        rw [if_neg (by omega)]
        exact Ev.ifPos (by omega) (Ev.const fun _ => rfl)
  exact key xs [] rfl

/-- Copying a row, element by element. -/
theorem Cv.list {α β τ : Type} {xs : List α} {rdx : Int → α} {e : Nat → α → Option τ} {mk : τ → β} {c : α → β} {t : α → τ} {z : β} {L : Nat → List β → Int → Option (List β)} {lim : Nat}
    (hlim : xs.length ≤ lim) (hbig : xs.length ≤ 9223372036854775807) (hrd : ∀ (i : Nat) (h : i < xs.length), rdx (i : Int) = xs[i]) (he : ∀ x ∈ xs, Ev (fun k => e k x) (t x)) (hc : ∀ x, mk (t x) = c x)
    (hL : ∀ k ys i, L (k + 1) ys i = if i < (xs.length : Int) then (if 0 ≤ i then ((e k (rdx i)).bind fun bt => if i < (ys.length : Int) then L k (ys.set i.toNat (mk bt)) (wrap64 (i + 1)) else none) else none) else some ys) :
    Ev (fun k => if 0 ≤ (xs.length : Int) then (if ((xs.length : Int)).toNat ≤ lim then L k (List.replicate ((xs.length : Int)).toNat z) 0 else none) else none) (xs.map c) := by
  refine Ev.ifPos (by omega) (Ev.ifPos (by omega) ?_)
  have h := scanI (fun k i => L k ((xs.map c).take i ++ List.replicate (xs.length - i) z) (i : Int)) xs.length (fun _ => xs.map c) (Ev.up (g := fun k => L k ((xs.map c).take xs.length ++ List.replicate (xs.length - xs.length) z) (xs.length : Int)) (Ev.const fun k => by
      rw [hL, if_neg (by omega)]
      simp [List.take_of_length_le])) (by
      intro i hi ih
      refine Ev.up (g := fun k => L k ((xs.map c).take i ++ List.replicate (xs.length - i) z) (i : Int)) ?_
      have hl : ((xs.map c).take i ++ List.replicate (xs.length - i) z).length = xs.length := by simp; omega
      simp only [hL, hrd _ hi]
      refine Ev.ifPos (by omega) (Ev.ifPos (by omega) (Ev.bindE (he _ (List.getElem_mem hi)) (Ev.ifPos (by rw [hl]; omega) ?_)))
      have hs := fill_set (xs.map c) z (i := i) (n := xs.length) hi (by simp)
      rw [hc, Int.toNat_natCast, wnext hi (by omega)]
      rw [List.getElem_map] at hs
      rw [hs]
      exact ih) 0 (by omega)
  simpa using h
theorem Cv.plain {α : Type} {xs : List α} {rdx : Int → α} {z : α} {L : Nat → List α → Int → Option (List α)} {lim : Nat}
    (hlim : xs.length ≤ lim) (hbig : xs.length ≤ 9223372036854775807) (hrd : ∀ (i : Nat) (h : i < xs.length), rdx (i : Int) = xs[i])
    (hL : ∀ k ys i, L (k + 1) ys i = if i < (xs.length : Int) then (if 0 ≤ i then (if i < (ys.length : Int) then L k (ys.set i.toNat (rdx i)) (wrap64 (i + 1)) else none) else none) else some ys) :
    Ev (fun k => if 0 ≤ (xs.length : Int) then (if ((xs.length : Int)).toNat ≤ lim then L k (List.replicate ((xs.length : Int)).toNat z) 0 else none) else none) xs := by
  have h := Cv.list (xs := xs) (rdx := rdx) (e := fun _ x => some x) (mk := fun x => x) (c := fun x => x) (t := fun x => x) (z := z) (L := L) hlim hbig hrd (fun x _ => Ev.const fun _ => rfl) (fun _ => rfl) hL
  simpa using h

/-- Comparing a row with itself. -/
theorem Eq.list {α : Type} {xs : List α} {rdx : Int → α} {e : Nat → α → Option Bool} {L : Nat → Int → Option Bool}
    (hbig : xs.length ≤ 9223372036854775807) (hrd : ∀ (i : Nat) (h : i < xs.length), rdx (i : Int) = xs[i]) (he : ∀ x ∈ xs, Ev (fun k => e k x) true)
    (hL : ∀ k i, L (k + 1) i = if i < (xs.length : Int) then (if 0 ≤ i then (if i < (xs.length : Int) then ((e k (rdx i)).bind fun u => if u = true then L k (wrap64 (i + 1)) else some false) else none) else none) else some true) :
    Ev (fun k => if (xs.length : Int) = (xs.length : Int) then L k 0 else some false) true := by
  refine Ev.ifPos rfl ?_
  exact scanI (fun k i => L k (i : Int)) xs.length (fun _ => true) (Ev.up (g := fun k => L k (xs.length : Int)) (Ev.const fun k => by rw [hL, if_neg (by omega)])) (by
    intro i hi ih
    refine Ev.up (g := fun k => L k (i : Int)) ?_
    simp only [hL, hrd _ hi]
    refine Ev.ifPos (by omega) (Ev.ifPos (by omega) (Ev.ifPos (by omega) (Ev.bindE (he _ (List.getElem_mem hi)) (Ev.ifPos rfl ?_))))
    rw [wnext hi (by omega)]
    exact ih) 0 (by omega)

theorem Eq.flat {α : Type} {xs : List α} {P : Int → Prop} [DecidablePred P] {L : Nat → Int → Option Bool}
    (hbig : xs.length ≤ 9223372036854775807) (hP : ∀ x, P x)
    (hL : ∀ k i, L (k + 1) i = if i < (xs.length : Int) then (if 0 ≤ i then (if i < (xs.length : Int) then (if P i then L k (wrap64 (i + 1)) else some false) else none) else none) else some true) :
    Ev (fun k => if (xs.length : Int) = (xs.length : Int) then L k 0 else some false) true := by
  refine Ev.ifPos rfl ?_
  exact scanI (fun k i => L k (i : Int)) xs.length (fun _ => true) (Ev.up (g := fun k => L k (xs.length : Int)) (Ev.const fun k => by rw [hL, if_neg (by omega)])) (by
    intro i hi ih
    refine Ev.up (g := fun k => L k (i : Int)) ?_
    simp only [hL]
    refine Ev.ifPos (by omega) (Ev.ifPos (by omega) (Ev.ifPos (by omega) (Ev.ifPos (hP _) ?_)))
    rw [wnext hi (by omega)]
    exact ih) 0 (by omega)

/-- Marks from c on, put into each element in turn. -/
def markAll {α : Type} (E : α → Int → α) (cost : α → Int) : List α → Int → List α
  | [], _ => []
  | x :: xs, c => E x c :: markAll E cost xs (c + cost x)
theorem markAll_len {α : Type} (E : α → Int → α) (cost : α → Int) (xs : List α) : ∀ c, (markAll E cost xs c).length = xs.length := by
  induction xs with
  | nil => intro c; rfl
  | cons x xs ih => intro c; simp [markAll, ih]
theorem Mk.list {α : Type} {E : α → Int → α} {cost : α → Int} {L : Nat → List α → Int → Int → Option (Int × List α)} {n : Nat} (hbig : n ≤ 1048576) (hcost : ∀ x, 0 ≤ cost x)
    (hend : ∀ k ys c, ys.length = n → L (k + 1) ys c (n : Int) = some (c, ys))
    (hstep : ∀ ys c (i : Nat) (h : i < ys.length), ys.length = n → 0 ≤ c → c + cost ys[i] ≤ 4611686018427387904 → EvEq (fun k => L (k + 1) ys c (i : Int)) (fun k => L k (ys.set i (E ys[i] c)) (c + cost ys[i]) ((i + 1 : Nat) : Int))) :
    ∀ xs : List α, xs.length = n → ∀ c, 0 ≤ c → c + sumOf cost xs ≤ 4611686018427387904 → Ev (fun k => L k xs c 0) (c + sumOf cost xs, markAll E cost xs c) := by
  have key : ∀ (suf pre : List α) (c : Int), (pre ++ suf).length = n → 0 ≤ c → c + sumOf cost suf ≤ 4611686018427387904 → Ev (fun k => L k (pre ++ suf) c (pre.length : Int)) (c + sumOf cost suf, pre ++ markAll E cost suf c) := by
    intro suf
    induction suf with
    | nil =>
      intro pre c hl h0 h1
      refine Ev.up (g := fun k => L k (pre ++ []) c (pre.length : Int)) (Ev.const fun k => ?_)
      have e : (pre.length : Int) = (n : Int) := by rw [← hl]; simp
      rw [e, hend k _ c hl, sumOf_nil]
      simp [markAll]
    | cons x suf ih =>
      intro pre c hl h0 h1
      rw [sumOf_cons] at h1 ⊢
      have hc := hcost x
      have hs : 0 ≤ sumOf cost suf := sumOf_nonneg fun y _ => hcost y
      have hi : pre.length < (pre ++ x :: suf).length := by simp
      have hx : (pre ++ x :: suf)[pre.length] = x := by simp
      refine Ev.up (g := fun k => L k (pre ++ x :: suf) c (pre.length : Int)) ?_
      have st := hstep (pre ++ x :: suf) c pre.length hi hl h0 (by rw [hx]; omega)
      rw [hx] at st
      refine Ev.ofEq st ?_
      have h' := ih (pre ++ [E x c]) (c + cost x) (by simpa using hl) (by omega) (by omega)
      have e1 : (pre ++ x :: suf).set pre.length (E x c) = pre ++ [E x c] ++ suf := by
        rw [List.set_append_right _ _ (by omega), Nat.sub_self]
        simp
      have e2 : ((pre ++ [E x c]).length : Int) = ((pre.length + 1 : Nat) : Int) := by simp
      rw [e1, ← e2]
      have e3 : c + (cost x + sumOf cost suf) = c + cost x + sumOf cost suf := by omega
      rw [e3]
      simpa [markAll] using h'
  intro xs hn c h0 h1
  exact key xs [] c (by simpa using hn) h0 h1
theorem Hd.list {α : Type} {E : α → Int → α} {cost : α → Int} {L : Nat → List α → Int → Int → Option Int} {n : Nat} (hcost : ∀ x, 0 ≤ cost x)
    (hend : ∀ k ys c, ys.length = n → L (k + 1) ys c (n : Int) = some c)
    (hstep : ∀ ys c (i : Nat) (h : i < ys.length) x, ys[i] = E x c → ys.length = n → 0 ≤ c → c + cost x ≤ 4611686018427387904 → EvEq (fun k => L (k + 1) ys c (i : Int)) (fun k => L k ys (c + cost x) ((i + 1 : Nat) : Int))) :
    ∀ xs : List α, xs.length = n → ∀ c, 0 ≤ c → c + sumOf cost xs ≤ 4611686018427387904 → Ev (fun k => L k (markAll E cost xs c) c 0) (c + sumOf cost xs) := by
  have key : ∀ (suf pre : List α) (c : Int), (pre ++ suf).length = n → 0 ≤ c → c + sumOf cost suf ≤ 4611686018427387904 → Ev (fun k => L k (pre ++ markAll E cost suf c) c (pre.length : Int)) (c + sumOf cost suf) := by
    intro suf
    induction suf with
    | nil =>
      intro pre c hl h0 h1
      refine Ev.up (g := fun k => L k (pre ++ markAll E cost [] c) c (pre.length : Int)) (Ev.const fun k => ?_)
      have e : (pre.length : Int) = (n : Int) := by rw [← hl]; simp
      rw [e, hend k _ c (by simpa [markAll] using hl), sumOf_nil]
      simp
    | cons x suf ih =>
      intro pre c hl h0 h1
      rw [sumOf_cons] at h1 ⊢
      have hc := hcost x
      have hs : 0 ≤ sumOf cost suf := sumOf_nonneg fun y _ => hcost y
      have hi : pre.length < (pre ++ markAll E cost (x :: suf) c).length := by simp [markAll]
      have hx : (pre ++ markAll E cost (x :: suf) c)[pre.length] = E x c := by simp [markAll]
      refine Ev.up (g := fun k => L k (pre ++ markAll E cost (x :: suf) c) c (pre.length : Int)) ?_
      have hln : (pre ++ markAll E cost (x :: suf) c).length = n := by
        rw [← hl]; simp [markAll_len]
      refine Ev.ofEq (hstep _ c pre.length hi x hx hln h0 (by omega)) ?_
      have h' := ih (pre ++ [E x c]) (c + cost x) (by simpa using hl) (by omega) (by omega)
      have e2 : ((pre ++ [E x c]).length : Int) = ((pre.length + 1 : Nat) : Int) := by simp
      rw [← e2]
      have e3 : c + (cost x + sumOf cost suf) = c + cost x + sumOf cost suf := by omega
      rw [e3]
      simpa [markAll] using h'
  intro xs hn c h0 h1
  exact key xs [] c (by simpa using hn) h0 h1
end Go.Proofs.Ytppfdndnojbmjaa.B

/-! ## CLine -/
/- Generated by conv.py: what the laws' helpers do with values of type Line. No condition but the lengths that fit. -/
namespace Go.Proofs.Ytppfdndnojbmjaa.C
open Go.RowKit Go.Proofs.YtppfdndnojbmjaaW.PrintWords Go.Proofs.Ytppfdndnojbmjaa.X Go.Proofs.Ytppfdndnojbmjaa.B
theorem rdat_T51 {xs : List S51} {i : Nat} (h : i < xs.length) : rd_T51 xs (i : Int) = xs[i] := by unfold rd_T51; rw [Int.toNat_natCast]; exact getD_at h _
theorem rdat_T60 {xs : List S60} {i : Nat} (h : i < xs.length) : rd_T60 xs (i : Int) = xs[i] := by unfold rd_T60; rw [Int.toNat_natCast]; exact getD_at h _
def c_Line (x : S60) : S51 := ⟨x.f0, x.f1, x.f2, x.f3⟩
theorem to_Line (v0 : Int) (v1 : Int) (v2 : Int) (v3 : Int) : Ev (fun k => laws_toLine.f v0 v1 v2 v3) (v0, v1, v2, v3) := by
  exact (Ev.const fun _ => rfl)
theorem eq_Line (v0 : Int) (v1 : Int) (v2 : Int) (v3 : Int) : Ev (fun k => laws_eqLine.f v0 v1 v2 v3 v0 v1 v2 v3) true := by
  unfold laws_eqLine.f
  refine Ev.ifPos rfl ?_
  refine Ev.ifPos rfl ?_
  refine Ev.ifPos rfl ?_
  refine Ev.ifPos rfl ?_
  exact Ev.const fun _ => rfl
end Go.Proofs.Ytppfdndnojbmjaa.C

/-! ## CLineS -/
/- Generated by conv.py: what the laws' helpers do with values of type LineS. No condition but the lengths that fit. -/
namespace Go.Proofs.Ytppfdndnojbmjaa.C
open Go.RowKit Go.Proofs.YtppfdndnojbmjaaW.PrintWords Go.Proofs.Ytppfdndnojbmjaa.X Go.Proofs.Ytppfdndnojbmjaa.B
def szv_LineS (xs : List S60) : Int := (xs.length : Int) + 0
theorem szv_LineS_nonneg (xs : List S60) : 0 ≤ szv_LineS xs := by
  unfold szv_LineS
  omega
theorem szv_LineS_len (xs : List S60) : (xs.length : Int) ≤ szv_LineS xs := by
  unfold szv_LineS
  omega
theorem sz_LineS (xs : List S60) (h : (Rdr.Lst (fun x : S60 => Rdr.I64 x.f0 ∧ (Rdr.I64 x.f1 ∧ (Rdr.I64 x.f2 ∧ (Rdr.I64 x.f3))))) xs) : Sz (fun left k => laws_szLineS.f xs left) (szv_LineS xs) :=
  Sz.len h.1 Sz.id
theorem to_LineS (xs : List S60) (h : szv_LineS xs ≤ 1048576) : Ev (fun k => laws_toLineS.f k xs) (xs.map c_Line) :=
  Cv.list (rdx := rd_T60 xs) (e := fun k x => laws_toLine.f (x.f0) (x.f1) (x.f2) (x.f3)) (mk := fun bt => (⟨bt.1, bt.2.1, bt.2.2.1, bt.2.2.2⟩ : S51)) (t := fun x => (x.f0, x.f1, x.f2, x.f3)) (L := fun k ys i => laws_toLineS.l0 k xs ys i) (by have := szv_LineS_len xs; omega) (by have := szv_LineS_len xs; omega) (fun i hi => rdat_T60 hi) (fun x hx => to_Line (x.f0) (x.f1) (x.f2) (x.f3)) (fun _ => rfl) (fun _ _ _ => rfl)
def c_LineS (xs : List S60) : List S51 := xs.map c_Line
def fit_LineS (xs : List S51) : Prop := xs.length ≤ 9223372036854775807
theorem fitc_LineS (xs : List S60) (h : szv_LineS xs ≤ 1048576) : fit_LineS (xs.map c_Line) := by
  have hl := szv_LineS_len xs
  unfold fit_LineS
  simp only [List.length_map]; omega
theorem eq_LineS (xs : List S51) (h : fit_LineS xs) : Ev (fun k => laws_eqLineS.f k xs xs) true :=
  Eq.list (xs := xs) (rdx := rd_T51 xs) (e := fun k x => laws_eqLine.f (x.f0) (x.f1) (x.f2) (x.f3) (x.f0) (x.f1) (x.f2) (x.f3)) (L := fun k i => laws_eqLineS.l0 k xs xs i) h (fun i hi => rdat_T51 hi) (fun x hx => eq_Line (x.f0) (x.f1) (x.f2) (x.f3)) (fun _ _ => rfl)
end Go.Proofs.Ytppfdndnojbmjaa.C

/-! ## PLineOk -/
/- Plain laws of lines: a line's own rule; both ValidLines. No condition but the lengths that fit in memory. -/
namespace Go.Proofs.Ytppfdndnojbmjaa.PLineOk
open Go.RowKit Go.Proofs.YtppfdndnojbmjaaW.PrintWords Go.Proofs.Ytppfdndnojbmjaa.X Go.Proofs.Ytppfdndnojbmjaa.B Go.Proofs.Ytppfdndnojbmjaa.C
abbrev M := S51
theorem rdM {xs : List M} {i : Nat} (h : i < xs.length) : rd_T51 xs (i : Int) = xs[i] := rdat_T51 h
/-- A line's rule. -/
def okLine (x : M) (marks : Int) : Bool := decide (0 ≤ x.f0 ∧ x.f0 ≤ marks - 1 ∧ 0 ≤ x.f1 ∧ x.f1 ≤ marks - 1 ∧ x.f0 ≠ x.f1 ∧ -100000 ≤ x.f2 ∧ x.f2 ≤ 100000 ∧ 1 ≤ x.f3 ∧ x.f3 ≤ 10000)
theorem implIn_eq (a b c : Int) : impl_in.f a b c = some (decide (b ≤ a ∧ a ≤ c)) := by
  unfold impl_in.f
  by_cases h : a ≥ b <;> by_cases h' : a ≤ c <;> simp [h, h'] <;> omega
theorem specIn_eq (a b c : Int) : spec_l00In.f a b c = some (decide (b ≤ a ∧ a ≤ c)) := by
  unfold spec_l00In.f
  by_cases h : a ≥ b <;> by_cases h' : a ≤ c <;> simp [h, h'] <;> omega
theorem implLineOk_eq (x : M) (m : Int) (hm : -9223372036854775808 < m) (hm' : m ≤ 9223372036854775807) : impl_lineOk.f x.f0 x.f1 x.f2 x.f3 m = some (okLine x m) := by
  unfold impl_lineOk.f okLine
  simp only [implIn_eq, Option.bind_some]
  rw [w64 (x := m - 1) (by omega) (by omega)]
  by_cases h1 : 0 ≤ x.f0 ∧ x.f0 ≤ m - 1 <;> by_cases h2 : 0 ≤ x.f1 ∧ x.f1 ≤ m - 1 <;> by_cases h3 : x.f0 = x.f1 <;> by_cases h4 : -100000 ≤ x.f2 ∧ x.f2 ≤ 100000 <;> simp [h1, h2, h3, h4] <;> omega
theorem specLineOk_eq (x : M) (m : Int) (hm : -9223372036854775808 < m) (hm' : m ≤ 9223372036854775807) : spec_l26One.f x.f0 x.f1 x.f2 x.f3 m = some (okLine x m) := by
  unfold spec_l26One.f okLine
  simp only [specIn_eq, Option.bind_some]
  rw [w64 (x := m - 1) (by omega) (by omega)]
  by_cases h1 : 0 ≤ x.f0 ∧ x.f0 ≤ m - 1 <;> by_cases h2 : 0 ≤ x.f1 ∧ x.f1 ≤ m - 1 <;> by_cases h3 : x.f0 = x.f1 <;> by_cases h4 : -100000 ≤ x.f2 ∧ x.f2 ≤ 100000 <;> simp [h1, h2, h3, h4] <;> omega

/-- Both say so of valid lines. -/
def okLines (marks : Int) (xs : List M) : Bool := decide (2 ≤ marks ∧ marks ≤ 10) && (allFrom (fun j => okLine (xs.getD j z51) marks) 0 xs.length && decide ((xs.length : Int) ≤ 12))
theorem specOk_ev (marks : Int) (xs : List M) (hn : xs.length ≤ 9223372036854775807) : Ev (fun k => spec_l26Ok.f k marks xs) (okLines marks xs) := by
  unfold okLines
  by_cases hm : 2 ≤ marks ∧ marks ≤ 10
  · have h0 := allScan (fun k i => spec_l26Ok.l0 k marks xs (i : Int)) xs.length (fun j => okLine (xs.getD j z51) marks) (decide ((xs.length : Int) ≤ 12)) (Ev.const fun k => by
      simp only [spec_l26Ok.l0]
      rw [if_neg (by omega)]) (by
      intro i hi
      refine EvEq.now fun k => ?_
      simp only [spec_l26Ok.l0]
      rw [if_pos (by omega), if_pos (by omega), rdM hi, specLineOk_eq _ _ (by omega) (by omega), Option.bind_some, wnext hi (by omega), getD_at hi]) 0 (by omega)
    refine Ev.ofEq (EvEq.now fun k => ?_) (show Ev (fun k => spec_l26Ok.l0 k marks xs ((0 : Nat) : Int)) _ from by simpa [hm] using h0)
    unfold spec_l26Ok.f
    rw [specIn_eq, Option.bind_some, if_pos (by simpa using hm)]
    rfl
  · refine Ev.const fun k => ?_
    unfold spec_l26Ok.f
    rw [specIn_eq, Option.bind_some, if_neg (by simpa using hm)]
    simp [hm]
theorem implOk_ev (marks : Int) (xs : List M) (hn : xs.length ≤ 9223372036854775807) : Ev (fun k => impl_ValidLines.f k marks xs) (okLines marks xs) := by
  unfold okLines
  by_cases hm : 2 ≤ marks ∧ marks ≤ 10
  · by_cases hl : (xs.length : Int) ≤ 12
    · have h0 := allScan (fun k i => impl_all_impl_Line__impl_ValidLines_1.l0 k xs (xs.length : Int) (i : Int) marks) xs.length (fun j => okLine (xs.getD j z51) marks) true (Ev.const fun k => by
        simp only [impl_all_impl_Line__impl_ValidLines_1.l0]
        rw [if_neg (by omega)]) (by
        intro i hi
        refine EvEq.now fun k => ?_
        simp only [impl_all_impl_Line__impl_ValidLines_1.l0, impl_ValidLines_1.f]
        rw [if_pos (by omega), if_pos (by omega), if_pos (by omega), rdM hi, implLineOk_eq _ _ (by omega) (by omega), Option.bind_some, Option.bind_some, wnext hi (by omega), getD_at hi]) 0 (by omega)
      refine Ev.ofEq (g := fun k => impl_ValidLines.f k marks xs) (f := fun k => (impl_all_impl_Line__impl_ValidLines_1.l0 k xs (xs.length : Int) ((0 : Nat) : Int) marks).bind fun t => some t) (EvEq.now fun k => ?_) ?_
      · simp only [impl_ValidLines.f, implIn_eq, Option.bind_some, impl_all_impl_Line__impl_ValidLines_1.f]
        rw [if_pos (by simpa using hm), if_pos hl]
        rfl
      · simpa [hm, hl] using h0
    · refine Ev.const fun k => ?_
      simp only [impl_ValidLines.f, implIn_eq, Option.bind_some]
      rw [if_pos (by simpa using hm), if_neg hl]
      simp [hl]
  · refine Ev.const fun k => ?_
    simp only [impl_ValidLines.f, implIn_eq, Option.bind_some]
    rw [if_neg (by simpa using hm)]
    simp [hm]

end Go.Proofs.Ytppfdndnojbmjaa.PLineOk

/-! ## PSum -/
/- Plain laws of sums. No condition but the lengths that fit. -/
namespace Go.Proofs.Ytppfdndnojbmjaa.PSum
open Go.RowKit Go.Proofs.YtppfdndnojbmjaaW.PrintWords Go.Proofs.Ytppfdndnojbmjaa.X Go.Proofs.Ytppfdndnojbmjaa.B

def sum64 (c : Int) (xs : List Int) : Int := xs.foldl (fun s x => wrap64 (s + x)) c
theorem sum64_take (xs : List Int) {i : Nat} (h : i < xs.length) : sum64 0 (xs.take (i + 1)) = wrap64 (sum64 0 (xs.take i) + xs[i]) := by
  unfold sum64
  rw [List.take_succ_eq_append_getElem h, List.foldl_append]
  rfl
theorem specSum_ev (xs : List Int) (hn : xs.length ≤ 9223372036854775807) : Ev (fun k => spec_l02Sum.f k xs) (sum64 0 xs) := by
  have h := scanI (fun k i => spec_l02Sum.l0 k xs (sum64 0 (xs.take i)) (i : Int)) xs.length (fun _ => sum64 0 xs) (Ev.up (g := fun k => spec_l02Sum.l0 k xs (sum64 0 (xs.take xs.length)) (xs.length : Int)) (Ev.const fun k => by
      simp only [spec_l02Sum.l0]
      rw [if_neg (by omega), List.take_length])) (by
    intro i hi ih
    refine Ev.up (g := fun k => spec_l02Sum.l0 k xs (sum64 0 (xs.take i)) (i : Int)) ?_
    simp only [spec_l02Sum.l0, rd_at hi, wnext hi (by omega : (xs.length : Int) ≤ _)]
    rw [sum64_take xs hi] at ih
    exact Ev.ifPos (by omega) (Ev.ifPos (by omega) ih)) 0 (by omega)
  exact h
theorem implSum_ev (xs : List Int) (hn : xs.length ≤ 9223372036854775807) : Ev (fun k => impl_sum.f k xs) (sum64 0 xs) := by
  have h := scanI (fun k i => impl_sum.l0 k (sum64 0 (xs.take i)) xs (xs.length : Int) (i : Int)) xs.length (fun _ => sum64 0 xs) (Ev.up (g := fun k => impl_sum.l0 k (sum64 0 (xs.take xs.length)) xs (xs.length : Int) (xs.length : Int)) (Ev.const fun k => by
      simp only [impl_sum.l0]
      rw [if_neg (by omega), List.take_length])) (by
    intro i hi ih
    refine Ev.up (g := fun k => impl_sum.l0 k (sum64 0 (xs.take i)) xs (xs.length : Int) (i : Int)) ?_
    simp only [impl_sum.l0, rd_at hi, wnext hi (by omega : (xs.length : Int) ≤ _)]
    rw [sum64_take xs hi] at ih
    exact Ev.ifPos (by omega) (Ev.ifPos (by omega) (Ev.ifPos (by omega) ih))) 0 (by omega)
  exact h
end Go.Proofs.Ytppfdndnojbmjaa.PSum

/-! ## PHas -/
/- Plain laws of looking for a number in a row. No condition but the lengths that fit. -/
namespace Go.Proofs.Ytppfdndnojbmjaa.PHas
open Go.RowKit Go.Proofs.YtppfdndnojbmjaaW.PrintWords Go.Proofs.Ytppfdndnojbmjaa.X Go.Proofs.Ytppfdndnojbmjaa.B
theorem mem_drop (xs : List Int) (v : Int) {i : Nat} (h : i < xs.length) : decide (v ∈ xs.drop i) = if xs[i] = v then true else decide (v ∈ xs.drop (i + 1)) := by
  have e : (v ∈ xs.drop i) = (v = xs[i] ∨ v ∈ xs.drop (i + 1)) := by rw [List.drop_eq_getElem_cons h, List.mem_cons]
  by_cases c : xs[i] = v
  · rw [if_pos c, decide_eq_true_iff, e]
    exact Or.inl c.symm
  · rw [if_neg c]
    refine decide_eq_decide.2 ?_
    rw [e]
    exact ⟨fun h => h.resolve_left fun q => c q.symm, Or.inr⟩
theorem specHas_ev (xs : List Int) (v : Int) (hn : xs.length ≤ 9223372036854775807) : Ev (fun k => spec_l00Has.f k xs v) (decide (v ∈ xs)) := by
  have h := scanI (fun k i => spec_l00Has.l0 k xs v (i : Int)) xs.length (fun i => decide (v ∈ xs.drop i)) (Ev.up (g := fun k => spec_l00Has.l0 k xs v (xs.length : Int)) (Ev.const fun k => by
      simp only [spec_l00Has.l0]
      rw [if_neg (by omega)]
      simp)) (by
    intro i hi ih
    refine Ev.up (g := fun k => spec_l00Has.l0 k xs v (i : Int)) ?_
    simp only [spec_l00Has.l0, rd_at hi, wnext hi (by omega : (xs.length : Int) ≤ _)]
    rw [mem_drop xs v hi]
    refine Ev.ifPos (by omega) (Ev.ifPos (by omega) ?_)
    by_cases c : xs[i] = v
    · rw [if_pos c]; exact Ev.ifPos c (Ev.const fun _ => rfl)
    · rw [if_neg c]; exact Ev.ifNeg c ih) 0 (by omega)
  exact h
theorem implHas_ev (xs : List Int) (v : Int) (hn : xs.length ≤ 9223372036854775807) : Ev (fun k => impl_has.f k xs v) (decide (v ∈ xs)) := by
  have h := scanI (fun k i => impl_has.l0 k v xs (xs.length : Int) (i : Int)) xs.length (fun i => decide (v ∈ xs.drop i)) (Ev.up (g := fun k => impl_has.l0 k v xs (xs.length : Int) (xs.length : Int)) (Ev.const fun k => by
      simp only [impl_has.l0]
      rw [if_neg (by omega)]
      simp)) (by
    intro i hi ih
    refine Ev.up (g := fun k => impl_has.l0 k v xs (xs.length : Int) (i : Int)) ?_
    simp only [impl_has.l0, rd_at hi, wnext hi (by omega : (xs.length : Int) ≤ _)]
    rw [mem_drop xs v hi]
    refine Ev.ifPos (by omega) (Ev.ifPos (by omega) (Ev.ifPos (by omega) ?_))
    by_cases c : xs[i] = v
    · rw [if_pos c]; exact Ev.ifPos c (Ev.const fun _ => rfl)
    · rw [if_neg c]; exact Ev.ifNeg c ih) 0 (by omega)
  exact h
end Go.Proofs.Ytppfdndnojbmjaa.PHas

/-! ## PLoop -/
/- Plain laws of loops of marks: both find the same sides of a loop, or tell the same fault. No condition but the lengths that fit in memory. -/
namespace Go.Proofs.Ytppfdndnojbmjaa.PLoop
open Go.RowKit Go.Proofs.YtppfdndnojbmjaaW.PrintWords Go.Proofs.Ytppfdndnojbmjaa.X Go.Proofs.Ytppfdndnojbmjaa.B Go.Proofs.Ytppfdndnojbmjaa.C Go.Proofs.Ytppfdndnojbmjaa.PLineOk Go.Proofs.Ytppfdndnojbmjaa.PSum Go.Proofs.Ytppfdndnojbmjaa.PHas

/-- What a line tells of the way from a to b. -/
def hit (x : M) (a b : Int) : Option (Int × Int) := if x.f0 = a ∧ x.f1 = b then some (x.f2, x.f3) else if x.f0 = b ∧ x.f1 = a then some (wrap64 (-x.f2), x.f3) else none
/-- What the first line between a and b tells. -/
def btw (ls : List M) (a b : Int) : Option (Int × Int) := ls.findSome? fun x => hit x a b
theorem btw_cons (x : M) (ls : List M) (a b : Int) : btw (x :: ls) a b = match hit x a b with | some r => some r | none => btw ls a b := by
  unfold btw
  rw [List.findSome?_cons]
  cases hit x a b <;> rfl
theorem implBtw_ev (ls : List M) (a b : Int) (hn : ls.length ≤ 9223372036854775807) : ∃ r : Int × Int × Int × Int × Bool, Ev (fun k => impl_lineBetween.f k ls a b) r ∧ (match btw ls a b with | some p => r.2.2.2.2 = true ∧ r.2.2.1 = p.1 ∧ r.2.2.2.1 = p.2 | none => r.2.2.2.2 = false) := by
  have key : ∀ (suf pre : List M), ls = pre ++ suf → ∃ r : Int × Int × Int × Int × Bool, Ev (fun k => impl_lineBetween.l0 k a b ls (ls.length : Int) (pre.length : Int)) r ∧ (match btw suf a b with | some p => r.2.2.2.2 = true ∧ r.2.2.1 = p.1 ∧ r.2.2.2.1 = p.2 | none => r.2.2.2.2 = false) := by
    intro suf
    induction suf with
    | nil =>
      intro pre hx
      have hl : ls.length = pre.length := by rw [hx]; simp
      refine ⟨(0, 0, 0, 0, false), Ev.up (g := fun k => impl_lineBetween.l0 k a b ls (ls.length : Int) (pre.length : Int)) (Ev.const fun k => ?_), rfl⟩
      simp only [impl_lineBetween.l0]
      rw [if_neg (by omega)]
    | cons x suf ih =>
      intro pre hx
      have hlen : ls.length = pre.length + (suf.length + 1) := by rw [hx]; simp
      have hi : pre.length < ls.length := by omega
      have hxi : ls[pre.length] = x := by simp [hx]
      have hj : ∀ (c : Bool) r, (c = (decide (x.f0 = a) && decide (x.f1 = b))) → Ev (fun k => impl_lineBetween.j1 k a b ls (ls.length : Int) (pre.length : Int) c x.f0 x.f1 x.f2 x.f3) r → Ev (fun k => impl_lineBetween.l0 k a b ls (ls.length : Int) (pre.length : Int)) r := by
        intro c r hc he
        refine Ev.up (g := fun k => impl_lineBetween.l0 k a b ls (ls.length : Int) (pre.length : Int)) ?_
        simp only [impl_lineBetween.l0, rdM hi, hxi]
        refine Ev.ifPos (by omega) (Ev.ifPos (by omega) (Ev.ifPos (by omega) (Ev.ite (fun h => ?_) (fun h => ?_))))
        · have : (x.f1 == b) = c := by rw [hc, decide_eq_true h, Bool.true_and]; rfl
          rw [this]; exact he
        · have : false = c := by rw [hc, decide_eq_false h, Bool.false_and]
          rw [this]; exact he
      rw [btw_cons]
      unfold hit
      by_cases h1 : x.f0 = a ∧ x.f1 = b
      · rw [if_pos h1]
        refine ⟨(x.f0, x.f1, x.f2, x.f3, true), hj true _ (by rw [decide_eq_true h1.1, decide_eq_true h1.2]; rfl) (Ev.up (g := fun k => impl_lineBetween.j1 k a b ls (ls.length : Int) (pre.length : Int) true x.f0 x.f1 x.f2 x.f3) (Ev.const fun k => ?_)), rfl, rfl, rfl⟩
        simp only [impl_lineBetween.j1]
        rw [if_pos trivial]
      · rw [if_neg h1]
        have hc : false = (decide (x.f0 = a) && decide (x.f1 = b)) := by
          by_cases q : x.f0 = a
          · have : ¬ x.f1 = b := fun e => h1 ⟨q, e⟩
            simp [this]
          · simp [q]
        by_cases h2 : x.f0 = b ∧ x.f1 = a
        · rw [if_pos h2]
          refine ⟨(x.f1, x.f0, wrap64 (-x.f2), x.f3, true), hj false _ hc (Ev.up (g := fun k => impl_lineBetween.j1 k a b ls (ls.length : Int) (pre.length : Int) false x.f0 x.f1 x.f2 x.f3) (Ev.const fun k => ?_)), rfl, rfl, rfl⟩
          simp only [impl_lineBetween.j1, impl_Line_reverse.f, Option.bind_some]
          rw [if_neg (by simp), if_pos h2.1, if_pos h2.2]
        · rw [if_neg h2]
          obtain ⟨r, hr, hr'⟩ := ih (pre ++ [x]) (by rw [hx]; simp)
          refine ⟨r, hj false _ hc (Ev.up (g := fun k => impl_lineBetween.j1 k a b ls (ls.length : Int) (pre.length : Int) false x.f0 x.f1 x.f2 x.f3) ?_), hr'⟩
          have e1 : ((pre ++ [x]).length : Int) = wrap64 ((pre.length : Int) + 1) := by rw [wnext hi (by omega)]; simp
          rw [e1] at hr
          simp only [impl_lineBetween.j1]
          refine Ev.ifNeg (by simp) (Ev.ite (fun q => Ev.ite (fun q' => absurd ⟨q, q'⟩ h2) (fun _ => hr)) (fun _ => hr))
  exact key ls [] rfl

/-- The way from mark i of a loop to the next one. -/
def next (xs : List Int) (i : Int) : Int := rd xs (Int.tmod (wrap64 (i + 1)) (xs.length : Int))
def side (ls : List M) (xs : List Int) (i : Nat) : Option (Int × Int) := btw ls (rd xs (i : Int)) (next xs (i : Int))
def hs (ls : List M) (xs : List Int) (i : Nat) : List Int := (List.range i).map fun j => ((side ls xs j).getD (0, 0)).1
def ms (ls : List M) (xs : List Int) (i : Nat) : List Int := (List.range i).map fun j => ((side ls xs j).getD (0, 0)).2
theorem hs_len (ls : List M) (xs : List Int) (i : Nat) : (hs ls xs i).length = i := by simp [hs]
theorem ms_len (ls : List M) (xs : List Int) (i : Nat) : (ms ls xs i).length = i := by simp [ms]
theorem hs_succ {ls : List M} {xs : List Int} {i : Nat} {p : Int × Int} (h : side ls xs i = some p) : hs ls xs (i + 1) = hs ls xs i ++ [p.1] := by
  simp [hs, List.range_succ, h]
theorem ms_succ {ls : List M} {xs : List Int} {i : Nat} {p : Int × Int} (h : side ls xs i = some p) : ms ls xs (i + 1) = ms ls xs i ++ [p.2] := by
  simp [ms, List.range_succ, h]
def sided (ls : List M) (xs : List Int) (j : Nat) : Bool := (side ls xs j).isSome
theorem tmod_lt {i n : Nat} (h : i < n) (hn : (n : Int) ≤ 9223372036854775807) : 0 ≤ Int.tmod (wrap64 ((i : Int) + 1)) (n : Int) ∧ Int.tmod (wrap64 ((i : Int) + 1)) (n : Int) < (n : Int) := by
  rw [wnext h hn]
  have h0 : 0 ≤ ((i + 1 : Nat) : Int) := by omega
  exact ⟨Int.tmod_nonneg _ h0, Int.tmod_lt_of_pos _ (by omega)⟩

/-- What both find of a loop's sides. -/
def sidesOf {ρ : Type} (ls : List M) (xs : List Int) (i : Nat) (ok : List Int → List Int → ρ) (no : ρ) : ρ := if allFrom (sided ls xs) i xs.length = true then ok (hs ls xs xs.length) (ms ls xs xs.length) else no
theorem sidesOf_end {ρ : Type} (ls : List M) (xs : List Int) (ok : List Int → List Int → ρ) (no : ρ) : sidesOf ls xs xs.length ok no = ok (hs ls xs xs.length) (ms ls xs xs.length) := by
  unfold sidesOf; rw [allFrom_end, if_pos rfl]
theorem sidesOf_step {ρ : Type} (ls : List M) (xs : List Int) {i : Nat} (h : i < xs.length) (ok : List Int → List Int → ρ) (no : ρ) : sidesOf ls xs i ok no = match side ls xs i with | some _ => sidesOf ls xs (i + 1) ok no | none => no := by
  unfold sidesOf
  rw [allFrom_step _ h]
  unfold sided
  cases side ls xs i <;> simp

theorem implSides_ev (ls : List M) (xs : List Int) (hn : ls.length ≤ 9223372036854775807) (hx : xs.length ≤ 1048576) : Ev (fun k => impl_loopOf.l1 k ls xs [] [] xs (xs.length : Int) 0) (sidesOf ls xs 0 (fun a b => (a, b, (0 : Int))) ([], [], 3)) := by
  have h := scanI (fun k i => impl_loopOf.l1 k ls xs (hs ls xs i) (ms ls xs i) xs (xs.length : Int) (i : Int)) xs.length (fun i => sidesOf ls xs i (fun a b => (a, b, (0 : Int))) ([], [], 3)) (Ev.up (g := fun k => impl_loopOf.l1 k ls xs (hs ls xs xs.length) (ms ls xs xs.length) xs (xs.length : Int) (xs.length : Int)) (Ev.const fun k => by
      simp only [impl_loopOf.l1]
      rw [if_neg (by omega), sidesOf_end])) (by
    intro i hi ih
    obtain ⟨t0, t1⟩ := tmod_lt hi (by omega)
    obtain ⟨r, hr, hr'⟩ := implBtw_ev ls (rd xs (i : Int)) (next xs (i : Int)) hn
    rw [sidesOf_step ls xs hi]
    refine Ev.up (g := fun k => impl_loopOf.l1 k ls xs (hs ls xs i) (ms ls xs i) xs (xs.length : Int) (i : Int)) ?_
    simp only [impl_loopOf.l1, Option.bind_some]
    refine Ev.ifPos (by omega) (Ev.ifPos (by omega) (Ev.ifPos (by omega) (Ev.ifNeg (by omega) (Ev.ifPos t0 (Ev.ifPos t1 (Ev.bindE hr ?_))))))
    rw [show btw ls (rd xs (i : Int)) (next xs (i : Int)) = side ls xs i from rfl] at hr'
    cases hsd : side ls xs i with
    | none =>
      rw [hsd] at hr'
      exact Ev.ifNeg (by rw [hr']; simp) (Ev.const fun _ => rfl)
    | some p =>
      rw [hsd] at hr'
      obtain ⟨e1, e2, e3⟩ := hr'
      rw [hs_succ hsd, ms_succ hsd] at ih
      refine Ev.ifPos e1 (Ev.ifPos (by simp [hs_len]; omega) (Ev.ifPos (by simp [ms_len]; omega) ?_))
      rw [e2, e3, wnext hi (by omega)]
      exact ih) 0 (by omega)
  exact h

theorem specSide_ev {ρ : Type} (ls : List M) (xs h m : List Int) (i : Int) (a b : Int) (hn : ls.length ≤ 9223372036854775807) (hh : h.length < 1048576) (hm : m.length < 1048576) (R : List Int × List Int × Bool)
    (hok : ∀ p, btw ls a b = some p → Ev (fun k => spec_l26Sides.l0 k ls xs (h ++ [p.1]) (m ++ [p.2]) (wrap64 (i + 1))) R) (hno : btw ls a b = none → R = ([], [], false)) : Ev (fun k => spec_l26Sides.l1 k ls xs h m i a b false 0) R := by
  have fin : ∀ (h m : List Int) (j : Nat), j ≤ ls.length → Ev (fun k => spec_l26Sides.l0 k ls xs h m (wrap64 (i + 1))) R → Ev (fun k => spec_l26Sides.l1 k ls xs h m i a b true (j : Int)) R := by
    intro h m j hj he
    have hj2 : Ev (fun k => spec_l26Sides.j2 k ls xs h m i a b true (j : Int) false) R := by
      refine Ev.up (g := fun k => spec_l26Sides.j2 k ls xs h m i a b true (j : Int) false) ?_
      simp only [spec_l26Sides.j2]
      exact Ev.ifNeg (by simp) (Ev.ifPos trivial he)
    refine Ev.up (g := fun k => spec_l26Sides.l1 k ls xs h m i a b true (j : Int)) ?_
    simp only [spec_l26Sides.l1]
    exact Ev.ite (fun _ => hj2) (fun _ => hj2)
  have key : ∀ (suf pre : List M), ls = pre ++ suf → btw suf a b = btw ls a b → Ev (fun k => spec_l26Sides.l1 k ls xs h m i a b false (pre.length : Int)) R := by
    intro suf
    induction suf with
    | nil =>
      intro pre hx hb
      have hl : ls.length = pre.length := by rw [hx]; simp
      refine Ev.up (g := fun k => spec_l26Sides.l1 k ls xs h m i a b false (pre.length : Int)) ?_
      simp only [spec_l26Sides.l1]
      refine Ev.ifNeg (by omega) (Ev.up (g := fun k => spec_l26Sides.j2 k ls xs h m i a b false (pre.length : Int) false) ?_)
      simp only [spec_l26Sides.j2]
      rw [hno (by rw [← hb]; rfl)]
      exact Ev.ifNeg (by simp) (Ev.ifNeg (by simp) (Ev.const fun _ => rfl))
    | cons x suf ih =>
      intro pre hx hb
      have hlen : ls.length = pre.length + (suf.length + 1) := by rw [hx]; simp
      have hi : pre.length < ls.length := by omega
      have hxi : ls[pre.length] = x := by simp [hx]
      have e1 : wrap64 ((pre.length : Int) + 1) = ((pre.length + 1 : Nat) : Int) := wnext hi (by omega)
      rw [btw_cons] at hb
      have J4 : ∀ c : Bool, c = (decide (x.f0 = b) && decide (x.f1 = a)) → ¬ (x.f0 = a ∧ x.f1 = b) → Ev (fun k => spec_l26Sides.j4 k ls xs h m i a b false (pre.length : Int) c x.f0 x.f1 x.f2 x.f3) R := by
        intro c hc h1
        refine Ev.up (g := fun k => spec_l26Sides.j4 k ls xs h m i a b false (pre.length : Int) c x.f0 x.f1 x.f2 x.f3) ?_
        simp only [spec_l26Sides.j4, e1]
        by_cases h2 : x.f0 = b ∧ x.f1 = a
        · rw [hit, if_neg h1, if_pos h2] at hb
          rw [hc, decide_eq_true h2.1, decide_eq_true h2.2]
          refine Ev.ifPos rfl (Ev.ifPos (by omega) (Ev.ifPos (by omega) (fin _ _ _ (by omega) (hok (wrap64 (-x.f2), x.f3) hb.symm))))
        · have hcf : c = false := by
            rw [hc]
            by_cases q : x.f0 = b
            · have : ¬ x.f1 = a := fun e => h2 ⟨q, e⟩
              simp [this]
            · simp [q]
          rw [hit, if_neg h1, if_neg h2] at hb
          have hr := ih (pre ++ [x]) (by rw [hx]; simp) hb
          rw [show ((pre ++ [x]).length : Int) = ((pre.length + 1 : Nat) : Int) by simp] at hr
          rw [hcf]
          exact Ev.ifNeg (by simp) (Ev.ifNeg (by simp) hr)
      have J3 : ∀ c : Bool, c = (decide (x.f0 = a) && decide (x.f1 = b)) → Ev (fun k => spec_l26Sides.j3 k ls xs h m i a b false (pre.length : Int) c x.f0 x.f1 x.f2 x.f3) R := by
        intro c hc
        refine Ev.up (g := fun k => spec_l26Sides.j3 k ls xs h m i a b false (pre.length : Int) c x.f0 x.f1 x.f2 x.f3) ?_
        simp only [spec_l26Sides.j3, e1]
        by_cases h1 : x.f0 = a ∧ x.f1 = b
        · rw [hit, if_pos h1] at hb
          rw [hc, decide_eq_true h1.1, decide_eq_true h1.2]
          refine Ev.ifPos rfl (Ev.ifPos (by omega) (Ev.ifPos (by omega) (fin _ _ _ (by omega) (hok (x.f2, x.f3) hb.symm))))
        · have hcf : c = false := by
            rw [hc]
            by_cases q : x.f0 = a
            · have : ¬ x.f1 = b := fun e => h1 ⟨q, e⟩
              simp [this]
            · simp [q]
          rw [hcf]
          refine Ev.ifNeg (by simp) (Ev.ite (fun q => J4 _ ?_ h1) (fun q => J4 _ ?_ h1))
          · rw [decide_eq_true q, Bool.true_and]; rfl
          · rw [decide_eq_false q, Bool.false_and]
      refine Ev.up (g := fun k => spec_l26Sides.l1 k ls xs h m i a b false (pre.length : Int)) ?_
      simp only [spec_l26Sides.l1]
      refine Ev.ifPos (by omega) (Ev.up (g := fun k => spec_l26Sides.j2 k ls xs h m i a b false (pre.length : Int) true) ?_)
      simp only [spec_l26Sides.j2, rdM hi, hxi]
      refine Ev.ifPos trivial (Ev.ifPos (by omega) (Ev.ifPos (by omega) (Ev.ite (fun q => J3 _ ?_) (fun q => J3 _ ?_))))
      · rw [decide_eq_true q, Bool.true_and]; rfl
      · rw [decide_eq_false q, Bool.false_and]
  exact key ls [] rfl rfl
theorem specSides_ev (ls : List M) (xs : List Int) (hn : ls.length ≤ 9223372036854775807) (hx : xs.length ≤ 1048576) : Ev (fun k => spec_l26Sides.f k ls xs) (sidesOf ls xs 0 (fun a b => (a, b, true)) ([], [], false)) := by
  have h := scanI (fun k i => spec_l26Sides.l0 k ls xs (hs ls xs i) (ms ls xs i) (i : Int)) xs.length (fun i => sidesOf ls xs i (fun a b => (a, b, true)) ([], [], false)) (Ev.up (g := fun k => spec_l26Sides.l0 k ls xs (hs ls xs xs.length) (ms ls xs xs.length) (xs.length : Int)) (Ev.const fun k => by
      simp only [spec_l26Sides.l0]
      rw [if_neg (by omega), sidesOf_end])) (by
    intro i hi ih
    obtain ⟨t0, t1⟩ := tmod_lt hi (by omega)
    rw [sidesOf_step ls xs hi]
    refine Ev.up (g := fun k => spec_l26Sides.l0 k ls xs (hs ls xs i) (ms ls xs i) (i : Int)) ?_
    simp only [spec_l26Sides.l0]
    refine Ev.ifPos (by omega) (Ev.ifPos (by omega) (Ev.ifNeg (by omega) (Ev.ifPos t0 (Ev.ifPos t1 ?_))))
    refine specSide_ev (ρ := Unit) ls xs _ _ _ _ _ hn (by rw [hs_len]; omega) (by rw [ms_len]; omega) _ ?_ ?_
    · intro p hp
      have hsd : side ls xs i = some p := hp
      rw [hs_succ hsd, ms_succ hsd] at ih
      rw [hsd, wnext hi (by omega)]
      exact ih
    · intro hp
      have hsd : side ls xs i = none := hp
      rw [hsd]) 0 (by omega)
  exact h

/-- Marks that make a loop: each is one of the marks, and comes once. -/
def markOk (m : Int) (xs : List Int) (i : Nat) : Bool := decide (0 ≤ rd xs (i : Int) ∧ rd xs (i : Int) ≤ m - 1) && !decide (rd xs (i : Int) ∈ xs.take i)
theorem specLoop_ev (m : Int) (xs : List Int) (hm : 2 ≤ m ∧ m ≤ 10) (hx : xs.length ≤ 1048576) : Ev (fun k => spec_l26Loop.f k m xs) (allFrom (markOk m xs) 0 xs.length && decide ((xs.length : Int) ≥ 2)) := by
  have h := scanI (fun k i => spec_l26Loop.l0 k m xs (i : Int)) xs.length (fun i => allFrom (markOk m xs) i xs.length && decide ((xs.length : Int) ≥ 2)) (Ev.up (g := fun k => spec_l26Loop.l0 k m xs (xs.length : Int)) (Ev.const fun k => by
      simp only [spec_l26Loop.l0]
      rw [if_neg (by omega), allFrom_end, Bool.true_and])) (by
    intro i hi ih
    rw [allFrom_step _ hi]
    refine Ev.up (g := fun k => spec_l26Loop.l0 k m xs (i : Int)) ?_
    simp only [spec_l26Loop.l0, specIn_eq, Option.bind_some, w64 (x := m - 1) (by omega) (by omega), Int.toNat_natCast]
    refine Ev.ifPos (by omega) (Ev.ifPos (by omega) (Ev.ite (fun c => ?_) (fun c => ?_)))
    · refine Ev.ifPos (by omega) (Ev.bindE (specHas_ev _ _ (by rw [List.length_take]; omega)) (Ev.ite (fun d => ?_) (fun d => ?_)))
      · unfold markOk; rw [d]; simpa using Ev.const (fun _ => rfl)
      · have : markOk m xs i = true := by unfold markOk; rw [c, Bool.eq_false_iff.2 d]; rfl
        rw [this, Bool.true_and, wnext hi (by omega)]
        exact ih
    · unfold markOk; rw [Bool.eq_false_iff.2 c]; simpa using Ev.const (fun _ => rfl)) 0 (by omega)
  exact h
theorem implLoop_ev (m : Int) (ls : List M) (xs : List Int) (hm : 2 ≤ m ∧ m ≤ 10) (hn : ls.length ≤ 9223372036854775807) (hx : xs.length ≤ 1048576) : Ev (fun k => impl_loopOf.l0 k m ls xs xs (xs.length : Int) 0) (if allFrom (markOk m xs) 0 xs.length = true then (if 2 ≤ (xs.length : Int) ∧ (xs.length : Int) ≤ 10 then sidesOf ls xs 0 (fun a b => (a, b, (0 : Int))) ([], [], 3) else ([], [], 2)) else ([], [], 2)) := by
  have h := scanI (fun k i => impl_loopOf.l0 k m ls xs xs (xs.length : Int) (i : Int)) xs.length (fun i => if allFrom (markOk m xs) i xs.length = true then (if 2 ≤ (xs.length : Int) ∧ (xs.length : Int) ≤ 10 then sidesOf ls xs 0 (fun a b => (a, b, (0 : Int))) ([], [], 3) else ([], [], 2)) else ([], [], 2)) (Ev.up (g := fun k => impl_loopOf.l0 k m ls xs xs (xs.length : Int) (xs.length : Int)) (by
      simp only [impl_loopOf.l0, impl_size_int64.f, implIn_eq, Option.bind_some]
      refine Ev.ifNeg (by omega) ?_
      rw [allFrom_end, if_pos rfl]
      refine Ev.ite (fun c => ?_) (fun c => ?_)
      · rw [if_pos (by simpa using c)]; exact implSides_ev ls xs hn hx
      · rw [if_neg (by simpa using c)]; exact Ev.const fun _ => rfl)) (by
    intro i hi ih
    rw [allFrom_step _ hi]
    refine Ev.up (g := fun k => impl_loopOf.l0 k m ls xs xs (xs.length : Int) (i : Int)) ?_
    simp only [impl_loopOf.l0, implIn_eq, Option.bind_some, w64 (x := m - 1) (by omega) (by omega), Int.toNat_natCast]
    refine Ev.ifPos (by omega) (Ev.ifPos (by omega) (Ev.ifPos (by omega) (Ev.ite (fun c => ?_) (fun c => ?_))))
    · refine Ev.ifPos (by omega) (Ev.bindE (implHas_ev _ _ (by rw [List.length_take]; omega)) (Ev.ite (fun d => ?_) (fun d => ?_)))
      · have : markOk m xs i = false := by unfold markOk; rw [d]; simp
        rw [this, Bool.false_and, if_neg (by simp)]; exact Ev.const fun _ => rfl
      · have : markOk m xs i = true := by unfold markOk; rw [c, Bool.eq_false_iff.2 d]; rfl
        rw [this, Bool.true_and, wnext hi (by omega)]
        exact ih
    · have : markOk m xs i = false := by unfold markOk; rw [Bool.eq_false_iff.2 c]; rfl
      rw [this, Bool.false_and, if_neg (by simp)]; exact Ev.const fun _ => rfl) 0 (by omega)
  exact h
/-- Marks that come once are no more than there are marks. -/
theorem few (m : Nat) : ∀ xs : List Int, xs.Nodup → (∀ x ∈ xs, 0 ≤ x ∧ x ≤ (m : Int) - 1) → xs.length ≤ m := by
  induction m with
  | zero =>
    intro xs _ h
    cases xs with
    | nil => simp
    | cons x xs => have := h x (by simp); omega
  | succ m ih =>
    intro xs hd h
    have h1 := ih (xs.erase (m : Int)) (hd.erase _) (by
      intro x hx
      have hx' := (List.Nodup.mem_erase_iff hd).1 hx
      have := h x hx'.2
      have := hx'.1
      omega)
    have h2 := List.length_erase (a := (m : Int)) (l := xs)
    split at h2 <;> omega
theorem loop_few (m : Int) (xs : List Int) (hm : 2 ≤ m ∧ m ≤ 10) (h : allFrom (markOk m xs) 0 xs.length = true) : xs.length ≤ 10 := by
  rw [allFrom_iff] at h
  have hh : ∀ (j : Nat) (hj : j < xs.length), (0 ≤ xs[j] ∧ xs[j] ≤ m - 1) ∧ ¬ xs[j] ∈ xs.take j := by
    intro j hj
    have := h j (by omega) hj
    unfold markOk at this
    rw [rd_at hj] at this
    simpa using this
  have hd : xs.Nodup := by
    rw [List.Nodup, List.pairwise_iff_getElem]
    intro i j hi hj hij e
    refine (hh j hj).2 ?_
    rw [← e, List.mem_take_iff_getElem]
    exact ⟨i, by omega, rfl⟩
  have := few m.toNat xs hd (by
    intro x hx
    obtain ⟨j, hj, rfl⟩ := List.getElem_of_mem hx
    have := (hh j hj).1
    omega)
  omega
/-- What both tell of a loop: the heights and metres of its sides, and a code. -/
def loopOf (m : Int) (ls : List M) (xs : List Int) : List Int × List Int × Int :=
  if okLines m ls = true then (if (allFrom (markOk m xs) 0 xs.length && decide ((xs.length : Int) ≥ 2)) = true then sidesOf ls xs 0 (fun a b => (a, b, (0 : Int))) ([], [], 3) else ([], [], 2)) else ([], [], 1)
theorem okLines_marks {m : Int} {ls : List M} (h : okLines m ls = true) : 2 ≤ m ∧ m ≤ 10 := by
  unfold okLines at h
  simp only [Bool.and_eq_true, decide_eq_true_eq] at h
  exact h.1
theorem specCode_ev (m : Int) (ls : List M) (xs : List Int) (hn : ls.length ≤ 9223372036854775807) (hx : xs.length ≤ 1048576) : Ev (fun k => spec_l26Code.f k m ls xs) (loopOf m ls xs) := by
  unfold spec_l26Code.f loopOf
  refine Ev.bindE (specOk_ev m ls hn) (Ev.ite (fun c => ?_) (fun c => ?_))
  · rw [if_pos c]
    refine Ev.bindE (specLoop_ev m xs (okLines_marks c) hx) (Ev.ite (fun d => ?_) (fun d => ?_))
    · rw [if_pos d]
      refine Ev.bindE (specSides_ev ls xs hn hx) ?_
      unfold sidesOf
      by_cases e : allFrom (sided ls xs) 0 xs.length = true
      · simp only [if_pos e]; exact Ev.ifPos trivial (Ev.const fun _ => rfl)
      · simp only [if_neg e]; exact Ev.ifNeg (by simp) (Ev.const fun _ => rfl)
    · rw [if_neg d]; exact Ev.const fun _ => rfl
  · rw [if_neg c]; exact Ev.const fun _ => rfl
theorem implCode_ev (m : Int) (ls : List M) (xs : List Int) (hn : ls.length ≤ 9223372036854775807) (hx : xs.length ≤ 1048576) : Ev (fun k => impl_loopOf.f k m ls xs) (loopOf m ls xs) := by
  unfold impl_loopOf.f loopOf
  refine Ev.bindE (implOk_ev m ls hn) (Ev.ite (fun c => ?_) (fun c => ?_))
  · rw [if_pos c]
    have hm := okLines_marks c
    refine Ev.ofEq (EvEq.now fun _ => rfl) ?_
    have h := implLoop_ev m ls xs hm hn hx
    by_cases d : allFrom (markOk m xs) 0 xs.length = true
    · have hf := loop_few m xs hm d
      rw [d, Bool.true_and]
      rw [if_pos d] at h
      by_cases e : (xs.length : Int) ≥ 2
      · rw [if_pos ⟨e, by omega⟩] at h; rw [if_pos (by simpa using e)]; exact h
      · rw [if_neg (by omega)] at h; rw [if_neg (by simpa using e)]; exact h
    · rw [if_neg d] at h
      rw [if_neg (by simp [d])]
      exact h
  · rw [if_neg c]; exact Ev.const fun _ => rfl
end Go.Proofs.Ytppfdndnojbmjaa.PLoop

/-! ## PSort -/
/- Plain laws of impl.shareOut's sort: the indices, those with greater keys first, equal keys in the order of the indices. No condition but that there is an index. -/
namespace Go.Proofs.Ytppfdndnojbmjaa.PSort
open Go.RowKit Go.Proofs.YtppfdndnojbmjaaW.PrintWords Go.Proofs.Ytppfdndnojbmjaa.X
def ltA (K : Nat → Int) (n : Nat) : Fin (n + 1) → Fin (n + 1) → Bool := fun a b => decide (K b.val < K a.val)
/-- .. and equal keys by the index. -/
def ltB (K : Nat → Int) (n : Nat) : Fin (n + 1) → Fin (n + 1) → Bool := fun a b => decide (K b.val < K a.val ∨ (K a.val = K b.val ∧ a.val < b.val))
theorem swoB (K : Nat → Int) (n : Nat) : Go.Sort.SWO (ltB K n) := by
  constructor
  · intro x; simp [ltB]
  · intro x y z h1 h2
    simp only [ltB, decide_eq_true_eq] at h1 h2 ⊢
    omega
  · intro x y z h1 h2
    simp only [ltB, decide_eq_false_iff_not] at h1 h2 ⊢
    omega
theorem lt_same (K : Nat → Int) {n : Nat} {a b : Fin (n + 1)} (h : b.val < a.val) : ltA K n a b = ltB K n a b := by
  unfold ltA ltB
  exact decide_eq_decide.2 ⟨Or.inl, fun h' => h'.elim id fun h'' => absurd h''.2 (by omega)⟩
theorem inner_eq (K : Nat → Int) (n a : Nat) : ∀ (j : Nat) (d : Array (Fin (n + 1))), j < d.size → (∀ k, k < j → (d[k]!).val < (d[j]!).val) → Go.Sort.insInner (ltA K n) a j d = Go.Sort.insInner (ltB K n) a j d
  | 0, d, _, _ => by unfold Go.Sort.insInner; rfl
  | j + 1, d, hj, h => by
    have e := lt_same K (h j (by omega))
    unfold Go.Sort.insInner
    rw [e]
    by_cases c : (decide (j + 1 > a) && ltB K n d[j + 1]! d[j]!) = true
    · rw [if_pos c, if_pos c]
      refine inner_eq K n a j _ (by rw [Go.Sort.swp_size]; omega) fun k hk => ?_
      rw [Go.Sort.swp_get d hj (by omega), Go.Sort.swp_get d hj (by omega), if_neg (by omega), if_neg (by omega), if_pos rfl]
      exact h k (by omega)
    · rw [if_neg c, if_neg c]
theorem inner_keep {n : Nat} (lt : Fin (n + 1) → Fin (n + 1) → Bool) (a : Nat) (P : Fin (n + 1) → Prop) : ∀ (j : Nat) (d : Array (Fin (n + 1))), j < d.size → (∀ k, k ≤ j → P d[k]!) → (∀ k, k ≤ j → P (Go.Sort.insInner lt a j d)[k]!) ∧ ∀ k, j < k → (Go.Sort.insInner lt a j d)[k]! = d[k]!
  | 0, d, _, h => by unfold Go.Sort.insInner; exact ⟨h, fun _ _ => rfl⟩
  | j + 1, d, hj, h => by
    unfold Go.Sort.insInner
    by_cases c : (decide (j + 1 > a) && lt d[j + 1]! d[j]!) = true
    · rw [if_pos c]
      have g := Go.Sort.swp_get d hj (show j < d.size by omega)
      obtain ⟨i1, i2⟩ := inner_keep lt a P j (Go.Sort.swp d (j + 1) j) (by rw [Go.Sort.swp_size]; omega) (fun k hk => by
        rw [g]
        by_cases e : k = j
        · rw [if_pos e]; exact h _ (by omega)
        · rw [if_neg e, if_neg (by omega)]; exact h _ (by omega))
      refine ⟨fun k hk => ?_, fun k hk => ?_⟩
      · by_cases e : k ≤ j
        · exact i1 k e
        · rw [i2 k (by omega), g, if_neg (by omega), if_pos (by omega)]
          exact h _ (by omega)
      · rw [i2 k (by omega), g, if_neg (by omega), if_neg (by omega)]
    · rw [if_neg c]
      exact ⟨h, fun _ _ => rfl⟩
theorem outer_eq (K : Nat → Int) (n b : Nat) : ∀ (m i : Nat) (d : Array (Fin (n + 1))), b - i = m → b ≤ d.size → (∀ k, k < i → (d[k]!).val < i) → (∀ k, i ≤ k → k < b → (d[k]!).val = k) → Go.Sort.insOuter (ltA K n) 0 b i d = Go.Sort.insOuter (ltB K n) 0 b i d
  | 0, i, d, hm, hb, h1, h2 => by rw [Go.Sort.insOuter, if_neg (by omega), Go.Sort.insOuter, if_neg (by omega)]
  | m + 1, i, d, hm, hb, h1, h2 => by
    have hi : i < b := by omega
    have e := inner_eq K n 0 i d (by omega) fun k hk => by have := h1 k hk; have := h2 i (by omega) hi; omega
    have go : ∀ (lt : Fin (n + 1) → Fin (n + 1) → Bool), Go.Sort.insOuter lt 0 b i d = Go.Sort.insOuter lt 0 b (i + 1) (Go.Sort.insInner lt 0 i d) := fun lt => by rw [Go.Sort.insOuter, if_pos hi]
    rw [go, go, e]
    obtain ⟨i1, i2⟩ := inner_keep (ltB K n) 0 (fun x => x.val < i + 1) i d (by omega) (fun k hk => by
      rcases Nat.lt_or_ge k i with c | c
      · have := h1 k c; omega
      · have := h2 k c (by omega); omega)
    refine outer_eq K n b m (i + 1) _ (by omega) (by rw [insInner_size]; exact hb) (fun k hk => i1 k (by omega)) fun k hk hkb => ?_
    rw [i2 k (by omega)]
    exact h2 k (by omega) hkb
/-- The whole numbers below m, one by one. -/
def upto (f : Nat → Int) (m : Nat) : List Int := (List.range m).map f
theorem upto_len (f : Nat → Int) (m : Nat) : (upto f m).length = m := by simp [upto]
theorem upto_succ (f : Nat → Int) (m : Nat) : upto f (m + 1) = upto f m ++ [f m] := by simp [upto, List.range_succ]
theorem upto_at (f : Nat → Int) {m i : Nat} (h : i < m) : rd (upto f m) (i : Int) = f i := by
  unfold rd upto
  rw [Int.toNat_natCast]
  simp [List.getD, h]
def ids (m : Nat) : List Int := upto (fun j => (j : Int)) m
theorem fin_at (n k : Nat) (h : k < n + 1) : ((shFin n (ids (n + 1)))[k]!).val = k := by
  have e := shFin_at (n := n) (xs := ids (n + 1)) k (by rw [ids, upto_len]; exact h)
  have e1 : (ids (n + 1)).getD k 0 = (k : Int) := by
    have := upto_at (fun j => (j : Int)) h
    unfold rd at this
    rwa [Int.toNat_natCast] at this
  rw [e1] at e
  have := e (by omega) (by omega)
  omega
/-- The indices as sorted. -/
def ord (K : Nat → Int) (n : Nat) : List Nat := (Go.Sort.insertionSort (ltA K n) (shFin n (ids (n + 1))) 0 (n + 1)).toList.map fun a => a.val
theorem ids_fin (n : Nat) : (shFin n (ids (n + 1))).toList.map (fun a => a.val) = List.range (n + 1) := by
  have hs : (shFin n (ids (n + 1))).size = n + 1 := by rw [shFin_size, ids, upto_len]
  apply List.ext_getElem
  · simp [hs]
  · intro i h1 h2
    have hi : i < n + 1 := by simpa using h2
    have := fin_at n i hi
    rw [getElem!_pos _ i (by rw [hs]; exact hi)] at this
    simp [this]
theorem ord_holds (K : Nat → Int) (n : Nat) : (ord K n).Perm (List.range (n + 1)) ∧ ∀ i j (hj : j < (ord K n).length), (hij : i < j) → K (ord K n)[j] < K ((ord K n)[i]'(by omega)) ∨ (K (ord K n)[j] = K ((ord K n)[i]'(by omega)) ∧ (ord K n)[i]'(by omega) < (ord K n)[j]) := by
  have hs : (shFin n (ids (n + 1))).size = n + 1 := by rw [shFin_size, ids, upto_len]
  have e : Go.Sort.insertionSort (ltA K n) (shFin n (ids (n + 1))) 0 (n + 1) = Go.Sort.insertionSort (ltB K n) (shFin n (ids (n + 1))) 0 (n + 1) := by
    unfold Go.Sort.insertionSort
    refine outer_eq K n (n + 1) _ (0 + 1) _ rfl (by rw [hs]; omega) (fun k hk => ?_) (fun k hk hk2 => fin_at n k hk2)
    obtain rfl : k = 0 := by omega
    rw [fin_at n 0 (by omega)]; omega
  obtain ⟨⟨p1, p2, p3⟩, so⟩ := Go.Sort.insertionSort_holds (lt := ltB K n) (swoB K n) (shFin n (ids (n + 1))) 0 (n + 1) (by omega) (by rw [hs]; omega)
  have hz : (Go.Sort.insertionSort (ltB K n) (shFin n (ids (n + 1))) 0 (n + 1)).size = n + 1 := by rw [p1, hs]
  have hp : (ord K n).Perm (List.range (n + 1)) := by
    unfold ord
    rw [e, ← ids_fin n]
    refine List.Perm.map _ ?_
    have ex : ∀ (a : Array (Fin (n + 1))) (q : Nat), a.size = q → a.extract 0 q = a := fun a q h => by subst h; exact Array.extract_size
    rw [ex _ _ hz, ex _ _ hs] at p3
    exact p3
  refine ⟨hp, fun i j hj hij => ?_⟩
  have hn : (ord K n).Nodup := (List.Perm.nodup_iff hp).2 List.nodup_range
  have hl : (ord K n).length = n + 1 := by rw [hp.length_eq, List.length_range]
  have at_ : ∀ q (hq : q < (ord K n).length), (ord K n)[q] = ((Go.Sort.insertionSort (ltB K n) (shFin n (ids (n + 1))) 0 (n + 1))[q]!).val := by
    intro q hq
    rw [getElem!_pos _ q (by rw [hz]; omega)]
    simp only [ord, e, List.getElem_map, Array.getElem_toList]
  have h := so i j (by omega) hij (by omega)
  have hne : (ord K n)[i]'(by omega) ≠ (ord K n)[j] := List.pairwise_iff_getElem.1 hn i j (by omega) hj hij
  simp only [ltB, decide_eq_false_iff_not] at h
  rw [← at_ i (by omega), ← at_ j hj] at h
  omega
end Go.Proofs.Ytppfdndnojbmjaa.PSort

/-! ## PShare -/
/- Plain laws of sharing out by the largest remainders: impl.shareOut (which sorts) and spec.l02Share (which looks for the greatest remainder again and again) tell the same. For a total and weights whose products fit, one weight at least and twenty at most, and their sum above 0. -/
namespace Go.Proofs.Ytppfdndnojbmjaa.PShare
open Go.RowKit Go.Proofs.YtppfdndnojbmjaaW.PrintWords Go.Proofs.Ytppfdndnojbmjaa.X Go.Proofs.Ytppfdndnojbmjaa.B Go.Proofs.Ytppfdndnojbmjaa.PSum Go.Proofs.Ytppfdndnojbmjaa.PSort
/-- The sum of f below m. -/
def psum (f : Nat → Int) : Nat → Int
  | 0 => 0
  | m + 1 => psum f m + f m
theorem sum64_psum (xs : List Int) (hb : ∀ i, i ≤ xs.length → -9223372036854775808 ≤ psum (fun j => rd xs (j : Int)) i ∧ psum (fun j => rd xs (j : Int)) i ≤ 9223372036854775807) : sum64 0 xs = psum (fun j => rd xs (j : Int)) xs.length := by
  have h : ∀ i, i ≤ xs.length → sum64 0 (xs.take i) = psum (fun j => rd xs (j : Int)) i := by
    intro i
    induction i with
    | zero => intro _; rfl
    | succ i ih =>
      intro hi
      have hi' : i < xs.length := by omega
      rw [sum64_take xs hi', ih (by omega)]
      have := hb (i + 1) hi
      simp only [psum, rd_at hi'] at this ⊢
      exact w64 this.1 this.2
  have := h xs.length (by omega)
  rwa [List.take_length] at this
theorem psum_congr {f g : Nat → Int} : ∀ {m : Nat}, (∀ j, j < m → f j = g j) → psum f m = psum g m
  | 0, _ => rfl
  | m + 1, h => by simp only [psum]; rw [psum_congr (fun j hj => h j (by omega)), h m (by omega)]
theorem psum_mono {f : Nat → Int} {n : Nat} (h : ∀ j, j < n → 0 ≤ f j) : ∀ {m : Nat}, m ≤ n → 0 ≤ psum f m ∧ psum f m ≤ psum f n := by
  have h0 : ∀ m, m ≤ n → 0 ≤ psum f m := by
    intro m
    induction m with
    | zero => intro _; exact Int.le_refl _
    | succ m ih => intro hm; have := ih (by omega); have := h m (by omega); simp only [psum]; omega
  have h1 : ∀ q m, m + q = n → psum f m ≤ psum f n := by
    intro q
    induction q with
    | zero => intro m hm; obtain rfl : m = n := by omega
              exact Int.le_refl _
    | succ q ih => intro m hm; have h2 := ih (m + 1) (by omega); have h3 := h m (by omega); simp only [psum] at h2; omega
  intro m hm
  exact ⟨h0 m hm, h1 (n - m) m (by omega)⟩
/-- What is asked of the total and the weights. -/
structure Fit (t : Int) (lw : List Int) (s : Int) : Prop where
  one : 1 ≤ lw.length
  some20 : lw.length ≤ 20
  tot : 0 ≤ t ∧ t ≤ 4611686018427387904
  pos : 0 < s
  w : ∀ i, i < lw.length → 0 ≤ rd lw (i : Int) ∧ t * rd lw (i : Int) ≤ 9223372036854775807
  sum : sum64 0 lw = s
  psm : psum (fun j => rd lw (j : Int)) lw.length = s
/-- A share, rounded down; what remains. -/
def Q (t : Int) (lw : List Int) (s : Int) (i : Nat) : Int := wrap64 (Int.tdiv (wrap64 (t * rd lw (i : Int))) s)
def R (t : Int) (lw : List Int) (s : Int) (i : Nat) : Int := Int.tmod (wrap64 (t * rd lw (i : Int))) s
section
variable {t s : Int} {lw : List Int}
theorem qr (h : Fit t lw s) {i : Nat} (hi : i < lw.length) : (0 ≤ R t lw s i ∧ R t lw s i < s) ∧ 0 ≤ Q t lw s i ∧ s * Q t lw s i + R t lw s i = t * rd lw (i : Int) := by
  obtain ⟨h0, h1⟩ := h.w i hi
  have hp := h.pos
  have ht := h.tot
  have hm : 0 ≤ t * rd lw (i : Int) := Int.mul_nonneg ht.1 h0
  unfold Q R
  rw [w64 (x := t * rd lw (i : Int)) (by omega) h1, Int.tmod_eq_emod_of_nonneg hm, Int.tdiv_eq_ediv_of_nonneg hm]
  have e := Int.mul_ediv_add_emod (t * rd lw (i : Int)) s
  have r0 := Int.emod_nonneg (t * rd lw (i : Int)) (by omega : s ≠ 0)
  have r1 := Int.emod_lt_of_pos (t * rd lw (i : Int)) hp
  have q0 := Int.ediv_nonneg hm (by omega : 0 ≤ s)
  have q1 : t * rd lw (i : Int) / s ≤ t * rd lw (i : Int) := Int.ediv_le_self _ hm
  rw [w64 (by omega) (by omega)]
  exact ⟨⟨r0, r1⟩, q0, e⟩
theorem sums (h : Fit t lw s) : ∀ {m : Nat}, m ≤ lw.length → s * psum (Q t lw s) m + psum (R t lw s) m = t * psum (fun j => rd lw (j : Int)) m
  | 0, _ => by simp [psum]
  | m + 1, hm => by
    have ih := sums h (m := m) (by omega)
    have e := (qr h (i := m) (by omega)).2.2
    simp only [psum, Int.mul_add]
    omega
theorem rsum (h : Fit t lw s) : ∀ {m : Nat}, m ≤ lw.length → 1 ≤ m → 0 ≤ psum (R t lw s) m ∧ psum (R t lw s) m < m * s
  | m + 1, hm, _ => by
    have e := (qr h (i := m) (by omega)).1
    simp only [psum]
    rcases Nat.eq_zero_or_pos m with rfl | hp
    · simp only [psum]; push_cast; omega
    · have ih := rsum h (m := m) (by omega) hp
      have : ((m + 1 : Nat) : Int) * s = m * s + s := by push_cast; rw [Int.add_mul]; omega
      omega
/-- How many are left over: fewer than there are weights. -/
theorem left_in (h : Fit t lw s) : 0 ≤ t - psum (Q t lw s) lw.length ∧ t - psum (Q t lw s) lw.length < lw.length := by
  have h1 := sums h (Nat.le_refl _)
  have h2 := rsum h (Nat.le_refl _) h.one
  rw [h.psm] at h1
  have hp := h.pos
  have e : s * (t - psum (Q t lw s) lw.length) = psum (R t lw s) lw.length := by
    rw [Int.mul_sub, Int.mul_comm s t]; omega
  constructor
  · by_cases c : 0 ≤ t - psum (Q t lw s) lw.length
    · exact c
    · have : s * (t - psum (Q t lw s) lw.length) ≤ s * (-1) := Int.mul_le_mul_of_nonneg_left (by omega) (by omega)
      omega
  · by_cases c : t - psum (Q t lw s) lw.length < lw.length
    · exact c
    · have : s * (lw.length : Int) ≤ s * (t - psum (Q t lw s) lw.length) := Int.mul_le_mul_of_nonneg_left (by omega) (by omega)
      rw [Int.mul_comm s (lw.length : Int)] at this
      omega
/-- The order of the indices. -/
def sg (t : Int) (lw : List Int) (s : Int) : List Nat := ord (R t lw s) (lw.length - 1)
theorem sg_sort (h : Fit t lw s) : shSort t lw s (ids lw.length) = (sg t lw s).map fun (j : Nat) => (j : Int) := by
  have e : lw.length = lw.length - 1 + 1 := by have := h.one; omega
  have el : (ids lw.length).length = lw.length - 1 + 1 := by rw [ids, upto_len]; exact e
  unfold shSort sg ord
  rw [el, List.map_map, show ids lw.length = ids (lw.length - 1 + 1) from congrArg ids e]
  rfl
theorem sg_holds (h : Fit t lw s) : (sg t lw s).Perm (List.range lw.length) ∧ ∀ i j (hj : j < (sg t lw s).length), (hij : i < j) → R t lw s (sg t lw s)[j] < R t lw s ((sg t lw s)[i]'(by omega)) ∨ (R t lw s (sg t lw s)[j] = R t lw s ((sg t lw s)[i]'(by omega)) ∧ (sg t lw s)[i]'(by omega) < (sg t lw s)[j]) := by
  have e : lw.length = lw.length - 1 + 1 := by have := h.one; omega
  have := ord_holds (R t lw s) (lw.length - 1)
  rw [← e] at this
  exact this
theorem sg_len (h : Fit t lw s) : (sg t lw s).length = lw.length := by rw [(sg_holds h).1.length_eq, List.length_range]
theorem sg_lt (h : Fit t lw s) {m : Nat} (hm : m < (sg t lw s).length) : (sg t lw s)[m] < lw.length := by
  have := (sg_holds h).1.mem_iff.1 (List.getElem_mem hm)
  simpa using this
theorem sg_nodup (h : Fit t lw s) : (sg t lw s).Nodup := (List.Perm.nodup_iff (sg_holds h).1).2 List.nodup_range
end
/-- One more at place p. -/
def inc (xs : List Int) (p : Nat) : List Int := xs.set p (wrap64 (rd xs (p : Int) + 1))
theorem inc_len (xs : List Int) (p : Nat) : (inc xs p).length = xs.length := by simp [inc]
/-- The shares once m are given out. -/
def F (t : Int) (lw : List Int) (s : Int) (m : Nat) : List Int := ((sg t lw s).take m).foldl inc (upto (Q t lw s) lw.length)
theorem F_zero (t : Int) (lw : List Int) (s : Int) : F t lw s 0 = upto (Q t lw s) lw.length := rfl
theorem F_succ (t : Int) (lw : List Int) (s : Int) {m : Nat} (h : m < (sg t lw s).length) : F t lw s (m + 1) = inc (F t lw s m) (sg t lw s)[m] := by
  unfold F
  rw [List.take_succ_eq_append_getElem h, List.foldl_append]
  rfl
theorem foldl_len (ps : List Nat) : ∀ xs : List Int, (ps.foldl inc xs).length = xs.length := by
  induction ps with
  | nil => intro xs; rfl
  | cons p ps ih => intro xs; rw [List.foldl_cons, ih, inc_len]
theorem F_len (t : Int) (lw : List Int) (s : Int) (m : Nat) : (F t lw s m).length = lw.length := by
  unfold F
  rw [foldl_len, upto_len]
/-- What remains once m are given out. -/
def G (t : Int) (lw : List Int) (s : Int) (m : Nat) : List Int := upto (fun j => if j ∈ (sg t lw s).take m then -1 else R t lw s j) lw.length
theorem G_len (t : Int) (lw : List Int) (s : Int) (m : Nat) : (G t lw s m).length = lw.length := upto_len _ _
section
variable {t s : Int} {lw : List Int}
theorem G_succ (h : Fit t lw s) {m : Nat} (hm : m < (sg t lw s).length) : (G t lw s m).set (sg t lw s)[m] (-1) = G t lw s (m + 1) := by
  apply List.ext_getElem
  · simp [G, upto]
  · intro i h1 h2
    have hi : i < lw.length := by rw [G_len] at h2; exact h2
    have hg : ∀ q (hq : i < (G t lw s q).length), (G t lw s q)[i] = if i ∈ (sg t lw s).take q then -1 else R t lw s i := fun q hq => by simp [G, upto]
    rw [List.getElem_set, hg, hg, List.take_succ_eq_append_getElem hm]
    by_cases e : (sg t lw s)[m] = i
    · rw [if_pos e, if_pos (by rw [e]; simp)]
    · rw [if_neg e]
      by_cases c : i ∈ (sg t lw s).take m
      · rw [if_pos c, if_pos (List.mem_append.2 (Or.inl c))]
      · rw [if_neg c, if_neg (fun h' => (List.mem_append.1 h').elim c (fun h'' => e (List.mem_singleton.1 h'').symm))]
/-- The next one: its remainder is the greatest, and the first such. -/
theorem best (h : Fit t lw s) {m : Nat} (hm : m < (sg t lw s).length) {j : Nat} (hj : j < lw.length) : rd (G t lw s m) (j : Int) ≤ rd (G t lw s m) (((sg t lw s)[m] : Nat) : Int) ∧ (j < (sg t lw s)[m] → rd (G t lw s m) (j : Int) < rd (G t lw s m) (((sg t lw s)[m] : Nat) : Int)) := by
  have hp := sg_lt h hm
  have nd := sg_nodup h
  have hnot : (sg t lw s)[m] ∉ (sg t lw s).take m := fun hin => by
    obtain ⟨k, hk, he⟩ := List.mem_iff_getElem.1 hin
    rw [List.getElem_take] at he
    have hk' : k < m := by rw [List.length_take] at hk; omega
    exact List.pairwise_iff_getElem.1 nd k m (by omega) hm hk' he
  have e1 : rd (G t lw s m) (((sg t lw s)[m] : Nat) : Int) = R t lw s (sg t lw s)[m] := by
    rw [G, upto_at _ hp, if_neg hnot]
  have r1 := (qr h hp).1.1
  rw [e1, G, upto_at _ hj]
  by_cases c : j ∈ (sg t lw s).take m
  · rw [if_pos c]; omega
  · rw [if_neg c]
    obtain ⟨k, hk, he⟩ := List.mem_iff_getElem.1 ((sg_holds h).1.mem_iff.2 (List.mem_range.2 hj))
    have hkm : m ≤ k := by
      by_cases q : m ≤ k
      · exact q
      · refine absurd ?_ c
        rw [← he]
        exact List.mem_iff_getElem.2 ⟨k, by rw [List.length_take]; omega, by rw [List.getElem_take]⟩
    rcases Nat.eq_or_lt_of_le hkm with q | q
    · subst q
      rw [he]
      omega
    · have := (sg_holds h).2 m k hk q
      rw [he] at this
      omega
theorem implShare_ev (h : Fit t lw s) : Ev (fun k => impl_shareOut.f k t lw) (F t lw s (t - psum (Q t lw s) lw.length).toNat) := by
  have hn := h.some20
  have h1 := h.one
  have hl := left_in h
  have ht := h.tot
  have hs0 : ¬ s = 0 := by have := h.pos; omega
  have hq : ∀ {m : Nat}, m ≤ lw.length → 0 ≤ psum (Q t lw s) m ∧ psum (Q t lw s) m ≤ psum (Q t lw s) lw.length := fun hm => psum_mono (fun j hj => (qr h hj).2.1) hm
  unfold impl_shareOut.f
  have hsum := implSum_ev lw (by omega)
  rw [h.sum] at hsum
  refine Ev.bindE hsum ?_
  refine scanI (fun k i => impl_shareOut.l0 k (upto (Q t lw s) i) lw (lw.length : Int) (i : Int) t lw s (ids i)) lw.length (fun _ => F t lw s (t - psum (Q t lw s) lw.length).toNat) (Ev.up (g := fun k => impl_shareOut.l0 k (upto (Q t lw s) lw.length) lw (lw.length : Int) (lw.length : Int) t lw s (ids lw.length)) ?_) (fun i hi ih => ?_) 0 (by omega)
  · have hok : shOk lw s (ids lw.length) = true := by
      simp only [shOk, Bool.and_eq_true, decide_eq_true_eq, List.all_eq_true]
      refine ⟨by rw [ids, upto_len]; exact h1, by rw [ids, upto_len]; exact hn, hs0, fun x hx => ?_⟩
      simp only [ids, upto, List.mem_map, List.mem_range] at hx
      obtain ⟨a, ha, rfl⟩ := hx
      omega
    have hqs : sum64 0 (upto (Q t lw s) lw.length) = psum (Q t lw s) lw.length := by
      have e : ∀ i, i ≤ lw.length → psum (fun j => rd (upto (Q t lw s) lw.length) (j : Int)) i = psum (Q t lw s) i := fun i hi => psum_congr fun j hj => upto_at _ (by omega)
      rw [sum64_psum _ (fun i hi => by
        rw [upto_len] at hi
        rw [e i hi]
        have := hq hi
        omega), upto_len, e _ (Nat.le_refl _)]
    have hil : (ids lw.length).length = lw.length := upto_len _ _
    have his := implSum_ev (upto (Q t lw s) lw.length) (by rw [upto_len]; omega)
    rw [hqs] at his
    have hw : wrap64 (t - psum (Q t lw s) lw.length) = t - psum (Q t lw s) lw.length := w64 (by have := hq (Nat.le_refl _); omega) (by have := hq (Nat.le_refl _); omega)
    simp only [impl_shareOut.l0, Option.bind_some]
    refine Ev.ifNeg (by omega) (Ev.ifPos hok (Ev.bindE his ?_))
    rw [hw, hil]
    refine Ev.ifPos hl.1 (Ev.ifPos (by omega) ?_)
    rw [sg_sort h]
    obtain ⟨L, hL⟩ : ∃ L : Nat, t - psum (Q t lw s) lw.length = (L : Int) := ⟨(t - psum (Q t lw s) lw.length).toNat, by omega⟩
    rw [hL, Int.toNat_natCast]
    have hLn : L < lw.length := by omega
    have hsl := sg_len h
    have htl : (((sg t lw s).map fun (j : Nat) => (j : Int)).take L).length = L := by rw [List.length_take, List.length_map]; omega
    rw [htl]
    refine scanI (fun k i => impl_shareOut.l1 k (F t lw s i) (((sg t lw s).map fun (j : Nat) => (j : Int)).take L) (L : Int) (i : Int)) L (fun _ => F t lw s L) (Ev.up (g := fun k => impl_shareOut.l1 k (F t lw s L) (((sg t lw s).map fun (j : Nat) => (j : Int)).take L) (L : Int) (L : Int)) (Ev.const fun k => by
      simp only [impl_shareOut.l1]
      rw [if_neg (by omega)])) (fun i hi ih => ?_) 0 (by omega)
    have hi' : i < (sg t lw s).length := by omega
    have hrd : rd (((sg t lw s).map fun (j : Nat) => (j : Int)).take L) (i : Int) = (((sg t lw s)[i] : Nat) : Int) := by
      rw [rd_at (by omega)]; simp
    have hlt := sg_lt h hi'
    have hFl := F_len t lw s i
    refine Ev.up (g := fun k => impl_shareOut.l1 k (F t lw s i) (((sg t lw s).map fun (j : Nat) => (j : Int)).take L) (L : Int) (i : Int)) ?_
    simp only [impl_shareOut.l1, hrd, htl, hFl, wnext hi (by omega : (L : Int) ≤ _), Int.toNat_natCast]
    refine Ev.ifPos (by omega) (Ev.ifPos (by omega) (Ev.ifPos (by omega) (Ev.ifPos (by omega) (Ev.ifPos (by omega) ?_))))
    rw [F_succ t lw s hi'] at ih
    exact ih
  · refine Ev.up (g := fun k => impl_shareOut.l0 k (upto (Q t lw s) i) lw (lw.length : Int) (i : Int) t lw s (ids i)) ?_
    have a1 : (upto (Q t lw s) i).length = i := upto_len _ _
    have a2 : (ids i).length = i := upto_len _ _
    simp only [impl_shareOut.l0, Option.bind_some, a1, a2, List.length_cons, List.length_nil, wnext hi (by omega : (lw.length : Int) ≤ _)]
    refine Ev.ifPos (by omega) (Ev.ifPos (by omega) (Ev.ifPos (by omega) (Ev.ifNeg hs0 (Ev.ifPos (by omega) (Ev.ifPos (by omega) ?_)))))
    rw [upto_succ, ids, upto_succ] at ih
    exact ih
theorem specShare_ev (h : Fit t lw s) : Ev (fun k => spec_l02Share.f k t lw s) (F t lw s (t - psum (Q t lw s) lw.length).toNat) := by
  have hn := h.some20
  have h1 := h.one
  have hl := left_in h
  have ht := h.tot
  have hs0 : ¬ s = 0 := by have := h.pos; omega
  have hq : ∀ {m : Nat}, m ≤ lw.length → 0 ≤ psum (Q t lw s) m ∧ psum (Q t lw s) m ≤ psum (Q t lw s) lw.length := fun hm => psum_mono (fun j hj => (qr h hj).2.1) hm
  have hsl := sg_len h
  unfold spec_l02Share.f
  have e0 : t = t - psum (Q t lw s) 0 := by simp [psum]
  conv => arg 1; intro k; rw [show spec_l02Share.l0 k t lw s [] [] t 0 = spec_l02Share.l0 k t lw s (upto (Q t lw s) 0) (upto (R t lw s) 0) (t - psum (Q t lw s) 0) ((0 : Nat) : Int) by rw [← e0]; rfl]
  refine scanI (fun k i => spec_l02Share.l0 k t lw s (upto (Q t lw s) i) (upto (R t lw s) i) (t - psum (Q t lw s) i) (i : Int)) lw.length (fun _ => F t lw s (t - psum (Q t lw s) lw.length).toNat) (Ev.up (g := fun k => spec_l02Share.l0 k t lw s (upto (Q t lw s) lw.length) (upto (R t lw s) lw.length) (t - psum (Q t lw s) lw.length) (lw.length : Int)) ?_) (fun i hi ih => ?_) 0 (by omega)
  · simp only [spec_l02Share.l0]
    refine Ev.ifNeg (by omega) ?_
    obtain ⟨L, hL⟩ : ∃ L : Nat, t - psum (Q t lw s) lw.length = (L : Int) := ⟨(t - psum (Q t lw s) lw.length).toNat, by omega⟩
    rw [hL, Int.toNat_natCast]
    have hLn : L < lw.length := by omega
    have g0 : upto (R t lw s) lw.length = G t lw s 0 := by unfold G; simp
    rw [g0, ← F_zero]
    have key : ∀ m i, i + m = L → Ev (fun k => spec_l02Share.l1 k (F t lw s i) (G t lw s i) (m : Int)) (F t lw s L) := by
      intro m
      induction m with
      | zero =>
        intro i hi
        obtain rfl : i = L := by omega
        refine Ev.up (g := fun k => spec_l02Share.l1 k (F t lw s i) (G t lw s i) ((0 : Nat) : Int)) (Ev.const fun k => ?_)
        simp only [spec_l02Share.l1]
        rw [if_neg (by omega)]
      | succ m ih =>
        intro i hi
        have hi' : i < (sg t lw s).length := by omega
        have hp := sg_lt h hi'
        have hFl := F_len t lw s i
        have hGl := G_len t lw s i
        refine Ev.up (g := fun k => spec_l02Share.l1 k (F t lw s i) (G t lw s i) ((m + 1 : Nat) : Int)) ?_
        simp only [spec_l02Share.l1]
        refine Ev.ifPos (by omega) ?_
        have inner : ∀ q j (b : Nat), j + q = lw.length → 1 ≤ j → b < j → ((sg t lw s)[i] < j → b = (sg t lw s)[i]) → Ev (fun k => spec_l02Share.l2 k (F t lw s i) (G t lw s i) ((m + 1 : Nat) : Int) (b : Int) (j : Int)) (F t lw s L) := by
          intro q
          induction q with
          | zero =>
            intro j b hj _ hb hbp
            obtain rfl : j = lw.length := by omega
            obtain rfl := hbp hp
            refine Ev.up (g := fun k => spec_l02Share.l2 k (F t lw s i) (G t lw s i) ((m + 1 : Nat) : Int) (((sg t lw s)[i] : Nat) : Int) (lw.length : Int)) ?_
            have ih' := ih (i + 1) (by omega)
            rw [F_succ t lw s hi', ← G_succ h hi'] at ih'
            simp only [spec_l02Share.l2, hFl, hGl, Int.toNat_natCast, w64 (x := ((m + 1 : Nat) : Int) - 1) (by omega) (by omega)]
            refine Ev.ifNeg (by omega) (Ev.ifPos (by omega) (Ev.ifPos (by omega) (Ev.ifPos (by omega) ?_)))
            rw [show ((m + 1 : Nat) : Int) - 1 = (m : Int) by omega]
            exact ih'
          | succ q ihq =>
            intro j b hj hj1 hb hbp
            have hjn : j < lw.length := by omega
            refine Ev.up (g := fun k => spec_l02Share.l2 k (F t lw s i) (G t lw s i) ((m + 1 : Nat) : Int) (b : Int) (j : Int)) ?_
            simp only [spec_l02Share.l2, hGl, wnext hjn (by omega : (lw.length : Int) ≤ _)]
            refine Ev.ifPos (by omega) (Ev.ifPos (by omega) (Ev.ifPos (by omega) (Ev.ifPos (by omega) (Ev.ite (fun c => ?_) (fun c => ?_)))))
            · refine ihq (j + 1) j (by omega) (by omega) (by omega) fun hlt => ?_
              by_cases e : j = (sg t lw s)[i]
              · exact e
              · have := hbp (by omega)
                subst this
                have := (best h hi' hjn).1
                omega
            · refine ihq (j + 1) b (by omega) (by omega) (by omega) fun hlt => ?_
              by_cases e : (sg t lw s)[i] < j
              · exact hbp e
              · have e2 : (sg t lw s)[i] = j := by omega
                have := (best h hi' (j := b) (by omega)).2 (by omega)
                rw [e2] at this
                omega
        exact inner (lw.length - 1) 1 0 (by omega) (by omega) (by omega) (by omega)
    exact key L 0 (by omega)
  · refine Ev.up (g := fun k => spec_l02Share.l0 k t lw s (upto (Q t lw s) i) (upto (R t lw s) i) (t - psum (Q t lw s) i) (i : Int)) ?_
    have a1 : (upto (Q t lw s) i).length = i := upto_len _ _
    have a2 : (upto (R t lw s) i).length = i := upto_len _ _
    have b1 := hq (m := i) (by omega)
    have b2 := hq (m := i + 1) (by omega)
    simp only [psum] at b2
    have e : wrap64 (t - psum (Q t lw s) i - wrap64 (Int.tdiv (wrap64 (t * rd lw (i : Int))) s)) = t - psum (Q t lw s) (i + 1) := by
      show wrap64 (t - psum (Q t lw s) i - Q t lw s i) = t - (psum (Q t lw s) i + Q t lw s i)
      rw [w64 (by omega) (by omega)]
      omega
    simp only [spec_l02Share.l0, a1, a2, e, wnext hi (by omega : (lw.length : Int) ≤ _)]
    refine Ev.ifPos (by omega) (Ev.ifPos (by omega) (Ev.ifNeg hs0 (Ev.ifPos (by omega) (Ev.ifPos (by omega) ?_))))
    rw [upto_succ, upto_succ] at ih
    exact ih
end
end Go.Proofs.Ytppfdndnojbmjaa.PShare

/-! ## PClosed -/
/- Plain laws of closing a loop: both take from each rise its share of the closing error. For errors of at most 1000000000 and sizes of 1 to 10000, twenty at most. -/
namespace Go.Proofs.Ytppfdndnojbmjaa.PClosed
open Go.RowKit Go.Proofs.YtppfdndnojbmjaaW.PrintWords Go.Proofs.Ytppfdndnojbmjaa.X Go.Proofs.Ytppfdndnojbmjaa.B Go.Proofs.Ytppfdndnojbmjaa.PSum Go.Proofs.Ytppfdndnojbmjaa.PSort Go.Proofs.Ytppfdndnojbmjaa.PShare
def ab (c : Int) : Int := if c < 0 then -c else c
theorem implAbs_eq {c : Int} (h : -1000000000 ≤ c ∧ c ≤ 1000000000) : impl_abs.f c = some (ab c) := by
  unfold impl_abs.f ab mx
  rw [w64 (by omega) (by omega)]
  congr 1
  split <;> split <;> omega
theorem specAbs_eq {c : Int} (h : -1000000000 ≤ c ∧ c ≤ 1000000000) : spec_l02Size.f c = some (ab c) := by
  unfold spec_l02Size.f ab
  rw [w64 (by omega) (by omega)]
  split <;> rfl
theorem sizes_fit {ss : List Int} {c : Int} (h1 : 1 ≤ ss.length) (h20 : ss.length ≤ 20) (hw : ∀ i, i < ss.length → 1 ≤ rd ss (i : Int) ∧ rd ss (i : Int) ≤ 10000) (hc : -1000000000 ≤ c ∧ c ≤ 1000000000) : Fit (ab c) ss (sum64 0 ss) := by
  have hb : ∀ i, i ≤ ss.length → (i : Int) ≤ psum (fun j => rd ss (j : Int)) i ∧ psum (fun j => rd ss (j : Int)) i ≤ 10000 * i := by
    intro i
    induction i with
    | zero => intro _; simp [psum]
    | succ i ih =>
      intro hi
      have h1 := ih (by omega)
      have h2 := hw i (by omega)
      simp only [psum]
      push_cast
      omega
  have e := sum64_psum ss fun i hi => by have := hb i hi; omega
  have hp := hb ss.length (Nat.le_refl _)
  have ha : 0 ≤ ab c ∧ ab c ≤ 1000000000 := by unfold ab; split <;> omega
  refine ⟨h1, h20, by omega, by omega, fun i hi => ⟨by have := hw i hi; omega, ?_⟩, rfl, e.symm⟩
  have h2 := hw i hi
  have := Int.mul_le_mul ha.2 h2.2 (by omega) (by omega : (0 : Int) ≤ 1000000000)
  omega
/-- The shares of an error. -/
def parts (ss : List Int) (c : Int) : List Int := F (ab c) ss (sum64 0 ss) (ab c - psum (Q (ab c) ss (sum64 0 ss)) ss.length).toNat
theorem parts_len (ss : List Int) (c : Int) : (parts ss c).length = ss.length := F_len _ _ _ _
def less1 (rs ss : List Int) (c : Int) (i : Nat) : Int := if c < 0 then wrap64 (rd rs (i : Int) + rd (parts ss c) (i : Int)) else wrap64 (rd rs (i : Int) - rd (parts ss c) (i : Int))
/-- The rises, less their shares. -/
def closed (rs ss : List Int) (c : Int) : List Int := upto (less1 rs ss c) rs.length
theorem closed_len (rs ss : List Int) (c : Int) : (closed rs ss c).length = rs.length := upto_len _ _
theorem wrap_neg (a b : Int) : wrap64 (a - wrap64 (-b)) = wrap64 (a + b) := by
  unfold wrap64
  omega
section
variable {rs ss : List Int} {c : Int}
theorem implClosed_ev (hl : rs.length = ss.length) (h1 : 1 ≤ ss.length) (h20 : ss.length ≤ 20) (hw : ∀ i, i < ss.length → 1 ≤ rd ss (i : Int) ∧ rd ss (i : Int) ≤ 10000) (hc : -1000000000 ≤ c ∧ c ≤ 1000000000) : Ev (fun k => impl_closed.f k rs ss c) (closed rs ss c) := by
  have hp := parts_len ss c
  unfold impl_closed.f
  rw [implAbs_eq hc]
  simp only [Option.bind_some]
  refine Ev.bindE (implShare_ev (sizes_fit h1 h20 hw hc)) ?_
  show Ev (fun k => impl_closed.l0 k rs c [] (parts ss c) ((parts ss c).length : Int) 0) (closed rs ss c)
  rw [hp, ← hl]
  refine scanI (fun k i => impl_closed.l0 k rs c (upto (less1 rs ss c) i) (parts ss c) (rs.length : Int) (i : Int)) rs.length (fun _ => closed rs ss c) (Ev.up (g := fun k => impl_closed.l0 k rs c (upto (less1 rs ss c) rs.length) (parts ss c) (rs.length : Int) (rs.length : Int)) (Ev.const fun k => by
    simp only [impl_closed.l0]
    rw [if_neg (by omega)]
    rfl)) (fun i hi ih => ?_) 0 (by omega)
  have a1 : (upto (less1 rs ss c) i).length = i := upto_len _ _
  refine Ev.up (g := fun k => impl_closed.l0 k rs c (upto (less1 rs ss c) i) (parts ss c) (rs.length : Int) (i : Int)) ?_
  simp only [impl_closed.l0, a1, wrap_neg, wnext hi (by omega : (rs.length : Int) ≤ _)]
  rw [upto_succ] at ih
  refine Ev.ifPos (by omega) (Ev.ifPos (by omega) (Ev.ifPos (by omega) (Ev.ite (fun d => ?_) (fun d => ?_))))
  · refine Ev.ifPos (by omega) (Ev.ifPos (by omega) ?_)
    unfold less1 at ih; simp only [if_pos d] at ih ⊢
    unfold less1; simp only [if_pos d]
    exact ih
  · refine Ev.ifPos (by omega) (Ev.ifPos (by omega) ?_)
    unfold less1 at ih; simp only [if_neg d] at ih ⊢
    unfold less1; simp only [if_neg d]
    exact ih
theorem specClosed_ev (hl : rs.length = ss.length) (h1 : 1 ≤ ss.length) (h20 : ss.length ≤ 20) (hw : ∀ i, i < ss.length → 1 ≤ rd ss (i : Int) ∧ rd ss (i : Int) ≤ 10000) (hc : -1000000000 ≤ c ∧ c ≤ 1000000000) : Ev (fun k => spec_l26Shared.f k rs ss c) (closed rs ss c) := by
  have hp := parts_len ss c
  unfold spec_l26Shared.f
  rw [specAbs_eq hc]
  simp only [Option.bind_some]
  refine Ev.bindE (specSum_ev ss (by omega)) (Ev.bindE (specShare_ev (sizes_fit h1 h20 hw hc)) ?_)
  show Ev (fun k => spec_l26Shared.l0 k rs c (parts ss c) [] 0) (closed rs ss c)
  refine scanI (fun k i => spec_l26Shared.l0 k rs c (parts ss c) (upto (less1 rs ss c) i) (i : Int)) rs.length (fun _ => closed rs ss c) (Ev.up (g := fun k => spec_l26Shared.l0 k rs c (parts ss c) (upto (less1 rs ss c) rs.length) (rs.length : Int)) (Ev.const fun k => by
    simp only [spec_l26Shared.l0]
    rw [if_neg (by omega)]
    rfl)) (fun i hi ih => ?_) 0 (by omega)
  have a1 : (upto (less1 rs ss c) i).length = i := upto_len _ _
  refine Ev.up (g := fun k => spec_l26Shared.l0 k rs c (parts ss c) (upto (less1 rs ss c) i) (i : Int)) ?_
  simp only [spec_l26Shared.l0, a1, wnext hi (by omega : (rs.length : Int) ≤ _)]
  rw [upto_succ] at ih
  refine Ev.ifPos (by omega) (Ev.ite (fun d => ?_) (fun d => ?_))
  · refine Ev.ifPos (by omega) (Ev.ifPos (by omega) (Ev.ifPos (by omega) ?_))
    unfold less1 at ih; simp only [if_pos d] at ih ⊢
    unfold less1; simp only [if_pos d]
    exact ih
  · refine Ev.ifPos (by omega) (Ev.ifPos (by omega) (Ev.ifPos (by omega) ?_))
    unfold less1 at ih; simp only [if_neg d] at ih ⊢
    unfold less1; simp only [if_neg d]
    exact ih
end
end Go.Proofs.Ytppfdndnojbmjaa.PClosed

/-! ## PMarks -/
/- Plain laws of marks: a row of whole numbers marked and found again; the text of a mark. No condition but sizes that fit. -/
namespace Go.Proofs.Ytppfdndnojbmjaa.PMarks
open Go.RowKit Go.Proofs.YtppfdndnojbmjaaW.PrintWords Go.Proofs.Ytppfdndnojbmjaa.X Go.Proofs.Ytppfdndnojbmjaa.B
/-- Whole numbers, marked from c on. -/
def mi (xs : List Int) (c : Int) : List Int := markAll (fun _ c => c) (fun _ => 1) xs c
theorem mi_len (xs : List Int) (c : Int) : (mi xs c).length = xs.length := markAll_len _ _ _ _
theorem one_sum (xs : List Int) : sumOf (fun _ : Int => (1 : Int)) xs = xs.length := by
  induction xs with
  | nil => rfl
  | cons x xs ih => rw [sumOf_cons, ih]; simp; omega
theorem markInts_ev (xs : List Int) (c : Int) (hn : xs.length ≤ 1048576) (h0 : 0 ≤ c) (h1 : c + xs.length ≤ 4611686018427387904) : Ev (fun k => laws_markInt64S.f k xs c) (c + xs.length, mi xs c) := by
  have h := Mk.list (E := fun (_ : Int) (c : Int) => c) (cost := fun _ => 1) (L := fun k ys c i => laws_markInt64S.l0 k ys c i) (n := xs.length) hn (fun _ => by omega) (by
    intro k ys c hl
    simp only [laws_markInt64S.l0]
    rw [if_neg (by omega)]) (by
    intro ys c i hi hl h0 h1
    refine EvEq.now fun k => ?_
    simp only [laws_markInt64S.l0]
    rw [if_pos (by omega), if_pos (by omega), wnext hi (by omega), w64 (x := c + 1) (by omega) (by omega)]
    rfl) xs rfl c h0 (by rw [one_sum]; omega)
  rw [one_sum] at h
  exact h
theorem heldInts_ev (xs : List Int) (c : Int) (hn : xs.length ≤ 1048576) (h0 : 0 ≤ c) (h1 : c + xs.length ≤ 4611686018427387904) : Ev (fun k => laws_heldInt64S.f k (mi xs c) c) (c + xs.length) := by
  have h := Hd.list (E := fun (_ : Int) (c : Int) => c) (cost := fun _ => 1) (L := fun k ys c i => laws_heldInt64S.l0 k ys c i) (n := xs.length) (fun _ => by omega) (by
    intro k ys c hl
    simp only [laws_heldInt64S.l0]
    rw [if_neg (by omega)]) (by
    intro ys c i hi x hx hl h0 h1
    refine EvEq.now fun k => ?_
    simp only [laws_heldInt64S.l0]
    rw [if_pos (by omega), if_pos (by omega), rd_at hi, if_pos hx, wnext hi (by omega), w64 (x := c + 1) (by omega) (by omega)]) xs rfl c h0 (by rw [one_sum]; omega)
  rw [one_sum] at h
  exact h
end Go.Proofs.Ytppfdndnojbmjaa.PMarks

/-! ## PMarkLines -/
/- A plain law of marks in lines: there is room for them. No condition but sizes that fit. -/
namespace Go.Proofs.Ytppfdndnojbmjaa.PMarks
open Go.RowKit Go.Proofs.YtppfdndnojbmjaaW.PrintWords Go.Proofs.Ytppfdndnojbmjaa.X Go.Proofs.Ytppfdndnojbmjaa.B
theorem markLines_ev (xs : List S51) (c : Int) (hn : xs.length ≤ 1048576) (h0 : 0 ≤ c) (h1 : c ≤ 1000000000) : ∃ (q : Int) (ys : List S51), 0 ≤ q ∧ q ≤ 2000000000 ∧ Ev (fun k => laws_markLineS.f k xs c) (q, ys) := by
  have key : ∀ (d i : Nat) (ys : List S51) (c : Int), i + d = xs.length → ys.length = xs.length → 0 ≤ c → c + 4 * d ≤ 4611686018427387904 → ∃ zs, Ev (fun k => laws_markLineS.l0 k ys c (i : Int)) (c + 4 * (d : Int), zs) := by
    intro d
    induction d with
    | zero =>
      intro i ys c hi hl h0 h1
      refine ⟨ys, Ev.up (g := fun k => laws_markLineS.l0 k ys c (i : Int)) (Ev.const fun k => ?_)⟩
      simp only [laws_markLineS.l0]
      rw [if_neg (by omega)]
      simp
    | succ d ih =>
      intro i ys c hi hl h0 h1
      suffices h : ∃ zs, Ev (fun k => laws_markLineS.l0 (k + 1) ys c (i : Int)) (c + 4 * ((d + 1 : Nat) : Int), zs) from h.imp fun zs hz => Ev.up (g := fun k => laws_markLineS.l0 k ys c (i : Int)) hz
      have hi' : i < xs.length := by omega
      have e : c + 4 * ((d + 1 : Nat) : Int) = c + 1 + 1 + 1 + 1 + 4 * (d : Int) := by push_cast; omega
      rw [e]
      simp only [laws_markLineS.l0, Option.bind_some, wnext hi' (by omega : (xs.length : Int) ≤ _), w64 (x := c + 1) (by omega) (by omega), w64 (x := c + 1 + 1) (by omega) (by omega), w64 (x := c + 1 + 1 + 1) (by omega) (by omega), w64 (x := c + 1 + 1 + 1 + 1) (by omega) (by omega)]
      refine (ih (i + 1) _ (c + 1 + 1 + 1 + 1) (by omega) ?_ (by omega) (by omega)).imp fun zs hz => Ev.ifPos (by omega) (Ev.ifPos (by omega) hz)
      simp only [List.length_set]
      exact hl
  obtain ⟨zs, hz⟩ := key xs.length 0 xs c (by omega) rfl h0 (by omega)
  exact ⟨_, zs, by omega, by omega, hz⟩
end Go.Proofs.Ytppfdndnojbmjaa.PMarks

/-! ## CInt64S -/
/- Generated by conv.py: what the laws' helpers do with values of type Int64S. No condition but the lengths that fit. -/
namespace Go.Proofs.Ytppfdndnojbmjaa.C
open Go.RowKit Go.Proofs.YtppfdndnojbmjaaW.PrintWords Go.Proofs.Ytppfdndnojbmjaa.X Go.Proofs.Ytppfdndnojbmjaa.B
def szv_Int64S (xs : List Int) : Int := (xs.length : Int)
theorem szv_Int64S_nonneg (xs : List Int) : 0 ≤ szv_Int64S xs := by unfold szv_Int64S; omega
theorem szv_Int64S_len (xs : List Int) : (xs.length : Int) ≤ szv_Int64S xs := Int.le_refl _
theorem to_Int64S (xs : List Int) (h : szv_Int64S xs ≤ 1048576) : Ev (fun k => laws_toInt64S.f k xs) (xs) :=
  Cv.plain (rdx := rd xs) (L := fun k ys i => laws_toInt64S.l0 k xs ys i) (by have := szv_Int64S_len xs; omega) (by have := szv_Int64S_len xs; omega) (fun i hi => rd_at hi) (fun _ _ _ => rfl)
def fit_Int64S (xs : List Int) : Prop := xs.length ≤ 9223372036854775807
theorem fitc_Int64S (xs : List Int) (h : szv_Int64S xs ≤ 1048576) : fit_Int64S xs := by
  have hl := szv_Int64S_len xs
  unfold fit_Int64S
  omega
theorem eq_Int64S (xs : List Int) (h : fit_Int64S xs) : Ev (fun k => laws_eqInt64S.f k xs xs) true :=
  Eq.flat (xs := xs) (P := fun i => (rd xs i) = (rd xs i)) (L := fun k i => laws_eqInt64S.l0 k xs xs i) h (fun _ => rfl) (fun _ _ => rfl)
end Go.Proofs.Ytppfdndnojbmjaa.C

/-! ## PureFnExactCloseLoop -/
/- The plain law of CloseLoop: both take from the rises of a loop their shares of its closing error, or tell the same fault; what came in is left as it is, and the answer shares nothing with it. For all rows of at most 1048576 elements (the law says nothing of longer ones). -/
namespace Go.Proofs.Ytppfdndnojbmjaa.Pure
open Go.RowKit Go.Proofs.YtppfdndnojbmjaaW.PrintWords Go.Proofs.Ytppfdndnojbmjaa.X Go.Proofs.Ytppfdndnojbmjaa.B Go.Proofs.Ytppfdndnojbmjaa.C Go.Proofs.Ytppfdndnojbmjaa.PLineOk Go.Proofs.Ytppfdndnojbmjaa.PSum Go.Proofs.Ytppfdndnojbmjaa.PLoop Go.Proofs.Ytppfdndnojbmjaa.PShare Go.Proofs.Ytppfdndnojbmjaa.PClosed Go.Proofs.Ytppfdndnojbmjaa.PMarks
theorem hit_ok {x : M} {m a b : Int} {p : Int × Int} (h : okLine x m = true) (e : hit x a b = some p) : (-100000 ≤ p.1 ∧ p.1 ≤ 100000) ∧ 1 ≤ p.2 ∧ p.2 ≤ 10000 := by
  simp only [okLine, decide_eq_true_eq] at h
  unfold hit at e
  split at e
  · injection e with e; subst e; simp only; omega
  · split at e
    · injection e with e; subst e
      simp only
      rw [w64 (by omega) (by omega)]
      omega
    · cases e
theorem btw_ok {ls : List M} {m a b : Int} {p : Int × Int} (h : okLines m ls = true) (e : btw ls a b = some p) : (-100000 ≤ p.1 ∧ p.1 ≤ 100000) ∧ 1 ≤ p.2 ∧ p.2 ≤ 10000 := by
  obtain ⟨x, hx, hp⟩ := List.exists_of_findSome?_eq_some e
  obtain ⟨i, hi, rfl⟩ := List.mem_iff_getElem.1 hx
  simp only [okLines, Bool.and_eq_true, decide_eq_true_eq] at h
  have := (allFrom_iff _ _ _).1 h.2.1 i (by omega) hi
  rw [getD_at hi] at this
  exact hit_ok this hp
theorem loop_ok {m : Int} {ls : List M} {xs : List Int} (h : (loopOf m ls xs).2.2 = 0) : (loopOf m ls xs).1.length = (loopOf m ls xs).2.1.length ∧ (1 ≤ (loopOf m ls xs).2.1.length ∧ (loopOf m ls xs).2.1.length ≤ 20) ∧ (∀ i, i < (loopOf m ls xs).2.1.length → 1 ≤ rd (loopOf m ls xs).2.1 (i : Int) ∧ rd (loopOf m ls xs).2.1 (i : Int) ≤ 10000) ∧ ∀ i, i < (loopOf m ls xs).1.length → -100000 ≤ rd (loopOf m ls xs).1 (i : Int) ∧ rd (loopOf m ls xs).1 (i : Int) ≤ 100000 := by
  unfold loopOf sidesOf at *
  by_cases a : okLines m ls = true
  · rw [if_pos a] at h ⊢
    by_cases b : (allFrom (markOk m xs) 0 xs.length && decide ((xs.length : Int) ≥ 2)) = true
    · rw [if_pos b] at h ⊢
      by_cases c : allFrom (sided ls xs) 0 xs.length = true
      · rw [if_pos c] at h ⊢
        simp only [Bool.and_eq_true, decide_eq_true_eq] at b
        have hf := loop_few m xs (okLines_marks a) b.1
        have side_ok : ∀ j, j < xs.length → (-100000 ≤ ((side ls xs j).getD (0, 0)).1 ∧ ((side ls xs j).getD (0, 0)).1 ≤ 100000) ∧ 1 ≤ ((side ls xs j).getD (0, 0)).2 ∧ ((side ls xs j).getD (0, 0)).2 ≤ 10000 := by
          intro j hj
          have hs := (allFrom_iff _ _ _).1 c j (by omega) hj
          unfold sided at hs
          obtain ⟨p, hp⟩ := Option.isSome_iff_exists.1 hs
          rw [hp]
          exact btw_ok a hp
        simp only [hs_len, ms_len]
        refine ⟨trivial, by omega, fun i hi => ?_, fun i hi => ?_⟩
        · rw [rd_at (by rw [ms_len]; exact hi)]
          simp only [ms, List.getElem_map, List.getElem_range]
          exact (side_ok i hi).2
        · rw [rd_at (by rw [hs_len]; exact hi)]
          simp only [hs, List.getElem_map, List.getElem_range]
          exact (side_ok i hi).1
      · rw [if_neg c] at h; exact absurd h (by decide)
    · rw [if_neg b] at h; exact absurd h (by decide)
  · rw [if_neg a] at h; exact absurd h (by decide)
theorem sum_in {rs : List Int} (hn : rs.length ≤ 20) (h : ∀ i, i < rs.length → -100000 ≤ rd rs (i : Int) ∧ rd rs (i : Int) ≤ 100000) : -2000000 ≤ sum64 0 rs ∧ sum64 0 rs ≤ 2000000 := by
  have hb : ∀ i, i ≤ rs.length → -(100000 * (i : Int)) ≤ psum (fun j => rd rs (j : Int)) i ∧ psum (fun j => rd rs (j : Int)) i ≤ 100000 * i := by
    intro i
    induction i with
    | zero => intro _; simp [psum]
    | succ i ih =>
      intro hi
      have h1 := ih (by omega)
      have h2 := h i (by omega)
      simp only [psum]
      push_cast
      omega
  rw [sum64_psum rs fun i hi => by have := hb i hi; omega]
  have := hb rs.length (Nat.le_refl _)
  omega
def closedLoop (m : Int) (ls : List M) (xs : List Int) : List Int × Int := if (loopOf m ls xs).2.2 = 0 then (closed (loopOf m ls xs).1 (loopOf m ls xs).2.1 (sum64 0 (loopOf m ls xs).1), 0) else ([], (loopOf m ls xs).2.2)
theorem specClosedLoop_ev (m : Int) (ls : List M) (xs : List Int) (hn : ls.length ≤ 9223372036854775807) (hx : xs.length ≤ 1048576) : Ev (fun k => spec_CloseLoop.f k m ls xs) (closedLoop m ls xs) := by
  unfold spec_CloseLoop.f closedLoop
  refine Ev.bindE (specCode_ev m ls xs hn hx) (Ev.ite (fun c => ?_) (fun c => ?_))
  · obtain ⟨e, ⟨l1, l2⟩, hw, hr⟩ := loop_ok c
    have hs := sum_in (by omega) hr
    rw [if_pos c]
    exact Ev.bindE (specSum_ev _ (by omega)) (Ev.bindE (specClosed_ev e l1 l2 hw (by omega)) (Ev.const fun _ => rfl))
  · rw [if_neg c]; exact Ev.const fun _ => rfl
theorem implClosedLoop_ev (m : Int) (ls : List M) (xs : List Int) (hn : ls.length ≤ 9223372036854775807) (hx : xs.length ≤ 1048576) : Ev (fun k => impl_CloseLoop.f k m ls xs) (closedLoop m ls xs) := by
  unfold impl_CloseLoop.f closedLoop
  refine Ev.bindE (implCode_ev m ls xs hn hx) (Ev.ite (fun c => ?_) (fun c => ?_))
  · obtain ⟨e, ⟨l1, l2⟩, hw, hr⟩ := loop_ok c
    have hs := sum_in (by omega) hr
    rw [if_pos c]
    exact Ev.bindE (implSum_ev _ (by omega)) (Ev.bindE (implClosed_ev e l1 l2 hw (by omega)) (Ev.const fun _ => rfl))
  · rw [if_neg c]; exact Ev.const fun _ => rfl
theorem closedLoop_len (m : Int) (ls : List M) (xs : List Int) : (closedLoop m ls xs).1.length ≤ 1048576 := by
  unfold closedLoop
  split
  · rename_i c
    obtain ⟨e, ⟨l1, l2⟩, _, _⟩ := loop_ok c
    rw [closed_len]; omega
  · simp
theorem FnExactCloseLoop : Say.FnExactCloseLoop := by
  intro m ls xs hm hls hxs
  refine Ev.rounds ?_
  unfold laws_FnExactCloseLoop.f
  refine Ev.ite (fun _ => Ev.const fun _ => rfl) (fun hx => ?_)
  refine Ev.bindE ((sz_LineS ls hls).2 _ (by omega) (by omega)) ?_
  by_cases h : szv_LineS ls ≤ 1048576
  · simp only [if_pos h]
    have tl := to_LineS ls h
    have fl := fitc_LineS ls h
    have hx' : szv_Int64S xs ≤ 1048576 := by unfold szv_Int64S; omega
    have tx := to_Int64S xs hx'
    have fx := fitc_Int64S xs hx'
    have hl : (ls.map c_Line).length ≤ 9223372036854775807 := fl
    have hl2 : (ls.map c_Line).length ≤ 1048576 := by rw [List.length_map]; have := szv_LineS_len ls; omega
    have sp := specClosedLoop_ev m _ xs hl (by omega)
    have im := implClosedLoop_ev m _ xs hl (by omega)
    have hr := closedLoop_len m (ls.map c_Line) xs
    have ge := eq_Int64S _ (fitc_Int64S (closedLoop m (ls.map c_Line) xs).1 (by unfold szv_Int64S; omega))
    obtain ⟨q, ys, hq0, hq, hml⟩ := markLines_ev (ls.map c_Line) 1 hl2 (by omega) (by omega)
    have hmi := markInts_ev xs q (by omega) hq0 (by omega)
    refine Ev.ifNeg (by omega) (Ev.bindE tl (Ev.bindE tx (Ev.bindE sp (Ev.bindE tl (Ev.bindE tx (Ev.bindE im (Ev.bindE ge (Ev.ifPos rfl ?_))))))))
    simp only [bne_self_eq_false]
    refine Ev.up (g := fun k => laws_FnExactCloseLoop.j0 k m ls xs (closedLoop m (ls.map c_Line) xs).1 (closedLoop m (ls.map c_Line) xs).2 (ls.map c_Line) xs (closedLoop m (ls.map c_Line) xs).1 (closedLoop m (ls.map c_Line) xs).2 false) ?_
    simp only [laws_FnExactCloseLoop.j0]
    refine Ev.ifNeg (by simp) (Ev.bindE tl (Ev.bindE (eq_LineS _ fl) (Ev.ifPos rfl (Ev.bindE tx (Ev.bindE (eq_Int64S _ fx) (Ev.ifPos rfl (Ev.bindE hml (Ev.bindE hmi (Ev.ifNeg (by simp only; omega) (Ev.bindE ge (Ev.ifPos rfl ?_)))))))))))
    simp only [bne_self_eq_false]
    refine Ev.up (g := fun k => laws_FnExactCloseLoop.j1 k m ls xs (closedLoop m (ls.map c_Line) xs).1 (closedLoop m (ls.map c_Line) xs).2 (closedLoop m (ls.map c_Line) xs).1 false) ?_
    simp only [laws_FnExactCloseLoop.j1]
    have mg := markInts_ev (closedLoop m (ls.map c_Line) xs).1 1 hr (by omega) (by omega)
    have hg := heldInts_ev (closedLoop m (ls.map c_Line) xs).1 1 hr (by omega) (by omega)
    refine Ev.ifNeg (by simp) (Ev.bindE mg (Ev.bindE hg (Ev.ifNeg (by omega) (Ev.ifPos rfl (Ev.bindE tl (Ev.bindE tx (Ev.bindE im (Ev.bindE ge (Ev.ifPos rfl ?_)))))))))
    simp only [bne_self_eq_false]
    refine Ev.up (g := fun k => laws_FnExactCloseLoop.j2 k (mi (closedLoop m (ls.map c_Line) xs).1 1) (1 + ((closedLoop m (ls.map c_Line) xs).1.length : Int)) false) ?_
    simp only [laws_FnExactCloseLoop.j2]
    exact Ev.ifNeg (by simp) (Ev.bindE hg (Ev.ifNeg (by omega) (Ev.ifPos rfl (Ev.const fun _ => rfl))))
  · simp only [if_neg h]
    exact Ev.ifPos (by omega) (Ev.const fun _ => rfl)
end Go.Proofs.Ytppfdndnojbmjaa.Pure

/-! ## LawFnExactCloseLoop -/
/- FnExactCloseLoop: the law's row, out of its plain statement and the walks. -/
namespace Go.Proofs.Ytppfdndnojbmjaa.fnExactCloseLoop
open Go.ChangeShapes Go.WideShapes Go.ChangeAt Go.RowKit Go.Proofs.Ytppfdndnojbmjaa.X
open Go.ChangeMaps (open_string shut_string)
theorem own : ownKnob Try.prog.godebug = none := by kernel_rfl
theorem laidOut : laidOutB Try.prog = true := by kernel_rfl
open Go.Proofs.YtppfdndnojbmjaaW.PrintWords in
theorem reader1 : Rdr.Reads Try.prog 22 (Kd.slice 60 k60) (Rdr.Lst (fun x : S60 => Rdr.I64 x.f0 ∧ (Rdr.I64 x.f1 ∧ (Rdr.I64 x.f2 ∧ (Rdr.I64 x.f3))))) := (Rdr.reads_slice Try.underlying22 (by kernel_rfl) (show Rdr.Reads Try.prog 60 k60 _ from Rdr.reads_iso (f := fun x : S60 => (x.f0, x.f1, x.f2, x.f3)) (fun a => ⟨a.1, a.2.1, a.2.2.1, a.2.2.2⟩) (fun _ => rfl) (Rdr.reads_struct Try.underlying60 (by kernel_rfl) (Rdr.freads_cons rfl (Rdr.reads_i64 Try.underlying2 (by kernel_rfl)) rfl (Rdr.freads_cons rfl (Rdr.reads_i64 Try.underlying2 (by kernel_rfl)) rfl (Rdr.freads_cons rfl (Rdr.reads_i64 Try.underlying2 (by kernel_rfl)) rfl (Rdr.freads_last rfl (Rdr.reads_i64 Try.underlying2 (by kernel_rfl)))))))))
open Go.Proofs.YtppfdndnojbmjaaW.PrintWords in
theorem reader2 : Rdr.Reads Try.prog 30 (Kd.slice 2 (Kd.int .i64)) (Rdr.Lst Rdr.I64) := (Rdr.reads_slice Try.underlying30 (by kernel_rfl) (Rdr.reads_i64 Try.underlying2 (by kernel_rfl)))
set_option maxRecDepth 100000 in
theorem lifted (os : Os) (started : os.Started) (H : Type) (enc : TypeId × Value → H) :
    ReturnsInHanded {} Try.checked os 9 .any (Rows.fnExactCloseLoopSpec.pre6 enc Try.prog Try.f9 Rows.fnExactCloseLoopRow.domain false) (Rows.fnExactCloseLoopSpec.post enc Try.prog Try.f9 false true false false) := by
  refine returnsInHanded_of_change_sized (C := Try.checked) own started (by kernel_rfl) Try.func9
    (ChangeSpec.witness6 (enc := enc) (C := Try.checked) false ⟨#[], #[.int .i64 0, .slice none 0 0, .slice none 0 0], []⟩ 8 (by kernel_rfl) (by kernel_rfl) (by kernel_rfl) (by kernel_rfl)) ?_
  intro W base args ds gs before hval0 hW hcnd hsz0 _
  have hval : ∀ (j : Nat) t v, Try.f9.params[j]? = some t → args[j]? = some v → Value.okWide Try.prog W .any base t v := hval0
  have hW' := hW
  obtain ⟨p, q, hA0, hV, rfl, hfz, hnd⟩ := hW
  have hA : DataW.TrodAll enc Try.prog W 0 (fun _ => true) true Try.f9.params.toList args.toList ds p := hA0
  rw [Try.params9] at hA hval
  obtain ⟨v0, vs0, d0, ds0, p0, q0, hargs, rfl, rfl, h0, r0⟩ := trodAll_cons hA
  obtain ⟨v1, vs1, d1, ds1, p1, q1, rfl, rfl, rfl, h1, r1⟩ := trodAll_cons r0
  obtain ⟨v2, vs2, d2, ds2, p2, q2, rfl, rfl, rfl, h2, r2⟩ := trodAll_cons r1
  obtain ⟨rfl, rfl, rfl⟩ := trodAll_nil r2
  obtain rfl : args = #[v0, v1, v2] := by cases args; simp_all
  obtain ⟨rfl, rfl⟩ := trodVars_none hV
  obtain ⟨a0, rfl, rfl, rfl, w0⟩ := open_int Try.underlying2 (hval 0 2 v0 rfl rfl) h0
  have y0 : Rdr.I64 a0 := bounds_i64 w0
  have k1 := h1
  have lt1 : ∀ x ∈ p1, x.block < W.heap.size := by obtain ⟨m, hm⟩ := k1; exact DataW.trod_lt m _ _ _ hm
  obtain ⟨fuel1, hf1⟩ := h1
  obtain ⟨x1, hK1, w1⟩ := reader1.read hf1
  obtain ⟨a1, len1, cap1, rfl⟩ := okWide_slice Try.underlying22 (hval 1 22 v1 rfl rfl)
  obtain ⟨A1, c1, hcs1, hl1, hC1⟩ := hK1
  simp [Value.cells] at hcs1
  obtain ⟨rfl, rfl, rfl⟩ := hcs1
  have k2 := h2
  have lt2 : ∀ x ∈ p2, x.block < W.heap.size := by obtain ⟨m, hm⟩ := k2; exact DataW.trod_lt m _ _ _ hm
  obtain ⟨fuel2, hf2⟩ := h2
  obtain ⟨x2, hK2, w2⟩ := reader2.read hf2
  obtain ⟨a2, len2, cap2, rfl⟩ := okWide_slice Try.underlying30 (hval 2 30 v2 rfl rfl)
  obtain ⟨A2, c2, hcs2, hl2, hC2⟩ := hK2
  simp [Value.cells] at hcs2
  obtain ⟨rfl, rfl, rfl⟩ := hcs2
  clear hA0 hval0 hsz0
  obtain ⟨k, h⟩ := Pure.FnExactCloseLoop a0 x1 x2 y0 w1 w2
  refine (laws_FnExactCloseLoop.calls k a0 _ _ x1 _ _ x2 true W hC1 hl1 hC2 hl2 ⟨rfl⟩ h).mono fun e W' ⟨he, hd⟩ => ?_
  have bel : Below W.heap.size W W' := hd
  subst he
  exact ⟨_, rfl, _, _, _, [], _, [], hW', trodAll_mk1 (shut_bool Try.underlying4 _), (trodAll_cons_mk (shut_int Try.underlying2 w0) (trodAll_cons_mk (Below.trod laidOut (by kernel_rfl) (of_decide_eq_true (by kernel_rfl)) k1 bel lt1) (trodAll_cons_mk (Below.trod laidOut (by kernel_rfl) (of_decide_eq_true (by kernel_rfl)) k2 bel lt2) trodAll_mk0))), rfl, bel.frame _, fun h => by cases h⟩
theorem over : Rows.fnExactCloseLoopRow.holds Try.pinned (OpenSpec.ofChange Rows.fnExactCloseLoopSpec) :=
  OpenClaim.holds_of_wide 9 Try.f9 rfl rfl rfl rfl rfl rfl rfl ⟨rfl, rfl, rfl, rfl, rfl⟩ rfl rfl rfl rfl rfl (by kernel_rfl) Try.func9 (by kernel_rfl)
    (of_decide_eq_true (by kernel_rfl)) (by unfold Func.isWrapper; first | (rw [if_pos (by decide +kernel)]; kernel_rfl) | (rw [if_neg (by decide +kernel)]; exact ⟨rfl, rfl⟩))
    (fun os started H enc _ => lifted os started H enc)
theorem proved : Rows.FnExactCloseLoopSaid := over
end Go.Proofs.Ytppfdndnojbmjaa.fnExactCloseLoop
namespace Go.Proofs.Ytppfdndnojbmjaa
/-- The row, under a short name, for the claim. -/
theorem fnExactCloseLoop_holds : Rows.FnExactCloseLoopSaid := fnExactCloseLoop.proved
end Go.Proofs.Ytppfdndnojbmjaa
