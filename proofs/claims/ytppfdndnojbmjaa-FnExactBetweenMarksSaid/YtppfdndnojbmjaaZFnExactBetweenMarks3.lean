/- The plain law of BetweenMarks: both tell the heights between two marks, less their shares of the closing error, or the same fault; what came in is left as it is, and the answer shares nothing with it. For all rows of at most 1048576 elements (the law says nothing of longer ones). -/
import Derived.Test.YtppfdndnojbmjaaZFnExactBetweenMarks0
import Derived.Test.YtppfdndnojbmjaaZFnExactBetweenMarks1
import Derived.Test.YtppfdndnojbmjaaZFnExactBetweenMarks2
import Derived.Deep.Slices
import Derived.ChangeArms
import Derived.ProofKit
import Derived.OpenShut
import Derived.Test.YtppfdndnojbmjaaRows
import Derived.WalkKit
import Derived.ShutString
import Derived.ChangeOld
import Derived.Below
import Derived.SizedLaws
set_option linter.unusedVariables false
set_option linter.unusedSimpArgs false

/-! ## XLawsFnExactBetweenMarks -/
namespace Go.Proofs.Ytppfdndnojbmjaa.X
open Go.RowKit Go.Proofs.Ytppfdndnojbmjaa.XV Go.Proofs.YtppfdndnojbmjaaW.PrintWords Go.Proofs.YtppfdndnojbmjaaW.PrintLast Go.Proofs.YtppfdndnojbmjaaW.PrintMore
attribute [local go_sem] max2_int min2_int max_two min_two max_three min_three max_four min_four

/-! ### laws_FnExactBetweenMarks: function 8 -/
mutual
def laws_FnExactBetweenMarks.j0 : Nat → Int → Int → List Int → List Int → List Int → Int → List Int → List Int → List Int → Int → Bool → Option (Bool)
 | 0, _, _, _, _, _, _, _, _, _, _, _ => none
 | k + 1, x0, x1, x2, x3, x9, x10, x11, x12, x13, x14, x56 => if x56 = true then (some false) else ((laws_toInt64S.f k x2).bind fun t267 => ((laws_eqInt64S.f k x11 t267).bind fun t270 => (if t270 = true then ((laws_toInt64S.f k x3).bind fun t271 => ((laws_eqInt64S.f k x12 t271).bind fun t274 => (if t274 = true then ((laws_markInt64S.f k x11 1).bind fun bt275 => ((laws_markInt64S.f k x12 bt275.1).bind fun bt277 => (if bt277.1 < 0 then (some false) else ((laws_eqInt64S.f k x13 x9).bind fun t279 => (if t279 = true then (laws_FnExactBetweenMarks.j1 k x0 x1 x2 x3 x9 x10 x13 (x14 != x10)) else (some false)))))) else (some false)))) else (some false))))
def laws_FnExactBetweenMarks.j1 : Nat → Int → Int → List Int → List Int → List Int → Int → List Int → Bool → Option (Bool)
 | 0, _, _, _, _, _, _, _, _ => none
 | k + 1, x0, x1, x2, x3, x9, x10, x13, x85 => if x85 = true then (some false) else ((laws_markInt64S.f k x13 1).bind fun bt280 => ((laws_heldInt64S.f k bt280.2 1).bind fun t282 => (if t282 < 0 then (some false) else (if t282 = bt280.1 then ((laws_toInt64S.f k x2).bind fun t283 => ((laws_toInt64S.f k x3).bind fun t286 => ((impl_BetweenMarks.f k x0 x1 t283 t286).bind fun bt289 => ((laws_eqInt64S.f k bt289.1 x9).bind fun t293 => (if t293 = true then (laws_FnExactBetweenMarks.j2 k bt280.2 bt280.1 (bt289.2 != x10)) else (some false)))))) else (some false)))))
def laws_FnExactBetweenMarks.j2 : Nat → List Int → Int → Bool → Option (Bool)
 | 0, _, _, _ => none
 | k + 1, x13, x16, x115 => if x115 = true then (some false) else ((laws_heldInt64S.f k x13 1).bind fun t294 => (if t294 < 0 then (some false) else (if t294 = x16 then (some true) else (some false))))
end
def laws_FnExactBetweenMarks.f (k : Nat) (a0 : Int) (a1 : Int) (l2 : List Int) (l3 : List Int) : Option (Bool) := if (l2.length : Int) > 1048576 then (some true) else (if (l3.length : Int) > 1048576 then (some true) else ((laws_toInt64S.f k l2).bind fun t246 => ((laws_toInt64S.f k l3).bind fun t249 => ((spec_BetweenMarks.f k a0 a1 t246 t249).bind fun bt252 => ((laws_toInt64S.f k l2).bind fun t256 => ((laws_toInt64S.f k l3).bind fun t259 => ((impl_BetweenMarks.f k a0 a1 t256 t259).bind fun bt262 => ((laws_eqInt64S.f k bt262.1 bt252.1).bind fun t266 => (if t266 = true then (laws_FnExactBetweenMarks.j0 k a0 a1 l2 l3 bt252.1 bt252.2 t256 t259 bt262.1 bt262.2 (bt262.2 != bt252.2)) else (some false))))))))))
theorem laws_FnExactBetweenMarks.mono_l : ∀ k, (∀ y0 y1 y2 y3 y4 y5 y6 y7 y8 y9 y10, LeO (laws_FnExactBetweenMarks.j0 k y0 y1 y2 y3 y4 y5 y6 y7 y8 y9 y10) (laws_FnExactBetweenMarks.j0 (k + 1) y0 y1 y2 y3 y4 y5 y6 y7 y8 y9 y10)) ∧ (∀ y0 y1 y2 y3 y4 y5 y6 y7, LeO (laws_FnExactBetweenMarks.j1 k y0 y1 y2 y3 y4 y5 y6 y7) (laws_FnExactBetweenMarks.j1 (k + 1) y0 y1 y2 y3 y4 y5 y6 y7)) ∧ (∀ y0 y1 y2, LeO (laws_FnExactBetweenMarks.j2 k y0 y1 y2) (laws_FnExactBetweenMarks.j2 (k + 1) y0 y1 y2))
 | 0 => ⟨fun _ _ _ _ _ _ _ _ _ _ _ r h => by simp [laws_FnExactBetweenMarks.j0] at h, fun _ _ _ _ _ _ _ _ r h => by simp [laws_FnExactBetweenMarks.j1] at h, fun _ _ _ r h => by simp [laws_FnExactBetweenMarks.j2] at h⟩
 | k + 1 => by
  obtain ⟨ih0, ih1, ih2⟩ := laws_FnExactBetweenMarks.mono_l k
  refine ⟨?_, ?_, ?_⟩
  ·intro y0 y1 y2 y3 y4 y5 y6 y7 y8 y9 y10
   unfold laws_FnExactBetweenMarks.j0
   repeat' first
   | (with_reducible exact ih0 _ _ _ _ _ _ _ _ _ _ _)
   | (with_reducible exact ih1 _ _ _ _ _ _ _ _)
   | (with_reducible exact ih2 _ _ _)
   | (with_reducible exact impl_BetweenMarks.mono _ _ _ _ _)
   | (with_reducible exact laws_eqInt64S.mono _ _ _)
   | (with_reducible exact laws_heldInt64S.mono _ _ _)
   | (with_reducible exact laws_markInt64S.mono _ _ _)
   | (with_reducible exact laws_toInt64S.mono _ _)
   | (with_reducible exact spec_BetweenMarks.mono _ _ _ _ _)
   | (with_reducible exact LeO.refl _)
   | (with_reducible exact LeO.none _)
   | (with_reducible refine LeO.ite ?_ ?_)
   | (with_reducible refine LeO.bind ?_ (fun _ => ?_))
   | exact ih0 _ _ _ _ _ _ _ _ _ _ _
   | exact ih1 _ _ _ _ _ _ _ _
   | exact ih2 _ _ _
   | exact impl_BetweenMarks.mono _ _ _ _ _
   | exact laws_eqInt64S.mono _ _ _
   | exact laws_heldInt64S.mono _ _ _
   | exact laws_markInt64S.mono _ _ _
   | exact laws_toInt64S.mono _ _
   | exact spec_BetweenMarks.mono _ _ _ _ _
   | exact LeO.none _
   | refine LeO.ite ?_ ?_
   | refine LeO.bind ?_ (fun _ => ?_)
  ·intro y0 y1 y2 y3 y4 y5 y6 y7
   unfold laws_FnExactBetweenMarks.j1
   repeat' first
   | (with_reducible exact ih0 _ _ _ _ _ _ _ _ _ _ _)
   | (with_reducible exact ih1 _ _ _ _ _ _ _ _)
   | (with_reducible exact ih2 _ _ _)
   | (with_reducible exact impl_BetweenMarks.mono _ _ _ _ _)
   | (with_reducible exact laws_eqInt64S.mono _ _ _)
   | (with_reducible exact laws_heldInt64S.mono _ _ _)
   | (with_reducible exact laws_markInt64S.mono _ _ _)
   | (with_reducible exact laws_toInt64S.mono _ _)
   | (with_reducible exact spec_BetweenMarks.mono _ _ _ _ _)
   | (with_reducible exact LeO.refl _)
   | (with_reducible exact LeO.none _)
   | (with_reducible refine LeO.ite ?_ ?_)
   | (with_reducible refine LeO.bind ?_ (fun _ => ?_))
   | exact ih0 _ _ _ _ _ _ _ _ _ _ _
   | exact ih1 _ _ _ _ _ _ _ _
   | exact ih2 _ _ _
   | exact impl_BetweenMarks.mono _ _ _ _ _
   | exact laws_eqInt64S.mono _ _ _
   | exact laws_heldInt64S.mono _ _ _
   | exact laws_markInt64S.mono _ _ _
   | exact laws_toInt64S.mono _ _
   | exact spec_BetweenMarks.mono _ _ _ _ _
   | exact LeO.none _
   | refine LeO.ite ?_ ?_
   | refine LeO.bind ?_ (fun _ => ?_)
  ·intro y0 y1 y2
   unfold laws_FnExactBetweenMarks.j2
   repeat' first
   | (with_reducible exact ih0 _ _ _ _ _ _ _ _ _ _ _)
   | (with_reducible exact ih1 _ _ _ _ _ _ _ _)
   | (with_reducible exact ih2 _ _ _)
   | (with_reducible exact impl_BetweenMarks.mono _ _ _ _ _)
   | (with_reducible exact laws_eqInt64S.mono _ _ _)
   | (with_reducible exact laws_heldInt64S.mono _ _ _)
   | (with_reducible exact laws_markInt64S.mono _ _ _)
   | (with_reducible exact laws_toInt64S.mono _ _)
   | (with_reducible exact spec_BetweenMarks.mono _ _ _ _ _)
   | (with_reducible exact LeO.refl _)
   | (with_reducible exact LeO.none _)
   | (with_reducible refine LeO.ite ?_ ?_)
   | (with_reducible refine LeO.bind ?_ (fun _ => ?_))
   | exact ih0 _ _ _ _ _ _ _ _ _ _ _
   | exact ih1 _ _ _ _ _ _ _ _
   | exact ih2 _ _ _
   | exact impl_BetweenMarks.mono _ _ _ _ _
   | exact laws_eqInt64S.mono _ _ _
   | exact laws_heldInt64S.mono _ _ _
   | exact laws_markInt64S.mono _ _ _
   | exact laws_toInt64S.mono _ _
   | exact spec_BetweenMarks.mono _ _ _ _ _
   | exact LeO.none _
   | refine LeO.ite ?_ ?_
   | refine LeO.bind ?_ (fun _ => ?_)
theorem laws_FnExactBetweenMarks.mono : ∀ a0 a1 a2 a3 k, LeO (laws_FnExactBetweenMarks.f k a0 a1 a2 a3) (laws_FnExactBetweenMarks.f (k + 1) a0 a1 a2 a3) := by
 intro a0 a1 a2 a3 k
 obtain ⟨ih0, ih1, ih2⟩ := laws_FnExactBetweenMarks.mono_l k
 unfold laws_FnExactBetweenMarks.f
 repeat' first
   | (with_reducible exact ih0 _ _ _ _ _ _ _ _ _ _ _)
   | (with_reducible exact ih1 _ _ _ _ _ _ _ _)
   | (with_reducible exact ih2 _ _ _)
   | (with_reducible exact impl_BetweenMarks.mono _ _ _ _ _)
   | (with_reducible exact laws_eqInt64S.mono _ _ _)
   | (with_reducible exact laws_heldInt64S.mono _ _ _)
   | (with_reducible exact laws_markInt64S.mono _ _ _)
   | (with_reducible exact laws_toInt64S.mono _ _)
   | (with_reducible exact spec_BetweenMarks.mono _ _ _ _ _)
   | (with_reducible exact LeO.refl _)
   | (with_reducible exact LeO.none _)
   | (with_reducible refine LeO.ite ?_ ?_)
   | (with_reducible refine LeO.bind ?_ (fun _ => ?_))
   | exact ih0 _ _ _ _ _ _ _ _ _ _ _
   | exact ih1 _ _ _ _ _ _ _ _
   | exact ih2 _ _ _
   | exact impl_BetweenMarks.mono _ _ _ _ _
   | exact laws_eqInt64S.mono _ _ _
   | exact laws_heldInt64S.mono _ _ _
   | exact laws_markInt64S.mono _ _ _
   | exact laws_toInt64S.mono _ _
   | exact spec_BetweenMarks.mono _ _ _ _ _
   | exact LeO.none _
   | refine LeO.ite ?_ ?_
   | refine LeO.bind ?_ (fun _ => ?_)
set_option maxHeartbeats 8000000 in
set_option maxRecDepth 100000 in
theorem laws_FnExactBetweenMarks.calls (k : Nat) (a0 : Int) (a1 : Int) (A2 : Option Addr) (c2 : Nat) (l2 : List Int) (A3 : Option Addr) (c3 : Nat) (l3 : List Int) (r : Bool) (w : World) (hr2 : Kd.C (Kd.int .i64) w A2 l2.length l2) (hc2 : l2.length ≤ c2) (hr3 : Kd.C (Kd.int .i64) w A3 l3.length l3) (hc3 : l3.length ≤ c3) (hr_ : Aside0 (r = true)) (h : laws_FnExactBetweenMarks.f k a0 a1 l2 l3 = some r) :
  Calls Try.prog 8 #[.int .i64 a0, .int .i64 a1, .slice A2 l2.length c2, .slice A3 l3.length c3] w fun e w' => e = .returned (.bool r) ∧ Below w.heap.size w w' := by
 have HR2 := Aside0.mk hr2
 have HC2 := Aside0.mk hc2
 clear hr2 hc2
 have HR3 := Aside0.mk hr3
 have HC3 := Aside0.mk hc3
 clear hr3 hc3
 have HB := Aside0.mk (Below.refl w.heap.size w)
 have H : (if (l2.length : Int) > 1048576 then (some true) else (if (l3.length : Int) > 1048576 then (some true) else ((laws_toInt64S.f k l2).bind fun t246 => ((laws_toInt64S.f k l3).bind fun t249 => ((spec_BetweenMarks.f k a0 a1 t246 t249).bind fun bt252 => ((laws_toInt64S.f k l2).bind fun t256 => ((laws_toInt64S.f k l3).bind fun t259 => ((impl_BetweenMarks.f k a0 a1 t256 t259).bind fun bt262 => ((laws_eqInt64S.f k bt262.1 bt252.1).bind fun t266 => (if t266 = true then (laws_FnExactBetweenMarks.j0 k a0 a1 l2 l3 bt252.1 bt252.2 t256 t259 bt262.1 bt262.2 (bt262.2 != bt252.2)) else (some false))))))))))) = some r := h
 clear h
 by_cases c5 : (l2.length : Int) > 1048576
 ·rw [if_pos c5] at H
  have c5b0 : decide (1048576 < (l2.length : Int)) = true := decide_eq_true c5
  have c5b1 : decide (1048576 < l2.length) = true := decide_eq_true (by omega)
  clear c5
  obtain rfl := Option.some.inj H
  go_enter Try.func8, Try.ntmps8
  go_wp2
  go_ret
  exact ⟨by first | rfl | (simp [errW_none, errW_some] <;> rfl) | (simp [*, errW_none, errW_some] <;> rfl), by repeat (first | (with_reducible first | exact HB.out | apply below_alloc | apply pw_below_drewN | apply below_drew1) | exact HB.out)⟩
 ·rw [if_neg c5] at H
  have c5b0 : decide (1048576 < (l2.length : Int)) = false := decide_eq_false c5
  have c5b1 : decide (1048576 < l2.length) = false := decide_eq_false (by omega)
  clear c5
  by_cases c6 : (l3.length : Int) > 1048576
  ·rw [if_pos c6] at H
   have c6b0 : decide (1048576 < (l3.length : Int)) = true := decide_eq_true c6
   have c6b1 : decide (1048576 < l3.length) = true := decide_eq_true (by omega)
   clear c6
   obtain rfl := Option.some.inj H
   go_enter Try.func8, Try.ntmps8
   go_wp2
   go_ret
   exact ⟨by first | rfl | (simp [errW_none, errW_some] <;> rfl) | (simp [*, errW_none, errW_some] <;> rfl), by repeat (first | (with_reducible first | exact HB.out | apply below_alloc | apply pw_below_drewN | apply below_drew1) | exact HB.out)⟩
  ·rw [if_neg c6] at H
   have c6b0 : decide (1048576 < (l3.length : Int)) = false := decide_eq_false c6
   have c6b1 : decide (1048576 < l3.length) = false := decide_eq_false (by omega)
   clear c6
   replace H := Option.bind_eq_some_iff.mp H
   obtain ⟨t246, A70, H⟩ := H
   replace H : ((laws_toInt64S.f k l3).bind fun t249 => ((spec_BetweenMarks.f k a0 a1 t246 t249).bind fun bt252 => ((laws_toInt64S.f k l2).bind fun t256 => ((laws_toInt64S.f k l3).bind fun t259 => ((impl_BetweenMarks.f k a0 a1 t256 t259).bind fun bt262 => ((laws_eqInt64S.f k bt262.1 bt252.1).bind fun t266 => (if t266 = true then (laws_FnExactBetweenMarks.j0 k a0 a1 l2 l3 bt252.1 bt252.2 t256 t259 bt262.1 bt262.2 (bt262.2 != bt252.2)) else (some false)))))))) = some r := H
   have A7 := Aside0.mk A70
   clear A70
   replace H := Option.bind_eq_some_iff.mp H
   obtain ⟨t249, A80, H⟩ := H
   replace H : ((spec_BetweenMarks.f k a0 a1 t246 t249).bind fun bt252 => ((laws_toInt64S.f k l2).bind fun t256 => ((laws_toInt64S.f k l3).bind fun t259 => ((impl_BetweenMarks.f k a0 a1 t256 t259).bind fun bt262 => ((laws_eqInt64S.f k bt262.1 bt252.1).bind fun t266 => (if t266 = true then (laws_FnExactBetweenMarks.j0 k a0 a1 l2 l3 bt252.1 bt252.2 t256 t259 bt262.1 bt262.2 (bt262.2 != bt252.2)) else (some false))))))) = some r := H
   have A8 := Aside0.mk A80
   clear A80
   replace H := Option.bind_eq_some_iff.mp H
   obtain ⟨⟨t252, t253⟩, A90, H⟩ := H
   replace H : ((laws_toInt64S.f k l2).bind fun t256 => ((laws_toInt64S.f k l3).bind fun t259 => ((impl_BetweenMarks.f k a0 a1 t256 t259).bind fun bt262 => ((laws_eqInt64S.f k bt262.1 t252).bind fun t266 => (if t266 = true then (laws_FnExactBetweenMarks.j0 k a0 a1 l2 l3 t252 t253 t256 t259 bt262.1 bt262.2 (bt262.2 != t253)) else (some false)))))) = some r := H
   have A9 := Aside0.mk A90
   clear A90
   replace H := Option.bind_eq_some_iff.mp H
   obtain ⟨t256, A100, H⟩ := H
   replace H : ((laws_toInt64S.f k l3).bind fun t259 => ((impl_BetweenMarks.f k a0 a1 t256 t259).bind fun bt262 => ((laws_eqInt64S.f k bt262.1 t252).bind fun t266 => (if t266 = true then (laws_FnExactBetweenMarks.j0 k a0 a1 l2 l3 t252 t253 t256 t259 bt262.1 bt262.2 (bt262.2 != t253)) else (some false))))) = some r := H
   have A10 := Aside0.mk A100
   clear A100
   replace H := Option.bind_eq_some_iff.mp H
   obtain ⟨t259, A110, H⟩ := H
   replace H : ((impl_BetweenMarks.f k a0 a1 t256 t259).bind fun bt262 => ((laws_eqInt64S.f k bt262.1 t252).bind fun t266 => (if t266 = true then (laws_FnExactBetweenMarks.j0 k a0 a1 l2 l3 t252 t253 t256 t259 bt262.1 bt262.2 (bt262.2 != t253)) else (some false)))) = some r := H
   have A11 := Aside0.mk A110
   clear A110
   replace H := Option.bind_eq_some_iff.mp H
   obtain ⟨⟨t262, t263⟩, A120, H⟩ := H
   replace H : ((laws_eqInt64S.f k t262 t252).bind fun t266 => (if t266 = true then (laws_FnExactBetweenMarks.j0 k a0 a1 l2 l3 t252 t253 t256 t259 t262 t263 (t263 != t253)) else (some false))) = some r := H
   have A12 := Aside0.mk A120
   clear A120
   have HC13 := Aside0.mk H
   clear H
   go_enter Try.func8, Try.ntmps8
   go_upto_region 9 with (first | ((with_reducible refine gate_callee (f := 25) rfl ?_); refine goesL_ (some 30) rfl rfl Try.func25 (by kernel_rfl) rfl #[.slice A2 l2.length c2] rfl (by (try simp only [List.map_toArray, List.map_cons, List.map_nil]); first | done | rfl | (simp only [List.length_drop, List.length_take]; rfl)) ?_; (with_reducible refine (laws_toInt64S.calls k _ _ l2 t246 _ ?side1 ?side2 A7.out).mono ?_); (case side1 => repeat (first | exact HR2.out | (with_reducible refine Kd.C_alloc ?_ _) | (with_reducible refine Kd.C_drewN ?_ _) | (with_reducible refine Kd.C_drew ?_))); (case side2 => exact HC2.out); rintro e w14 ⟨v247, rfl, ho0, hb⟩; refine ⟨_, rfl, ?_⟩; have n0_ := Aside0.mk (Kd.R_lower ho0 (below_size (by repeat (first | (with_reducible first | exact HB.out | apply below_alloc | apply pw_below_drewN | apply below_drew1) | exact HB.out)))); have n1_ := Aside0.mk (below_step (by repeat (first | (with_reducible first | exact HB.out | apply below_alloc | apply pw_below_drewN | apply below_drew1) | exact HB.out)) hb); clear HB; have HO248 := n0_; have HB := n1_; clear n0_ n1_; (try clear hb); (try clear hb2); (try clear hk); (try clear hi); (try clear ho0)) | ((with_reducible refine gate_callee (f := 25) rfl ?_); refine goesL_ (some 32) rfl rfl Try.func25 (by kernel_rfl) rfl #[.slice A3 l3.length c3] rfl (by (try simp only [List.map_toArray, List.map_cons, List.map_nil]); first | done | rfl | (simp only [List.length_drop, List.length_take]; rfl)) ?_; (with_reducible refine (laws_toInt64S.calls k _ _ l3 t249 _ ?side1 ?side2 A8.out).mono ?_); (case side1 => repeat (first | exact (Kd.C_below HR3.out HB.out) | (with_reducible refine Kd.C_alloc ?_ _) | (with_reducible refine Kd.C_drewN ?_ _) | (with_reducible refine Kd.C_drew ?_))); (case side2 => exact HC3.out); rintro e w15 ⟨v250, rfl, ho0, hb⟩; refine ⟨_, rfl, ?_⟩; have n0_ := Aside0.mk (Kd.R_elder' (by (with_reducible repeat (first | apply Kd.R_alloc | apply Kd.R_drewN | apply Kd.R_drew)); exact HO248.out) (Kd.R_base ho0) hb); have n1_ := Aside0.mk (Kd.R_lower (Kd.R_new' ho0 (Kd.R_lt (by (with_reducible repeat (first | apply Kd.R_alloc | apply Kd.R_drewN | apply Kd.R_drew)); exact HO248.out))) (below_size (by repeat (first | (with_reducible first | exact HB.out | apply below_alloc | apply pw_below_drewN | apply below_drew1) | exact HB.out)))); have n2_ := Aside0.mk (below_step (by repeat (first | (with_reducible first | exact HB.out | apply below_alloc | apply pw_below_drewN | apply below_drew1) | exact HB.out)) hb); clear HO248; clear HB; have HO248 := n0_; have HO251 := n1_; have HB := n2_; clear n0_ n1_ n2_; (try clear hb); (try clear hb2); (try clear hk); (try clear hi); (try clear ho0); obtain ⟨Ao16, co16, eo16⟩ := Kd.R_slice HO248.out; subst eo16; obtain ⟨Ao17, co17, eo17⟩ := Kd.R_slice HO251.out; subst eo17) | ((with_reducible refine gate_callee (f := 29) rfl ?_); refine goesL_ (some 33) rfl rfl Try.func29 (by kernel_rfl) rfl #[.int .i64 a0, .int .i64 a1, .slice Ao16 t246.length co16, .slice Ao17 t249.length co17] rfl (by (try simp only [List.map_toArray, List.map_cons, List.map_nil]); first | done | rfl | (simp only [List.length_drop, List.length_take]; rfl)) ?_; (with_reducible refine (spec_BetweenMarks.calls k a0 a1 _ _ t246 _ _ t249 t252 t253 _ ?side1 ?side2 ?side3 ?side4 A9.out).mono ?_); (case side1 => repeat (first | exact (Kd.R_reads' HO248.out).2.2 | (with_reducible refine Kd.C_alloc ?_ _) | (with_reducible refine Kd.C_drewN ?_ _) | (with_reducible refine Kd.C_drew ?_))); (case side2 => exact (Kd.R_reads' HO248.out).2.1); (case side3 => repeat (first | exact (Kd.R_reads' HO251.out).2.2 | (with_reducible refine Kd.C_alloc ?_ _) | (with_reducible refine Kd.C_drewN ?_ _) | (with_reducible refine Kd.C_drew ?_))); (case side4 => exact (Kd.R_reads' HO251.out).2.1); rintro e w18 ⟨v254, rfl, ho0, hb⟩; refine ⟨_, rfl, ?_⟩; have n0_ := Aside0.mk (Kd.R_elder' (by (with_reducible repeat (first | apply Kd.R_alloc | apply Kd.R_drewN | apply Kd.R_drew)); exact HO248.out) (Kd.R_base ho0) hb); have n1_ := Aside0.mk (Kd.R_elder' (by (with_reducible repeat (first | apply Kd.R_alloc | apply Kd.R_drewN | apply Kd.R_drew)); exact HO251.out) (Kd.R_base ho0) hb); have n2_ := Aside0.mk (Kd.R_lower (Kd.R_new' (Kd.R_new' ho0 (Kd.R_lt (by (with_reducible repeat (first | apply Kd.R_alloc | apply Kd.R_drewN | apply Kd.R_drew)); exact HO248.out))) (Kd.R_lt (by (with_reducible repeat (first | apply Kd.R_alloc | apply Kd.R_drewN | apply Kd.R_drew)); exact HO251.out))) (below_size (by repeat (first | (with_reducible first | exact HB.out | apply below_alloc | apply pw_below_drewN | apply below_drew1) | exact HB.out)))); have n3_ := Aside0.mk (below_step (by repeat (first | (with_reducible first | exact HB.out | apply below_alloc | apply pw_below_drewN | apply below_drew1) | exact HB.out)) hb); clear HO248; clear HO251; clear HB; have HO248 := n0_; have HO251 := n1_; have HO255 := n2_; have HB := n3_; clear n0_ n1_ n2_ n3_; (try clear hb); (try clear hb2); (try clear hk); (try clear hi); (try clear ho0)) | ((with_reducible refine gate_callee (f := 25) rfl ?_); refine goesL_ (some 37) rfl rfl Try.func25 (by kernel_rfl) rfl #[.slice A2 l2.length c2] rfl (by (try simp only [List.map_toArray, List.map_cons, List.map_nil]); first | done | rfl | (simp only [List.length_drop, List.length_take]; rfl)) ?_; (with_reducible refine (laws_toInt64S.calls k _ _ l2 t256 _ ?side1 ?side2 A10.out).mono ?_); (case side1 => repeat (first | exact (Kd.C_below HR2.out HB.out) | (with_reducible refine Kd.C_alloc ?_ _) | (with_reducible refine Kd.C_drewN ?_ _) | (with_reducible refine Kd.C_drew ?_))); (case side2 => exact HC2.out); rintro e w19 ⟨v257, rfl, ho0, hb⟩; refine ⟨_, rfl, ?_⟩; have n0_ := Aside0.mk (Kd.R_elder' (by (with_reducible repeat (first | apply Kd.R_alloc | apply Kd.R_drewN | apply Kd.R_drew)); exact HO248.out) (Kd.R_base ho0) hb); have n1_ := Aside0.mk (Kd.R_elder' (by (with_reducible repeat (first | apply Kd.R_alloc | apply Kd.R_drewN | apply Kd.R_drew)); exact HO251.out) (Kd.R_base ho0) hb); have n2_ := Aside0.mk (Kd.R_elder' (by (with_reducible repeat (first | apply Kd.R_alloc | apply Kd.R_drewN | apply Kd.R_drew)); exact HO255.out) (Kd.R_base ho0) hb); have n3_ := Aside0.mk (Kd.R_lower (Kd.R_new' (Kd.R_new' (Kd.R_new' ho0 (Kd.R_lt (by (with_reducible repeat (first | apply Kd.R_alloc | apply Kd.R_drewN | apply Kd.R_drew)); exact HO248.out))) (Kd.R_lt (by (with_reducible repeat (first | apply Kd.R_alloc | apply Kd.R_drewN | apply Kd.R_drew)); exact HO251.out))) (Kd.R_lt (by (with_reducible repeat (first | apply Kd.R_alloc | apply Kd.R_drewN | apply Kd.R_drew)); exact HO255.out))) (below_size (by repeat (first | (with_reducible first | exact HB.out | apply below_alloc | apply pw_below_drewN | apply below_drew1) | exact HB.out)))); have n4_ := Aside0.mk (below_step (by repeat (first | (with_reducible first | exact HB.out | apply below_alloc | apply pw_below_drewN | apply below_drew1) | exact HB.out)) hb); clear HO248; clear HO251; clear HO255; clear HB; have HO248 := n0_; have HO251 := n1_; have HO255 := n2_; have HO258 := n3_; have HB := n4_; clear n0_ n1_ n2_ n3_ n4_; (try clear hb); (try clear hb2); (try clear hk); (try clear hi); (try clear ho0)) | ((with_reducible refine gate_callee (f := 25) rfl ?_); refine goesL_ (some 39) rfl rfl Try.func25 (by kernel_rfl) rfl #[.slice A3 l3.length c3] rfl (by (try simp only [List.map_toArray, List.map_cons, List.map_nil]); first | done | rfl | (simp only [List.length_drop, List.length_take]; rfl)) ?_; (with_reducible refine (laws_toInt64S.calls k _ _ l3 t259 _ ?side1 ?side2 A11.out).mono ?_); (case side1 => repeat (first | exact (Kd.C_below HR3.out HB.out) | (with_reducible refine Kd.C_alloc ?_ _) | (with_reducible refine Kd.C_drewN ?_ _) | (with_reducible refine Kd.C_drew ?_))); (case side2 => exact HC3.out); rintro e w20 ⟨v260, rfl, ho0, hb⟩; refine ⟨_, rfl, ?_⟩; have n0_ := Aside0.mk (Kd.R_elder' (by (with_reducible repeat (first | apply Kd.R_alloc | apply Kd.R_drewN | apply Kd.R_drew)); exact HO248.out) (Kd.R_base ho0) hb); have n1_ := Aside0.mk (Kd.R_elder' (by (with_reducible repeat (first | apply Kd.R_alloc | apply Kd.R_drewN | apply Kd.R_drew)); exact HO251.out) (Kd.R_base ho0) hb); have n2_ := Aside0.mk (Kd.R_elder' (by (with_reducible repeat (first | apply Kd.R_alloc | apply Kd.R_drewN | apply Kd.R_drew)); exact HO255.out) (Kd.R_base ho0) hb); have n3_ := Aside0.mk (Kd.R_elder' (by (with_reducible repeat (first | apply Kd.R_alloc | apply Kd.R_drewN | apply Kd.R_drew)); exact HO258.out) (Kd.R_base ho0) hb); have n4_ := Aside0.mk (Kd.R_lower (Kd.R_new' (Kd.R_new' (Kd.R_new' (Kd.R_new' ho0 (Kd.R_lt (by (with_reducible repeat (first | apply Kd.R_alloc | apply Kd.R_drewN | apply Kd.R_drew)); exact HO248.out))) (Kd.R_lt (by (with_reducible repeat (first | apply Kd.R_alloc | apply Kd.R_drewN | apply Kd.R_drew)); exact HO251.out))) (Kd.R_lt (by (with_reducible repeat (first | apply Kd.R_alloc | apply Kd.R_drewN | apply Kd.R_drew)); exact HO255.out))) (Kd.R_lt (by (with_reducible repeat (first | apply Kd.R_alloc | apply Kd.R_drewN | apply Kd.R_drew)); exact HO258.out))) (below_size (by repeat (first | (with_reducible first | exact HB.out | apply below_alloc | apply pw_below_drewN | apply below_drew1) | exact HB.out)))); have n5_ := Aside0.mk (below_step (by repeat (first | (with_reducible first | exact HB.out | apply below_alloc | apply pw_below_drewN | apply below_drew1) | exact HB.out)) hb); clear HO248; clear HO251; clear HO255; clear HO258; clear HB; have HO248 := n0_; have HO251 := n1_; have HO255 := n2_; have HO258 := n3_; have HO261 := n4_; have HB := n5_; clear n0_ n1_ n2_ n3_ n4_ n5_; (try clear hb); (try clear hb2); (try clear hk); (try clear hi); (try clear ho0); obtain ⟨Ao21, co21, eo21⟩ := Kd.R_slice HO258.out; subst eo21; obtain ⟨Ao22, co22, eo22⟩ := Kd.R_slice HO261.out; subst eo22) | ((with_reducible refine gate_callee (f := 30) rfl ?_); refine goesL_ (some 45) rfl rfl Try.func30 (by kernel_rfl) rfl #[.int .i64 a0, .int .i64 a1, .slice Ao21 t256.length co21, .slice Ao22 t259.length co22] rfl (by (try simp only [List.map_toArray, List.map_cons, List.map_nil]); first | done | rfl | (simp only [List.length_drop, List.length_take]; rfl)) ?_; (with_reducible refine (impl_BetweenMarks.calls k a0 a1 _ _ t256 _ _ t259 t262 t263 _ ?side1 ?side2 ?side3 ?side4 A12.out).mono ?_); (case side1 => repeat (first | exact (Kd.R_reads' HO258.out).2.2 | (with_reducible refine Kd.C_alloc ?_ _) | (with_reducible refine Kd.C_drewN ?_ _) | (with_reducible refine Kd.C_drew ?_))); (case side2 => exact (Kd.R_reads' HO258.out).2.1); (case side3 => repeat (first | exact (Kd.R_reads' HO261.out).2.2 | (with_reducible refine Kd.C_alloc ?_ _) | (with_reducible refine Kd.C_drewN ?_ _) | (with_reducible refine Kd.C_drew ?_))); (case side4 => exact (Kd.R_reads' HO261.out).2.1); rintro e w23 ⟨v264, rfl, ho0, hb⟩; refine ⟨_, rfl, ?_⟩; have n0_ := Aside0.mk (Kd.R_elder' (by (with_reducible repeat (first | apply Kd.R_alloc | apply Kd.R_drewN | apply Kd.R_drew)); exact HO248.out) (Kd.R_base ho0) hb); have n1_ := Aside0.mk (Kd.R_elder' (by (with_reducible repeat (first | apply Kd.R_alloc | apply Kd.R_drewN | apply Kd.R_drew)); exact HO251.out) (Kd.R_base ho0) hb); have n2_ := Aside0.mk (Kd.R_elder' (by (with_reducible repeat (first | apply Kd.R_alloc | apply Kd.R_drewN | apply Kd.R_drew)); exact HO255.out) (Kd.R_base ho0) hb); have n3_ := Aside0.mk (Kd.R_elder' (by (with_reducible repeat (first | apply Kd.R_alloc | apply Kd.R_drewN | apply Kd.R_drew)); exact HO258.out) (Kd.R_base ho0) hb); have n4_ := Aside0.mk (Kd.R_elder' (by (with_reducible repeat (first | apply Kd.R_alloc | apply Kd.R_drewN | apply Kd.R_drew)); exact HO261.out) (Kd.R_base ho0) hb); have n5_ := Aside0.mk (Kd.R_lower (Kd.R_new' (Kd.R_new' (Kd.R_new' (Kd.R_new' (Kd.R_new' ho0 (Kd.R_lt (by (with_reducible repeat (first | apply Kd.R_alloc | apply Kd.R_drewN | apply Kd.R_drew)); exact HO248.out))) (Kd.R_lt (by (with_reducible repeat (first | apply Kd.R_alloc | apply Kd.R_drewN | apply Kd.R_drew)); exact HO251.out))) (Kd.R_lt (by (with_reducible repeat (first | apply Kd.R_alloc | apply Kd.R_drewN | apply Kd.R_drew)); exact HO255.out))) (Kd.R_lt (by (with_reducible repeat (first | apply Kd.R_alloc | apply Kd.R_drewN | apply Kd.R_drew)); exact HO258.out))) (Kd.R_lt (by (with_reducible repeat (first | apply Kd.R_alloc | apply Kd.R_drewN | apply Kd.R_drew)); exact HO261.out))) (below_size (by repeat (first | (with_reducible first | exact HB.out | apply below_alloc | apply pw_below_drewN | apply below_drew1) | exact HB.out)))); have n6_ := Aside0.mk (below_step (by repeat (first | (with_reducible first | exact HB.out | apply below_alloc | apply pw_below_drewN | apply below_drew1) | exact HB.out)) hb); clear HO248; clear HO251; clear HO255; clear HO258; clear HO261; clear HB; have HO248 := n0_; have HO251 := n1_; have HO255 := n2_; have HO258 := n3_; have HO261 := n4_; have HO265 := n5_; have HB := n6_; clear n0_ n1_ n2_ n3_ n4_ n5_ n6_; (try clear hb); (try clear hb2); (try clear hk); (try clear hi); (try clear ho0)))
   (try simp only [Act.put, List.setIfInBounds_toArray, List.set_cons_zero, List.set_cons_succ])
   go_cut [56] (fun v56 wc => ∃ (kq : Nat) (x56_12 : Bool), v56 = .bool x56_12 ∧ Aside0 (laws_FnExactBetweenMarks.j0 kq a0 a1 l2 l3 t252 t253 t256 t259 t262 t263 x56_12 = some r) ∧ Aside0 (kq ≤ k) ∧ Aside0 (Kd.R (Kd.int .i64) 2 wc w.heap.size (fun k_ => some k_ ≠ ((.slice Ao21 t256.length co21) : Value).ownBlock ∧ some k_ ≠ ((.slice Ao22 t259.length co22) : Value).ownBlock ∧ some k_ ≠ (v264 : Value).ownBlock) v254 t252) ∧ Aside0 (Kd.R (Kd.int .i64) 2 wc w.heap.size (fun k_ => some k_ ≠ (v254 : Value).ownBlock ∧ some k_ ≠ ((.slice Ao22 t259.length co22) : Value).ownBlock ∧ some k_ ≠ (v264 : Value).ownBlock) (.slice Ao21 t256.length co21) t256) ∧ Aside0 (Kd.R (Kd.int .i64) 2 wc w.heap.size (fun k_ => some k_ ≠ (v254 : Value).ownBlock ∧ some k_ ≠ ((.slice Ao21 t256.length co21) : Value).ownBlock ∧ some k_ ≠ (v264 : Value).ownBlock) (.slice Ao22 t259.length co22) t259) ∧ Aside0 (Kd.R (Kd.int .i64) 2 wc w.heap.size (fun k_ => some k_ ≠ (v254 : Value).ownBlock ∧ some k_ ≠ ((.slice Ao21 t256.length co21) : Value).ownBlock ∧ some k_ ≠ ((.slice Ao22 t259.length co22) : Value).ownBlock) v264 t262) ∧ Aside0 (Below w.heap.size w wc))
   case first =>
    have H := HC13.out
    clear HC13
    replace H := Option.bind_eq_some_iff.mp H
    obtain ⟨t266, A240, H⟩ := H
    replace H : (if t266 = true then (laws_FnExactBetweenMarks.j0 k a0 a1 l2 l3 t252 t253 t256 t259 t262 t263 (t263 != t253)) else (some false)) = some r := H
    have A24 := Aside0.mk A240
    clear A240
    by_cases c25 : t266 = true
    ·subst c25
     have H1 : (laws_FnExactBetweenMarks.j0 k a0 a1 l2 l3 t252 t253 t256 t259 t262 t263 (t263 != t253)) = some r := by rw [if_pos rfl] at H; exact H
     clear H
     have H := H1
     clear H1
     have H' := Aside0.mk H
     clear H
     obtain ⟨Ao26, co26, eo26⟩ := Kd.R_slice HO265.out
     subst eo26
     obtain ⟨Ao27, co27, eo27⟩ := Kd.R_slice HO255.out
     subst eo27
     go_wp2_with (first | ((with_reducible refine gate_callee (f := 18) rfl ?_); refine goesL_ (some 50) rfl rfl Try.func18 (by kernel_rfl) rfl #[.slice Ao26 t262.length co26, .slice Ao27 t252.length co27] rfl (by (try simp only [List.map_toArray, List.map_cons, List.map_nil]); first | done | rfl | (simp only [List.length_drop, List.length_take]; rfl)) ?_; (with_reducible refine (laws_eqInt64S.calls k _ _ t262 _ _ t252 true _ ?side1 ?side2 ?side3 ?side4 A24.out).mono ?_); (case side1 => repeat (first | exact (Kd.R_reads' HO265.out).2.2 | (with_reducible refine Kd.C_alloc ?_ _) | (with_reducible refine Kd.C_drewN ?_ _) | (with_reducible refine Kd.C_drew ?_))); (case side2 => exact (Kd.R_reads' HO265.out).2.1); (case side3 => repeat (first | exact (Kd.R_reads' HO255.out).2.2 | (with_reducible refine Kd.C_alloc ?_ _) | (with_reducible refine Kd.C_drewN ?_ _) | (with_reducible refine Kd.C_drew ?_))); (case side4 => exact (Kd.R_reads' HO255.out).2.1); rintro e w' ⟨rfl, ⟨nd, rfl⟩⟩; refine ⟨_, rfl, ?_⟩))
     go_meet
     case rel => exact ⟨_, ((t263 != t253)), (by first | rfl | (simp; done) | (simp [*]; done)), H', ⟨by first | omega | exact Nat.le_refl _⟩, ⟨by (with_reducible repeat (first | apply Kd.R_alloc | apply Kd.R_drewN | apply Kd.R_drew)); exact Kd.R_mono HO255.out (fun _ hk => ⟨hk.1.1.2, ⟨hk.1.2, hk.2⟩⟩)⟩, ⟨by (with_reducible repeat (first | apply Kd.R_alloc | apply Kd.R_drewN | apply Kd.R_drew)); exact Kd.R_mono HO258.out (fun _ hk => ⟨hk.1.1.2, ⟨hk.1.2, hk.2⟩⟩)⟩, ⟨by (with_reducible repeat (first | apply Kd.R_alloc | apply Kd.R_drewN | apply Kd.R_drew)); exact Kd.R_mono HO261.out (fun _ hk => ⟨hk.1.1.2, ⟨hk.1.2, hk.2⟩⟩)⟩, ⟨by (with_reducible repeat (first | apply Kd.R_alloc | apply Kd.R_drewN | apply Kd.R_drew)); exact Kd.R_mono HO265.out (fun _ hk => ⟨hk.1.1.2, ⟨hk.1.2, hk.2⟩⟩)⟩, ⟨by repeat (first | (with_reducible first | exact HB.out | apply below_alloc | apply pw_below_drewN | apply below_drew1) | exact HB.out)⟩⟩
    ·replace c25 := Bool.eq_false_iff.mpr c25
     subst c25
     have H1 : (some false) = some r := by rw [if_neg (show ¬ (false = true) by decide)] at H; exact H
     clear H
     have H := H1
     clear H1
     exact absurd (Option.some.inj H) (by rw [hr_.out]; decide)
   case rest =>
    clear HC13
    try clear c1
    try clear c2
    try clear p2
    try clear c3
    try clear c5
    try clear c5b0
    try clear c5b1
    try clear c6
    try clear c6b0
    try clear c6b1
    try clear c8
    try clear c18
    try clear c25
    obtain ⟨kq, x56_12, rfl, HA, HJ12, HO_9, HO_11, HO_12, HO_13, HB⟩ := hcut
    cases kq with
    | zero => exact absurd HA.out (by simp [laws_FnExactBetweenMarks.j0])
    | succ kj12 =>
     have H := HA.out
     clear HA
     simp only [laws_FnExactBetweenMarks.j0] at H
     by_cases c28 : x56_12 = true
     ·subst c28
      have H1 : (some false) = some r := by rw [if_pos rfl] at H; exact H
      clear H
      have H := H1
      clear H1
      exact absurd (Option.some.inj H) (by rw [hr_.out]; decide)
     ·replace c28 := Bool.eq_false_iff.mpr c28
      subst c28
      have H1 : ((laws_toInt64S.f kj12 l2).bind fun t267 => ((laws_eqInt64S.f kj12 t256 t267).bind fun t270 => (if t270 = true then ((laws_toInt64S.f kj12 l3).bind fun t271 => ((laws_eqInt64S.f kj12 t259 t271).bind fun t274 => (if t274 = true then ((laws_markInt64S.f kj12 t256 1).bind fun bt275 => ((laws_markInt64S.f kj12 t259 bt275.1).bind fun bt277 => (if bt277.1 < 0 then (some false) else ((laws_eqInt64S.f kj12 t262 t252).bind fun t279 => (if t279 = true then (laws_FnExactBetweenMarks.j1 kj12 a0 a1 l2 l3 t252 t253 t262 (t263 != t253)) else (some false)))))) else (some false)))) else (some false)))) = some r := by rw [if_neg (show ¬ (false = true) by decide)] at H; exact H
      clear H
      have H := H1
      clear H1
      replace H := Option.bind_eq_some_iff.mp H
      obtain ⟨t267, A290, H⟩ := H
      replace H : ((laws_eqInt64S.f kj12 t256 t267).bind fun t270 => (if t270 = true then ((laws_toInt64S.f kj12 l3).bind fun t271 => ((laws_eqInt64S.f kj12 t259 t271).bind fun t274 => (if t274 = true then ((laws_markInt64S.f kj12 t256 1).bind fun bt275 => ((laws_markInt64S.f kj12 t259 bt275.1).bind fun bt277 => (if bt277.1 < 0 then (some false) else ((laws_eqInt64S.f kj12 t262 t252).bind fun t279 => (if t279 = true then (laws_FnExactBetweenMarks.j1 kj12 a0 a1 l2 l3 t252 t253 t262 (t263 != t253)) else (some false)))))) else (some false)))) else (some false))) = some r := H
      have A29 := Aside0.mk A290
      clear A290
      replace H := Option.bind_eq_some_iff.mp H
      obtain ⟨t270, A300, H⟩ := H
      replace H : (if t270 = true then ((laws_toInt64S.f kj12 l3).bind fun t271 => ((laws_eqInt64S.f kj12 t259 t271).bind fun t274 => (if t274 = true then ((laws_markInt64S.f kj12 t256 1).bind fun bt275 => ((laws_markInt64S.f kj12 t259 bt275.1).bind fun bt277 => (if bt277.1 < 0 then (some false) else ((laws_eqInt64S.f kj12 t262 t252).bind fun t279 => (if t279 = true then (laws_FnExactBetweenMarks.j1 kj12 a0 a1 l2 l3 t252 t253 t262 (t263 != t253)) else (some false)))))) else (some false)))) else (some false)) = some r := H
      have A30 := Aside0.mk A300
      clear A300
      by_cases c31 : t270 = true
      ·subst c31
       have H1 : ((laws_toInt64S.f kj12 l3).bind fun t271 => ((laws_eqInt64S.f kj12 t259 t271).bind fun t274 => (if t274 = true then ((laws_markInt64S.f kj12 t256 1).bind fun bt275 => ((laws_markInt64S.f kj12 t259 bt275.1).bind fun bt277 => (if bt277.1 < 0 then (some false) else ((laws_eqInt64S.f kj12 t262 t252).bind fun t279 => (if t279 = true then (laws_FnExactBetweenMarks.j1 kj12 a0 a1 l2 l3 t252 t253 t262 (t263 != t253)) else (some false)))))) else (some false)))) = some r := by rw [if_pos rfl] at H; exact H
       clear H
       have H := H1
       clear H1
       replace H := Option.bind_eq_some_iff.mp H
       obtain ⟨t271, A320, H⟩ := H
       replace H : ((laws_eqInt64S.f kj12 t259 t271).bind fun t274 => (if t274 = true then ((laws_markInt64S.f kj12 t256 1).bind fun bt275 => ((laws_markInt64S.f kj12 t259 bt275.1).bind fun bt277 => (if bt277.1 < 0 then (some false) else ((laws_eqInt64S.f kj12 t262 t252).bind fun t279 => (if t279 = true then (laws_FnExactBetweenMarks.j1 kj12 a0 a1 l2 l3 t252 t253 t262 (t263 != t253)) else (some false)))))) else (some false))) = some r := H
       have A32 := Aside0.mk A320
       clear A320
       replace H := Option.bind_eq_some_iff.mp H
       obtain ⟨t274, A330, H⟩ := H
       replace H : (if t274 = true then ((laws_markInt64S.f kj12 t256 1).bind fun bt275 => ((laws_markInt64S.f kj12 t259 bt275.1).bind fun bt277 => (if bt277.1 < 0 then (some false) else ((laws_eqInt64S.f kj12 t262 t252).bind fun t279 => (if t279 = true then (laws_FnExactBetweenMarks.j1 kj12 a0 a1 l2 l3 t252 t253 t262 (t263 != t253)) else (some false)))))) else (some false)) = some r := H
       have A33 := Aside0.mk A330
       clear A330
       by_cases c34 : t274 = true
       ·subst c34
        have H1 : ((laws_markInt64S.f kj12 t256 1).bind fun bt275 => ((laws_markInt64S.f kj12 t259 bt275.1).bind fun bt277 => (if bt277.1 < 0 then (some false) else ((laws_eqInt64S.f kj12 t262 t252).bind fun t279 => (if t279 = true then (laws_FnExactBetweenMarks.j1 kj12 a0 a1 l2 l3 t252 t253 t262 (t263 != t253)) else (some false)))))) = some r := by rw [if_pos rfl] at H; exact H
        clear H
        have H := H1
        clear H1
        replace H := Option.bind_eq_some_iff.mp H
        obtain ⟨⟨t275, t276⟩, A350, H⟩ := H
        replace H : ((laws_markInt64S.f kj12 t259 t275).bind fun bt277 => (if bt277.1 < 0 then (some false) else ((laws_eqInt64S.f kj12 t262 t252).bind fun t279 => (if t279 = true then (laws_FnExactBetweenMarks.j1 kj12 a0 a1 l2 l3 t252 t253 t262 (t263 != t253)) else (some false))))) = some r := H
        have A35 := Aside0.mk A350
        clear A350
        replace H := Option.bind_eq_some_iff.mp H
        obtain ⟨⟨t277, t278⟩, A360, H⟩ := H
        replace H : (if t277 < 0 then (some false) else ((laws_eqInt64S.f kj12 t262 t252).bind fun t279 => (if t279 = true then (laws_FnExactBetweenMarks.j1 kj12 a0 a1 l2 l3 t252 t253 t262 (t263 != t253)) else (some false)))) = some r := H
        have A36 := Aside0.mk A360
        clear A360
        have HC37 := Aside0.mk H
        clear H
        go_upto_region 18 with (first | ((with_reducible refine gate_callee (f := 25) rfl ?_); refine goesL_ (some 59) rfl rfl Try.func25 (by kernel_rfl) rfl #[.slice A2 l2.length c2] rfl (by (try simp only [List.map_toArray, List.map_cons, List.map_nil]); first | done | rfl | (simp only [List.length_drop, List.length_take]; rfl)) ?_; (with_reducible refine (laws_toInt64S.calls kj12 _ _ l2 t267 _ ?side1 ?side2 A29.out).mono ?_); (case side1 => repeat (first | exact (Kd.C_below HR2.out HB.out) | (with_reducible refine Kd.C_alloc ?_ _) | (with_reducible refine Kd.C_drewN ?_ _) | (with_reducible refine Kd.C_drew ?_))); (case side2 => exact HC2.out); rintro e w38 ⟨v268, rfl, ho0, hb⟩; refine ⟨_, rfl, ?_⟩; have n0_ := Aside0.mk (Kd.R_elder' (by (with_reducible repeat (first | apply Kd.R_alloc | apply Kd.R_drewN | apply Kd.R_drew)); exact HO_9.out) (Kd.R_base ho0) hb); have n1_ := Aside0.mk (Kd.R_elder' (by (with_reducible repeat (first | apply Kd.R_alloc | apply Kd.R_drewN | apply Kd.R_drew)); exact HO_11.out) (Kd.R_base ho0) hb); have n2_ := Aside0.mk (Kd.R_elder' (by (with_reducible repeat (first | apply Kd.R_alloc | apply Kd.R_drewN | apply Kd.R_drew)); exact HO_12.out) (Kd.R_base ho0) hb); have n3_ := Aside0.mk (Kd.R_elder' (by (with_reducible repeat (first | apply Kd.R_alloc | apply Kd.R_drewN | apply Kd.R_drew)); exact HO_13.out) (Kd.R_base ho0) hb); have n4_ := Aside0.mk (Kd.R_lower (Kd.R_new' (Kd.R_new' (Kd.R_new' (Kd.R_new' ho0 (Kd.R_lt (by (with_reducible repeat (first | apply Kd.R_alloc | apply Kd.R_drewN | apply Kd.R_drew)); exact HO_9.out))) (Kd.R_lt (by (with_reducible repeat (first | apply Kd.R_alloc | apply Kd.R_drewN | apply Kd.R_drew)); exact HO_11.out))) (Kd.R_lt (by (with_reducible repeat (first | apply Kd.R_alloc | apply Kd.R_drewN | apply Kd.R_drew)); exact HO_12.out))) (Kd.R_lt (by (with_reducible repeat (first | apply Kd.R_alloc | apply Kd.R_drewN | apply Kd.R_drew)); exact HO_13.out))) (below_size (by repeat (first | (with_reducible first | exact HB.out | apply below_alloc | apply pw_below_drewN | apply below_drew1) | exact HB.out)))); have n5_ := Aside0.mk (below_step (by repeat (first | (with_reducible first | exact HB.out | apply below_alloc | apply pw_below_drewN | apply below_drew1) | exact HB.out)) hb); clear HO_9; clear HO_11; clear HO_12; clear HO_13; clear HB; have HO_9 := n0_; have HO_11 := n1_; have HO_12 := n2_; have HO_13 := n3_; have HO269 := n4_; have HB := n5_; clear n0_ n1_ n2_ n3_ n4_ n5_; (try clear hb); (try clear hb2); (try clear hk); (try clear hi); (try clear ho0); obtain ⟨Ao39, co39, eo39⟩ := Kd.R_slice HO269.out; subst eo39) | ((with_reducible refine gate_callee (f := 18) rfl ?_); refine goesL_ (some 60) rfl rfl Try.func18 (by kernel_rfl) rfl #[.slice Ao21 t256.length co21, .slice Ao39 t267.length co39] rfl (by (try simp only [List.map_toArray, List.map_cons, List.map_nil]); first | done | rfl | (simp only [List.length_drop, List.length_take]; rfl)) ?_; (with_reducible refine (laws_eqInt64S.calls kj12 _ _ t256 _ _ t267 true _ ?side1 ?side2 ?side3 ?side4 A30.out).mono ?_); (case side1 => repeat (first | exact (Kd.R_reads' HO_11.out).2.2 | (with_reducible refine Kd.C_alloc ?_ _) | (with_reducible refine Kd.C_drewN ?_ _) | (with_reducible refine Kd.C_drew ?_))); (case side2 => exact (Kd.R_reads' HO_11.out).2.1); (case side3 => repeat (first | exact (Kd.R_reads' HO269.out).2.2 | (with_reducible refine Kd.C_alloc ?_ _) | (with_reducible refine Kd.C_drewN ?_ _) | (with_reducible refine Kd.C_drew ?_))); (case side4 => exact (Kd.R_reads' HO269.out).2.1); rintro e w' ⟨rfl, ⟨nd, rfl⟩⟩; refine ⟨_, rfl, ?_⟩) | ((with_reducible refine gate_callee (f := 25) rfl ?_); refine goesL_ (some 64) rfl rfl Try.func25 (by kernel_rfl) rfl #[.slice A3 l3.length c3] rfl (by (try simp only [List.map_toArray, List.map_cons, List.map_nil]); first | done | rfl | (simp only [List.length_drop, List.length_take]; rfl)) ?_; (with_reducible refine (laws_toInt64S.calls kj12 _ _ l3 t271 _ ?side1 ?side2 A32.out).mono ?_); (case side1 => repeat (first | exact (Kd.C_below HR3.out (by repeat (first | (with_reducible first | exact HB.out | apply below_alloc | apply pw_below_drewN | apply below_drew1) | exact HB.out))) | (with_reducible refine Kd.C_alloc ?_ _) | (with_reducible refine Kd.C_drewN ?_ _) | (with_reducible refine Kd.C_drew ?_))); (case side2 => exact HC3.out); rintro e w40 ⟨v272, rfl, ho0, hb⟩; refine ⟨_, rfl, ?_⟩; have n0_ := Aside0.mk (Kd.R_elder' (by (with_reducible repeat (first | apply Kd.R_alloc | apply Kd.R_drewN | apply Kd.R_drew)); exact HO_9.out) (Kd.R_base ho0) hb); have n1_ := Aside0.mk (Kd.R_elder' (by (with_reducible repeat (first | apply Kd.R_alloc | apply Kd.R_drewN | apply Kd.R_drew)); exact HO_11.out) (Kd.R_base ho0) hb); have n2_ := Aside0.mk (Kd.R_elder' (by (with_reducible repeat (first | apply Kd.R_alloc | apply Kd.R_drewN | apply Kd.R_drew)); exact HO_12.out) (Kd.R_base ho0) hb); have n3_ := Aside0.mk (Kd.R_elder' (by (with_reducible repeat (first | apply Kd.R_alloc | apply Kd.R_drewN | apply Kd.R_drew)); exact HO_13.out) (Kd.R_base ho0) hb); have n4_ := Aside0.mk (Kd.R_elder' (by (with_reducible repeat (first | apply Kd.R_alloc | apply Kd.R_drewN | apply Kd.R_drew)); exact HO269.out) (Kd.R_base ho0) hb); have n5_ := Aside0.mk (Kd.R_lower (Kd.R_new' (Kd.R_new' (Kd.R_new' (Kd.R_new' (Kd.R_new' ho0 (Kd.R_lt (by (with_reducible repeat (first | apply Kd.R_alloc | apply Kd.R_drewN | apply Kd.R_drew)); exact HO_9.out))) (Kd.R_lt (by (with_reducible repeat (first | apply Kd.R_alloc | apply Kd.R_drewN | apply Kd.R_drew)); exact HO_11.out))) (Kd.R_lt (by (with_reducible repeat (first | apply Kd.R_alloc | apply Kd.R_drewN | apply Kd.R_drew)); exact HO_12.out))) (Kd.R_lt (by (with_reducible repeat (first | apply Kd.R_alloc | apply Kd.R_drewN | apply Kd.R_drew)); exact HO_13.out))) (Kd.R_lt (by (with_reducible repeat (first | apply Kd.R_alloc | apply Kd.R_drewN | apply Kd.R_drew)); exact HO269.out))) (below_size (by repeat (first | (with_reducible first | exact HB.out | apply below_alloc | apply pw_below_drewN | apply below_drew1) | exact HB.out)))); have n6_ := Aside0.mk (below_step (by repeat (first | (with_reducible first | exact HB.out | apply below_alloc | apply pw_below_drewN | apply below_drew1) | exact HB.out)) hb); clear HO_9; clear HO_11; clear HO_12; clear HO_13; clear HO269; clear HB; have HO_9 := n0_; have HO_11 := n1_; have HO_12 := n2_; have HO_13 := n3_; have HO269 := n4_; have HO273 := n5_; have HB := n6_; clear n0_ n1_ n2_ n3_ n4_ n5_ n6_; (try clear hb); (try clear hb2); (try clear hk); (try clear hi); (try clear ho0); obtain ⟨Ao41, co41, eo41⟩ := Kd.R_slice HO273.out; subst eo41) | ((with_reducible refine gate_callee (f := 18) rfl ?_); refine goesL_ (some 65) rfl rfl Try.func18 (by kernel_rfl) rfl #[.slice Ao22 t259.length co22, .slice Ao41 t271.length co41] rfl (by (try simp only [List.map_toArray, List.map_cons, List.map_nil]); first | done | rfl | (simp only [List.length_drop, List.length_take]; rfl)) ?_; (with_reducible refine (laws_eqInt64S.calls kj12 _ _ t259 _ _ t271 true _ ?side1 ?side2 ?side3 ?side4 A33.out).mono ?_); (case side1 => repeat (first | exact (Kd.R_reads' HO_12.out).2.2 | (with_reducible refine Kd.C_alloc ?_ _) | (with_reducible refine Kd.C_drewN ?_ _) | (with_reducible refine Kd.C_drew ?_))); (case side2 => exact (Kd.R_reads' HO_12.out).2.1); (case side3 => repeat (first | exact (Kd.R_reads' HO273.out).2.2 | (with_reducible refine Kd.C_alloc ?_ _) | (with_reducible refine Kd.C_drewN ?_ _) | (with_reducible refine Kd.C_drew ?_))); (case side4 => exact (Kd.R_reads' HO273.out).2.1); rintro e w' ⟨rfl, ⟨nd, rfl⟩⟩; refine ⟨_, rfl, ?_⟩) | ((with_reducible refine gate_callee (f := 20) rfl ?_); refine goesL_ (some 69) rfl rfl Try.func20 (by kernel_rfl) rfl #[.slice Ao21 t256.length co21, .int .i64 1] rfl (by (try simp only [List.map_toArray, List.map_cons, List.map_nil]); first | done | rfl | (simp only [List.length_drop, List.length_take]; rfl)) ?_; (with_reducible refine (laws_markInt64S.calls kj12 (fun k_ => some k_ = (.slice Ao21 t256.length co21 : Value).ownBlock) (.slice Ao21 t256.length co21) t256 1 t275 t276 w _ ?side1 ?side2 A35.out).mono ?_); (case side1 => repeat (first | (with_reducible first | exact HB.out | apply below_alloc | apply pw_below_drewN | apply below_drew1) | exact HB.out)); (case side2 => exact Kd.R_tight rfl HO_11.out); rintro e w42 ⟨rfl, hy0, hb, hkp⟩; refine ⟨_, rfl, ?_⟩; have n0_ := Aside0.mk (Kd.R_mono (ok' := fun k_ => some k_ ≠ (.slice Ao21 t256.length co21 : Value).ownBlock ∧ some k_ ≠ (.slice Ao22 t259.length co22 : Value).ownBlock ∧ some k_ ≠ (v264 : Value).ownBlock ∧ some k_ ≠ (.slice Ao39 t267.length co39 : Value).ownBlock ∧ some k_ ≠ (.slice Ao41 t271.length co41 : Value).ownBlock) (Kd.R_keptB (HO_9.out) hkp (fun k_ hk_ hs_ => (hk_.1.1.1) hs_)) (fun k_ hk_ => ⟨hk_.1.1.1.1, hk_.1.1.1.2.1, hk_.1.1.1.2.2, hk_.1.1.2, hk_.1.2⟩)); have n1_ := Aside0.mk (Kd.R_reok rfl hy0 (fun k_ e_ => HO_11.out.1 k_ e_)); have n2_ := Aside0.mk (Kd.R_mono (ok' := fun k_ => some k_ ≠ (v254 : Value).ownBlock ∧ some k_ ≠ (.slice Ao21 t256.length co21 : Value).ownBlock ∧ some k_ ≠ (v264 : Value).ownBlock ∧ some k_ ≠ (.slice Ao39 t267.length co39 : Value).ownBlock ∧ some k_ ≠ (.slice Ao41 t271.length co41 : Value).ownBlock) (Kd.R_keptB (HO_12.out) hkp (fun k_ hk_ hs_ => (hk_.1.1.2.1) hs_)) (fun k_ hk_ => ⟨hk_.1.1.1.1, hk_.1.1.1.2.1, hk_.1.1.1.2.2, hk_.1.1.2, hk_.1.2⟩)); have n3_ := Aside0.mk (Kd.R_mono (ok' := fun k_ => some k_ ≠ (v254 : Value).ownBlock ∧ some k_ ≠ (.slice Ao21 t256.length co21 : Value).ownBlock ∧ some k_ ≠ (.slice Ao22 t259.length co22 : Value).ownBlock ∧ some k_ ≠ (.slice Ao39 t267.length co39 : Value).ownBlock ∧ some k_ ≠ (.slice Ao41 t271.length co41 : Value).ownBlock) (Kd.R_keptB (HO_13.out) hkp (fun k_ hk_ hs_ => (hk_.1.1.2.1) hs_)) (fun k_ hk_ => ⟨hk_.1.1.1.1, hk_.1.1.1.2.1, hk_.1.1.1.2.2, hk_.1.1.2, hk_.1.2⟩)); have n4_ := Aside0.mk (Kd.R_mono (ok' := fun k_ => some k_ ≠ (v254 : Value).ownBlock ∧ some k_ ≠ (.slice Ao21 t256.length co21 : Value).ownBlock ∧ some k_ ≠ (.slice Ao22 t259.length co22 : Value).ownBlock ∧ some k_ ≠ (v264 : Value).ownBlock ∧ some k_ ≠ (.slice Ao41 t271.length co41 : Value).ownBlock) (Kd.R_keptB (HO269.out) hkp (fun k_ hk_ hs_ => (hk_.1.1.1.2) hs_)) (fun k_ hk_ => ⟨hk_.1.1.1.1.1.2, hk_.1.1.1.1.2, hk_.1.1.1.2, hk_.1.1.2, hk_.1.2⟩)); have n5_ := Aside0.mk (Kd.R_mono (ok' := fun k_ => some k_ ≠ (v254 : Value).ownBlock ∧ some k_ ≠ (.slice Ao21 t256.length co21 : Value).ownBlock ∧ some k_ ≠ (.slice Ao22 t259.length co22 : Value).ownBlock ∧ some k_ ≠ (v264 : Value).ownBlock ∧ some k_ ≠ (.slice Ao39 t267.length co39 : Value).ownBlock) (Kd.R_keptB (HO273.out) hkp (fun k_ hk_ hs_ => (hk_.1.1.1.2) hs_)) (fun k_ hk_ => ⟨hk_.1.1.1.1.1.2, hk_.1.1.1.1.2, hk_.1.1.1.2, hk_.1.1.2, hk_.1.2⟩)); have n6_ := Aside0.mk (hb); clear HO_9; clear HO_11; clear HO_12; clear HO_13; clear HO269; clear HO273; clear HB; have HO_9 := n0_; have HO_11 := n1_; have HO_12 := n2_; have HO_13 := n3_; have HO269 := n4_; have HO273 := n5_; have HB := n6_; clear n0_ n1_ n2_ n3_ n4_ n5_ n6_; (try clear hb); (try clear hkp); (try clear hy0)) | ((with_reducible refine gate_callee (f := 20) rfl ?_); refine goesL_ (some 72) rfl rfl Try.func20 (by kernel_rfl) rfl #[.slice Ao22 t259.length co22, .int .i64 t275] rfl (by (try simp only [List.map_toArray, List.map_cons, List.map_nil]); first | done | rfl | (simp only [List.length_drop, List.length_take]; rfl)) ?_; (with_reducible refine (laws_markInt64S.calls kj12 (fun k_ => some k_ = (.slice Ao22 t259.length co22 : Value).ownBlock) (.slice Ao22 t259.length co22) t259 t275 t277 t278 w _ ?side1 ?side2 A36.out).mono ?_); (case side1 => repeat (first | (with_reducible first | exact HB.out | apply below_alloc | apply pw_below_drewN | apply below_drew1) | exact HB.out)); (case side2 => exact Kd.R_tight rfl HO_12.out); rintro e w43 ⟨rfl, hy0, hb, hkp⟩; refine ⟨_, rfl, ?_⟩; have n0_ := Aside0.mk (Kd.R_mono (ok' := fun k_ => some k_ ≠ (.slice Ao21 t256.length co21 : Value).ownBlock ∧ some k_ ≠ (.slice Ao22 t259.length co22 : Value).ownBlock ∧ some k_ ≠ (v264 : Value).ownBlock ∧ some k_ ≠ (.slice Ao39 t267.length co39 : Value).ownBlock ∧ some k_ ≠ (.slice Ao41 t271.length co41 : Value).ownBlock) (Kd.R_keptB (HO_9.out) hkp (fun k_ hk_ hs_ => (hk_.2.1) hs_)) (fun k_ hk_ => ⟨hk_.1.1, hk_.1.2.1, hk_.1.2.2.1, hk_.1.2.2.2.1, hk_.1.2.2.2.2⟩)); have n1_ := Aside0.mk (Kd.R_mono (ok' := fun k_ => some k_ ≠ (v254 : Value).ownBlock ∧ some k_ ≠ (.slice Ao22 t259.length co22 : Value).ownBlock ∧ some k_ ≠ (v264 : Value).ownBlock ∧ some k_ ≠ (.slice Ao39 t267.length co39 : Value).ownBlock ∧ some k_ ≠ (.slice Ao41 t271.length co41 : Value).ownBlock) (Kd.R_keptB (HO_11.out) hkp (fun k_ hk_ hs_ => (hk_.1.1.2.1) hs_)) (fun k_ hk_ => ⟨hk_.1.1.1.1, hk_.1.1.1.2.1, hk_.1.1.1.2.2, hk_.1.1.2, hk_.1.2⟩)); have n2_ := Aside0.mk (Kd.R_reok rfl hy0 (fun k_ e_ => HO_12.out.1 k_ e_)); have n3_ := Aside0.mk (Kd.R_mono (ok' := fun k_ => some k_ ≠ (v254 : Value).ownBlock ∧ some k_ ≠ (.slice Ao21 t256.length co21 : Value).ownBlock ∧ some k_ ≠ (.slice Ao22 t259.length co22 : Value).ownBlock ∧ some k_ ≠ (.slice Ao39 t267.length co39 : Value).ownBlock ∧ some k_ ≠ (.slice Ao41 t271.length co41 : Value).ownBlock) (Kd.R_keptB (HO_13.out) hkp (fun k_ hk_ hs_ => (hk_.2.2.1) hs_)) (fun k_ hk_ => ⟨hk_.1.1, hk_.1.2.1, hk_.1.2.2.1, hk_.1.2.2.2.1, hk_.1.2.2.2.2⟩)); have n4_ := Aside0.mk (Kd.R_mono (ok' := fun k_ => some k_ ≠ (v254 : Value).ownBlock ∧ some k_ ≠ (.slice Ao21 t256.length co21 : Value).ownBlock ∧ some k_ ≠ (.slice Ao22 t259.length co22 : Value).ownBlock ∧ some k_ ≠ (v264 : Value).ownBlock ∧ some k_ ≠ (.slice Ao41 t271.length co41 : Value).ownBlock) (Kd.R_keptB (HO269.out) hkp (fun k_ hk_ hs_ => (hk_.2.2.1) hs_)) (fun k_ hk_ => ⟨hk_.1.1, hk_.1.2.1, hk_.1.2.2.1, hk_.1.2.2.2.1, hk_.1.2.2.2.2⟩)); have n5_ := Aside0.mk (Kd.R_mono (ok' := fun k_ => some k_ ≠ (v254 : Value).ownBlock ∧ some k_ ≠ (.slice Ao21 t256.length co21 : Value).ownBlock ∧ some k_ ≠ (.slice Ao22 t259.length co22 : Value).ownBlock ∧ some k_ ≠ (v264 : Value).ownBlock ∧ some k_ ≠ (.slice Ao39 t267.length co39 : Value).ownBlock) (Kd.R_keptB (HO273.out) hkp (fun k_ hk_ hs_ => (hk_.2.2.1) hs_)) (fun k_ hk_ => ⟨hk_.1.1, hk_.1.2.1, hk_.1.2.2.1, hk_.1.2.2.2.1, hk_.1.2.2.2.2⟩)); have n6_ := Aside0.mk (hb); clear HO_9; clear HO_11; clear HO_12; clear HO_13; clear HO269; clear HO273; clear HB; have HO_9 := n0_; have HO_11 := n1_; have HO_12 := n2_; have HO_13 := n3_; have HO269 := n4_; have HO273 := n5_; have HB := n6_; clear n0_ n1_ n2_ n3_ n4_ n5_ n6_; (try clear hb); (try clear hkp); (try clear hy0)))
        (try simp only [Act.put, List.setIfInBounds_toArray, List.set_cons_zero, List.set_cons_succ])
        go_cut [85] (fun v85 wc => ∃ (kq : Nat) (x85_36 : Bool), v85 = .bool x85_36 ∧ Aside0 (laws_FnExactBetweenMarks.j1 kq a0 a1 l2 l3 t252 t253 t262 x85_36 = some r) ∧ Aside0 (kq ≤ kj12) ∧ Aside0 (Kd.R (Kd.int .i64) 2 wc w.heap.size (fun k_ => some k_ ≠ (v264 : Value).ownBlock) v254 t252) ∧ Aside0 (Kd.R (Kd.int .i64) 2 wc w.heap.size (fun k_ => some k_ ≠ (v254 : Value).ownBlock) v264 t262) ∧ Aside0 (Below w.heap.size w wc))
        case first =>
         have H := HC37.out
         clear HC37
         by_cases c44 : t277 < 0
         ·rw [if_pos c44] at H
          have c44b0 : decide (t277 < 0) = true := decide_eq_true c44
          clear c44
          (first | rw [c44b0] | (simp only [i64_w, i32_w]; rw [c44b0]) | skip)
          exact absurd (Option.some.inj H) (by rw [hr_.out]; decide)
         ·rw [if_neg c44] at H
          have c44b0 : decide (t277 < 0) = false := decide_eq_false c44
          clear c44
          (first | rw [c44b0] | (simp only [i64_w, i32_w]; rw [c44b0]) | skip)
          replace H := Option.bind_eq_some_iff.mp H
          obtain ⟨t279, A450, H⟩ := H
          replace H : (if t279 = true then (laws_FnExactBetweenMarks.j1 kj12 a0 a1 l2 l3 t252 t253 t262 (t263 != t253)) else (some false)) = some r := H
          have A45 := Aside0.mk A450
          clear A450
          by_cases c46 : t279 = true
          ·subst c46
           have H1 : (laws_FnExactBetweenMarks.j1 kj12 a0 a1 l2 l3 t252 t253 t262 (t263 != t253)) = some r := by rw [if_pos rfl] at H; exact H
           clear H
           have H := H1
           clear H1
           have H' := Aside0.mk H
           clear H
           obtain ⟨Ao47, co47, eo47⟩ := Kd.R_slice HO_13.out
           subst eo47
           obtain ⟨Ao48, co48, eo48⟩ := Kd.R_slice HO_9.out
           subst eo48
           go_wp2_with (first | (go_at_call 18; (with_reducible refine (laws_eqInt64S.calls kj12 _ _ t262 _ _ t252 true _ ?side1 ?side2 ?side3 ?side4 A45.out).mono ?_); (case side1 => repeat (first | exact (Kd.R_reads' HO_13.out).2.2 | (with_reducible refine Kd.C_alloc ?_ _) | (with_reducible refine Kd.C_drewN ?_ _) | (with_reducible refine Kd.C_drew ?_))); (case side2 => exact (Kd.R_reads' HO_13.out).2.1); (case side3 => repeat (first | exact (Kd.R_reads' HO_9.out).2.2 | (with_reducible refine Kd.C_alloc ?_ _) | (with_reducible refine Kd.C_drewN ?_ _) | (with_reducible refine Kd.C_drew ?_))); (case side4 => exact (Kd.R_reads' HO_9.out).2.1); rintro e w' ⟨rfl, ⟨nd, rfl⟩⟩))
           go_meet
           case rel => exact ⟨_, ((t263 != t253)), (by first | rfl | (simp; done) | (simp [*]; done)), H', ⟨by have := HJ12.out; first | omega | exact Nat.le_refl _⟩, ⟨by (with_reducible repeat (first | apply Kd.R_alloc | apply Kd.R_drewN | apply Kd.R_drew)); exact Kd.R_mono HO_9.out (fun _ hk => hk.2.2.1)⟩, ⟨by (with_reducible repeat (first | apply Kd.R_alloc | apply Kd.R_drewN | apply Kd.R_drew)); exact Kd.R_mono HO_13.out (fun _ hk => hk.1)⟩, ⟨by repeat (first | (with_reducible first | exact HB.out | apply below_alloc | apply pw_below_drewN | apply below_drew1) | exact HB.out)⟩⟩
          ·replace c46 := Bool.eq_false_iff.mpr c46
           subst c46
           have H1 : (some false) = some r := by rw [if_neg (show ¬ (false = true) by decide)] at H; exact H
           clear H
           have H := H1
           clear H1
           exact absurd (Option.some.inj H) (by rw [hr_.out]; decide)
        case rest =>
         clear HC37
         try clear c1
         try clear c2
         try clear p2
         try clear c3
         try clear c4
         try clear c5
         try clear c5b0
         try clear c5b1
         try clear c6
         try clear c6b0
         try clear c6b1
         try clear c8
         try clear c18
         try clear c20
         try clear c25
         try clear c28
         try clear c29
         try clear c30
         try clear c31
         try clear c34
         try clear c44
         try clear c44b0
         try clear c46
         try clear p2
         obtain ⟨kq, x85_36, rfl, HA, HJ36, HO_9, HO_13, HB⟩ := hcut
         cases kq with
         | zero => exact absurd HA.out (by simp [laws_FnExactBetweenMarks.j1])
         | succ kj36 =>
          have H := HA.out
          clear HA
          simp only [laws_FnExactBetweenMarks.j1] at H
          by_cases c49 : x85_36 = true
          ·subst c49
           have H1 : (some false) = some r := by rw [if_pos rfl] at H; exact H
           clear H
           have H := H1
           clear H1
           exact absurd (Option.some.inj H) (by rw [hr_.out]; decide)
          ·replace c49 := Bool.eq_false_iff.mpr c49
           subst c49
           have H1 : ((laws_markInt64S.f kj36 t262 1).bind fun bt280 => ((laws_heldInt64S.f kj36 bt280.2 1).bind fun t282 => (if t282 < 0 then (some false) else (if t282 = bt280.1 then ((laws_toInt64S.f kj36 l2).bind fun t283 => ((laws_toInt64S.f kj36 l3).bind fun t286 => ((impl_BetweenMarks.f kj36 a0 a1 t283 t286).bind fun bt289 => ((laws_eqInt64S.f kj36 bt289.1 t252).bind fun t293 => (if t293 = true then (laws_FnExactBetweenMarks.j2 kj36 bt280.2 bt280.1 (bt289.2 != t253)) else (some false)))))) else (some false))))) = some r := by rw [if_neg (show ¬ (false = true) by decide)] at H; exact H
           clear H
           have H := H1
           clear H1
           replace H := Option.bind_eq_some_iff.mp H
           obtain ⟨⟨t280, t281⟩, A500, H⟩ := H
           replace H : ((laws_heldInt64S.f kj36 t281 1).bind fun t282 => (if t282 < 0 then (some false) else (if t282 = t280 then ((laws_toInt64S.f kj36 l2).bind fun t283 => ((laws_toInt64S.f kj36 l3).bind fun t286 => ((impl_BetweenMarks.f kj36 a0 a1 t283 t286).bind fun bt289 => ((laws_eqInt64S.f kj36 bt289.1 t252).bind fun t293 => (if t293 = true then (laws_FnExactBetweenMarks.j2 kj36 t281 t280 (bt289.2 != t253)) else (some false)))))) else (some false)))) = some r := H
           have A50 := Aside0.mk A500
           clear A500
           replace H := Option.bind_eq_some_iff.mp H
           obtain ⟨t282, A510, H⟩ := H
           replace H : (if t282 < 0 then (some false) else (if t282 = t280 then ((laws_toInt64S.f kj36 l2).bind fun t283 => ((laws_toInt64S.f kj36 l3).bind fun t286 => ((impl_BetweenMarks.f kj36 a0 a1 t283 t286).bind fun bt289 => ((laws_eqInt64S.f kj36 bt289.1 t252).bind fun t293 => (if t293 = true then (laws_FnExactBetweenMarks.j2 kj36 t281 t280 (bt289.2 != t253)) else (some false)))))) else (some false))) = some r := H
           have A51 := Aside0.mk A510
           clear A510
           by_cases c52 : t282 < 0
           ·rw [if_pos c52] at H
            have c52b0 : decide (t282 < 0) = true := decide_eq_true c52
            clear c52
            exact absurd (Option.some.inj H) (by rw [hr_.out]; decide)
           ·rw [if_neg c52] at H
            have c52b0 : decide (t282 < 0) = false := decide_eq_false c52
            clear c52
            by_cases c53 : t282 = t280
            ·rw [if_pos c53] at H
             have c53b0 : (t282 == t280) = true := beq_iff_eq.mpr c53
             have c53b1 : (t282 != t280) = false := bne_eq_false_iff_eq.mpr c53
             clear c53
             replace H := Option.bind_eq_some_iff.mp H
             obtain ⟨t283, A540, H⟩ := H
             replace H : ((laws_toInt64S.f kj36 l3).bind fun t286 => ((impl_BetweenMarks.f kj36 a0 a1 t283 t286).bind fun bt289 => ((laws_eqInt64S.f kj36 bt289.1 t252).bind fun t293 => (if t293 = true then (laws_FnExactBetweenMarks.j2 kj36 t281 t280 (bt289.2 != t253)) else (some false))))) = some r := H
             have A54 := Aside0.mk A540
             clear A540
             replace H := Option.bind_eq_some_iff.mp H
             obtain ⟨t286, A550, H⟩ := H
             replace H : ((impl_BetweenMarks.f kj36 a0 a1 t283 t286).bind fun bt289 => ((laws_eqInt64S.f kj36 bt289.1 t252).bind fun t293 => (if t293 = true then (laws_FnExactBetweenMarks.j2 kj36 t281 t280 (bt289.2 != t253)) else (some false)))) = some r := H
             have A55 := Aside0.mk A550
             clear A550
             replace H := Option.bind_eq_some_iff.mp H
             obtain ⟨⟨t289, t290⟩, A560, H⟩ := H
             replace H : ((laws_eqInt64S.f kj36 t289 t252).bind fun t293 => (if t293 = true then (laws_FnExactBetweenMarks.j2 kj36 t281 t280 (t290 != t253)) else (some false))) = some r := H
             have A56 := Aside0.mk A560
             clear A560
             have HC57 := Aside0.mk H
             clear H
             obtain ⟨Ao58, co58, eo58⟩ := Kd.R_slice HO_13.out
             subst eo58
             go_upto_region 29 with (first | ((with_reducible refine gate_callee (f := 20) rfl ?_); refine goesL_ (some 88) rfl rfl Try.func20 (by kernel_rfl) rfl #[.slice Ao58 t262.length co58, .int .i64 1] rfl (by (try simp only [List.map_toArray, List.map_cons, List.map_nil]); first | done | rfl | (simp only [List.length_drop, List.length_take]; rfl)) ?_; (with_reducible refine (laws_markInt64S.calls kj36 (fun k_ => some k_ = (.slice Ao58 t262.length co58 : Value).ownBlock) (.slice Ao58 t262.length co58) t262 1 t280 t281 w _ ?side1 ?side2 A50.out).mono ?_); (case side1 => repeat (first | (with_reducible first | exact HB.out | apply below_alloc | apply pw_below_drewN | apply below_drew1) | exact HB.out)); (case side2 => exact Kd.R_tight rfl HO_13.out); rintro e w59 ⟨rfl, hy0, hb, hkp⟩; refine ⟨_, rfl, ?_⟩; have n0_ := Aside0.mk (Kd.R_mono (ok' := fun k_ => some k_ ≠ (.slice Ao58 t262.length co58 : Value).ownBlock) (Kd.R_keptB (HO_9.out) hkp (fun k_ hk_ hs_ => (hk_) hs_)) (fun k_ hk_ => hk_.1)); have n1_ := Aside0.mk (Kd.R_reok rfl hy0 (fun k_ e_ => HO_13.out.1 k_ e_)); have n2_ := Aside0.mk (hb); clear HO_9; clear HO_13; clear HB; have HO_9 := n0_; have HO_13 := n1_; have HB := n2_; clear n0_ n1_ n2_; (try clear hb); (try clear hkp); (try clear hy0)) | ((with_reducible refine gate_callee (f := 21) rfl ?_); refine goesL_ (some 91) rfl rfl Try.func21 (by kernel_rfl) rfl #[.slice Ao58 t281.length co58, .int .i64 1] rfl (by (try simp only [List.map_toArray, List.map_cons, List.map_nil]); first | done | (rw [show t281.length = t262.length from (Kd.R_reads' HO_13.out).1.symm] <;> rfl) | rfl | (simp only [List.length_drop, List.length_take]; rfl)) ?_; (with_reducible refine (laws_heldInt64S.calls kj36 _ _ t281 1 t282 _ ?side1 ?side2 A51.out).mono ?_); (case side1 => repeat (first | exact (Kd.R_reads' HO_13.out).2.2 | (with_reducible refine Kd.C_alloc ?_ _) | (with_reducible refine Kd.C_drewN ?_ _) | (with_reducible refine Kd.C_drew ?_))); (case side2 => rw [show t281.length = t262.length from (Kd.R_reads' HO_13.out).1.symm]; exact (Kd.R_reads' HO_13.out).2.1); rintro e w' ⟨rfl, ⟨nd, rfl⟩⟩; refine ⟨_, rfl, ?_⟩) | ((with_reducible refine gate_callee (f := 25) rfl ?_); refine goesL_ (some 101) rfl rfl Try.func25 (by kernel_rfl) rfl #[.slice A2 l2.length c2] rfl (by (try simp only [List.map_toArray, List.map_cons, List.map_nil]); first | done | rfl | (simp only [List.length_drop, List.length_take]; rfl)) ?_; (with_reducible refine (laws_toInt64S.calls kj36 _ _ l2 t283 _ ?side1 ?side2 A54.out).mono ?_); (case side1 => repeat (first | exact (Kd.C_below HR2.out (by repeat (first | (with_reducible first | exact HB.out | apply below_alloc | apply pw_below_drewN | apply below_drew1) | exact HB.out))) | (with_reducible refine Kd.C_alloc ?_ _) | (with_reducible refine Kd.C_drewN ?_ _) | (with_reducible refine Kd.C_drew ?_))); (case side2 => exact HC2.out); rintro e w60 ⟨v284, rfl, ho0, hb⟩; refine ⟨_, rfl, ?_⟩; have n0_ := Aside0.mk (Kd.R_elder' (by (with_reducible repeat (first | apply Kd.R_alloc | apply Kd.R_drewN | apply Kd.R_drew)); exact HO_9.out) (Kd.R_base ho0) hb); have n1_ := Aside0.mk (Kd.R_elder' (by (with_reducible repeat (first | apply Kd.R_alloc | apply Kd.R_drewN | apply Kd.R_drew)); exact HO_13.out) (Kd.R_base ho0) hb); have n2_ := Aside0.mk (Kd.R_lower (Kd.R_new' (Kd.R_new' ho0 (Kd.R_lt (by (with_reducible repeat (first | apply Kd.R_alloc | apply Kd.R_drewN | apply Kd.R_drew)); exact HO_9.out))) (Kd.R_lt (by (with_reducible repeat (first | apply Kd.R_alloc | apply Kd.R_drewN | apply Kd.R_drew)); exact HO_13.out))) (below_size (by repeat (first | (with_reducible first | exact HB.out | apply below_alloc | apply pw_below_drewN | apply below_drew1) | exact HB.out)))); have n3_ := Aside0.mk (below_step (by repeat (first | (with_reducible first | exact HB.out | apply below_alloc | apply pw_below_drewN | apply below_drew1) | exact HB.out)) hb); clear HO_9; clear HO_13; clear HB; have HO_9 := n0_; have HO_13 := n1_; have HO285 := n2_; have HB := n3_; clear n0_ n1_ n2_ n3_; (try clear hb); (try clear hb2); (try clear hk); (try clear hi); (try clear ho0)) | ((with_reducible refine gate_callee (f := 25) rfl ?_); refine goesL_ (some 103) rfl rfl Try.func25 (by kernel_rfl) rfl #[.slice A3 l3.length c3] rfl (by (try simp only [List.map_toArray, List.map_cons, List.map_nil]); first | done | rfl | (simp only [List.length_drop, List.length_take]; rfl)) ?_; (with_reducible refine (laws_toInt64S.calls kj36 _ _ l3 t286 _ ?side1 ?side2 A55.out).mono ?_); (case side1 => repeat (first | exact (Kd.C_below HR3.out HB.out) | (with_reducible refine Kd.C_alloc ?_ _) | (with_reducible refine Kd.C_drewN ?_ _) | (with_reducible refine Kd.C_drew ?_))); (case side2 => exact HC3.out); rintro e w61 ⟨v287, rfl, ho0, hb⟩; refine ⟨_, rfl, ?_⟩; have n0_ := Aside0.mk (Kd.R_elder' (by (with_reducible repeat (first | apply Kd.R_alloc | apply Kd.R_drewN | apply Kd.R_drew)); exact HO_9.out) (Kd.R_base ho0) hb); have n1_ := Aside0.mk (Kd.R_elder' (by (with_reducible repeat (first | apply Kd.R_alloc | apply Kd.R_drewN | apply Kd.R_drew)); exact HO_13.out) (Kd.R_base ho0) hb); have n2_ := Aside0.mk (Kd.R_elder' (by (with_reducible repeat (first | apply Kd.R_alloc | apply Kd.R_drewN | apply Kd.R_drew)); exact HO285.out) (Kd.R_base ho0) hb); have n3_ := Aside0.mk (Kd.R_lower (Kd.R_new' (Kd.R_new' (Kd.R_new' ho0 (Kd.R_lt (by (with_reducible repeat (first | apply Kd.R_alloc | apply Kd.R_drewN | apply Kd.R_drew)); exact HO_9.out))) (Kd.R_lt (by (with_reducible repeat (first | apply Kd.R_alloc | apply Kd.R_drewN | apply Kd.R_drew)); exact HO_13.out))) (Kd.R_lt (by (with_reducible repeat (first | apply Kd.R_alloc | apply Kd.R_drewN | apply Kd.R_drew)); exact HO285.out))) (below_size (by repeat (first | (with_reducible first | exact HB.out | apply below_alloc | apply pw_below_drewN | apply below_drew1) | exact HB.out)))); have n4_ := Aside0.mk (below_step (by repeat (first | (with_reducible first | exact HB.out | apply below_alloc | apply pw_below_drewN | apply below_drew1) | exact HB.out)) hb); clear HO_9; clear HO_13; clear HO285; clear HB; have HO_9 := n0_; have HO_13 := n1_; have HO285 := n2_; have HO288 := n3_; have HB := n4_; clear n0_ n1_ n2_ n3_ n4_; (try clear hb); (try clear hb2); (try clear hk); (try clear hi); (try clear ho0); obtain ⟨Ao62, co62, eo62⟩ := Kd.R_slice HO285.out; subst eo62; obtain ⟨Ao63, co63, eo63⟩ := Kd.R_slice HO288.out; subst eo63) | ((with_reducible refine gate_callee (f := 30) rfl ?_); refine goesL_ (some 104) rfl rfl Try.func30 (by kernel_rfl) rfl #[.int .i64 a0, .int .i64 a1, .slice Ao62 t283.length co62, .slice Ao63 t286.length co63] rfl (by (try simp only [List.map_toArray, List.map_cons, List.map_nil]); first | done | rfl | (simp only [List.length_drop, List.length_take]; rfl)) ?_; (with_reducible refine (impl_BetweenMarks.calls kj36 a0 a1 _ _ t283 _ _ t286 t289 t290 _ ?side1 ?side2 ?side3 ?side4 A56.out).mono ?_); (case side1 => repeat (first | exact (Kd.R_reads' HO285.out).2.2 | (with_reducible refine Kd.C_alloc ?_ _) | (with_reducible refine Kd.C_drewN ?_ _) | (with_reducible refine Kd.C_drew ?_))); (case side2 => exact (Kd.R_reads' HO285.out).2.1); (case side3 => repeat (first | exact (Kd.R_reads' HO288.out).2.2 | (with_reducible refine Kd.C_alloc ?_ _) | (with_reducible refine Kd.C_drewN ?_ _) | (with_reducible refine Kd.C_drew ?_))); (case side4 => exact (Kd.R_reads' HO288.out).2.1); rintro e w64 ⟨v291, rfl, ho0, hb⟩; refine ⟨_, rfl, ?_⟩; have n0_ := Aside0.mk (Kd.R_elder' (by (with_reducible repeat (first | apply Kd.R_alloc | apply Kd.R_drewN | apply Kd.R_drew)); exact HO_9.out) (Kd.R_base ho0) hb); have n1_ := Aside0.mk (Kd.R_elder' (by (with_reducible repeat (first | apply Kd.R_alloc | apply Kd.R_drewN | apply Kd.R_drew)); exact HO_13.out) (Kd.R_base ho0) hb); have n2_ := Aside0.mk (Kd.R_elder' (by (with_reducible repeat (first | apply Kd.R_alloc | apply Kd.R_drewN | apply Kd.R_drew)); exact HO285.out) (Kd.R_base ho0) hb); have n3_ := Aside0.mk (Kd.R_elder' (by (with_reducible repeat (first | apply Kd.R_alloc | apply Kd.R_drewN | apply Kd.R_drew)); exact HO288.out) (Kd.R_base ho0) hb); have n4_ := Aside0.mk (Kd.R_lower (Kd.R_new' (Kd.R_new' (Kd.R_new' (Kd.R_new' ho0 (Kd.R_lt (by (with_reducible repeat (first | apply Kd.R_alloc | apply Kd.R_drewN | apply Kd.R_drew)); exact HO_9.out))) (Kd.R_lt (by (with_reducible repeat (first | apply Kd.R_alloc | apply Kd.R_drewN | apply Kd.R_drew)); exact HO_13.out))) (Kd.R_lt (by (with_reducible repeat (first | apply Kd.R_alloc | apply Kd.R_drewN | apply Kd.R_drew)); exact HO285.out))) (Kd.R_lt (by (with_reducible repeat (first | apply Kd.R_alloc | apply Kd.R_drewN | apply Kd.R_drew)); exact HO288.out))) (below_size (by repeat (first | (with_reducible first | exact HB.out | apply below_alloc | apply pw_below_drewN | apply below_drew1) | exact HB.out)))); have n5_ := Aside0.mk (below_step (by repeat (first | (with_reducible first | exact HB.out | apply below_alloc | apply pw_below_drewN | apply below_drew1) | exact HB.out)) hb); clear HO_9; clear HO_13; clear HO285; clear HO288; clear HB; have HO_9 := n0_; have HO_13 := n1_; have HO285 := n2_; have HO288 := n3_; have HO292 := n4_; have HB := n5_; clear n0_ n1_ n2_ n3_ n4_ n5_; (try clear hb); (try clear hb2); (try clear hk); (try clear hi); (try clear ho0)))
             (try simp only [Act.put, List.setIfInBounds_toArray, List.set_cons_zero, List.set_cons_succ])
             go_cut [115] (fun v115 wc => ∃ (kq : Nat) (x115_56 : Bool), v115 = .bool x115_56 ∧ Aside0 (laws_FnExactBetweenMarks.j2 kq t281 t280 x115_56 = some r) ∧ Aside0 (kq ≤ kj36) ∧ Aside0 (Kd.R (Kd.int .i64) 2 wc w.heap.size (fun _ => True) (.slice Ao58 t262.length co58) t281) ∧ Aside0 (Below w.heap.size w wc))
             case first =>
              have H := HC57.out
              clear HC57
              replace H := Option.bind_eq_some_iff.mp H
              obtain ⟨t293, A650, H⟩ := H
              replace H : (if t293 = true then (laws_FnExactBetweenMarks.j2 kj36 t281 t280 (t290 != t253)) else (some false)) = some r := H
              have A65 := Aside0.mk A650
              clear A650
              by_cases c66 : t293 = true
              ·subst c66
               have H1 : (laws_FnExactBetweenMarks.j2 kj36 t281 t280 (t290 != t253)) = some r := by rw [if_pos rfl] at H; exact H
               clear H
               have H := H1
               clear H1
               have H' := Aside0.mk H
               clear H
               obtain ⟨Ao67, co67, eo67⟩ := Kd.R_slice HO292.out
               subst eo67
               obtain ⟨Ao68, co68, eo68⟩ := Kd.R_slice HO_9.out
               subst eo68
               go_wp2_with (first | ((with_reducible refine gate_callee (f := 18) rfl ?_); refine goesL_ (some 109) rfl rfl Try.func18 (by kernel_rfl) rfl #[.slice Ao67 t289.length co67, .slice Ao68 t252.length co68] rfl (by (try simp only [List.map_toArray, List.map_cons, List.map_nil]); first | done | rfl | (simp only [List.length_drop, List.length_take]; rfl)) ?_; (with_reducible refine (laws_eqInt64S.calls kj36 _ _ t289 _ _ t252 true _ ?side1 ?side2 ?side3 ?side4 A65.out).mono ?_); (case side1 => repeat (first | exact (Kd.R_reads' HO292.out).2.2 | (with_reducible refine Kd.C_alloc ?_ _) | (with_reducible refine Kd.C_drewN ?_ _) | (with_reducible refine Kd.C_drew ?_))); (case side2 => exact (Kd.R_reads' HO292.out).2.1); (case side3 => repeat (first | exact (Kd.R_reads' HO_9.out).2.2 | (with_reducible refine Kd.C_alloc ?_ _) | (with_reducible refine Kd.C_drewN ?_ _) | (with_reducible refine Kd.C_drew ?_))); (case side4 => exact (Kd.R_reads' HO_9.out).2.1); rintro e w' ⟨rfl, ⟨nd, rfl⟩⟩; refine ⟨_, rfl, ?_⟩))
               go_meet
               case rel => exact ⟨_, ((t290 != t253)), (by first | rfl | (simp; done) | (simp [*]; done)), H', ⟨by have := HJ12.out; have := HJ36.out; first | omega | exact Nat.le_refl _⟩, ⟨by (with_reducible repeat (first | apply Kd.R_alloc | apply Kd.R_drewN | apply Kd.R_drew)); exact Kd.R_mono HO_13.out (fun _ hk => trivial)⟩, ⟨by repeat (first | (with_reducible first | exact HB.out | apply below_alloc | apply pw_below_drewN | apply below_drew1) | exact HB.out)⟩⟩
              ·replace c66 := Bool.eq_false_iff.mpr c66
               subst c66
               have H1 : (some false) = some r := by rw [if_neg (show ¬ (false = true) by decide)] at H; exact H
               clear H
               have H := H1
               clear H1
               exact absurd (Option.some.inj H) (by rw [hr_.out]; decide)
             case rest =>
              clear HC57
              try clear c1
              try clear c2
              try clear p2
              try clear c3
              try clear c4
              try clear c5
              try clear c5b0
              try clear c5b1
              try clear c6
              try clear c6b0
              try clear c6b1
              try clear c8
              try clear c18
              try clear c20
              try clear c21
              try clear c25
              try clear c28
              try clear c29
              try clear c30
              try clear c31
              try clear c34
              try clear c44
              try clear c44b0
              try clear c46
              try clear c49
              try clear c52
              try clear c52b0
              try clear c53
              try clear c53b0
              try clear c53b1
              try clear c66
              try clear p2
              obtain ⟨kq, x115_56, rfl, HA, HJ56, HO_13, HB⟩ := hcut
              have hl13_56 := (Kd.R_reads' HO_13.out).1
              rw [hl13_56] at HO_13
              (try simp only [hl13_56])
              cases kq with
              | zero => exact absurd HA.out (by simp [laws_FnExactBetweenMarks.j2])
              | succ kj56 =>
               have H := HA.out
               clear HA
               simp only [laws_FnExactBetweenMarks.j2] at H
               by_cases c69 : x115_56 = true
               ·subst c69
                have H1 : (some false) = some r := by rw [if_pos rfl] at H; exact H
                clear H
                have H := H1
                clear H1
                exact absurd (Option.some.inj H) (by rw [hr_.out]; decide)
               ·replace c69 := Bool.eq_false_iff.mpr c69
                subst c69
                have H1 : ((laws_heldInt64S.f kj56 t281 1).bind fun t294 => (if t294 < 0 then (some false) else (if t294 = t280 then (some true) else (some false)))) = some r := by rw [if_neg (show ¬ (false = true) by decide)] at H; exact H
                clear H
                have H := H1
                clear H1
                replace H := Option.bind_eq_some_iff.mp H
                obtain ⟨t294, A700, H⟩ := H
                replace H : (if t294 < 0 then (some false) else (if t294 = t280 then (some true) else (some false))) = some r := H
                have A70 := Aside0.mk A700
                clear A700
                by_cases c71 : t294 < 0
                ·rw [if_pos c71] at H
                 have c71b0 : decide (t294 < 0) = true := decide_eq_true c71
                 clear c71
                 exact absurd (Option.some.inj H) (by rw [hr_.out]; decide)
                ·rw [if_neg c71] at H
                 have c71b0 : decide (t294 < 0) = false := decide_eq_false c71
                 clear c71
                 by_cases c72 : t294 = t280
                 ·rw [if_pos c72] at H
                  have c72b0 : (t294 == t280) = true := beq_iff_eq.mpr c72
                  have c72b1 : (t294 != t280) = false := bne_eq_false_iff_eq.mpr c72
                  clear c72
                  obtain rfl := Option.some.inj H
                  go_wp2_with (first | ((with_reducible refine gate_callee (f := 21) rfl ?_); refine goesL_ (some 118) rfl rfl Try.func21 (by kernel_rfl) rfl #[.slice Ao58 t281.length co58, .int .i64 1] rfl (by (try simp only [List.map_toArray, List.map_cons, List.map_nil]); first | done | rfl | (simp only [List.length_drop, List.length_take]; rfl)) ?_; (with_reducible refine (laws_heldInt64S.calls kj56 _ _ t281 1 t294 _ ?side1 ?side2 A70.out).mono ?_); (case side1 => repeat (first | exact (Kd.R_reads' HO_13.out).2.2 | (with_reducible refine Kd.C_alloc ?_ _) | (with_reducible refine Kd.C_drewN ?_ _) | (with_reducible refine Kd.C_drew ?_))); (case side2 => exact (Kd.R_reads' HO_13.out).2.1); rintro e w' ⟨rfl, ⟨nd, rfl⟩⟩; refine ⟨_, rfl, ?_⟩))
                  go_ret
                  exact ⟨by first | rfl | (simp [errW_none, errW_some] <;> rfl) | (simp [*, errW_none, errW_some] <;> rfl), by repeat (first | (with_reducible first | exact HB.out | apply below_alloc | apply pw_below_drewN | apply below_drew1) | exact HB.out)⟩
                 ·rw [if_neg c72] at H
                  have c72b0 : (t294 == t280) = false := beq_eq_false_iff_ne.mpr c72
                  have c72b1 : (t294 != t280) = true := bne_iff_ne.mpr c72
                  exact absurd (Option.some.inj H) (by rw [hr_.out]; decide)
            ·rw [if_neg c53] at H
             have c53b0 : (t282 == t280) = false := beq_eq_false_iff_ne.mpr c53
             have c53b1 : (t282 != t280) = true := bne_iff_ne.mpr c53
             exact absurd (Option.some.inj H) (by rw [hr_.out]; decide)
       ·replace c34 := Bool.eq_false_iff.mpr c34
        subst c34
        have H1 : (some false) = some r := by rw [if_neg (show ¬ (false = true) by decide)] at H; exact H
        clear H
        have H := H1
        clear H1
        exact absurd (Option.some.inj H) (by rw [hr_.out]; decide)
      ·replace c31 := Bool.eq_false_iff.mpr c31
       subst c31
       have H1 : (some false) = some r := by rw [if_neg (show ¬ (false = true) by decide)] at H; exact H
       clear H
       have H := H1
       clear H1
       exact absurd (Option.some.inj H) (by rw [hr_.out]; decide)

end Go.Proofs.Ytppfdndnojbmjaa.X

/-! ## Rdr -/
/- How an argument that reads as data is given to the printed functions: whole numbers, bools, strings, slices and structs of these, of whatever depth. No condition. -/
namespace Go.Proofs.Ytppfdndnojbmjaa.Rdr
open Go.ChangeShapes Go.WideShapes Go.Deep Go.Proofs.YtppfdndnojbmjaaW.PrintWords

def I64 (n : Int) : Prop := -9223372036854775808 ≤ n ∧ n ≤ 9223372036854775807
def Str (s : ByteArray) : Prop := s.size ≤ 9223372036854775807
def Lst {α : Type} (Wf : α → Prop) (xs : List α) : Prop := xs.length ≤ 9223372036854775807 ∧ ∀ x ∈ xs, Wf x

structure Reads (P : Program) (t : TypeId) {α : Type} (κ : Kd α) (Wf : α → Prop) : Prop where
  size : P.cellsOf t = κ.sz
  read : ∀ {H : Type} {enc : TypeId × Value → H} {W : World} {base : Nat} {spare : Nat → Bool} {held : Bool} {fuel : Nat} {cs : List Value} {x : DataW H × List MemPlace}, DataW.trod enc P W base spare held fuel t cs = some x → ∃ a, κ.K W a cs ∧ Wf a

theorem reads_i64 {P : Program} {t : TypeId} (ht : P.underlying t = some (.int .i64)) (hc : P.cellsOf t = 1) : Reads P t (Kd.int .i64) I64 := by
  refine ⟨hc, ?_⟩
  intro H enc W base spare held fuel cs x h
  obtain ⟨n, rfl, _, hw⟩ := DataW.trod_int ht h
  refine ⟨n, rfl, ?_⟩
  have hb := bounds_i64 hw
  unfold I64
  omega
def U8 (n : Int) : Prop := 0 ≤ n ∧ n ≤ 255
theorem reads_u8 {P : Program} {t : TypeId} (ht : P.underlying t = some (.int .u8)) (hc : P.cellsOf t = 1) : Reads P t (Kd.int .u8) U8 := by
  refine ⟨hc, ?_⟩
  intro H enc W base spare held fuel cs x h
  obtain ⟨n, rfl, _, hw⟩ := DataW.trod_int ht h
  exact ⟨n, rfl, bounds_u8 hw⟩
theorem reads_bool {P : Program} {t : TypeId} (ht : P.underlying t = some .bool) (hc : P.cellsOf t = 1) : Reads P t Kd.bool (fun _ => True) := by
  refine ⟨hc, ?_⟩
  intro H enc W base spare held fuel cs x h
  obtain ⟨b, rfl, _⟩ := DataW.trod_bool ht h
  exact ⟨b, rfl, trivial⟩
theorem reads_str {P : Program} {t : TypeId} (ht : P.underlying t = some .string) (hc : P.cellsOf t = 1) : Reads P t Kd.string Str := by
  refine ⟨hc, ?_⟩
  intro H enc W base spare held fuel cs x h
  obtain ⟨s, rfl, _, hs⟩ := DataW.trod_string ht h
  exact ⟨s, rfl, hs⟩

theorem choose_any {α : Type} {n : Nat} {p : Nat → α → Prop} (h : ∀ i, i < n → ∃ x, p i x) : ∃ l : List α, l.length = n ∧ ∀ (j : Nat) (x : α), l[j]? = some x → p j x := by
  induction n with
  | zero => exact ⟨[], rfl, fun j x hj => by simp at hj⟩
  | succ n ih =>
    obtain ⟨l, hl, hp⟩ := ih (fun i hi => h i (by omega))
    obtain ⟨x, hx⟩ := h n (by omega)
    refine ⟨l ++ [x], by simp [hl], fun j y hj => ?_⟩
    rcases Nat.lt_or_ge j l.length with hj' | hj'
    · rw [List.getElem?_append_left hj'] at hj
      exact hp j y hj
    · have := (List.getElem?_eq_some_iff.1 hj).1
      rw [List.length_append, List.length_singleton] at this
      have e : j = l.length := by omega
      subst e
      have e2 : x = y := by simpa using hj
      subst e2
      rw [hl]
      exact hx

theorem reads_slice {P : Program} {t e : TypeId} {α : Type} {κ : Kd α} {Wf : α → Prop} (ht : P.underlying t = some (.slice e)) (hc : P.cellsOf t = 1) (he : Reads P e κ Wf) : Reads P t (Kd.slice e κ) (Lst Wf) := by
  refine ⟨hc, ?_⟩
  intro H enc W base spare held fuel cs x h
  rcases open_slice ht h with ⟨rfl, _⟩ | ⟨a, len, cap, m, n, D, Pl, rfl, hb, hl, hm, hmm, _, hx⟩
  · exact ⟨[], ⟨none, 0, rfl, Nat.le_refl _, rfl, by simp, fun h => by simp at h⟩, by simp [Lst]⟩
  · have hlm : len ≤ m := by rw [hmm]; split <;> omega
    obtain ⟨l, hll, hp⟩ := choose_any (α := α) (n := len) (p := fun i x => Wf x ∧ ∃ c, c.length = κ.sz ∧ κ.K W x c ∧ ∀ j u, c[j]? = some u → W.cell? (a.add (i * κ.sz + j)) = some u) (by
      intro i hi
      obtain ⟨c, hcells, htr⟩ := hx i (by omega)
      obtain ⟨y, hy, hw⟩ := he.read htr
      rw [he.size] at hcells
      obtain ⟨_, hlen, hcell⟩ := World.cells?_some hcells
      refine ⟨y, hw, c, hlen, hy, fun j u hj => ?_⟩
      have hjl := (List.getElem?_eq_some_iff.1 hj).1
      rw [← Go.Deep.add_add, hcell j (by omega)]
      exact hj)
    have hml : maxLen = 9223372036854775807 := by unfold maxLen; rfl
    refine ⟨l, ⟨some a, cap, by rw [hll], by omega, rfl, by omega, fun _ => ⟨a, rfl, fun j p hj => ?_⟩⟩, by omega, fun x hx' => ?_⟩
    · obtain ⟨_, c, h1, h2, h3⟩ := hp j p hj
      exact ⟨c, h1, h2, h3⟩
    · obtain ⟨j, hj⟩ := List.getElem?_of_mem hx'
      exact (hp j x hj).1

/-! The fields of a struct, from one on. -/
structure FReads (P : Program) (fs : List Field) (off : Nat) {α : Type} (κ : Kd α) (Wf : α → Prop) : Prop where
  read : ∀ {H : Type} {enc : TypeId × Value → H} {W : World} {base : Nat} {spare : Nat → Bool} {held : Bool} {n : Nat} (cs : List Value) (ys : List (DataW H × List MemPlace)), ys.length = fs.length →
    (∀ (i : Nat) (f : Field), fs[i]? = some f → DataW.trod enc P W base spare held n f.type ((cs.drop f.offset).take (P.cellsOf f.type)) = ys[i]?) → off + κ.sz = cs.length → ∃ a, κ.K W a (cs.drop off) ∧ Wf a

theorem freads_last {P : Program} {f : Field} {α : Type} {κ : Kd α} {Wf : α → Prop} {off : Nat} (ho : f.offset = off) (h : Reads P f.type κ Wf) : FReads P [f] off κ Wf := by
  constructor
  intro H enc W base spare held n cs ys hl hf hs
  have h0 := hf 0 f rfl
  have hy : 0 < ys.length := by rw [hl]; simp
  rw [List.getElem?_eq_getElem hy, ho, h.size, List.take_of_length_le (by rw [List.length_drop]; omega)] at h0
  exact h.read h0
theorem freads_cons {P : Program} {f : Field} {fs : List Field} {α β : Type} {κ : Kd α} {κ' : Kd β} {Wf : α → Prop} {Wf' : β → Prop} {off off' : Nat} (ho : f.offset = off) (h : Reads P f.type κ Wf) (hoff : off' = off + κ.sz) (h' : FReads P fs off' κ' Wf') :
    FReads P (f :: fs) off (Kd.pair κ κ') (fun x => Wf x.1 ∧ Wf' x.2) := by
  constructor
  intro H enc W base spare held n cs ys hl hf hs
  have hs' : off + (κ.sz + κ'.sz) = cs.length := hs
  have h0 := hf 0 f rfl
  have hy : 0 < ys.length := by rw [hl]; simp
  rw [List.getElem?_eq_getElem hy, ho, h.size] at h0
  obtain ⟨a, ha, hwa⟩ := h.read h0
  obtain ⟨b, hb, hwb⟩ := h'.read (H := H) (enc := enc) (W := W) (base := base) (spare := spare) (held := held) (n := n) cs ys.tail (by rw [List.length_tail, hl]; simp) (fun i g hg => by
    rw [List.getElem?_tail]
    exact hf (i + 1) g (by simpa using hg)) (by omega)
  refine ⟨(a, b), ⟨(cs.drop off).take κ.sz, cs.drop off', ?_, ha, hb⟩, hwa, hwb⟩
  rw [hoff, ← List.drop_drop, List.take_append_drop]
theorem reads_struct {P : Program} {t : TypeId} {fs : Array Field} {α : Type} {κ : Kd α} {Wf : α → Prop} (ht : P.underlying t = some (.struct fs)) (hc : P.cellsOf t = κ.sz) (h : FReads P fs.toList 0 κ Wf) : Reads P t κ Wf := by
  refine ⟨hc, ?_⟩
  intro H enc W base spare held fuel cs x hx
  obtain ⟨ys, n, _, _, hl, hyl, hf⟩ := DataW.trod_struct ht hx
  obtain ⟨a, ha, hw⟩ := h.read (H := H) (enc := enc) (W := W) (base := base) (spare := spare) (held := held) (n := n) cs ys (by simpa using hyl) (fun i f hi => hf i f (by simpa using hi)) (by rw [hl, hc]; omega)
  exact ⟨a, ha, hw⟩
theorem reads_iso {P : Program} {t : TypeId} {α β : Type} {κ : Kd α} {Wf : α → Prop} {f : β → α} (g : α → β) (hg : ∀ a, f (g a) = a) (h : Reads P t κ Wf) : Reads P t (Kd.iso κ f) (fun x => Wf (f x)) := by
  refine ⟨h.size, ?_⟩
  intro H enc W base spare held fuel cs x hx
  obtain ⟨a, ha, hw⟩ := h.read hx
  refine ⟨g a, ?_, ?_⟩
  · show κ.K W (f (g a)) cs
    rw [hg]
    exact ha
  · show Wf (f (g a))
    rw [hg]
    exact hw

end Go.Proofs.Ytppfdndnojbmjaa.Rdr

/-! ## SFnExactBetweenMarks -/
namespace Go.Proofs.Ytppfdndnojbmjaa.Say
open Go.RowKit Go.Proofs.Ytppfdndnojbmjaa.X
/-- The plain statement of laws_FnExactBetweenMarks. -/
def FnExactBetweenMarks : Prop := ∀ (a0 : Int) (a1 : Int) (l2 : List Int) (l3 : List Int), Rdr.I64 a0 → Rdr.I64 a1 → (Rdr.Lst Rdr.I64) l2 → (Rdr.Lst Rdr.I64) l3 → ∃ k, laws_FnExactBetweenMarks.f k a0 a1 l2 l3 = some true
end Go.Proofs.Ytppfdndnojbmjaa.Say

/-! ## Base -/
/- Plain words for the plain laws: what ends with a value once there are rounds enough; loops over an index; sums that do not wrap. No condition. -/
namespace Go.Proofs.Ytppfdndnojbmjaa.B
open Go.RowKit Go.Proofs.YtppfdndnojbmjaaW.PrintWords

theorem w64 {x : Int} (h : -9223372036854775808 ≤ x) (h' : x ≤ 9223372036854775807) : wrap64 x = x := by
  unfold wrap64; omega
theorem wnext {i n : Nat} (h : i < n) (hn : (n : Int) ≤ 9223372036854775807) : wrap64 ((i : Int) + 1) = ((i + 1 : Nat) : Int) := by
  rw [w64 (by omega) (by omega)]; omega

/-- From some number of rounds on these two are the same. -/
def EvEq {α : Type} (g f : Nat → Option α) : Prop := ∃ K, ∀ k, K ≤ k → g k = f k
theorem EvEq.now {α : Type} {g f : Nat → Option α} (h : ∀ k, g k = f k) : EvEq g f := ⟨0, fun k _ => h k⟩
theorem EvEq.trans {α : Type} {g f h : Nat → Option α} (a : EvEq g f) (b : EvEq f h) : EvEq g h := by
  obtain ⟨K, hK⟩ := a
  obtain ⟨K', hK'⟩ := b
  exact ⟨K + K', fun k hk => (hK k (by omega)).trans (hK' k (by omega))⟩
theorem EvEq.bind {α β : Type} {g : Nat → Option α} {a : α} {f : Nat → α → Option β} {h : Nat → Option β} (e : Ev g a) (b : EvEq (fun k => f k a) h) : EvEq (fun k => (g k).bind (f k)) h := by
  obtain ⟨K, hK⟩ := e
  obtain ⟨K', hK'⟩ := b
  refine ⟨K + K', fun k hk => ?_⟩
  show (g k).bind (f k) = _
  rw [hK k (by omega)]
  exact hK' k (by omega)
theorem Ev.ofEq {α : Type} {g f : Nat → Option α} {r : α} (a : EvEq g f) (b : Ev f r) : Ev g r := by
  obtain ⟨K, hK⟩ := a
  obtain ⟨K', hK'⟩ := b
  exact ⟨K + K', fun k hk => (hK k (by omega)).trans (hK' k (by omega))⟩
theorem Ev.const {α : Type} {g : Nat → Option α} {r : α} (h : ∀ k, g k = some r) : Ev g r := ⟨0, fun k _ => h k⟩
theorem Ev.up {α : Type} {g : Nat → Option α} {r : α} (h : Ev (fun k => g (k + 1)) r) : Ev g r := by
  obtain ⟨K, hK⟩ := h
  refine ⟨K + 1, fun k hk => ?_⟩
  have e : g (k - 1 + 1) = some r := hK (k - 1) (by omega)
  have : k - 1 + 1 = k := by omega
  rwa [this] at e
theorem Ev.bindE {α β : Type} {g : Nat → Option α} {a : α} {f : Nat → α → Option β} {r : β} (e : Ev g a) (b : Ev (fun k => f k a) r) : Ev (fun k => (g k).bind (f k)) r := Ev.bind e b
theorem Ev.ifPos {α : Type} {c : Prop} [Decidable c] {A B : Nat → Option α} {r : α} (h : c) (e : Ev A r) : Ev (fun k => if c then A k else B k) r := by
  simpa only [if_pos h] using e
theorem Ev.ifNeg {α : Type} {c : Prop} [Decidable c] {A B : Nat → Option α} {r : α} (h : ¬ c) (e : Ev B r) : Ev (fun k => if c then A k else B k) r := by
  simpa only [if_neg h] using e
theorem Ev.uniq {α : Type} {g : Nat → Option α} {a b : α} (h : Ev g a) (h' : Ev g b) : a = b := by
  obtain ⟨K, hK⟩ := h
  obtain ⟨K', hK'⟩ := h'
  have := (hK (K + K') (by omega)).symm.trans (hK' (K + K') (by omega))
  exact Option.some.inj this

/-- A loop by its rounds: at each one it ends, or goes on to the next. F: what it comes to from there. -/
theorem scan {ρ : Type} (L : Nat → Nat → Option ρ) (n : Nat) (F : Nat → ρ) (hend : Ev (fun k => L (k + 1) n) (F n))
    (hstep : ∀ i, i < n → Ev (fun k => L (k + 1) i) (F i) ∨ (F i = F (i + 1) ∧ EvEq (fun k => L (k + 1) i) (fun k => L k (i + 1)))) : ∀ i, i ≤ n → Ev (fun k => L k i) (F i) := by
  have key : ∀ d i, i + d = n → Ev (fun k => L k i) (F i) := by
    intro d
    induction d with
    | zero =>
      intro i hi
      have e : i = n := by omega
      rw [e]
      exact Ev.up (g := fun k => L k n) hend
    | succ d ih =>
      intro i hi
      rcases hstep i (by omega) with h | ⟨h, h'⟩
      · exact Ev.up (g := fun k => L k i) h
      · rw [h]
        exact Ev.up (g := fun k => L k i) (Ev.ofEq h' (ih (i + 1) (by omega)))
  intro i hi
  exact key (n - i) i (by omega)

/-- A loop whose value at the end is known, and at each round that of the next one. -/
theorem scanI {ρ : Type} (L : Nat → Nat → Option ρ) (n : Nat) (F : Nat → ρ) (hend : Ev (fun k => L k n) (F n))
    (hstep : ∀ i, i < n → Ev (fun k => L k (i + 1)) (F (i + 1)) → Ev (fun k => L k i) (F i)) : ∀ i, i ≤ n → Ev (fun k => L k i) (F i) := by
  have key : ∀ d i, i + d = n → Ev (fun k => L k i) (F i) := by
    intro d
    induction d with
    | zero =>
      intro i hi
      have e : i = n := by omega
      rw [e]
      exact hend
    | succ d ih =>
      intro i hi
      exact hstep i (by omega) (ih (i + 1) (by omega))
  intro i hi
  exact key (n - i) i (by omega)
theorem Ev.ite {α : Type} {c : Prop} [Decidable c] {A B : Nat → Option α} {r : α} (h : c → Ev A r) (h' : ¬ c → Ev B r) : Ev (fun k => if c then A k else B k) r := by
  by_cases e : c
  · exact Ev.ifPos e (h e)
  · exact Ev.ifNeg e (h' e)

def allFrom (p : Nat → Bool) (i n : Nat) : Bool := (List.range' i (n - i)).all p
theorem allFrom_end (p : Nat → Bool) (n : Nat) : allFrom p n n = true := by simp [allFrom]
theorem allFrom_step (p : Nat → Bool) {i n : Nat} (h : i < n) : allFrom p i n = (p i && allFrom p (i + 1) n) := by
  unfold allFrom
  obtain ⟨d, hd⟩ : ∃ d, n - i = d + 1 := ⟨n - i - 1, by omega⟩
  have : n - (i + 1) = d := by omega
  rw [hd, this, List.range'_succ, List.all_cons]
theorem allFrom_iff (p : Nat → Bool) (i n : Nat) : allFrom p i n = true ↔ ∀ j, i ≤ j → j < n → p j = true := by
  unfold allFrom
  rw [List.all_eq_true]
  constructor
  · intro h j h1 h2
    exact h j (by rw [List.mem_range'_1]; omega)
  · intro h j hj
    rw [List.mem_range'_1] at hj
    exact h j (by omega) (by omega)
/-- A loop that goes on while p, and ends with false. -/
theorem allScan (L : Nat → Nat → Option Bool) (n : Nat) (p : Nat → Bool) (fin : Bool) (hend : Ev (fun k => L (k + 1) n) fin)
    (hstep : ∀ i, i < n → EvEq (fun k => L (k + 1) i) (fun k => if p i = true then L k (i + 1) else some false)) : ∀ i, i ≤ n → Ev (fun k => L k i) (allFrom p i n && fin) := by
  refine scan L n (fun i => allFrom p i n && fin) ?_ ?_
  · show Ev _ (allFrom p n n && fin)
    rw [allFrom_end, Bool.true_and]
    exact hend
  · intro i hi
    by_cases hp : p i = true
    · right
      refine ⟨by show (allFrom p i n && fin) = (allFrom p (i + 1) n && fin); rw [allFrom_step p hi, hp, Bool.true_and], ?_⟩
      have h := hstep i hi
      simpa only [if_pos hp] using h
    · left
      have h := hstep i hi
      have hp' : p i = false := by simpa using hp
      have e : (allFrom p i n && fin) = false := by rw [allFrom_step p hi, hp']; rfl
      show Ev _ (allFrom p i n && fin)
      rw [e]
      refine Ev.ofEq h (Ev.const fun k => ?_)
      rw [if_neg hp]

def firstFrom (p : Nat → Bool) (i n : Nat) : Int := match (List.range' i (n - i)).find? p with | some j => (j : Int) | none => -1
theorem firstFrom_end (p : Nat → Bool) (n : Nat) : firstFrom p n n = -1 := by simp [firstFrom]
theorem firstFrom_step (p : Nat → Bool) {i n : Nat} (h : i < n) : firstFrom p i n = if p i = true then (i : Int) else firstFrom p (i + 1) n := by
  unfold firstFrom
  obtain ⟨d, hd⟩ : ∃ d, n - i = d + 1 := ⟨n - i - 1, by omega⟩
  have : n - (i + 1) = d := by omega
  rw [hd, this, List.range'_succ, List.find?_cons]
  cases p i <;> simp
/-- A loop that ends at the first index with p, and tells -1 where there is none. -/
theorem firstScan (L : Nat → Nat → Option Int) (n : Nat) (p : Nat → Bool) (hend : Ev (fun k => L (k + 1) n) (-1))
    (hstep : ∀ i, i < n → EvEq (fun k => L (k + 1) i) (fun k => if p i = true then some (i : Int) else L k (i + 1))) : ∀ i, i ≤ n → Ev (fun k => L k i) (firstFrom p i n) := by
  refine scan L n (fun i => firstFrom p i n) ?_ ?_
  · show Ev _ (firstFrom p n n)
    rw [firstFrom_end]
    exact hend
  · intro i hi
    by_cases hp : p i = true
    · left
      show Ev _ (firstFrom p i n)
      rw [firstFrom_step p hi, if_pos hp]
      exact Ev.ofEq (hstep i hi) (Ev.const fun k => by rw [if_pos hp])
    · right
      refine ⟨by show firstFrom p i n = firstFrom p (i + 1) n; rw [firstFrom_step p hi, if_neg hp], ?_⟩
      simpa only [if_neg hp] using hstep i hi
theorem firstFrom_none (p : Nat → Bool) {n : Nat} : ∀ i, i ≤ n → (firstFrom p i n = -1 ↔ ∀ j, i ≤ j → j < n → p j = false) := by
  have key : ∀ d i, i + d = n → (firstFrom p i n = -1 ↔ ∀ j, i ≤ j → j < n → p j = false) := by
    intro d
    induction d with
    | zero =>
      intro i hi
      have e : i = n := by omega
      subst e
      rw [firstFrom_end]
      exact ⟨fun _ j h1 h2 => by omega, fun _ => rfl⟩
    | succ d ih =>
      intro i hi
      rw [firstFrom_step p (by omega)]
      by_cases hp : p i = true
      · rw [if_pos hp]
        constructor
        · intro h; omega
        · intro h
          have := h i (by omega) (by omega)
          rw [hp] at this
          cases this
      · rw [if_neg hp, ih (i + 1) (by omega)]
        constructor
        · intro h j h1 h2
          by_cases e : j = i
          · subst e; simpa using hp
          · exact h j (by omega) h2
        · intro h j h1 h2
          exact h j (by omega) h2
  intro i hi
  exact key (n - i) i (by omega)
theorem firstFrom_some (p : Nat → Bool) {n : Nat} : ∀ i, i ≤ n → firstFrom p i n ≠ -1 → ∃ j : Nat, firstFrom p i n = (j : Int) ∧ i ≤ j ∧ j < n ∧ p j = true := by
  have key : ∀ d i, i + d = n → firstFrom p i n ≠ -1 → ∃ j : Nat, firstFrom p i n = (j : Int) ∧ i ≤ j ∧ j < n ∧ p j = true := by
    intro d
    induction d with
    | zero =>
      intro i hi h
      have e : i = n := by omega
      subst e
      rw [firstFrom_end] at h
      exact absurd rfl h
    | succ d ih =>
      intro i hi h
      rw [firstFrom_step p (by omega)] at h ⊢
      by_cases hp : p i = true
      · rw [if_pos hp]
        exact ⟨i, rfl, by omega, by omega, hp⟩
      · rw [if_neg hp] at h ⊢
        obtain ⟨j, h1, h2, h3, h4⟩ := ih (i + 1) (by omega) h
        exact ⟨j, h1, by omega, h3, h4⟩
  intro i hi
  exact key (n - i) i (by omega)
theorem firstFrom_congr {p q : Nat → Bool} {n : Nat} (h : ∀ j, j < n → p j = q j) : ∀ i, i ≤ n → firstFrom p i n = firstFrom q i n := by
  have key : ∀ d i, i + d = n → firstFrom p i n = firstFrom q i n := by
    intro d
    induction d with
    | zero =>
      intro i hi
      have e : i = n := by omega
      subst e
      rw [firstFrom_end, firstFrom_end]
    | succ d ih =>
      intro i hi
      rw [firstFrom_step p (by omega), firstFrom_step q (by omega), h i (by omega), ih (i + 1) (by omega)]
  intro i hi
  exact key (n - i) i (by omega)

theorem getD_at {α : Type} {xs : List α} {i : Nat} (h : i < xs.length) (d : α) : xs.getD i d = xs[i] := by
  rw [List.getD_eq_getElem?_getD, List.getElem?_eq_getElem h]; rfl
theorem rd_at {xs : List Int} {i : Nat} (h : i < xs.length) : rd xs (i : Int) = xs[i] := by
  unfold rd; rw [Int.toNat_natCast]; exact getD_at h _
theorem rdOf_at {α : Type} {d : α} {xs : List α} {i : Nat} (h : i < xs.length) : rdOf d xs (i : Int) = xs[i] := by
  unfold rdOf; rw [Int.toNat_natCast]; exact getD_at h _
theorem allFrom_congr {p q : Nat → Bool} (h : ∀ j, p j = q j) (i n : Nat) : allFrom p i n = allFrom q i n := by
  rw [show p = q from funext h]
/-- Rows that are compared place by place. -/
theorem rows3 {L : Nat → Int → Option Bool} {n m : Nat} {c : Int → Bool} (hn : n ≤ 9223372036854775807)
    (hL : ∀ k i, L (k + 1) i = if i < (n : Int) then (if 0 ≤ i then (if i < (m : Int) then (if c i = true then some false else L k (wrap64 (i + 1))) else none) else none) else some true) :
    Ev (fun k => if (n : Int) = (m : Int) then L k 0 else some false) (decide (n = m) && allFrom (fun j => !c j) 0 n) := by
  by_cases hl : n = m
  · rw [decide_eq_true hl, Bool.true_and]
    refine Ev.ifPos (by omega) ?_
    have h := allScan (fun k i => L k (i : Int)) n (fun j => !c j) true (Ev.const fun k => by rw [hL, if_neg (by omega)]) (by
      intro i hi
      refine EvEq.now fun k => ?_
      rw [hL, if_pos (by omega), if_pos (by omega), if_pos (by omega), wnext hi (by omega)]
      cases c i <;> rfl) 0 (by omega)
    rw [Bool.and_true] at h
    exact h
  · rw [decide_eq_false hl, Bool.false_and]
    exact Ev.ifNeg (by omega) (Ev.const fun _ => rfl)
theorem rows4 {L : Nat → Int → Option Bool} {n m : Nat} {c : Int → Bool} (hn : n ≤ 9223372036854775807)
    (hL : ∀ k i, L (k + 1) i = if i < (n : Int) then (if 0 ≤ i then (if i < (n : Int) then (if i < (m : Int) then (if c i = true then some false else L k (wrap64 (i + 1))) else none) else none) else none) else some true) :
    Ev (fun k => if (n : Int) = (m : Int) then L k 0 else some false) (decide (n = m) && allFrom (fun j => !c j) 0 n) := by
  refine rows3 hn fun k i => ?_
  rw [hL]
  by_cases h : i < (n : Int)
  · rw [if_pos h, if_pos h, if_pos h]
  · rw [if_neg h, if_neg h]
/-- A row that is filled from its begin. -/
theorem fill_set {α : Type} (xs : List α) (z : α) {i n : Nat} (hi : i < n) (hl : xs.length = n) : (xs.take i ++ List.replicate (n - i) z).set i (xs[i]'(by omega)) = xs.take (i + 1) ++ List.replicate (n - (i + 1)) z := by
  have hlt : (xs.take i).length = i := by rw [List.length_take]; omega
  rw [List.set_append_right _ _ (by omega), hlt, Nat.sub_self]
  obtain ⟨d, hd⟩ : ∃ d, n - i = d + 1 := ⟨n - i - 1, by omega⟩
  have hd' : n - (i + 1) = d := by omega
  rw [hd, hd', List.replicate_succ, List.set_cons_zero, List.take_succ_eq_append_getElem (by omega), List.append_assoc]
  rfl

end Go.Proofs.Ytppfdndnojbmjaa.B

/-! ## PSum -/
/- Plain laws of sums. No condition but the lengths that fit. -/
namespace Go.Proofs.Ytppfdndnojbmjaa.PSum
open Go.RowKit Go.Proofs.YtppfdndnojbmjaaW.PrintWords Go.Proofs.Ytppfdndnojbmjaa.X Go.Proofs.Ytppfdndnojbmjaa.B

def sum64 (c : Int) (xs : List Int) : Int := xs.foldl (fun s x => wrap64 (s + x)) c
theorem sum64_take (xs : List Int) {i : Nat} (h : i < xs.length) : sum64 0 (xs.take (i + 1)) = wrap64 (sum64 0 (xs.take i) + xs[i]) := by
  unfold sum64
  rw [List.take_succ_eq_append_getElem h, List.foldl_append]
  rfl
theorem specSum_ev (xs : List Int) (hn : xs.length ≤ 9223372036854775807) : Ev (fun k => spec_l02Sum.f k xs) (sum64 0 xs) := by
  have h := scanI (fun k i => spec_l02Sum.l0 k xs (sum64 0 (xs.take i)) (i : Int)) xs.length (fun _ => sum64 0 xs) (Ev.up (g := fun k => spec_l02Sum.l0 k xs (sum64 0 (xs.take xs.length)) (xs.length : Int)) (Ev.const fun k => by
      simp only [spec_l02Sum.l0]
      rw [if_neg (by omega), List.take_length])) (by
    intro i hi ih
    refine Ev.up (g := fun k => spec_l02Sum.l0 k xs (sum64 0 (xs.take i)) (i : Int)) ?_
    simp only [spec_l02Sum.l0, rd_at hi, wnext hi (by omega : (xs.length : Int) ≤ _)]
    rw [sum64_take xs hi] at ih
    exact Ev.ifPos (by omega) (Ev.ifPos (by omega) ih)) 0 (by omega)
  exact h
theorem implSum_ev (xs : List Int) (hn : xs.length ≤ 9223372036854775807) : Ev (fun k => impl_sum.f k xs) (sum64 0 xs) := by
  have h := scanI (fun k i => impl_sum.l0 k (sum64 0 (xs.take i)) xs (xs.length : Int) (i : Int)) xs.length (fun _ => sum64 0 xs) (Ev.up (g := fun k => impl_sum.l0 k (sum64 0 (xs.take xs.length)) xs (xs.length : Int) (xs.length : Int)) (Ev.const fun k => by
      simp only [impl_sum.l0]
      rw [if_neg (by omega), List.take_length])) (by
    intro i hi ih
    refine Ev.up (g := fun k => impl_sum.l0 k (sum64 0 (xs.take i)) xs (xs.length : Int) (i : Int)) ?_
    simp only [impl_sum.l0, rd_at hi, wnext hi (by omega : (xs.length : Int) ≤ _)]
    rw [sum64_take xs hi] at ih
    exact Ev.ifPos (by omega) (Ev.ifPos (by omega) (Ev.ifPos (by omega) ih))) 0 (by omega)
  exact h
end Go.Proofs.Ytppfdndnojbmjaa.PSum

/-! ## PSort -/
/- Plain laws of impl.shareOut's sort: the indices, those with greater keys first, equal keys in the order of the indices. No condition but that there is an index. -/
namespace Go.Proofs.Ytppfdndnojbmjaa.PSort
open Go.RowKit Go.Proofs.YtppfdndnojbmjaaW.PrintWords Go.Proofs.Ytppfdndnojbmjaa.X
def ltA (K : Nat → Int) (n : Nat) : Fin (n + 1) → Fin (n + 1) → Bool := fun a b => decide (K b.val < K a.val)
/-- .. and equal keys by the index. -/
def ltB (K : Nat → Int) (n : Nat) : Fin (n + 1) → Fin (n + 1) → Bool := fun a b => decide (K b.val < K a.val ∨ (K a.val = K b.val ∧ a.val < b.val))
theorem swoB (K : Nat → Int) (n : Nat) : Go.Sort.SWO (ltB K n) := by
  constructor
  · intro x; simp [ltB]
  · intro x y z h1 h2
    simp only [ltB, decide_eq_true_eq] at h1 h2 ⊢
    omega
  · intro x y z h1 h2
    simp only [ltB, decide_eq_false_iff_not] at h1 h2 ⊢
    omega
theorem lt_same (K : Nat → Int) {n : Nat} {a b : Fin (n + 1)} (h : b.val < a.val) : ltA K n a b = ltB K n a b := by
  unfold ltA ltB
  exact decide_eq_decide.2 ⟨Or.inl, fun h' => h'.elim id fun h'' => absurd h''.2 (by omega)⟩
theorem inner_eq (K : Nat → Int) (n a : Nat) : ∀ (j : Nat) (d : Array (Fin (n + 1))), j < d.size → (∀ k, k < j → (d[k]!).val < (d[j]!).val) → Go.Sort.insInner (ltA K n) a j d = Go.Sort.insInner (ltB K n) a j d
  | 0, d, _, _ => by unfold Go.Sort.insInner; rfl
  | j + 1, d, hj, h => by
    have e := lt_same K (h j (by omega))
    unfold Go.Sort.insInner
    rw [e]
    by_cases c : (decide (j + 1 > a) && ltB K n d[j + 1]! d[j]!) = true
    · rw [if_pos c, if_pos c]
      refine inner_eq K n a j _ (by rw [Go.Sort.swp_size]; omega) fun k hk => ?_
      rw [Go.Sort.swp_get d hj (by omega), Go.Sort.swp_get d hj (by omega), if_neg (by omega), if_neg (by omega), if_pos rfl]
      exact h k (by omega)
    · rw [if_neg c, if_neg c]
theorem inner_keep {n : Nat} (lt : Fin (n + 1) → Fin (n + 1) → Bool) (a : Nat) (P : Fin (n + 1) → Prop) : ∀ (j : Nat) (d : Array (Fin (n + 1))), j < d.size → (∀ k, k ≤ j → P d[k]!) → (∀ k, k ≤ j → P (Go.Sort.insInner lt a j d)[k]!) ∧ ∀ k, j < k → (Go.Sort.insInner lt a j d)[k]! = d[k]!
  | 0, d, _, h => by unfold Go.Sort.insInner; exact ⟨h, fun _ _ => rfl⟩
  | j + 1, d, hj, h => by
    unfold Go.Sort.insInner
    by_cases c : (decide (j + 1 > a) && lt d[j + 1]! d[j]!) = true
    · rw [if_pos c]
      have g := Go.Sort.swp_get d hj (show j < d.size by omega)
      obtain ⟨i1, i2⟩ := inner_keep lt a P j (Go.Sort.swp d (j + 1) j) (by rw [Go.Sort.swp_size]; omega) (fun k hk => by
        rw [g]
        by_cases e : k = j
        · rw [if_pos e]; exact h _ (by omega)
        · rw [if_neg e, if_neg (by omega)]; exact h _ (by omega))
      refine ⟨fun k hk => ?_, fun k hk => ?_⟩
      · by_cases e : k ≤ j
        · exact i1 k e
        · rw [i2 k (by omega), g, if_neg (by omega), if_pos (by omega)]
          exact h _ (by omega)
      · rw [i2 k (by omega), g, if_neg (by omega), if_neg (by omega)]
    · rw [if_neg c]
      exact ⟨h, fun _ _ => rfl⟩
theorem outer_eq (K : Nat → Int) (n b : Nat) : ∀ (m i : Nat) (d : Array (Fin (n + 1))), b - i = m → b ≤ d.size → (∀ k, k < i → (d[k]!).val < i) → (∀ k, i ≤ k → k < b → (d[k]!).val = k) → Go.Sort.insOuter (ltA K n) 0 b i d = Go.Sort.insOuter (ltB K n) 0 b i d
  | 0, i, d, hm, hb, h1, h2 => by rw [Go.Sort.insOuter, if_neg (by omega), Go.Sort.insOuter, if_neg (by omega)]
  | m + 1, i, d, hm, hb, h1, h2 => by
    have hi : i < b := by omega
    have e := inner_eq K n 0 i d (by omega) fun k hk => by have := h1 k hk; have := h2 i (by omega) hi; omega
    have go : ∀ (lt : Fin (n + 1) → Fin (n + 1) → Bool), Go.Sort.insOuter lt 0 b i d = Go.Sort.insOuter lt 0 b (i + 1) (Go.Sort.insInner lt 0 i d) := fun lt => by rw [Go.Sort.insOuter, if_pos hi]
    rw [go, go, e]
    obtain ⟨i1, i2⟩ := inner_keep (ltB K n) 0 (fun x => x.val < i + 1) i d (by omega) (fun k hk => by
      rcases Nat.lt_or_ge k i with c | c
      · have := h1 k c; omega
      · have := h2 k c (by omega); omega)
    refine outer_eq K n b m (i + 1) _ (by omega) (by rw [insInner_size]; exact hb) (fun k hk => i1 k (by omega)) fun k hk hkb => ?_
    rw [i2 k (by omega)]
    exact h2 k (by omega) hkb
/-- The whole numbers below m, one by one. -/
def upto (f : Nat → Int) (m : Nat) : List Int := (List.range m).map f
theorem upto_len (f : Nat → Int) (m : Nat) : (upto f m).length = m := by simp [upto]
theorem upto_succ (f : Nat → Int) (m : Nat) : upto f (m + 1) = upto f m ++ [f m] := by simp [upto, List.range_succ]
theorem upto_at (f : Nat → Int) {m i : Nat} (h : i < m) : rd (upto f m) (i : Int) = f i := by
  unfold rd upto
  rw [Int.toNat_natCast]
  simp [List.getD, h]
def ids (m : Nat) : List Int := upto (fun j => (j : Int)) m
theorem fin_at (n k : Nat) (h : k < n + 1) : ((shFin n (ids (n + 1)))[k]!).val = k := by
  have e := shFin_at (n := n) (xs := ids (n + 1)) k (by rw [ids, upto_len]; exact h)
  have e1 : (ids (n + 1)).getD k 0 = (k : Int) := by
    have := upto_at (fun j => (j : Int)) h
    unfold rd at this
    rwa [Int.toNat_natCast] at this
  rw [e1] at e
  have := e (by omega) (by omega)
  omega
/-- The indices as sorted. -/
def ord (K : Nat → Int) (n : Nat) : List Nat := (Go.Sort.insertionSort (ltA K n) (shFin n (ids (n + 1))) 0 (n + 1)).toList.map fun a => a.val
theorem ids_fin (n : Nat) : (shFin n (ids (n + 1))).toList.map (fun a => a.val) = List.range (n + 1) := by
  have hs : (shFin n (ids (n + 1))).size = n + 1 := by rw [shFin_size, ids, upto_len]
  apply List.ext_getElem
  · simp [hs]
  · intro i h1 h2
    have hi : i < n + 1 := by simpa using h2
    have := fin_at n i hi
    rw [getElem!_pos _ i (by rw [hs]; exact hi)] at this
    simp [this]
theorem ord_holds (K : Nat → Int) (n : Nat) : (ord K n).Perm (List.range (n + 1)) ∧ ∀ i j (hj : j < (ord K n).length), (hij : i < j) → K (ord K n)[j] < K ((ord K n)[i]'(by omega)) ∨ (K (ord K n)[j] = K ((ord K n)[i]'(by omega)) ∧ (ord K n)[i]'(by omega) < (ord K n)[j]) := by
  have hs : (shFin n (ids (n + 1))).size = n + 1 := by rw [shFin_size, ids, upto_len]
  have e : Go.Sort.insertionSort (ltA K n) (shFin n (ids (n + 1))) 0 (n + 1) = Go.Sort.insertionSort (ltB K n) (shFin n (ids (n + 1))) 0 (n + 1) := by
    unfold Go.Sort.insertionSort
    refine outer_eq K n (n + 1) _ (0 + 1) _ rfl (by rw [hs]; omega) (fun k hk => ?_) (fun k hk hk2 => fin_at n k hk2)
    obtain rfl : k = 0 := by omega
    rw [fin_at n 0 (by omega)]; omega
  obtain ⟨⟨p1, p2, p3⟩, so⟩ := Go.Sort.insertionSort_holds (lt := ltB K n) (swoB K n) (shFin n (ids (n + 1))) 0 (n + 1) (by omega) (by rw [hs]; omega)
  have hz : (Go.Sort.insertionSort (ltB K n) (shFin n (ids (n + 1))) 0 (n + 1)).size = n + 1 := by rw [p1, hs]
  have hp : (ord K n).Perm (List.range (n + 1)) := by
    unfold ord
    rw [e, ← ids_fin n]
    refine List.Perm.map _ ?_
    have ex : ∀ (a : Array (Fin (n + 1))) (q : Nat), a.size = q → a.extract 0 q = a := fun a q h => by subst h; exact Array.extract_size
    rw [ex _ _ hz, ex _ _ hs] at p3
    exact p3
  refine ⟨hp, fun i j hj hij => ?_⟩
  have hn : (ord K n).Nodup := (List.Perm.nodup_iff hp).2 List.nodup_range
  have hl : (ord K n).length = n + 1 := by rw [hp.length_eq, List.length_range]
  have at_ : ∀ q (hq : q < (ord K n).length), (ord K n)[q] = ((Go.Sort.insertionSort (ltB K n) (shFin n (ids (n + 1))) 0 (n + 1))[q]!).val := by
    intro q hq
    rw [getElem!_pos _ q (by rw [hz]; omega)]
    simp only [ord, e, List.getElem_map, Array.getElem_toList]
  have h := so i j (by omega) hij (by omega)
  have hne : (ord K n)[i]'(by omega) ≠ (ord K n)[j] := List.pairwise_iff_getElem.1 hn i j (by omega) hj hij
  simp only [ltB, decide_eq_false_iff_not] at h
  rw [← at_ i (by omega), ← at_ j hj] at h
  omega
end Go.Proofs.Ytppfdndnojbmjaa.PSort

/-! ## PShare -/
/- Plain laws of sharing out by the largest remainders: impl.shareOut (which sorts) and spec.l02Share (which looks for the greatest remainder again and again) tell the same. For a total and weights whose products fit, one weight at least and twenty at most, and their sum above 0. -/
namespace Go.Proofs.Ytppfdndnojbmjaa.PShare
open Go.RowKit Go.Proofs.YtppfdndnojbmjaaW.PrintWords Go.Proofs.Ytppfdndnojbmjaa.X Go.Proofs.Ytppfdndnojbmjaa.B Go.Proofs.Ytppfdndnojbmjaa.PSum Go.Proofs.Ytppfdndnojbmjaa.PSort
/-- The sum of f below m. -/
def psum (f : Nat → Int) : Nat → Int
  | 0 => 0
  | m + 1 => psum f m + f m
theorem sum64_psum (xs : List Int) (hb : ∀ i, i ≤ xs.length → -9223372036854775808 ≤ psum (fun j => rd xs (j : Int)) i ∧ psum (fun j => rd xs (j : Int)) i ≤ 9223372036854775807) : sum64 0 xs = psum (fun j => rd xs (j : Int)) xs.length := by
  have h : ∀ i, i ≤ xs.length → sum64 0 (xs.take i) = psum (fun j => rd xs (j : Int)) i := by
    intro i
    induction i with
    | zero => intro _; rfl
    | succ i ih =>
      intro hi
      have hi' : i < xs.length := by omega
      rw [sum64_take xs hi', ih (by omega)]
      have := hb (i + 1) hi
      simp only [psum, rd_at hi'] at this ⊢
      exact w64 this.1 this.2
  have := h xs.length (by omega)
  rwa [List.take_length] at this
theorem psum_congr {f g : Nat → Int} : ∀ {m : Nat}, (∀ j, j < m → f j = g j) → psum f m = psum g m
  | 0, _ => rfl
  | m + 1, h => by simp only [psum]; rw [psum_congr (fun j hj => h j (by omega)), h m (by omega)]
theorem psum_mono {f : Nat → Int} {n : Nat} (h : ∀ j, j < n → 0 ≤ f j) : ∀ {m : Nat}, m ≤ n → 0 ≤ psum f m ∧ psum f m ≤ psum f n := by
  have h0 : ∀ m, m ≤ n → 0 ≤ psum f m := by
    intro m
    induction m with
    | zero => intro _; exact Int.le_refl _
    | succ m ih => intro hm; have := ih (by omega); have := h m (by omega); simp only [psum]; omega
  have h1 : ∀ q m, m + q = n → psum f m ≤ psum f n := by
    intro q
    induction q with
    | zero => intro m hm; obtain rfl : m = n := by omega
              exact Int.le_refl _
    | succ q ih => intro m hm; have h2 := ih (m + 1) (by omega); have h3 := h m (by omega); simp only [psum] at h2; omega
  intro m hm
  exact ⟨h0 m hm, h1 (n - m) m (by omega)⟩
/-- What is asked of the total and the weights. -/
structure Fit (t : Int) (lw : List Int) (s : Int) : Prop where
  one : 1 ≤ lw.length
  some20 : lw.length ≤ 20
  tot : 0 ≤ t ∧ t ≤ 4611686018427387904
  pos : 0 < s
  w : ∀ i, i < lw.length → 0 ≤ rd lw (i : Int) ∧ t * rd lw (i : Int) ≤ 9223372036854775807
  sum : sum64 0 lw = s
  psm : psum (fun j => rd lw (j : Int)) lw.length = s
/-- A share, rounded down; what remains. -/
def Q (t : Int) (lw : List Int) (s : Int) (i : Nat) : Int := wrap64 (Int.tdiv (wrap64 (t * rd lw (i : Int))) s)
def R (t : Int) (lw : List Int) (s : Int) (i : Nat) : Int := Int.tmod (wrap64 (t * rd lw (i : Int))) s
section
variable {t s : Int} {lw : List Int}
theorem qr (h : Fit t lw s) {i : Nat} (hi : i < lw.length) : (0 ≤ R t lw s i ∧ R t lw s i < s) ∧ 0 ≤ Q t lw s i ∧ s * Q t lw s i + R t lw s i = t * rd lw (i : Int) := by
  obtain ⟨h0, h1⟩ := h.w i hi
  have hp := h.pos
  have ht := h.tot
  have hm : 0 ≤ t * rd lw (i : Int) := Int.mul_nonneg ht.1 h0
  unfold Q R
  rw [w64 (x := t * rd lw (i : Int)) (by omega) h1, Int.tmod_eq_emod_of_nonneg hm, Int.tdiv_eq_ediv_of_nonneg hm]
  have e := Int.mul_ediv_add_emod (t * rd lw (i : Int)) s
  have r0 := Int.emod_nonneg (t * rd lw (i : Int)) (by omega : s ≠ 0)
  have r1 := Int.emod_lt_of_pos (t * rd lw (i : Int)) hp
  have q0 := Int.ediv_nonneg hm (by omega : 0 ≤ s)
  have q1 : t * rd lw (i : Int) / s ≤ t * rd lw (i : Int) := Int.ediv_le_self _ hm
  rw [w64 (by omega) (by omega)]
  exact ⟨⟨r0, r1⟩, q0, e⟩
theorem sums (h : Fit t lw s) : ∀ {m : Nat}, m ≤ lw.length → s * psum (Q t lw s) m + psum (R t lw s) m = t * psum (fun j => rd lw (j : Int)) m
  | 0, _ => by simp [psum]
  | m + 1, hm => by
    have ih := sums h (m := m) (by omega)
    have e := (qr h (i := m) (by omega)).2.2
    simp only [psum, Int.mul_add]
    omega
theorem rsum (h : Fit t lw s) : ∀ {m : Nat}, m ≤ lw.length → 1 ≤ m → 0 ≤ psum (R t lw s) m ∧ psum (R t lw s) m < m * s
  | m + 1, hm, _ => by
    have e := (qr h (i := m) (by omega)).1
    simp only [psum]
    rcases Nat.eq_zero_or_pos m with rfl | hp
    · simp only [psum]; push_cast; omega
    · have ih := rsum h (m := m) (by omega) hp
      have : ((m + 1 : Nat) : Int) * s = m * s + s := by push_cast; rw [Int.add_mul]; omega
      omega
/-- How many are left over: fewer than there are weights. -/
theorem left_in (h : Fit t lw s) : 0 ≤ t - psum (Q t lw s) lw.length ∧ t - psum (Q t lw s) lw.length < lw.length := by
  have h1 := sums h (Nat.le_refl _)
  have h2 := rsum h (Nat.le_refl _) h.one
  rw [h.psm] at h1
  have hp := h.pos
  have e : s * (t - psum (Q t lw s) lw.length) = psum (R t lw s) lw.length := by
    rw [Int.mul_sub, Int.mul_comm s t]; omega
  constructor
  · by_cases c : 0 ≤ t - psum (Q t lw s) lw.length
    · exact c
    · have : s * (t - psum (Q t lw s) lw.length) ≤ s * (-1) := Int.mul_le_mul_of_nonneg_left (by omega) (by omega)
      omega
  · by_cases c : t - psum (Q t lw s) lw.length < lw.length
    · exact c
    · have : s * (lw.length : Int) ≤ s * (t - psum (Q t lw s) lw.length) := Int.mul_le_mul_of_nonneg_left (by omega) (by omega)
      rw [Int.mul_comm s (lw.length : Int)] at this
      omega
/-- The order of the indices. -/
def sg (t : Int) (lw : List Int) (s : Int) : List Nat := ord (R t lw s) (lw.length - 1)
theorem sg_sort (h : Fit t lw s) : shSort t lw s (ids lw.length) = (sg t lw s).map fun (j : Nat) => (j : Int) := by
  have e : lw.length = lw.length - 1 + 1 := by have := h.one; omega
  have el : (ids lw.length).length = lw.length - 1 + 1 := by rw [ids, upto_len]; exact e
  unfold shSort sg ord
  rw [el, List.map_map, show ids lw.length = ids (lw.length - 1 + 1) from congrArg ids e]
  rfl
theorem sg_holds (h : Fit t lw s) : (sg t lw s).Perm (List.range lw.length) ∧ ∀ i j (hj : j < (sg t lw s).length), (hij : i < j) → R t lw s (sg t lw s)[j] < R t lw s ((sg t lw s)[i]'(by omega)) ∨ (R t lw s (sg t lw s)[j] = R t lw s ((sg t lw s)[i]'(by omega)) ∧ (sg t lw s)[i]'(by omega) < (sg t lw s)[j]) := by
  have e : lw.length = lw.length - 1 + 1 := by have := h.one; omega
  have := ord_holds (R t lw s) (lw.length - 1)
  rw [← e] at this
  exact this
theorem sg_len (h : Fit t lw s) : (sg t lw s).length = lw.length := by rw [(sg_holds h).1.length_eq, List.length_range]
theorem sg_lt (h : Fit t lw s) {m : Nat} (hm : m < (sg t lw s).length) : (sg t lw s)[m] < lw.length := by
  have := (sg_holds h).1.mem_iff.1 (List.getElem_mem hm)
  simpa using this
theorem sg_nodup (h : Fit t lw s) : (sg t lw s).Nodup := (List.Perm.nodup_iff (sg_holds h).1).2 List.nodup_range
end
/-- One more at place p. -/
def inc (xs : List Int) (p : Nat) : List Int := xs.set p (wrap64 (rd xs (p : Int) + 1))
theorem inc_len (xs : List Int) (p : Nat) : (inc xs p).length = xs.length := by simp [inc]
/-- The shares once m are given out. -/
def F (t : Int) (lw : List Int) (s : Int) (m : Nat) : List Int := ((sg t lw s).take m).foldl inc (upto (Q t lw s) lw.length)
theorem F_zero (t : Int) (lw : List Int) (s : Int) : F t lw s 0 = upto (Q t lw s) lw.length := rfl
theorem F_succ (t : Int) (lw : List Int) (s : Int) {m : Nat} (h : m < (sg t lw s).length) : F t lw s (m + 1) = inc (F t lw s m) (sg t lw s)[m] := by
  unfold F
  rw [List.take_succ_eq_append_getElem h, List.foldl_append]
  rfl
theorem foldl_len (ps : List Nat) : ∀ xs : List Int, (ps.foldl inc xs).length = xs.length := by
  induction ps with
  | nil => intro xs; rfl
  | cons p ps ih => intro xs; rw [List.foldl_cons, ih, inc_len]
theorem F_len (t : Int) (lw : List Int) (s : Int) (m : Nat) : (F t lw s m).length = lw.length := by
  unfold F
  rw [foldl_len, upto_len]
/-- What remains once m are given out. -/
def G (t : Int) (lw : List Int) (s : Int) (m : Nat) : List Int := upto (fun j => if j ∈ (sg t lw s).take m then -1 else R t lw s j) lw.length
theorem G_len (t : Int) (lw : List Int) (s : Int) (m : Nat) : (G t lw s m).length = lw.length := upto_len _ _
section
variable {t s : Int} {lw : List Int}
theorem G_succ (h : Fit t lw s) {m : Nat} (hm : m < (sg t lw s).length) : (G t lw s m).set (sg t lw s)[m] (-1) = G t lw s (m + 1) := by
  apply List.ext_getElem
  · simp [G, upto]
  · intro i h1 h2
    have hi : i < lw.length := by rw [G_len] at h2; exact h2
    have hg : ∀ q (hq : i < (G t lw s q).length), (G t lw s q)[i] = if i ∈ (sg t lw s).take q then -1 else R t lw s i := fun q hq => by simp [G, upto]
    rw [List.getElem_set, hg, hg, List.take_succ_eq_append_getElem hm]
    by_cases e : (sg t lw s)[m] = i
    · rw [if_pos e, if_pos (by rw [e]; simp)]
    · rw [if_neg e]
      by_cases c : i ∈ (sg t lw s).take m
      · rw [if_pos c, if_pos (List.mem_append.2 (Or.inl c))]
      · rw [if_neg c, if_neg (fun h' => (List.mem_append.1 h').elim c (fun h'' => e (List.mem_singleton.1 h'').symm))]
/-- The next one: its remainder is the greatest, and the first such. -/
theorem best (h : Fit t lw s) {m : Nat} (hm : m < (sg t lw s).length) {j : Nat} (hj : j < lw.length) : rd (G t lw s m) (j : Int) ≤ rd (G t lw s m) (((sg t lw s)[m] : Nat) : Int) ∧ (j < (sg t lw s)[m] → rd (G t lw s m) (j : Int) < rd (G t lw s m) (((sg t lw s)[m] : Nat) : Int)) := by
  have hp := sg_lt h hm
  have nd := sg_nodup h
  have hnot : (sg t lw s)[m] ∉ (sg t lw s).take m := fun hin => by
    obtain ⟨k, hk, he⟩ := List.mem_iff_getElem.1 hin
    rw [List.getElem_take] at he
    have hk' : k < m := by rw [List.length_take] at hk; omega
    exact List.pairwise_iff_getElem.1 nd k m (by omega) hm hk' he
  have e1 : rd (G t lw s m) (((sg t lw s)[m] : Nat) : Int) = R t lw s (sg t lw s)[m] := by
    rw [G, upto_at _ hp, if_neg hnot]
  have r1 := (qr h hp).1.1
  rw [e1, G, upto_at _ hj]
  by_cases c : j ∈ (sg t lw s).take m
  · rw [if_pos c]; omega
  · rw [if_neg c]
    obtain ⟨k, hk, he⟩ := List.mem_iff_getElem.1 ((sg_holds h).1.mem_iff.2 (List.mem_range.2 hj))
    have hkm : m ≤ k := by
      by_cases q : m ≤ k
      · exact q
      · refine absurd ?_ c
        rw [← he]
        exact List.mem_iff_getElem.2 ⟨k, by rw [List.length_take]; omega, by rw [List.getElem_take]⟩
    rcases Nat.eq_or_lt_of_le hkm with q | q
    · subst q
      rw [he]
      omega
    · have := (sg_holds h).2 m k hk q
      rw [he] at this
      omega
theorem implShare_ev (h : Fit t lw s) : Ev (fun k => impl_shareOut.f k t lw) (F t lw s (t - psum (Q t lw s) lw.length).toNat) := by
  have hn := h.some20
  have h1 := h.one
  have hl := left_in h
  have ht := h.tot
  have hs0 : ¬ s = 0 := by have := h.pos; omega
  have hq : ∀ {m : Nat}, m ≤ lw.length → 0 ≤ psum (Q t lw s) m ∧ psum (Q t lw s) m ≤ psum (Q t lw s) lw.length := fun hm => psum_mono (fun j hj => (qr h hj).2.1) hm
  unfold impl_shareOut.f
  have hsum := implSum_ev lw (by omega)
  rw [h.sum] at hsum
  refine Ev.bindE hsum ?_
  refine scanI (fun k i => impl_shareOut.l0 k (upto (Q t lw s) i) lw (lw.length : Int) (i : Int) t lw s (ids i)) lw.length (fun _ => F t lw s (t - psum (Q t lw s) lw.length).toNat) (Ev.up (g := fun k => impl_shareOut.l0 k (upto (Q t lw s) lw.length) lw (lw.length : Int) (lw.length : Int) t lw s (ids lw.length)) ?_) (fun i hi ih => ?_) 0 (by omega)
  · have hok : shOk lw s (ids lw.length) = true := by
      simp only [shOk, Bool.and_eq_true, decide_eq_true_eq, List.all_eq_true]
      refine ⟨by rw [ids, upto_len]; exact h1, by rw [ids, upto_len]; exact hn, hs0, fun x hx => ?_⟩
      simp only [ids, upto, List.mem_map, List.mem_range] at hx
      obtain ⟨a, ha, rfl⟩ := hx
      omega
    have hqs : sum64 0 (upto (Q t lw s) lw.length) = psum (Q t lw s) lw.length := by
      have e : ∀ i, i ≤ lw.length → psum (fun j => rd (upto (Q t lw s) lw.length) (j : Int)) i = psum (Q t lw s) i := fun i hi => psum_congr fun j hj => upto_at _ (by omega)
      rw [sum64_psum _ (fun i hi => by
        rw [upto_len] at hi
        rw [e i hi]
        have := hq hi
        omega), upto_len, e _ (Nat.le_refl _)]
    have hil : (ids lw.length).length = lw.length := upto_len _ _
    have his := implSum_ev (upto (Q t lw s) lw.length) (by rw [upto_len]; omega)
    rw [hqs] at his
    have hw : wrap64 (t - psum (Q t lw s) lw.length) = t - psum (Q t lw s) lw.length := w64 (by have := hq (Nat.le_refl _); omega) (by have := hq (Nat.le_refl _); omega)
    simp only [impl_shareOut.l0, Option.bind_some]
    refine Ev.ifNeg (by omega) (Ev.ifPos hok (Ev.bindE his ?_))
    rw [hw, hil]
    refine Ev.ifPos hl.1 (Ev.ifPos (by omega) ?_)
    rw [sg_sort h]
    obtain ⟨L, hL⟩ : ∃ L : Nat, t - psum (Q t lw s) lw.length = (L : Int) := ⟨(t - psum (Q t lw s) lw.length).toNat, by omega⟩
    rw [hL, Int.toNat_natCast]
    have hLn : L < lw.length := by omega
    have hsl := sg_len h
    have htl : (((sg t lw s).map fun (j : Nat) => (j : Int)).take L).length = L := by rw [List.length_take, List.length_map]; omega
    rw [htl]
    refine scanI (fun k i => impl_shareOut.l1 k (F t lw s i) (((sg t lw s).map fun (j : Nat) => (j : Int)).take L) (L : Int) (i : Int)) L (fun _ => F t lw s L) (Ev.up (g := fun k => impl_shareOut.l1 k (F t lw s L) (((sg t lw s).map fun (j : Nat) => (j : Int)).take L) (L : Int) (L : Int)) (Ev.const fun k => by
      simp only [impl_shareOut.l1]
      rw [if_neg (by omega)])) (fun i hi ih => ?_) 0 (by omega)
    have hi' : i < (sg t lw s).length := by omega
    have hrd : rd (((sg t lw s).map fun (j : Nat) => (j : Int)).take L) (i : Int) = (((sg t lw s)[i] : Nat) : Int) := by
      rw [rd_at (by omega)]; simp
    have hlt := sg_lt h hi'
    have hFl := F_len t lw s i
    refine Ev.up (g := fun k => impl_shareOut.l1 k (F t lw s i) (((sg t lw s).map fun (j : Nat) => (j : Int)).take L) (L : Int) (i : Int)) ?_
    simp only [impl_shareOut.l1, hrd, htl, hFl, wnext hi (by omega : (L : Int) ≤ _), Int.toNat_natCast]
    refine Ev.ifPos (by omega) (Ev.ifPos (by omega) (Ev.ifPos (by omega) (Ev.ifPos (by omega) (Ev.ifPos (by omega) ?_))))
    rw [F_succ t lw s hi'] at ih
    exact ih
  · refine Ev.up (g := fun k => impl_shareOut.l0 k (upto (Q t lw s) i) lw (lw.length : Int) (i : Int) t lw s (ids i)) ?_
    have a1 : (upto (Q t lw s) i).length = i := upto_len _ _
    have a2 : (ids i).length = i := upto_len _ _
    simp only [impl_shareOut.l0, Option.bind_some, a1, a2, List.length_cons, List.length_nil, wnext hi (by omega : (lw.length : Int) ≤ _)]
    refine Ev.ifPos (by omega) (Ev.ifPos (by omega) (Ev.ifPos (by omega) (Ev.ifNeg hs0 (Ev.ifPos (by omega) (Ev.ifPos (by omega) ?_)))))
    rw [upto_succ, ids, upto_succ] at ih
    exact ih
theorem specShare_ev (h : Fit t lw s) : Ev (fun k => spec_l02Share.f k t lw s) (F t lw s (t - psum (Q t lw s) lw.length).toNat) := by
  have hn := h.some20
  have h1 := h.one
  have hl := left_in h
  have ht := h.tot
  have hs0 : ¬ s = 0 := by have := h.pos; omega
  have hq : ∀ {m : Nat}, m ≤ lw.length → 0 ≤ psum (Q t lw s) m ∧ psum (Q t lw s) m ≤ psum (Q t lw s) lw.length := fun hm => psum_mono (fun j hj => (qr h hj).2.1) hm
  have hsl := sg_len h
  unfold spec_l02Share.f
  have e0 : t = t - psum (Q t lw s) 0 := by simp [psum]
  conv => arg 1; intro k; rw [show spec_l02Share.l0 k t lw s [] [] t 0 = spec_l02Share.l0 k t lw s (upto (Q t lw s) 0) (upto (R t lw s) 0) (t - psum (Q t lw s) 0) ((0 : Nat) : Int) by rw [← e0]; rfl]
  refine scanI (fun k i => spec_l02Share.l0 k t lw s (upto (Q t lw s) i) (upto (R t lw s) i) (t - psum (Q t lw s) i) (i : Int)) lw.length (fun _ => F t lw s (t - psum (Q t lw s) lw.length).toNat) (Ev.up (g := fun k => spec_l02Share.l0 k t lw s (upto (Q t lw s) lw.length) (upto (R t lw s) lw.length) (t - psum (Q t lw s) lw.length) (lw.length : Int)) ?_) (fun i hi ih => ?_) 0 (by omega)
  · simp only [spec_l02Share.l0]
    refine Ev.ifNeg (by omega) ?_
    obtain ⟨L, hL⟩ : ∃ L : Nat, t - psum (Q t lw s) lw.length = (L : Int) := ⟨(t - psum (Q t lw s) lw.length).toNat, by omega⟩
    rw [hL, Int.toNat_natCast]
    have hLn : L < lw.length := by omega
    have g0 : upto (R t lw s) lw.length = G t lw s 0 := by unfold G; simp
    rw [g0, ← F_zero]
    have key : ∀ m i, i + m = L → Ev (fun k => spec_l02Share.l1 k (F t lw s i) (G t lw s i) (m : Int)) (F t lw s L) := by
      intro m
      induction m with
      | zero =>
        intro i hi
        obtain rfl : i = L := by omega
        refine Ev.up (g := fun k => spec_l02Share.l1 k (F t lw s i) (G t lw s i) ((0 : Nat) : Int)) (Ev.const fun k => ?_)
        simp only [spec_l02Share.l1]
        rw [if_neg (by omega)]
      | succ m ih =>
        intro i hi
        have hi' : i < (sg t lw s).length := by omega
        have hp := sg_lt h hi'
        have hFl := F_len t lw s i
        have hGl := G_len t lw s i
        refine Ev.up (g := fun k => spec_l02Share.l1 k (F t lw s i) (G t lw s i) ((m + 1 : Nat) : Int)) ?_
        simp only [spec_l02Share.l1]
        refine Ev.ifPos (by omega) ?_
        have inner : ∀ q j (b : Nat), j + q = lw.length → 1 ≤ j → b < j → ((sg t lw s)[i] < j → b = (sg t lw s)[i]) → Ev (fun k => spec_l02Share.l2 k (F t lw s i) (G t lw s i) ((m + 1 : Nat) : Int) (b : Int) (j : Int)) (F t lw s L) := by
          intro q
          induction q with
          | zero =>
            intro j b hj _ hb hbp
            obtain rfl : j = lw.length := by omega
            obtain rfl := hbp hp
            refine Ev.up (g := fun k => spec_l02Share.l2 k (F t lw s i) (G t lw s i) ((m + 1 : Nat) : Int) (((sg t lw s)[i] : Nat) : Int) (lw.length : Int)) ?_
            have ih' := ih (i + 1) (by omega)
            rw [F_succ t lw s hi', ← G_succ h hi'] at ih'
            simp only [spec_l02Share.l2, hFl, hGl, Int.toNat_natCast, w64 (x := ((m + 1 : Nat) : Int) - 1) (by omega) (by omega)]
            refine Ev.ifNeg (by omega) (Ev.ifPos (by omega) (Ev.ifPos (by omega) (Ev.ifPos (by omega) ?_)))
            rw [show ((m + 1 : Nat) : Int) - 1 = (m : Int) by omega]
            exact ih'
          | succ q ihq =>
            intro j b hj hj1 hb hbp
            have hjn : j < lw.length := by omega
            refine Ev.up (g := fun k => spec_l02Share.l2 k (F t lw s i) (G t lw s i) ((m + 1 : Nat) : Int) (b : Int) (j : Int)) ?_
            simp only [spec_l02Share.l2, hGl, wnext hjn (by omega : (lw.length : Int) ≤ _)]
            refine Ev.ifPos (by omega) (Ev.ifPos (by omega) (Ev.ifPos (by omega) (Ev.ifPos (by omega) (Ev.ite (fun c => ?_) (fun c => ?_)))))
            · refine ihq (j + 1) j (by omega) (by omega) (by omega) fun hlt => ?_
              by_cases e : j = (sg t lw s)[i]
              · exact e
              · have := hbp (by omega)
                subst this
                have := (best h hi' hjn).1
                omega
            · refine ihq (j + 1) b (by omega) (by omega) (by omega) fun hlt => ?_
              by_cases e : (sg t lw s)[i] < j
              · exact hbp e
              · have e2 : (sg t lw s)[i] = j := by omega
                have := (best h hi' (j := b) (by omega)).2 (by omega)
                rw [e2] at this
                omega
        exact inner (lw.length - 1) 1 0 (by omega) (by omega) (by omega) (by omega)
    exact key L 0 (by omega)
  · refine Ev.up (g := fun k => spec_l02Share.l0 k t lw s (upto (Q t lw s) i) (upto (R t lw s) i) (t - psum (Q t lw s) i) (i : Int)) ?_
    have a1 : (upto (Q t lw s) i).length = i := upto_len _ _
    have a2 : (upto (R t lw s) i).length = i := upto_len _ _
    have b1 := hq (m := i) (by omega)
    have b2 := hq (m := i + 1) (by omega)
    simp only [psum] at b2
    have e : wrap64 (t - psum (Q t lw s) i - wrap64 (Int.tdiv (wrap64 (t * rd lw (i : Int))) s)) = t - psum (Q t lw s) (i + 1) := by
      show wrap64 (t - psum (Q t lw s) i - Q t lw s i) = t - (psum (Q t lw s) i + Q t lw s i)
      rw [w64 (by omega) (by omega)]
      omega
    simp only [spec_l02Share.l0, a1, a2, e, wnext hi (by omega : (lw.length : Int) ≤ _)]
    refine Ev.ifPos (by omega) (Ev.ifPos (by omega) (Ev.ifNeg hs0 (Ev.ifPos (by omega) (Ev.ifPos (by omega) ?_))))
    rw [upto_succ, upto_succ] at ih
    exact ih
end
end Go.Proofs.Ytppfdndnojbmjaa.PShare

/-! ## PClosed -/
/- Plain laws of closing a loop: both take from each rise its share of the closing error. For errors of at most 1000000000 and sizes of 1 to 10000, twenty at most. -/
namespace Go.Proofs.Ytppfdndnojbmjaa.PClosed
open Go.RowKit Go.Proofs.YtppfdndnojbmjaaW.PrintWords Go.Proofs.Ytppfdndnojbmjaa.X Go.Proofs.Ytppfdndnojbmjaa.B Go.Proofs.Ytppfdndnojbmjaa.PSum Go.Proofs.Ytppfdndnojbmjaa.PSort Go.Proofs.Ytppfdndnojbmjaa.PShare
def ab (c : Int) : Int := if c < 0 then -c else c
theorem implAbs_eq {c : Int} (h : -1000000000 ≤ c ∧ c ≤ 1000000000) : impl_abs.f c = some (ab c) := by
  unfold impl_abs.f ab mx
  rw [w64 (by omega) (by omega)]
  congr 1
  split <;> split <;> omega
theorem specAbs_eq {c : Int} (h : -1000000000 ≤ c ∧ c ≤ 1000000000) : spec_l02Size.f c = some (ab c) := by
  unfold spec_l02Size.f ab
  rw [w64 (by omega) (by omega)]
  split <;> rfl
theorem sizes_fit {ss : List Int} {c : Int} (h1 : 1 ≤ ss.length) (h20 : ss.length ≤ 20) (hw : ∀ i, i < ss.length → 1 ≤ rd ss (i : Int) ∧ rd ss (i : Int) ≤ 10000) (hc : -1000000000 ≤ c ∧ c ≤ 1000000000) : Fit (ab c) ss (sum64 0 ss) := by
  have hb : ∀ i, i ≤ ss.length → (i : Int) ≤ psum (fun j => rd ss (j : Int)) i ∧ psum (fun j => rd ss (j : Int)) i ≤ 10000 * i := by
    intro i
    induction i with
    | zero => intro _; simp [psum]
    | succ i ih =>
      intro hi
      have h1 := ih (by omega)
      have h2 := hw i (by omega)
      simp only [psum]
      push_cast
      omega
  have e := sum64_psum ss fun i hi => by have := hb i hi; omega
  have hp := hb ss.length (Nat.le_refl _)
  have ha : 0 ≤ ab c ∧ ab c ≤ 1000000000 := by unfold ab; split <;> omega
  refine ⟨h1, h20, by omega, by omega, fun i hi => ⟨by have := hw i hi; omega, ?_⟩, rfl, e.symm⟩
  have h2 := hw i hi
  have := Int.mul_le_mul ha.2 h2.2 (by omega) (by omega : (0 : Int) ≤ 1000000000)
  omega
/-- The shares of an error. -/
def parts (ss : List Int) (c : Int) : List Int := F (ab c) ss (sum64 0 ss) (ab c - psum (Q (ab c) ss (sum64 0 ss)) ss.length).toNat
theorem parts_len (ss : List Int) (c : Int) : (parts ss c).length = ss.length := F_len _ _ _ _
def less1 (rs ss : List Int) (c : Int) (i : Nat) : Int := if c < 0 then wrap64 (rd rs (i : Int) + rd (parts ss c) (i : Int)) else wrap64 (rd rs (i : Int) - rd (parts ss c) (i : Int))
/-- The rises, less their shares. -/
def closed (rs ss : List Int) (c : Int) : List Int := upto (less1 rs ss c) rs.length
theorem closed_len (rs ss : List Int) (c : Int) : (closed rs ss c).length = rs.length := upto_len _ _
theorem wrap_neg (a b : Int) : wrap64 (a - wrap64 (-b)) = wrap64 (a + b) := by
  unfold wrap64
  omega
section
variable {rs ss : List Int} {c : Int}
theorem implClosed_ev (hl : rs.length = ss.length) (h1 : 1 ≤ ss.length) (h20 : ss.length ≤ 20) (hw : ∀ i, i < ss.length → 1 ≤ rd ss (i : Int) ∧ rd ss (i : Int) ≤ 10000) (hc : -1000000000 ≤ c ∧ c ≤ 1000000000) : Ev (fun k => impl_closed.f k rs ss c) (closed rs ss c) := by
  have hp := parts_len ss c
  unfold impl_closed.f
  rw [implAbs_eq hc]
  simp only [Option.bind_some]
  refine Ev.bindE (implShare_ev (sizes_fit h1 h20 hw hc)) ?_
  show Ev (fun k => impl_closed.l0 k rs c [] (parts ss c) ((parts ss c).length : Int) 0) (closed rs ss c)
  rw [hp, ← hl]
  refine scanI (fun k i => impl_closed.l0 k rs c (upto (less1 rs ss c) i) (parts ss c) (rs.length : Int) (i : Int)) rs.length (fun _ => closed rs ss c) (Ev.up (g := fun k => impl_closed.l0 k rs c (upto (less1 rs ss c) rs.length) (parts ss c) (rs.length : Int) (rs.length : Int)) (Ev.const fun k => by
    simp only [impl_closed.l0]
    rw [if_neg (by omega)]
    rfl)) (fun i hi ih => ?_) 0 (by omega)
  have a1 : (upto (less1 rs ss c) i).length = i := upto_len _ _
  refine Ev.up (g := fun k => impl_closed.l0 k rs c (upto (less1 rs ss c) i) (parts ss c) (rs.length : Int) (i : Int)) ?_
  simp only [impl_closed.l0, a1, wrap_neg, wnext hi (by omega : (rs.length : Int) ≤ _)]
  rw [upto_succ] at ih
  refine Ev.ifPos (by omega) (Ev.ifPos (by omega) (Ev.ifPos (by omega) (Ev.ite (fun d => ?_) (fun d => ?_))))
  · refine Ev.ifPos (by omega) (Ev.ifPos (by omega) ?_)
    unfold less1 at ih; simp only [if_pos d] at ih ⊢
    unfold less1; simp only [if_pos d]
    exact ih
  · refine Ev.ifPos (by omega) (Ev.ifPos (by omega) ?_)
    unfold less1 at ih; simp only [if_neg d] at ih ⊢
    unfold less1; simp only [if_neg d]
    exact ih
theorem specClosed_ev (hl : rs.length = ss.length) (h1 : 1 ≤ ss.length) (h20 : ss.length ≤ 20) (hw : ∀ i, i < ss.length → 1 ≤ rd ss (i : Int) ∧ rd ss (i : Int) ≤ 10000) (hc : -1000000000 ≤ c ∧ c ≤ 1000000000) : Ev (fun k => spec_l26Shared.f k rs ss c) (closed rs ss c) := by
  have hp := parts_len ss c
  unfold spec_l26Shared.f
  rw [specAbs_eq hc]
  simp only [Option.bind_some]
  refine Ev.bindE (specSum_ev ss (by omega)) (Ev.bindE (specShare_ev (sizes_fit h1 h20 hw hc)) ?_)
  show Ev (fun k => spec_l26Shared.l0 k rs c (parts ss c) [] 0) (closed rs ss c)
  refine scanI (fun k i => spec_l26Shared.l0 k rs c (parts ss c) (upto (less1 rs ss c) i) (i : Int)) rs.length (fun _ => closed rs ss c) (Ev.up (g := fun k => spec_l26Shared.l0 k rs c (parts ss c) (upto (less1 rs ss c) rs.length) (rs.length : Int)) (Ev.const fun k => by
    simp only [spec_l26Shared.l0]
    rw [if_neg (by omega)]
    rfl)) (fun i hi ih => ?_) 0 (by omega)
  have a1 : (upto (less1 rs ss c) i).length = i := upto_len _ _
  refine Ev.up (g := fun k => spec_l26Shared.l0 k rs c (parts ss c) (upto (less1 rs ss c) i) (i : Int)) ?_
  simp only [spec_l26Shared.l0, a1, wnext hi (by omega : (rs.length : Int) ≤ _)]
  rw [upto_succ] at ih
  refine Ev.ifPos (by omega) (Ev.ite (fun d => ?_) (fun d => ?_))
  · refine Ev.ifPos (by omega) (Ev.ifPos (by omega) (Ev.ifPos (by omega) ?_))
    unfold less1 at ih; simp only [if_pos d] at ih ⊢
    unfold less1; simp only [if_pos d]
    exact ih
  · refine Ev.ifPos (by omega) (Ev.ifPos (by omega) (Ev.ifPos (by omega) ?_))
    unfold less1 at ih; simp only [if_neg d] at ih ⊢
    unfold less1; simp only [if_neg d]
    exact ih
end
end Go.Proofs.Ytppfdndnojbmjaa.PClosed

/-! ## Conv -/
/- Plain words for the laws' own helpers: measuring an argument, copying it, comparing it with itself, marking a result and finding the marks again. No condition but the lengths that fit. -/
namespace Go.Proofs.Ytppfdndnojbmjaa.B
open Go.RowKit Go.Proofs.YtppfdndnojbmjaaW.PrintWords

def sumOf {α : Type} (f : α → Int) (xs : List α) : Int := (xs.map f).sum
theorem sumOf_nil {α : Type} (f : α → Int) : sumOf f [] = 0 := rfl
theorem sumOf_cons {α : Type} (f : α → Int) (x : α) (xs : List α) : sumOf f (x :: xs) = f x + sumOf f xs := by simp [sumOf]
theorem sumOf_nonneg {α : Type} {f : α → Int} {xs : List α} (h : ∀ x ∈ xs, 0 ≤ f x) : 0 ≤ sumOf f xs := by
  induction xs with
  | nil => simp [sumOf]
  | cons x xs ih =>
    rw [sumOf_cons]
    have h1 := h x (List.mem_cons_self ..)
    have h2 := ih fun y hy => h y (List.mem_cons_of_mem _ hy)
    omega
theorem sumOf_mem {α : Type} {f : α → Int} {xs : List α} (h : ∀ x ∈ xs, 0 ≤ f x) : ∀ x ∈ xs, f x ≤ sumOf f xs := by
  induction xs with
  | nil => intro x hx; cases hx
  | cons y xs ih =>
    intro x hx
    rw [sumOf_cons]
    have h1 := h y (List.mem_cons_self ..)
    have h2 := sumOf_nonneg (f := f) (xs := xs) fun z hz => h z (List.mem_cons_of_mem _ hz)
    rcases List.mem_cons.1 hx with rfl | hx
    · omega
    · have := ih (fun z hz => h z (List.mem_cons_of_mem _ hz)) x hx
      omega

/-- g takes s off what is left, or tells -1 if there is less. -/
def Sz (g : Int → Nat → Option Int) (s : Int) : Prop := 0 ≤ s ∧ ∀ left, 0 ≤ left → left ≤ 1048576 → Ev (fun k => g left k) (if s ≤ left then left - s else -1)
theorem Sz.id : Sz (fun left _ => some left) 0 := ⟨by omega, fun left h h' => Ev.const fun k => by show some left = _; rw [if_pos h, show left - 0 = left by omega]⟩
theorem Sz.seq {g h : Int → Nat → Option Int} {s t : Int} (a : Sz g s) (b : Sz h t) : Sz (fun left k => (g left k).bind fun u => if u < 0 then some (-1) else h u k) (s + t) := by
  refine ⟨by have := a.1; have := b.1; omega, fun left h0 h1 => ?_⟩
  have hs := a.1
  have ht := b.1
  refine Ev.bindE (a.2 left h0 h1) ?_
  by_cases c : s ≤ left
  · simp only [if_pos c]
    refine Ev.ifNeg (by omega) ?_
    have := b.2 (left - s) (by omega) (by omega)
    by_cases d : t ≤ left - s
    · rw [if_pos (by omega)]
      rw [if_pos d] at this
      have e : left - s - t = left - (s + t) := by omega
      rwa [e] at this
    · rw [if_neg (by omega)]
      rwa [if_neg d] at this
  · simp only [if_neg c]
    rw [if_neg (by omega)]
    exact Ev.ifPos (by omega) (Ev.const fun _ => rfl)
theorem Sz.len {n : Nat} (hn : n ≤ 9223372036854775807) {h : Int → Nat → Option Int} {t : Int} (b : Sz h t) : Sz (fun left k => if wrap64 (left - (n : Int)) < 0 then some (-1) else h (wrap64 (left - (n : Int))) k) ((n : Int) + t) := by
  have ht := b.1
  refine ⟨by omega, fun left h0 h1 => ?_⟩
  have e : wrap64 (left - (n : Int)) = left - n := w64 (by omega) (by omega)
  simp only [e]
  by_cases c : (n : Int) ≤ left
  · refine Ev.ifNeg (by omega) ?_
    have := b.2 (left - n) (by omega) (by omega)
    by_cases d : t ≤ left - n
    · rw [if_pos (by omega)]
      rw [if_pos d] at this
      have e : left - n - t = left - (n + t) := by omega
      rwa [e] at this
    · rw [if_neg (by omega)]
      rwa [if_neg d] at this
  · rw [if_neg (by omega)]
    exact Ev.ifPos (by omega) (Ev.const fun _ => rfl)
/-- A row: its length, then each element in turn. -/
theorem Sz.list {α : Type} {xs : List α} {rdx : Int → α} {e : α → Int → Nat → Option Int} {s : α → Int} {L : Nat → Int → Int → Option Int} (hn : xs.length ≤ 9223372036854775807)
    (hrd : ∀ (i : Nat) (h : i < xs.length), rdx (i : Int) = xs[i]) (he : ∀ x ∈ xs, Sz (e x) (s x))
    (hL : ∀ k l i, L (k + 1) l i = if i < (xs.length : Int) then (if 0 ≤ i then ((e (rdx i) l k).bind fun u => if u < 0 then some (-1) else L k u (wrap64 (i + 1))) else none) else some l) :
    Sz (fun left k => if wrap64 (left - (xs.length : Int)) < 0 then some (-1) else L k (wrap64 (left - (xs.length : Int))) 0) ((xs.length : Int) + sumOf s xs) := by
  refine Sz.len hn (h := fun left k => L k left 0) ⟨sumOf_nonneg fun x hx => (he x hx).1, ?_⟩
  have key : ∀ (suf pre : List α), xs = pre ++ suf → ∀ left, 0 ≤ left → left ≤ 1048576 → Ev (fun k => L k left (pre.length : Int)) (if sumOf s suf ≤ left then left - sumOf s suf else -1) := by
    intro suf
    induction suf with
    | nil =>
      intro pre hx left h0 h1
      refine Ev.up (g := fun k => L k left (pre.length : Int)) (Ev.const fun k => ?_)
      have : xs.length = pre.length := by rw [hx]; simp
      rw [hL, if_neg (by omega), sumOf_nil, if_pos h0]
      congr 1; omega
    | cons x suf ih =>
      intro pre hx left h0 h1
      have hlen : xs.length = pre.length + (suf.length + 1) := by rw [hx]; simp
      have hi : pre.length < xs.length := by omega
      have hxi : xs[pre.length] = x := by simp [hx]
      have hm : x ∈ xs := by rw [hx]; simp
      have hs := (he x hm).1
      have hss : 0 ≤ sumOf s suf := sumOf_nonneg fun y hy => (he y (by rw [hx]; simp [hy])).1
      refine Ev.up (g := fun k => L k left (pre.length : Int)) ?_
      simp only [hL, hrd _ hi, hxi]
      refine Ev.ifPos (by omega) (Ev.ifPos (by omega) (Ev.bindE ((he x hm).2 left h0 h1) ?_))
      rw [sumOf_cons]
      by_cases c : s x ≤ left
      · simp only [if_pos c]
        refine Ev.ifNeg (by omega) ?_
        have h' := ih (pre ++ [x]) (by rw [hx]; simp) (left - s x) (by omega) (by omega)
        have e1 : ((pre ++ [x]).length : Int) = wrap64 ((pre.length : Int) + 1) := by rw [wnext hi (by omega)]; simp
        rw [e1] at h'
        by_cases d : sumOf s suf ≤ left - s x
        · rw [if_pos (by omega)]
          rw [if_pos d] at h'
          have e : left - s x - sumOf s suf = left - (s x + sumOf s suf) := by omega
          rwa [e] at h'
        · rw [if_neg (by omega)]
          rwa [if_neg d] at h'
      · simp only [if_neg c]
        rw [if_neg (by omega)]
        exact Ev.ifPos (by omega) (Ev.const fun _ => rfl)
  exact key xs [] rfl

/-- Copying a row, element by element. -/
theorem Cv.list {α β τ : Type} {xs : List α} {rdx : Int → α} {e : Nat → α → Option τ} {mk : τ → β} {c : α → β} {t : α → τ} {z : β} {L : Nat → List β → Int → Option (List β)} {lim : Nat}
    (hlim : xs.length ≤ lim) (hbig : xs.length ≤ 9223372036854775807) (hrd : ∀ (i : Nat) (h : i < xs.length), rdx (i : Int) = xs[i]) (he : ∀ x ∈ xs, Ev (fun k => e k x) (t x)) (hc : ∀ x, mk (t x) = c x)
    (hL : ∀ k ys i, L (k + 1) ys i = if i < (xs.length : Int) then (if 0 ≤ i then ((e k (rdx i)).bind fun bt => if i < (ys.length : Int) then L k (ys.set i.toNat (mk bt)) (wrap64 (i + 1)) else none) else none) else some ys) :
    Ev (fun k => if 0 ≤ (xs.length : Int) then (if ((xs.length : Int)).toNat ≤ lim then L k (List.replicate ((xs.length : Int)).toNat z) 0 else none) else none) (xs.map c) := by
  refine Ev.ifPos (by omega) (Ev.ifPos (by omega) ?_)
  have h := scanI (fun k i => L k ((xs.map c).take i ++ List.replicate (xs.length - i) z) (i : Int)) xs.length (fun _ => xs.map c) (Ev.up (g := fun k => L k ((xs.map c).take xs.length ++ List.replicate (xs.length - xs.length) z) (xs.length : Int)) (Ev.const fun k => by
      rw [hL, if_neg (by omega)]
      simp [List.take_of_length_le])) (by
      intro i hi ih
      refine Ev.up (g := fun k => L k ((xs.map c).take i ++ List.replicate (xs.length - i) z) (i : Int)) ?_
      have hl : ((xs.map c).take i ++ List.replicate (xs.length - i) z).length = xs.length := by simp; omega
      simp only [hL, hrd _ hi]
      refine Ev.ifPos (by omega) (Ev.ifPos (by omega) (Ev.bindE (he _ (List.getElem_mem hi)) (Ev.ifPos (by rw [hl]; omega) ?_)))
      have hs := fill_set (xs.map c) z (i := i) (n := xs.length) hi (by simp)
      rw [hc, Int.toNat_natCast, wnext hi (by omega)]
      rw [List.getElem_map] at hs
      rw [hs]
      exact ih) 0 (by omega)
  simpa using h
theorem Cv.plain {α : Type} {xs : List α} {rdx : Int → α} {z : α} {L : Nat → List α → Int → Option (List α)} {lim : Nat}
    (hlim : xs.length ≤ lim) (hbig : xs.length ≤ 9223372036854775807) (hrd : ∀ (i : Nat) (h : i < xs.length), rdx (i : Int) = xs[i])
    (hL : ∀ k ys i, L (k + 1) ys i = if i < (xs.length : Int) then (if 0 ≤ i then (if i < (ys.length : Int) then L k (ys.set i.toNat (rdx i)) (wrap64 (i + 1)) else none) else none) else some ys) :
    Ev (fun k => if 0 ≤ (xs.length : Int) then (if ((xs.length : Int)).toNat ≤ lim then L k (List.replicate ((xs.length : Int)).toNat z) 0 else none) else none) xs := by
  have h := Cv.list (xs := xs) (rdx := rdx) (e := fun _ x => some x) (mk := fun x => x) (c := fun x => x) (t := fun x => x) (z := z) (L := L) hlim hbig hrd (fun x _ => Ev.const fun _ => rfl) (fun _ => rfl) hL
  simpa using h

/-- Comparing a row with itself. -/
theorem Eq.list {α : Type} {xs : List α} {rdx : Int → α} {e : Nat → α → Option Bool} {L : Nat → Int → Option Bool}
    (hbig : xs.length ≤ 9223372036854775807) (hrd : ∀ (i : Nat) (h : i < xs.length), rdx (i : Int) = xs[i]) (he : ∀ x ∈ xs, Ev (fun k => e k x) true)
    (hL : ∀ k i, L (k + 1) i = if i < (xs.length : Int) then (if 0 ≤ i then (if i < (xs.length : Int) then ((e k (rdx i)).bind fun u => if u = true then L k (wrap64 (i + 1)) else some false) else none) else none) else some true) :
    Ev (fun k => if (xs.length : Int) = (xs.length : Int) then L k 0 else some false) true := by
  refine Ev.ifPos rfl ?_
  exact scanI (fun k i => L k (i : Int)) xs.length (fun _ => true) (Ev.up (g := fun k => L k (xs.length : Int)) (Ev.const fun k => by rw [hL, if_neg (by omega)])) (by
    intro i hi ih
    refine Ev.up (g := fun k => L k (i : Int)) ?_
    simp only [hL, hrd _ hi]
    refine Ev.ifPos (by omega) (Ev.ifPos (by omega) (Ev.ifPos (by omega) (Ev.bindE (he _ (List.getElem_mem hi)) (Ev.ifPos rfl ?_))))
    rw [wnext hi (by omega)]
    exact ih) 0 (by omega)

theorem Eq.flat {α : Type} {xs : List α} {P : Int → Prop} [DecidablePred P] {L : Nat → Int → Option Bool}
    (hbig : xs.length ≤ 9223372036854775807) (hP : ∀ x, P x)
    (hL : ∀ k i, L (k + 1) i = if i < (xs.length : Int) then (if 0 ≤ i then (if i < (xs.length : Int) then (if P i then L k (wrap64 (i + 1)) else some false) else none) else none) else some true) :
    Ev (fun k => if (xs.length : Int) = (xs.length : Int) then L k 0 else some false) true := by
  refine Ev.ifPos rfl ?_
  exact scanI (fun k i => L k (i : Int)) xs.length (fun _ => true) (Ev.up (g := fun k => L k (xs.length : Int)) (Ev.const fun k => by rw [hL, if_neg (by omega)])) (by
    intro i hi ih
    refine Ev.up (g := fun k => L k (i : Int)) ?_
    simp only [hL]
    refine Ev.ifPos (by omega) (Ev.ifPos (by omega) (Ev.ifPos (by omega) (Ev.ifPos (hP _) ?_)))
    rw [wnext hi (by omega)]
    exact ih) 0 (by omega)

/-- Marks from c on, put into each element in turn. -/
def markAll {α : Type} (E : α → Int → α) (cost : α → Int) : List α → Int → List α
  | [], _ => []
  | x :: xs, c => E x c :: markAll E cost xs (c + cost x)
theorem markAll_len {α : Type} (E : α → Int → α) (cost : α → Int) (xs : List α) : ∀ c, (markAll E cost xs c).length = xs.length := by
  induction xs with
  | nil => intro c; rfl
  | cons x xs ih => intro c; simp [markAll, ih]
theorem Mk.list {α : Type} {E : α → Int → α} {cost : α → Int} {L : Nat → List α → Int → Int → Option (Int × List α)} {n : Nat} (hbig : n ≤ 1048576) (hcost : ∀ x, 0 ≤ cost x)
    (hend : ∀ k ys c, ys.length = n → L (k + 1) ys c (n : Int) = some (c, ys))
    (hstep : ∀ ys c (i : Nat) (h : i < ys.length), ys.length = n → 0 ≤ c → c + cost ys[i] ≤ 4611686018427387904 → EvEq (fun k => L (k + 1) ys c (i : Int)) (fun k => L k (ys.set i (E ys[i] c)) (c + cost ys[i]) ((i + 1 : Nat) : Int))) :
    ∀ xs : List α, xs.length = n → ∀ c, 0 ≤ c → c + sumOf cost xs ≤ 4611686018427387904 → Ev (fun k => L k xs c 0) (c + sumOf cost xs, markAll E cost xs c) := by
  have key : ∀ (suf pre : List α) (c : Int), (pre ++ suf).length = n → 0 ≤ c → c + sumOf cost suf ≤ 4611686018427387904 → Ev (fun k => L k (pre ++ suf) c (pre.length : Int)) (c + sumOf cost suf, pre ++ markAll E cost suf c) := by
    intro suf
    induction suf with
    | nil =>
      intro pre c hl h0 h1
      refine Ev.up (g := fun k => L k (pre ++ []) c (pre.length : Int)) (Ev.const fun k => ?_)
      have e : (pre.length : Int) = (n : Int) := by rw [← hl]; simp
      rw [e, hend k _ c hl, sumOf_nil]
      simp [markAll]
    | cons x suf ih =>
      intro pre c hl h0 h1
      rw [sumOf_cons] at h1 ⊢
      have hc := hcost x
      have hs : 0 ≤ sumOf cost suf := sumOf_nonneg fun y _ => hcost y
      have hi : pre.length < (pre ++ x :: suf).length := by simp
      have hx : (pre ++ x :: suf)[pre.length] = x := by simp
      refine Ev.up (g := fun k => L k (pre ++ x :: suf) c (pre.length : Int)) ?_
      have st := hstep (pre ++ x :: suf) c pre.length hi hl h0 (by rw [hx]; omega)
      rw [hx] at st
      refine Ev.ofEq st ?_
      have h' := ih (pre ++ [E x c]) (c + cost x) (by simpa using hl) (by omega) (by omega)
      have e1 : (pre ++ x :: suf).set pre.length (E x c) = pre ++ [E x c] ++ suf := by
        rw [List.set_append_right _ _ (by omega), Nat.sub_self]
        simp
      have e2 : ((pre ++ [E x c]).length : Int) = ((pre.length + 1 : Nat) : Int) := by simp
      rw [e1, ← e2]
      have e3 : c + (cost x + sumOf cost suf) = c + cost x + sumOf cost suf := by omega
      rw [e3]
      simpa [markAll] using h'
  intro xs hn c h0 h1
  exact key xs [] c (by simpa using hn) h0 h1
theorem Hd.list {α : Type} {E : α → Int → α} {cost : α → Int} {L : Nat → List α → Int → Int → Option Int} {n : Nat} (hcost : ∀ x, 0 ≤ cost x)
    (hend : ∀ k ys c, ys.length = n → L (k + 1) ys c (n : Int) = some c)
    (hstep : ∀ ys c (i : Nat) (h : i < ys.length) x, ys[i] = E x c → ys.length = n → 0 ≤ c → c + cost x ≤ 4611686018427387904 → EvEq (fun k => L (k + 1) ys c (i : Int)) (fun k => L k ys (c + cost x) ((i + 1 : Nat) : Int))) :
    ∀ xs : List α, xs.length = n → ∀ c, 0 ≤ c → c + sumOf cost xs ≤ 4611686018427387904 → Ev (fun k => L k (markAll E cost xs c) c 0) (c + sumOf cost xs) := by
  have key : ∀ (suf pre : List α) (c : Int), (pre ++ suf).length = n → 0 ≤ c → c + sumOf cost suf ≤ 4611686018427387904 → Ev (fun k => L k (pre ++ markAll E cost suf c) c (pre.length : Int)) (c + sumOf cost suf) := by
    intro suf
    induction suf with
    | nil =>
      intro pre c hl h0 h1
      refine Ev.up (g := fun k => L k (pre ++ markAll E cost [] c) c (pre.length : Int)) (Ev.const fun k => ?_)
      have e : (pre.length : Int) = (n : Int) := by rw [← hl]; simp
      rw [e, hend k _ c (by simpa [markAll] using hl), sumOf_nil]
      simp
    | cons x suf ih =>
      intro pre c hl h0 h1
      rw [sumOf_cons] at h1 ⊢
      have hc := hcost x
      have hs : 0 ≤ sumOf cost suf := sumOf_nonneg fun y _ => hcost y
      have hi : pre.length < (pre ++ markAll E cost (x :: suf) c).length := by simp [markAll]
      have hx : (pre ++ markAll E cost (x :: suf) c)[pre.length] = E x c := by simp [markAll]
      refine Ev.up (g := fun k => L k (pre ++ markAll E cost (x :: suf) c) c (pre.length : Int)) ?_
      have hln : (pre ++ markAll E cost (x :: suf) c).length = n := by
        rw [← hl]; simp [markAll_len]
      refine Ev.ofEq (hstep _ c pre.length hi x hx hln h0 (by omega)) ?_
      have h' := ih (pre ++ [E x c]) (c + cost x) (by simpa using hl) (by omega) (by omega)
      have e2 : ((pre ++ [E x c]).length : Int) = ((pre.length + 1 : Nat) : Int) := by simp
      rw [← e2]
      have e3 : c + (cost x + sumOf cost suf) = c + cost x + sumOf cost suf := by omega
      rw [e3]
      simpa [markAll] using h'
  intro xs hn c h0 h1
  exact key xs [] c (by simpa using hn) h0 h1
end Go.Proofs.Ytppfdndnojbmjaa.B

/-! ## PMarks -/
/- Plain laws of marks: a row of whole numbers marked and found again; the text of a mark. No condition but sizes that fit. -/
namespace Go.Proofs.Ytppfdndnojbmjaa.PMarks
open Go.RowKit Go.Proofs.YtppfdndnojbmjaaW.PrintWords Go.Proofs.Ytppfdndnojbmjaa.X Go.Proofs.Ytppfdndnojbmjaa.B
/-- Whole numbers, marked from c on. -/
def mi (xs : List Int) (c : Int) : List Int := markAll (fun _ c => c) (fun _ => 1) xs c
theorem mi_len (xs : List Int) (c : Int) : (mi xs c).length = xs.length := markAll_len _ _ _ _
theorem one_sum (xs : List Int) : sumOf (fun _ : Int => (1 : Int)) xs = xs.length := by
  induction xs with
  | nil => rfl
  | cons x xs ih => rw [sumOf_cons, ih]; simp; omega
theorem markInts_ev (xs : List Int) (c : Int) (hn : xs.length ≤ 1048576) (h0 : 0 ≤ c) (h1 : c + xs.length ≤ 4611686018427387904) : Ev (fun k => laws_markInt64S.f k xs c) (c + xs.length, mi xs c) := by
  have h := Mk.list (E := fun (_ : Int) (c : Int) => c) (cost := fun _ => 1) (L := fun k ys c i => laws_markInt64S.l0 k ys c i) (n := xs.length) hn (fun _ => by omega) (by
    intro k ys c hl
    simp only [laws_markInt64S.l0]
    rw [if_neg (by omega)]) (by
    intro ys c i hi hl h0 h1
    refine EvEq.now fun k => ?_
    simp only [laws_markInt64S.l0]
    rw [if_pos (by omega), if_pos (by omega), wnext hi (by omega), w64 (x := c + 1) (by omega) (by omega)]
    rfl) xs rfl c h0 (by rw [one_sum]; omega)
  rw [one_sum] at h
  exact h
theorem heldInts_ev (xs : List Int) (c : Int) (hn : xs.length ≤ 1048576) (h0 : 0 ≤ c) (h1 : c + xs.length ≤ 4611686018427387904) : Ev (fun k => laws_heldInt64S.f k (mi xs c) c) (c + xs.length) := by
  have h := Hd.list (E := fun (_ : Int) (c : Int) => c) (cost := fun _ => 1) (L := fun k ys c i => laws_heldInt64S.l0 k ys c i) (n := xs.length) (fun _ => by omega) (by
    intro k ys c hl
    simp only [laws_heldInt64S.l0]
    rw [if_neg (by omega)]) (by
    intro ys c i hi x hx hl h0 h1
    refine EvEq.now fun k => ?_
    simp only [laws_heldInt64S.l0]
    rw [if_pos (by omega), if_pos (by omega), rd_at hi, if_pos hx, wnext hi (by omega), w64 (x := c + 1) (by omega) (by omega)]) xs rfl c h0 (by rw [one_sum]; omega)
  rw [one_sum] at h
  exact h
end Go.Proofs.Ytppfdndnojbmjaa.PMarks

/-! ## CInt64S -/
/- Generated by conv.py: what the laws' helpers do with values of type Int64S. No condition but the lengths that fit. -/
namespace Go.Proofs.Ytppfdndnojbmjaa.C
open Go.RowKit Go.Proofs.YtppfdndnojbmjaaW.PrintWords Go.Proofs.Ytppfdndnojbmjaa.X Go.Proofs.Ytppfdndnojbmjaa.B
def szv_Int64S (xs : List Int) : Int := (xs.length : Int)
theorem szv_Int64S_nonneg (xs : List Int) : 0 ≤ szv_Int64S xs := by unfold szv_Int64S; omega
theorem szv_Int64S_len (xs : List Int) : (xs.length : Int) ≤ szv_Int64S xs := Int.le_refl _
theorem to_Int64S (xs : List Int) (h : szv_Int64S xs ≤ 1048576) : Ev (fun k => laws_toInt64S.f k xs) (xs) :=
  Cv.plain (rdx := rd xs) (L := fun k ys i => laws_toInt64S.l0 k xs ys i) (by have := szv_Int64S_len xs; omega) (by have := szv_Int64S_len xs; omega) (fun i hi => rd_at hi) (fun _ _ _ => rfl)
def fit_Int64S (xs : List Int) : Prop := xs.length ≤ 9223372036854775807
theorem fitc_Int64S (xs : List Int) (h : szv_Int64S xs ≤ 1048576) : fit_Int64S xs := by
  have hl := szv_Int64S_len xs
  unfold fit_Int64S
  omega
theorem eq_Int64S (xs : List Int) (h : fit_Int64S xs) : Ev (fun k => laws_eqInt64S.f k xs xs) true :=
  Eq.flat (xs := xs) (P := fun i => (rd xs i) = (rd xs i)) (L := fun k i => laws_eqInt64S.l0 k xs xs i) h (fun _ => rfl) (fun _ _ => rfl)
end Go.Proofs.Ytppfdndnojbmjaa.C

/-! ## PureFnExactBetweenMarks -/
/- The plain law of BetweenMarks: both tell the heights between two marks, less their shares of the closing error, or the same fault; what came in is left as it is, and the answer shares nothing with it. For all rows of at most 1048576 elements (the law says nothing of longer ones). -/
namespace Go.Proofs.Ytppfdndnojbmjaa.Pure
open Go.RowKit Go.Proofs.YtppfdndnojbmjaaW.PrintWords Go.Proofs.Ytppfdndnojbmjaa.X Go.Proofs.Ytppfdndnojbmjaa.B Go.Proofs.Ytppfdndnojbmjaa.C Go.Proofs.Ytppfdndnojbmjaa.PSum Go.Proofs.Ytppfdndnojbmjaa.PSort Go.Proofs.Ytppfdndnojbmjaa.PShare Go.Proofs.Ytppfdndnojbmjaa.PClosed Go.Proofs.Ytppfdndnojbmjaa.PMarks
theorem implIn_eq (a b c : Int) : impl_in.f a b c = some (decide (b ≤ a ∧ a ≤ c)) := by
  unfold impl_in.f
  by_cases h : a ≥ b <;> by_cases h' : a ≤ c <;> simp [h, h'] <;> omega
theorem specIn_eq (a b c : Int) : spec_l00In.f a b c = some (decide (b ≤ a ∧ a ≤ c)) := by
  unfold spec_l00In.f
  by_cases h : a ≥ b <;> by_cases h' : a ≤ c <;> simp [h, h'] <;> omega
def riseIn (rs : List Int) (j : Nat) : Bool := decide (-100000 ≤ rd rs (j : Int) ∧ rd rs (j : Int) ≤ 100000)
def sizeIn (ss : List Int) (j : Nat) : Bool := decide (1 ≤ rd ss (j : Int) ∧ rd ss (j : Int) ≤ 10000)
def markIn (a : Int) : Bool := decide (-1000000 ≤ a ∧ a ≤ 1000000)
def head (a b : Int) (rs ss : List Int) : Bool := markIn a && (markIn b && (decide (1 ≤ (rs.length : Int) ∧ (rs.length : Int) ≤ 12) && decide ((ss.length : Int) = rs.length)))
def both (rs ss : List Int) (j : Nat) : Bool := riseIn rs j && sizeIn ss j
/-- The heights, one behind the other. -/
def run (a : Int) (xs : List Int) : Nat → Int
  | 0 => a
  | i + 1 => wrap64 (run a xs i + rd xs (i : Int))
def heights (a : Int) (xs : List Int) : List Int := upto (fun i => run a xs (i + 1)) xs.length
def shut (a b : Int) (rs ss : List Int) : List Int := closed rs ss (wrap64 (wrap64 (a + sum64 0 rs) - b))
def told (a b : Int) (rs ss : List Int) : List Int × Int := if (head a b rs ss && allFrom (both rs ss) 0 rs.length) = true then (heights a (shut a b rs ss), 0) else ([], 2)
theorem all_two (p q : Nat → Bool) (n : Nat) : (allFrom p 0 n && allFrom q 0 n) = allFrom (fun j => p j && q j) 0 n := by
  rw [Bool.eq_iff_iff]
  simp only [Bool.and_eq_true, allFrom_iff]
  exact ⟨fun h j h1 h2 => ⟨h.1 j h1 h2, h.2 j h1 h2⟩, fun h => ⟨fun j h1 h2 => (h j h1 h2).1, fun j h1 h2 => (h j h1 h2).2⟩⟩
section
variable {a b : Int} {rs ss : List Int}
theorem fits (hh : head a b rs ss = true) (ha : allFrom (both rs ss) 0 rs.length = true) : rs.length = ss.length ∧ (1 ≤ ss.length ∧ ss.length ≤ 20) ∧ (∀ i, i < ss.length → 1 ≤ rd ss (i : Int) ∧ rd ss (i : Int) ≤ 10000) ∧ (-1000000000 ≤ wrap64 (wrap64 (a + sum64 0 rs) - b) ∧ wrap64 (wrap64 (a + sum64 0 rs) - b) ≤ 1000000000) := by
  simp only [head, markIn, Bool.and_eq_true, decide_eq_true_eq] at hh
  obtain ⟨h1, h2, h3, h4⟩ := hh
  have hw : ∀ i, i < rs.length → (-100000 ≤ rd rs (i : Int) ∧ rd rs (i : Int) ≤ 100000) ∧ 1 ≤ rd ss (i : Int) ∧ rd ss (i : Int) ≤ 10000 := by
    intro i hi
    have := (allFrom_iff _ _ _).1 ha i (by omega) hi
    simpa [both, riseIn, sizeIn] using this
  have hb : ∀ i, i ≤ rs.length → -(100000 * (i : Int)) ≤ psum (fun j => rd rs (j : Int)) i ∧ psum (fun j => rd rs (j : Int)) i ≤ 100000 * i := by
    intro i
    induction i with
    | zero => intro _; simp [psum]
    | succ i ih =>
      intro hi
      have h1 := ih (by omega)
      have h2 := (hw i (by omega)).1
      simp only [psum]
      push_cast
      omega
  have e := sum64_psum rs fun i hi => by have := hb i hi; omega
  have hn := hb rs.length (Nat.le_refl _)
  rw [e, w64 (x := a + psum (fun j => rd rs (j : Int)) rs.length) (by omega) (by omega), w64 (by omega) (by omega)]
  exact ⟨by omega, by omega, fun i hi => (hw i (by omega)).2, by omega⟩
theorem implHeights_ev (xs : List Int) (hx : xs.length ≤ 1048576) : Ev (fun k => impl_BetweenMarks.l0 k [] a xs (xs.length : Int) 0) (heights a xs, (0 : Int)) := by
  refine scanI (fun k i => impl_BetweenMarks.l0 k (upto (fun i => run a xs (i + 1)) i) (run a xs i) xs (xs.length : Int) (i : Int)) xs.length (fun _ => (heights a xs, (0 : Int))) (Ev.up (g := fun k => impl_BetweenMarks.l0 k (upto (fun i => run a xs (i + 1)) xs.length) (run a xs xs.length) xs (xs.length : Int) (xs.length : Int)) (Ev.const fun k => by
    simp only [impl_BetweenMarks.l0]
    rw [if_neg (by omega)]
    rfl)) (fun i hi ih => ?_) 0 (by omega)
  have a1 : (upto (fun i => run a xs (i + 1)) i).length = i := upto_len _ _
  refine Ev.up (g := fun k => impl_BetweenMarks.l0 k (upto (fun i => run a xs (i + 1)) i) (run a xs i) xs (xs.length : Int) (i : Int)) ?_
  simp only [impl_BetweenMarks.l0, a1, wnext hi (by omega : (xs.length : Int) ≤ _)]
  rw [upto_succ] at ih
  exact Ev.ifPos (by omega) (Ev.ifPos (by omega) (Ev.ifPos (by omega) (Ev.ifPos (by omega) ih)))
theorem specHeights_ev (xs : List Int) (hx : xs.length ≤ 1048576) : Ev (fun k => spec_BetweenMarks.l1 k a xs [] 0) (heights a xs, (0 : Int)) := by
  refine scanI (fun k i => spec_BetweenMarks.l1 k (run a xs i) xs (upto (fun i => run a xs (i + 1)) i) (i : Int)) xs.length (fun _ => (heights a xs, (0 : Int))) (Ev.up (g := fun k => spec_BetweenMarks.l1 k (run a xs xs.length) xs (upto (fun i => run a xs (i + 1)) xs.length) (xs.length : Int)) (Ev.const fun k => by
    simp only [spec_BetweenMarks.l1]
    rw [if_neg (by omega)]
    rfl)) (fun i hi ih => ?_) 0 (by omega)
  have a1 : (upto (fun i => run a xs (i + 1)) i).length = i := upto_len _ _
  refine Ev.up (g := fun k => spec_BetweenMarks.l1 k (run a xs i) xs (upto (fun i => run a xs (i + 1)) i) (i : Int)) ?_
  simp only [spec_BetweenMarks.l1, a1, wnext hi (by omega : (xs.length : Int) ≤ _)]
  rw [upto_succ] at ih
  exact Ev.ifPos (by omega) (Ev.ifPos (by omega) (Ev.ifPos (by omega) ih))
theorem implJ_ev (c : Bool) (hc : c = !(head a b rs ss && allFrom (both rs ss) 0 rs.length)) : Ev (fun k => impl_BetweenMarks.j0 k a b rs ss c) (told a b rs ss) := by
  refine Ev.up (g := fun k => impl_BetweenMarks.j0 k a b rs ss c) ?_
  simp only [impl_BetweenMarks.j0]
  unfold told
  by_cases h : (head a b rs ss && allFrom (both rs ss) 0 rs.length) = true
  · rw [h] at hc
    subst hc
    have h' := h
    simp only [Bool.and_eq_true] at h'
    obtain ⟨e, l, hw, hcl⟩ := fits h'.1 h'.2
    rw [if_pos h]
    refine Ev.ifNeg (by simp) (Ev.bindE (implSum_ev rs (by omega)) (Ev.bindE (implClosed_ev e l.1 l.2 hw hcl) ?_))
    exact implHeights_ev (shut a b rs ss) (by unfold shut; rw [closed_len]; omega)
  · rw [Bool.eq_false_iff.2 h] at hc
    subst hc
    rw [if_neg h]
    exact Ev.ifPos rfl (Ev.const fun _ => rfl)
theorem specJ_ev (c : Bool) (hs : rs.length ≤ 1048576) (hc : c = !head a b rs ss) : Ev (fun k => spec_BetweenMarks.j0 k a b rs ss c) (told a b rs ss) := by
  refine Ev.up (g := fun k => spec_BetweenMarks.j0 k a b rs ss c) ?_
  simp only [spec_BetweenMarks.j0]
  by_cases h : head a b rs ss = true
  · rw [h] at hc
    subst hc
    refine Ev.ifNeg (by simp) ?_
    have hl : rs.length = ss.length := by
      have h2 := h
      simp only [head, Bool.and_eq_true, decide_eq_true_eq] at h2
      omega
    have h12 : rs.length ≤ 12 := by
      have h2 := h
      simp only [head, Bool.and_eq_true, decide_eq_true_eq] at h2
      omega
    unfold told
    rw [h, Bool.true_and]
    by_cases ha : allFrom (both rs ss) 0 rs.length = true
    · rw [if_pos ha]
      obtain ⟨e, l, hw, hcl⟩ := fits h ha
      refine scanI (fun k i => spec_BetweenMarks.l0 k a b rs ss (i : Int)) rs.length (fun _ => (heights a (shut a b rs ss), (0 : Int))) (Ev.up (g := fun k => spec_BetweenMarks.l0 k a b rs ss (rs.length : Int)) ?_) (fun i hi ih => ?_) 0 (by omega)
      · simp only [spec_BetweenMarks.l0]
        refine Ev.ifNeg (by omega) (Ev.bindE (specSum_ev rs (by omega)) (Ev.bindE (specClosed_ev e l.1 l.2 hw hcl) ?_))
        exact specHeights_ev (shut a b rs ss) (by unfold shut; rw [closed_len]; omega)
      · have hb := (allFrom_iff _ _ _).1 ha i (by omega) hi
        simp only [both, Bool.and_eq_true] at hb
        refine Ev.up (g := fun k => spec_BetweenMarks.l0 k a b rs ss (i : Int)) ?_
        simp only [spec_BetweenMarks.l0, specIn_eq, Option.bind_some, wnext hi (by omega : (rs.length : Int) ≤ _)]
        exact Ev.ifPos (by omega) (Ev.ifPos (by omega) (Ev.ifPos hb.1 (Ev.ifPos (by omega) (Ev.ifPos hb.2 ih))))
    · rw [if_neg ha]
      have hex : ∃ j, j < rs.length ∧ both rs ss j = false := by
        refine Classical.byContradiction fun hno => ha ((allFrom_iff _ _ _).2 fun j _ hj => ?_)
        cases hq : both rs ss j with
        | true => rfl
        | false => exact absurd ⟨j, hj, hq⟩ hno
      obtain ⟨j, hj, hbj⟩ := hex
      refine scanI (fun k i => spec_BetweenMarks.l0 k a b rs ss (i : Int)) j (fun _ => ([], (2 : Int))) (Ev.up (g := fun k => spec_BetweenMarks.l0 k a b rs ss (j : Int)) ?_) (fun i hi ih => ?_) 0 (by omega)
      · simp only [spec_BetweenMarks.l0, specIn_eq, Option.bind_some]
        refine Ev.ifPos (by omega) (Ev.ifPos (by omega) (Ev.ite (fun c1 => Ev.ifPos (by omega) (Ev.ite (fun c2 => ?_) (fun _ => Ev.const fun _ => rfl))) (fun _ => Ev.const fun _ => rfl)))
        have : both rs ss j = true := by
          unfold both riseIn sizeIn
          rw [c1, c2]; rfl
        rw [this] at hbj
        cases hbj
      · have hi' : i < rs.length := by omega
        refine Ev.up (g := fun k => spec_BetweenMarks.l0 k a b rs ss (i : Int)) ?_
        simp only [spec_BetweenMarks.l0, specIn_eq, Option.bind_some, wnext hi' (by omega : (rs.length : Int) ≤ _)]
        exact Ev.ifPos (by omega) (Ev.ifPos (by omega) (Ev.ite (fun c1 => Ev.ifPos (by omega) (Ev.ite (fun c2 => ih) (fun _ => Ev.const fun _ => rfl))) (fun _ => Ev.const fun _ => rfl)))
  · rw [Bool.eq_false_iff.2 h] at hc
    subst hc
    unfold told
    rw [Bool.eq_false_iff.2 h, Bool.false_and, if_neg (by simp)]
    exact Ev.ifPos rfl (Ev.const fun _ => rfl)
theorem specTold_ev (a b : Int) (rs ss : List Int) (hs : rs.length ≤ 1048576) : Ev (fun k => spec_BetweenMarks.f k a b rs ss) (told a b rs ss) := by
  unfold spec_BetweenMarks.f
  simp only [specIn_eq, Option.bind_some]
  refine Ev.ite (fun c1 => Ev.ite (fun c2 => Ev.ite (fun c3 => specJ_ev _ hs ?_) (fun c3 => specJ_ev _ hs ?_)) (fun c2 => specJ_ev _ hs ?_)) (fun c1 => specJ_ev _ hs ?_)
  · unfold head markIn
    rw [c1, c2, c3]
    by_cases e : (ss.length : Int) = rs.length <;> simp [e]
  · unfold head markIn; rw [c1, c2, Bool.eq_false_iff.2 c3]; rfl
  · unfold head markIn; rw [c1, Bool.eq_false_iff.2 c2]; rfl
  · unfold head markIn; rw [Bool.eq_false_iff.2 c1]; rfl
theorem implRises_ev (rs : List Int) (hn : rs.length ≤ 1048576) : Ev (fun k => impl_all_int64__impl_BetweenMarks_2.f k rs) (allFrom (riseIn rs) 0 rs.length) := by
  have h := allScan (fun k i => impl_all_int64__impl_BetweenMarks_2.l0 k rs (rs.length : Int) (i : Int)) rs.length (riseIn rs) true (Ev.const fun k => by
      simp only [impl_all_int64__impl_BetweenMarks_2.l0]
      rw [if_neg (by omega)]) (by
    intro i hi
    refine EvEq.now fun k => ?_
    simp only [impl_all_int64__impl_BetweenMarks_2.l0, impl_BetweenMarks_2.f, implIn_eq, Option.bind_some]
    rw [if_pos (by omega), if_pos (by omega), if_pos (by omega), wnext hi (by omega)]
    rfl) 0 (by omega)
  rw [Bool.and_true] at h
  exact h
theorem implSizes_ev (ss : List Int) (hn : ss.length ≤ 1048576) : Ev (fun k => impl_all_int64__impl_BetweenMarks_3.f k ss) (allFrom (sizeIn ss) 0 ss.length) := by
  have h := allScan (fun k i => impl_all_int64__impl_BetweenMarks_3.l0 k ss (ss.length : Int) (i : Int)) ss.length (sizeIn ss) true (Ev.const fun k => by
      simp only [impl_all_int64__impl_BetweenMarks_3.l0]
      rw [if_neg (by omega)]) (by
    intro i hi
    refine EvEq.now fun k => ?_
    simp only [impl_all_int64__impl_BetweenMarks_3.l0, impl_BetweenMarks_3.f, implIn_eq, Option.bind_some]
    rw [if_pos (by omega), if_pos (by omega), if_pos (by omega), wnext hi (by omega)]
    rfl) 0 (by omega)
  rw [Bool.and_true] at h
  exact h
theorem implTold_ev (a b : Int) (rs ss : List Int) (hs : rs.length ≤ 1048576) : Ev (fun k => impl_BetweenMarks.f k a b rs ss) (told a b rs ss) := by
  unfold impl_BetweenMarks.f
  simp only [impl_BetweenMarks_1.f, impl_size_int64.f, implIn_eq, Option.bind_some]
  refine Ev.ite (fun c1 => Ev.ite (fun c2 => Ev.ite (fun c3 => Ev.ite (fun c4 => ?_) (fun c4 => implJ_ev _ ?_)) (fun c3 => implJ_ev _ ?_)) (fun c2 => implJ_ev _ ?_)) (fun c1 => implJ_ev _ ?_)
  · have hh : head a b rs ss = true := by
      unfold head markIn
      rw [c1, c2, c3, decide_eq_true c4]; rfl
    refine Ev.bindE (implRises_ev rs hs) (Ev.ite (fun c5 => Ev.bindE (implSizes_ev ss (by omega)) (implJ_ev _ ?_)) (fun c5 => implJ_ev _ ?_))
    · have e : allFrom (both rs ss) 0 rs.length = allFrom (sizeIn ss) 0 ss.length := by
        have := all_two (riseIn rs) (sizeIn ss) rs.length
        rw [c5, Bool.true_and] at this
        rw [show ss.length = rs.length by omega, this]
        rfl
      rw [hh, Bool.true_and, e]
    · have e : allFrom (both rs ss) 0 rs.length = false := by
        have := all_two (riseIn rs) (sizeIn ss) rs.length
        rw [Bool.eq_false_iff.2 c5, Bool.false_and] at this
        exact this.symm
      rw [e, Bool.and_false]; rfl
  · unfold head markIn; rw [c1, c2, c3, decide_eq_false c4]; rfl
  · unfold head markIn; rw [c1, c2, Bool.eq_false_iff.2 c3]; rfl
  · unfold head markIn; rw [c1, Bool.eq_false_iff.2 c2]; rfl
  · unfold head markIn; rw [Bool.eq_false_iff.2 c1]; rfl
theorem told_len (a b : Int) (rs ss : List Int) (hs : rs.length ≤ 1048576) : (told a b rs ss).1.length ≤ 1048576 := by
  unfold told
  split
  · simp only [heights, upto_len, shut, closed_len]; exact hs
  · simp
end
theorem FnExactBetweenMarks : Say.FnExactBetweenMarks := by
  intro a b rs ss ha hb hrs hss
  refine Ev.rounds ?_
  unfold laws_FnExactBetweenMarks.f
  refine Ev.ite (fun _ => Ev.const fun _ => rfl) (fun hx => Ev.ite (fun _ => Ev.const fun _ => rfl) (fun hy => ?_))
  have hx' : szv_Int64S rs ≤ 1048576 := by unfold szv_Int64S; omega
  have hy' : szv_Int64S ss ≤ 1048576 := by unfold szv_Int64S; omega
  have tx := to_Int64S rs hx'
  have fx := fitc_Int64S rs hx'
  have ty := to_Int64S ss hy'
  have fy := fitc_Int64S ss hy'
  have sp := specTold_ev a b rs ss (by omega)
  have im := implTold_ev a b rs ss (by omega)
  have hr := told_len a b rs ss (by omega)
  have ge := eq_Int64S _ (fitc_Int64S (told a b rs ss).1 (by unfold szv_Int64S; omega))
  have m1 := markInts_ev rs 1 (by omega) (by omega) (by omega)
  have m2 := markInts_ev ss (1 + (rs.length : Int)) (by omega) (by omega) (by omega)
  refine Ev.bindE tx (Ev.bindE ty (Ev.bindE sp (Ev.bindE tx (Ev.bindE ty (Ev.bindE im (Ev.bindE ge (Ev.ifPos rfl ?_)))))))
  simp only [bne_self_eq_false]
  refine Ev.up (g := fun k => laws_FnExactBetweenMarks.j0 k a b rs ss (told a b rs ss).1 (told a b rs ss).2 rs ss (told a b rs ss).1 (told a b rs ss).2 false) ?_
  simp only [laws_FnExactBetweenMarks.j0]
  refine Ev.ifNeg (by simp) (Ev.bindE tx (Ev.bindE (eq_Int64S _ fx) (Ev.ifPos rfl (Ev.bindE ty (Ev.bindE (eq_Int64S _ fy) (Ev.ifPos rfl (Ev.bindE m1 (Ev.bindE m2 (Ev.ifNeg (by simp only; omega) (Ev.bindE ge (Ev.ifPos rfl ?_)))))))))))
  simp only [bne_self_eq_false]
  refine Ev.up (g := fun k => laws_FnExactBetweenMarks.j1 k a b rs ss (told a b rs ss).1 (told a b rs ss).2 (told a b rs ss).1 false) ?_
  simp only [laws_FnExactBetweenMarks.j1]
  have mg := markInts_ev (told a b rs ss).1 1 hr (by omega) (by omega)
  have hg := heldInts_ev (told a b rs ss).1 1 hr (by omega) (by omega)
  refine Ev.ifNeg (by simp) (Ev.bindE mg (Ev.bindE hg (Ev.ifNeg (by omega) (Ev.ifPos rfl (Ev.bindE tx (Ev.bindE ty (Ev.bindE im (Ev.bindE ge (Ev.ifPos rfl ?_)))))))))
  simp only [bne_self_eq_false]
  refine Ev.up (g := fun k => laws_FnExactBetweenMarks.j2 k (mi (told a b rs ss).1 1) (1 + ((told a b rs ss).1.length : Int)) false) ?_
  simp only [laws_FnExactBetweenMarks.j2]
  exact Ev.ifNeg (by simp) (Ev.bindE hg (Ev.ifNeg (by omega) (Ev.ifPos rfl (Ev.const fun _ => rfl))))
end Go.Proofs.Ytppfdndnojbmjaa.Pure

/-! ## LawFnExactBetweenMarks -/
/- FnExactBetweenMarks: the law's row, out of its plain statement and the walks. -/
namespace Go.Proofs.Ytppfdndnojbmjaa.fnExactBetweenMarks
open Go.ChangeShapes Go.WideShapes Go.ChangeAt Go.RowKit Go.Proofs.Ytppfdndnojbmjaa.X
open Go.ChangeMaps (open_string shut_string)
theorem own : ownKnob Try.prog.godebug = none := by kernel_rfl
theorem laidOut : laidOutB Try.prog = true := by kernel_rfl
open Go.Proofs.YtppfdndnojbmjaaW.PrintWords in
theorem reader2 : Rdr.Reads Try.prog 30 (Kd.slice 2 (Kd.int .i64)) (Rdr.Lst Rdr.I64) := (Rdr.reads_slice Try.underlying30 (by kernel_rfl) (Rdr.reads_i64 Try.underlying2 (by kernel_rfl)))
open Go.Proofs.YtppfdndnojbmjaaW.PrintWords in
theorem reader3 : Rdr.Reads Try.prog 30 (Kd.slice 2 (Kd.int .i64)) (Rdr.Lst Rdr.I64) := (Rdr.reads_slice Try.underlying30 (by kernel_rfl) (Rdr.reads_i64 Try.underlying2 (by kernel_rfl)))
set_option maxRecDepth 100000 in
theorem lifted (os : Os) (started : os.Started) (H : Type) (enc : TypeId × Value → H) :
    ReturnsInHanded {} Try.checked os 8 .any (Rows.fnExactBetweenMarksSpec.pre6 enc Try.prog Try.f8 Rows.fnExactBetweenMarksRow.domain false) (Rows.fnExactBetweenMarksSpec.post enc Try.prog Try.f8 false true false false) := by
  refine returnsInHanded_of_change_sized (C := Try.checked) own started (by kernel_rfl) Try.func8
    (ChangeSpec.witness6 (enc := enc) (C := Try.checked) false ⟨#[], #[.int .i64 0, .int .i64 0, .slice none 0 0, .slice none 0 0], []⟩ 8 (by kernel_rfl) (by kernel_rfl) (by kernel_rfl) (by kernel_rfl)) ?_
  intro W base args ds gs before hval0 hW hcnd hsz0 _
  have hval : ∀ (j : Nat) t v, Try.f8.params[j]? = some t → args[j]? = some v → Value.okWide Try.prog W .any base t v := hval0
  have hW' := hW
  obtain ⟨p, q, hA0, hV, rfl, hfz, hnd⟩ := hW
  have hA : DataW.TrodAll enc Try.prog W 0 (fun _ => true) true Try.f8.params.toList args.toList ds p := hA0
  rw [Try.params8] at hA hval
  obtain ⟨v0, vs0, d0, ds0, p0, q0, hargs, rfl, rfl, h0, r0⟩ := trodAll_cons hA
  obtain ⟨v1, vs1, d1, ds1, p1, q1, rfl, rfl, rfl, h1, r1⟩ := trodAll_cons r0
  obtain ⟨v2, vs2, d2, ds2, p2, q2, rfl, rfl, rfl, h2, r2⟩ := trodAll_cons r1
  obtain ⟨v3, vs3, d3, ds3, p3, q3, rfl, rfl, rfl, h3, r3⟩ := trodAll_cons r2
  obtain ⟨rfl, rfl, rfl⟩ := trodAll_nil r3
  obtain rfl : args = #[v0, v1, v2, v3] := by cases args; simp_all
  obtain ⟨rfl, rfl⟩ := trodVars_none hV
  obtain ⟨a0, rfl, rfl, rfl, w0⟩ := open_int Try.underlying2 (hval 0 2 v0 rfl rfl) h0
  have y0 : Rdr.I64 a0 := bounds_i64 w0
  obtain ⟨a1, rfl, rfl, rfl, w1⟩ := open_int Try.underlying2 (hval 1 2 v1 rfl rfl) h1
  have y1 : Rdr.I64 a1 := bounds_i64 w1
  have k2 := h2
  have lt2 : ∀ x ∈ p2, x.block < W.heap.size := by obtain ⟨m, hm⟩ := k2; exact DataW.trod_lt m _ _ _ hm
  obtain ⟨fuel2, hf2⟩ := h2
  obtain ⟨x2, hK2, w2⟩ := reader2.read hf2
  obtain ⟨a2, len2, cap2, rfl⟩ := okWide_slice Try.underlying30 (hval 2 30 v2 rfl rfl)
  obtain ⟨A2, c2, hcs2, hl2, hC2⟩ := hK2
  simp [Value.cells] at hcs2
  obtain ⟨rfl, rfl, rfl⟩ := hcs2
  have k3 := h3
  have lt3 : ∀ x ∈ p3, x.block < W.heap.size := by obtain ⟨m, hm⟩ := k3; exact DataW.trod_lt m _ _ _ hm
  obtain ⟨fuel3, hf3⟩ := h3
  obtain ⟨x3, hK3, w3⟩ := reader3.read hf3
  obtain ⟨a3, len3, cap3, rfl⟩ := okWide_slice Try.underlying30 (hval 3 30 v3 rfl rfl)
  obtain ⟨A3, c3, hcs3, hl3, hC3⟩ := hK3
  simp [Value.cells] at hcs3
  obtain ⟨rfl, rfl, rfl⟩ := hcs3
  clear hA0 hval0 hsz0
  obtain ⟨k, h⟩ := Pure.FnExactBetweenMarks a0 a1 x2 x3 y0 y1 w2 w3
  refine (laws_FnExactBetweenMarks.calls k a0 a1 _ _ x2 _ _ x3 true W hC2 hl2 hC3 hl3 ⟨rfl⟩ h).mono fun e W' ⟨he, hd⟩ => ?_
  have bel : Below W.heap.size W W' := hd
  subst he
  exact ⟨_, rfl, _, _, _, [], _, [], hW', trodAll_mk1 (shut_bool Try.underlying4 _), (trodAll_cons_mk (shut_int Try.underlying2 w0) (trodAll_cons_mk (shut_int Try.underlying2 w1) (trodAll_cons_mk (Below.trod laidOut (by kernel_rfl) (of_decide_eq_true (by kernel_rfl)) k2 bel lt2) (trodAll_cons_mk (Below.trod laidOut (by kernel_rfl) (of_decide_eq_true (by kernel_rfl)) k3 bel lt3) trodAll_mk0)))), rfl, bel.frame _, fun h => by cases h⟩
theorem over : Rows.fnExactBetweenMarksRow.holds Try.pinned (OpenSpec.ofChange Rows.fnExactBetweenMarksSpec) :=
  OpenClaim.holds_of_wide 8 Try.f8 rfl rfl rfl rfl rfl rfl rfl ⟨rfl, rfl, rfl, rfl, rfl⟩ rfl rfl rfl rfl rfl (by kernel_rfl) Try.func8 (by kernel_rfl)
    (of_decide_eq_true (by kernel_rfl)) (by unfold Func.isWrapper; first | (rw [if_pos (by decide +kernel)]; kernel_rfl) | (rw [if_neg (by decide +kernel)]; exact ⟨rfl, rfl⟩))
    (fun os started H enc _ => lifted os started H enc)
theorem proved : Rows.FnExactBetweenMarksSaid := over
end Go.Proofs.Ytppfdndnojbmjaa.fnExactBetweenMarks
namespace Go.Proofs.Ytppfdndnojbmjaa
/-- The row, under a short name, for the claim. -/
theorem fnExactBetweenMarks_holds : Rows.FnExactBetweenMarksSaid := fnExactBetweenMarks.proved
end Go.Proofs.Ytppfdndnojbmjaa
