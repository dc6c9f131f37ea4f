/- The plain law of MandatesByRemainders: both share the mandates out by the greatest remainders, or tell the same fault; the votes are left as they are, and the answer shares nothing with them. For all rows of at most 1048576 votes (the law says nothing of longer ones). -/
import Derived.Test.YtoklpimhcdfbbaaZFnExactMandatesByRemainders0
import Derived.Test.YtoklpimhcdfbbaaZFnExactMandatesByRemainders1
import Derived.Deep.Slices
import Derived.ChangeArms
import Derived.ProofKit
import Derived.OpenShut
import Derived.Test.YtoklpimhcdfbbaaRows
import Derived.WalkKit
import Derived.ShutString
import Derived.ChangeOld
import Derived.Below
import Derived.SizedLaws
set_option linter.unusedVariables false
set_option linter.unusedSimpArgs false

/-! ## XLawsFnExactMandatesByRemainders -/
namespace Go.Proofs.Ytoklpimhcdfbbaa.X
open Go.RowKit Go.Proofs.Ytoklpimhcdfbbaa.XV Go.Proofs.YtoklpimhcdfbbaaW.PrintWords Go.Proofs.YtoklpimhcdfbbaaW.PrintLast Go.Proofs.YtoklpimhcdfbbaaW.PrintMore
attribute [local go_sem] max2_int min2_int max_two min_two max_three min_three max_four min_four

/-! ### laws_FnExactMandatesByRemainders: function 7 -/
mutual
def laws_FnExactMandatesByRemainders.j0 : Nat → List Int → Int → List Int → Int → List Int → List Int → Int → Bool → Option (Bool)
 | 0, _, _, _, _, _, _, _, _ => none
 | k + 1, x0, x1, x5, x6, x7, x8, x9, x41 => if x41 = true then (some false) else ((laws_toInt64S.f k x0).bind fun t211 => ((laws_eqInt64S.f k x7 t211).bind fun t214 => (if t214 = true then ((laws_markInt64S.f k x7 1).bind fun bt215 => (if bt215.1 < 0 then (some false) else ((laws_eqInt64S.f k x8 x5).bind fun t217 => (if t217 = true then (laws_FnExactMandatesByRemainders.j1 k x0 x1 x5 x6 x8 (x9 != x6)) else (some false))))) else (some false))))
def laws_FnExactMandatesByRemainders.j1 : Nat → List Int → Int → List Int → Int → List Int → Bool → Option (Bool)
 | 0, _, _, _, _, _, _ => none
 | k + 1, x0, x1, x5, x6, x8, x62 => if x62 = true then (some false) else ((laws_markInt64S.f k x8 1).bind fun bt218 => ((laws_heldInt64S.f k bt218.2 1).bind fun t220 => (if t220 < 0 then (some false) else (if t220 = bt218.1 then ((laws_toInt64S.f k x0).bind fun t221 => ((impl_MandatesByRemainders.f k t221 x1).bind fun bt224 => ((laws_eqInt64S.f k bt224.1 x5).bind fun t228 => (if t228 = true then (laws_FnExactMandatesByRemainders.j2 k bt218.2 bt218.1 (bt224.2 != x6)) else (some false))))) else (some false)))))
def laws_FnExactMandatesByRemainders.j2 : Nat → List Int → Int → Bool → Option (Bool)
 | 0, _, _, _ => none
 | k + 1, x8, x11, x89 => if x89 = true then (some false) else ((laws_heldInt64S.f k x8 1).bind fun t229 => (if t229 < 0 then (some false) else (if t229 = x11 then (some true) else (some false))))
end
def laws_FnExactMandatesByRemainders.f (k : Nat) (l0 : List Int) (a1 : Int) : Option (Bool) := if (l0.length : Int) > 1048576 then (some true) else ((laws_toInt64S.f k l0).bind fun t196 => ((spec_MandatesByRemainders.f k t196 a1).bind fun bt199 => ((laws_toInt64S.f k l0).bind fun t203 => ((impl_MandatesByRemainders.f k t203 a1).bind fun bt206 => ((laws_eqInt64S.f k bt206.1 bt199.1).bind fun t210 => (if t210 = true then (laws_FnExactMandatesByRemainders.j0 k l0 a1 bt199.1 bt199.2 t203 bt206.1 bt206.2 (bt206.2 != bt199.2)) else (some false)))))))
theorem laws_FnExactMandatesByRemainders.mono_l : ∀ k, (∀ y0 y1 y2 y3 y4 y5 y6 y7, LeO (laws_FnExactMandatesByRemainders.j0 k y0 y1 y2 y3 y4 y5 y6 y7) (laws_FnExactMandatesByRemainders.j0 (k + 1) y0 y1 y2 y3 y4 y5 y6 y7)) ∧ (∀ y0 y1 y2 y3 y4 y5, LeO (laws_FnExactMandatesByRemainders.j1 k y0 y1 y2 y3 y4 y5) (laws_FnExactMandatesByRemainders.j1 (k + 1) y0 y1 y2 y3 y4 y5)) ∧ (∀ y0 y1 y2, LeO (laws_FnExactMandatesByRemainders.j2 k y0 y1 y2) (laws_FnExactMandatesByRemainders.j2 (k + 1) y0 y1 y2))
 | 0 => ⟨fun _ _ _ _ _ _ _ _ r h => by simp [laws_FnExactMandatesByRemainders.j0] at h, fun _ _ _ _ _ _ r h => by simp [laws_FnExactMandatesByRemainders.j1] at h, fun _ _ _ r h => by simp [laws_FnExactMandatesByRemainders.j2] at h⟩
 | k + 1 => by
  obtain ⟨ih0, ih1, ih2⟩ := laws_FnExactMandatesByRemainders.mono_l k
  refine ⟨?_, ?_, ?_⟩
  ·intro y0 y1 y2 y3 y4 y5 y6 y7
   unfold laws_FnExactMandatesByRemainders.j0
   repeat' first
   | (with_reducible exact ih0 _ _ _ _ _ _ _ _)
   | (with_reducible exact ih1 _ _ _ _ _ _)
   | (with_reducible exact ih2 _ _ _)
   | (with_reducible exact impl_MandatesByRemainders.mono _ _ _)
   | (with_reducible exact laws_eqInt64S.mono _ _ _)
   | (with_reducible exact laws_heldInt64S.mono _ _ _)
   | (with_reducible exact laws_markInt64S.mono _ _ _)
   | (with_reducible exact laws_toInt64S.mono _ _)
   | (with_reducible exact spec_MandatesByRemainders.mono _ _ _)
   | (with_reducible exact LeO.refl _)
   | (with_reducible exact LeO.none _)
   | (with_reducible refine LeO.ite ?_ ?_)
   | (with_reducible refine LeO.bind ?_ (fun _ => ?_))
   | exact ih0 _ _ _ _ _ _ _ _
   | exact ih1 _ _ _ _ _ _
   | exact ih2 _ _ _
   | exact impl_MandatesByRemainders.mono _ _ _
   | exact laws_eqInt64S.mono _ _ _
   | exact laws_heldInt64S.mono _ _ _
   | exact laws_markInt64S.mono _ _ _
   | exact laws_toInt64S.mono _ _
   | exact spec_MandatesByRemainders.mono _ _ _
   | exact LeO.none _
   | refine LeO.ite ?_ ?_
   | refine LeO.bind ?_ (fun _ => ?_)
  ·intro y0 y1 y2 y3 y4 y5
   unfold laws_FnExactMandatesByRemainders.j1
   repeat' first
   | (with_reducible exact ih0 _ _ _ _ _ _ _ _)
   | (with_reducible exact ih1 _ _ _ _ _ _)
   | (with_reducible exact ih2 _ _ _)
   | (with_reducible exact impl_MandatesByRemainders.mono _ _ _)
   | (with_reducible exact laws_eqInt64S.mono _ _ _)
   | (with_reducible exact laws_heldInt64S.mono _ _ _)
   | (with_reducible exact laws_markInt64S.mono _ _ _)
   | (with_reducible exact laws_toInt64S.mono _ _)
   | (with_reducible exact spec_MandatesByRemainders.mono _ _ _)
   | (with_reducible exact LeO.refl _)
   | (with_reducible exact LeO.none _)
   | (with_reducible refine LeO.ite ?_ ?_)
   | (with_reducible refine LeO.bind ?_ (fun _ => ?_))
   | exact ih0 _ _ _ _ _ _ _ _
   | exact ih1 _ _ _ _ _ _
   | exact ih2 _ _ _
   | exact impl_MandatesByRemainders.mono _ _ _
   | exact laws_eqInt64S.mono _ _ _
   | exact laws_heldInt64S.mono _ _ _
   | exact laws_markInt64S.mono _ _ _
   | exact laws_toInt64S.mono _ _
   | exact spec_MandatesByRemainders.mono _ _ _
   | exact LeO.none _
   | refine LeO.ite ?_ ?_
   | refine LeO.bind ?_ (fun _ => ?_)
  ·intro y0 y1 y2
   unfold laws_FnExactMandatesByRemainders.j2
   repeat' first
   | (with_reducible exact ih0 _ _ _ _ _ _ _ _)
   | (with_reducible exact ih1 _ _ _ _ _ _)
   | (with_reducible exact ih2 _ _ _)
   | (with_reducible exact impl_MandatesByRemainders.mono _ _ _)
   | (with_reducible exact laws_eqInt64S.mono _ _ _)
   | (with_reducible exact laws_heldInt64S.mono _ _ _)
   | (with_reducible exact laws_markInt64S.mono _ _ _)
   | (with_reducible exact laws_toInt64S.mono _ _)
   | (with_reducible exact spec_MandatesByRemainders.mono _ _ _)
   | (with_reducible exact LeO.refl _)
   | (with_reducible exact LeO.none _)
   | (with_reducible refine LeO.ite ?_ ?_)
   | (with_reducible refine LeO.bind ?_ (fun _ => ?_))
   | exact ih0 _ _ _ _ _ _ _ _
   | exact ih1 _ _ _ _ _ _
   | exact ih2 _ _ _
   | exact impl_MandatesByRemainders.mono _ _ _
   | exact laws_eqInt64S.mono _ _ _
   | exact laws_heldInt64S.mono _ _ _
   | exact laws_markInt64S.mono _ _ _
   | exact laws_toInt64S.mono _ _
   | exact spec_MandatesByRemainders.mono _ _ _
   | exact LeO.none _
   | refine LeO.ite ?_ ?_
   | refine LeO.bind ?_ (fun _ => ?_)
theorem laws_FnExactMandatesByRemainders.mono : ∀ a0 a1 k, LeO (laws_FnExactMandatesByRemainders.f k a0 a1) (laws_FnExactMandatesByRemainders.f (k + 1) a0 a1) := by
 intro a0 a1 k
 obtain ⟨ih0, ih1, ih2⟩ := laws_FnExactMandatesByRemainders.mono_l k
 unfold laws_FnExactMandatesByRemainders.f
 repeat' first
   | (with_reducible exact ih0 _ _ _ _ _ _ _ _)
   | (with_reducible exact ih1 _ _ _ _ _ _)
   | (with_reducible exact ih2 _ _ _)
   | (with_reducible exact impl_MandatesByRemainders.mono _ _ _)
   | (with_reducible exact laws_eqInt64S.mono _ _ _)
   | (with_reducible exact laws_heldInt64S.mono _ _ _)
   | (with_reducible exact laws_markInt64S.mono _ _ _)
   | (with_reducible exact laws_toInt64S.mono _ _)
   | (with_reducible exact spec_MandatesByRemainders.mono _ _ _)
   | (with_reducible exact LeO.refl _)
   | (with_reducible exact LeO.none _)
   | (with_reducible refine LeO.ite ?_ ?_)
   | (with_reducible refine LeO.bind ?_ (fun _ => ?_))
   | exact ih0 _ _ _ _ _ _ _ _
   | exact ih1 _ _ _ _ _ _
   | exact ih2 _ _ _
   | exact impl_MandatesByRemainders.mono _ _ _
   | exact laws_eqInt64S.mono _ _ _
   | exact laws_heldInt64S.mono _ _ _
   | exact laws_markInt64S.mono _ _ _
   | exact laws_toInt64S.mono _ _
   | exact spec_MandatesByRemainders.mono _ _ _
   | exact LeO.none _
   | refine LeO.ite ?_ ?_
   | refine LeO.bind ?_ (fun _ => ?_)
set_option maxHeartbeats 8000000 in
set_option maxRecDepth 100000 in
theorem laws_FnExactMandatesByRemainders.calls (k : Nat) (A0 : Option Addr) (c0 : Nat) (l0 : List Int) (a1 : Int) (r : Bool) (w : World) (hr0 : Kd.C (Kd.int .i64) w A0 l0.length l0) (hc0 : l0.length ≤ c0) (hr_ : Aside0 (r = true)) (h : laws_FnExactMandatesByRemainders.f k l0 a1 = some r) :
  Calls Try.prog 7 #[.slice A0 l0.length c0, .int .i64 a1] w fun e w' => e = .returned (.bool r) ∧ Below w.heap.size w w' := by
 have HR0 := Aside0.mk hr0
 have HC0 := Aside0.mk hc0
 clear hr0 hc0
 have HB := Aside0.mk (Below.refl w.heap.size w)
 have H : (if (l0.length : Int) > 1048576 then (some true) else ((laws_toInt64S.f k l0).bind fun t196 => ((spec_MandatesByRemainders.f k t196 a1).bind fun bt199 => ((laws_toInt64S.f k l0).bind fun t203 => ((impl_MandatesByRemainders.f k t203 a1).bind fun bt206 => ((laws_eqInt64S.f k bt206.1 bt199.1).bind fun t210 => (if t210 = true then (laws_FnExactMandatesByRemainders.j0 k l0 a1 bt199.1 bt199.2 t203 bt206.1 bt206.2 (bt206.2 != bt199.2)) else (some false)))))))) = some r := h
 clear h
 by_cases c3 : (l0.length : Int) > 1048576
 ·rw [if_pos c3] at H
  have c3b0 : decide (1048576 < (l0.length : Int)) = true := decide_eq_true c3
  have c3b1 : decide (1048576 < l0.length) = true := decide_eq_true (by omega)
  clear c3
  obtain rfl := Option.some.inj H
  go_enter Try.func7, Try.ntmps7
  go_wp2
  go_ret
  exact ⟨by first | rfl | (simp [errW_none, errW_some] <;> rfl) | (simp [*, errW_none, errW_some] <;> rfl), by repeat (first | (with_reducible first | exact HB.out | apply below_alloc | apply pw_below_drewN | apply below_drew1) | exact HB.out)⟩
 ·rw [if_neg c3] at H
  have c3b0 : decide (1048576 < (l0.length : Int)) = false := decide_eq_false c3
  have c3b1 : decide (1048576 < l0.length) = false := decide_eq_false (by omega)
  clear c3
  replace H := Option.bind_eq_some_iff.mp H
  obtain ⟨t196, A40, H⟩ := H
  replace H : ((spec_MandatesByRemainders.f k t196 a1).bind fun bt199 => ((laws_toInt64S.f k l0).bind fun t203 => ((impl_MandatesByRemainders.f k t203 a1).bind fun bt206 => ((laws_eqInt64S.f k bt206.1 bt199.1).bind fun t210 => (if t210 = true then (laws_FnExactMandatesByRemainders.j0 k l0 a1 bt199.1 bt199.2 t203 bt206.1 bt206.2 (bt206.2 != bt199.2)) else (some false)))))) = some r := H
  have A4 := Aside0.mk A40
  clear A40
  replace H := Option.bind_eq_some_iff.mp H
  obtain ⟨⟨t199, t200⟩, A50, H⟩ := H
  replace H : ((laws_toInt64S.f k l0).bind fun t203 => ((impl_MandatesByRemainders.f k t203 a1).bind fun bt206 => ((laws_eqInt64S.f k bt206.1 t199).bind fun t210 => (if t210 = true then (laws_FnExactMandatesByRemainders.j0 k l0 a1 t199 t200 t203 bt206.1 bt206.2 (bt206.2 != t200)) else (some false))))) = some r := H
  have A5 := Aside0.mk A50
  clear A50
  replace H := Option.bind_eq_some_iff.mp H
  obtain ⟨t203, A60, H⟩ := H
  replace H : ((impl_MandatesByRemainders.f k t203 a1).bind fun bt206 => ((laws_eqInt64S.f k bt206.1 t199).bind fun t210 => (if t210 = true then (laws_FnExactMandatesByRemainders.j0 k l0 a1 t199 t200 t203 bt206.1 bt206.2 (bt206.2 != t200)) else (some false)))) = some r := H
  have A6 := Aside0.mk A60
  clear A60
  replace H := Option.bind_eq_some_iff.mp H
  obtain ⟨⟨t206, t207⟩, A70, H⟩ := H
  replace H : ((laws_eqInt64S.f k t206 t199).bind fun t210 => (if t210 = true then (laws_FnExactMandatesByRemainders.j0 k l0 a1 t199 t200 t203 t206 t207 (t207 != t200)) else (some false))) = some r := H
  have A7 := Aside0.mk A70
  clear A70
  have HC8 := Aside0.mk H
  clear H
  go_enter Try.func7, Try.ntmps7
  go_upto_region 6 with (first | ((with_reducible refine gate_callee (f := 21) rfl ?_); refine goesL_ (some 20) rfl rfl Try.func21 (by kernel_rfl) rfl #[.slice A0 l0.length c0] rfl (by (try simp only [List.map_toArray, List.map_cons, List.map_nil]); first | done | rfl | (simp only [List.length_drop, List.length_take]; rfl)) ?_; (with_reducible refine (laws_toInt64S.calls k _ _ l0 t196 _ ?side1 ?side2 A4.out).mono ?_); (case side1 => repeat (first | exact HR0.out | (with_reducible refine Kd.C_alloc ?_ _) | (with_reducible refine Kd.C_drewN ?_ _) | (with_reducible refine Kd.C_drew ?_))); (case side2 => exact HC0.out); rintro e w9 ⟨v197, rfl, ho0, hb⟩; refine ⟨_, rfl, ?_⟩; have n0_ := Aside0.mk (Kd.R_lower ho0 (below_size (by repeat (first | (with_reducible first | exact HB.out | apply below_alloc | apply pw_below_drewN | apply below_drew1) | exact HB.out)))); have n1_ := Aside0.mk (below_step (by repeat (first | (with_reducible first | exact HB.out | apply below_alloc | apply pw_below_drewN | apply below_drew1) | exact HB.out)) hb); clear HB; have HO198 := n0_; have HB := n1_; clear n0_ n1_; (try clear hb); (try clear hb2); (try clear hk); (try clear hi); (try clear ho0); obtain ⟨Ao10, co10, eo10⟩ := Kd.R_slice HO198.out; subst eo10) | ((with_reducible refine gate_callee (f := 31) rfl ?_); refine goesL_ (some 22) rfl rfl Try.func31 (by kernel_rfl) rfl #[.slice Ao10 t196.length co10, .int .i64 a1] rfl (by (try simp only [List.map_toArray, List.map_cons, List.map_nil]); first | done | rfl | (simp only [List.length_drop, List.length_take]; rfl)) ?_; (with_reducible refine (spec_MandatesByRemainders.calls k _ _ t196 a1 t199 t200 _ ?side1 ?side2 A5.out).mono ?_); (case side1 => repeat (first | exact (Kd.R_reads' HO198.out).2.2 | (with_reducible refine Kd.C_alloc ?_ _) | (with_reducible refine Kd.C_drewN ?_ _) | (with_reducible refine Kd.C_drew ?_))); (case side2 => exact (Kd.R_reads' HO198.out).2.1); rintro e w11 ⟨v201, rfl, ho0, hb⟩; refine ⟨_, rfl, ?_⟩; have n0_ := Aside0.mk (Kd.R_elder' (by (with_reducible repeat (first | apply Kd.R_alloc | apply Kd.R_drewN | apply Kd.R_drew)); exact HO198.out) (Kd.R_base ho0) hb); have n1_ := Aside0.mk (Kd.R_lower (Kd.R_new' ho0 (Kd.R_lt (by (with_reducible repeat (first | apply Kd.R_alloc | apply Kd.R_drewN | apply Kd.R_drew)); exact HO198.out))) (below_size (by repeat (first | (with_reducible first | exact HB.out | apply below_alloc | apply pw_below_drewN | apply below_drew1) | exact HB.out)))); have n2_ := Aside0.mk (below_step (by repeat (first | (with_reducible first | exact HB.out | apply below_alloc | apply pw_below_drewN | apply below_drew1) | exact HB.out)) hb); clear HO198; clear HB; have HO198 := n0_; have HO202 := n1_; have HB := n2_; clear n0_ n1_ n2_; (try clear hb); (try clear hb2); (try clear hk); (try clear hi); (try clear ho0)) | ((with_reducible refine gate_callee (f := 21) rfl ?_); refine goesL_ (some 26) rfl rfl Try.func21 (by kernel_rfl) rfl #[.slice A0 l0.length c0] rfl (by (try simp only [List.map_toArray, List.map_cons, List.map_nil]); first | done | rfl | (simp only [List.length_drop, List.length_take]; rfl)) ?_; (with_reducible refine (laws_toInt64S.calls k _ _ l0 t203 _ ?side1 ?side2 A6.out).mono ?_); (case side1 => repeat (first | exact (Kd.C_below HR0.out HB.out) | (with_reducible refine Kd.C_alloc ?_ _) | (with_reducible refine Kd.C_drewN ?_ _) | (with_reducible refine Kd.C_drew ?_))); (case side2 => exact HC0.out); rintro e w12 ⟨v204, rfl, ho0, hb⟩; refine ⟨_, rfl, ?_⟩; have n0_ := Aside0.mk (Kd.R_elder' (by (with_reducible repeat (first | apply Kd.R_alloc | apply Kd.R_drewN | apply Kd.R_drew)); exact HO198.out) (Kd.R_base ho0) hb); have n1_ := Aside0.mk (Kd.R_elder' (by (with_reducible repeat (first | apply Kd.R_alloc | apply Kd.R_drewN | apply Kd.R_drew)); exact HO202.out) (Kd.R_base ho0) hb); have n2_ := Aside0.mk (Kd.R_lower (Kd.R_new' (Kd.R_new' ho0 (Kd.R_lt (by (with_reducible repeat (first | apply Kd.R_alloc | apply Kd.R_drewN | apply Kd.R_drew)); exact HO198.out))) (Kd.R_lt (by (with_reducible repeat (first | apply Kd.R_alloc | apply Kd.R_drewN | apply Kd.R_drew)); exact HO202.out))) (below_size (by repeat (first | (with_reducible first | exact HB.out | apply below_alloc | apply pw_below_drewN | apply below_drew1) | exact HB.out)))); have n3_ := Aside0.mk (below_step (by repeat (first | (with_reducible first | exact HB.out | apply below_alloc | apply pw_below_drewN | apply below_drew1) | exact HB.out)) hb); clear HO198; clear HO202; clear HB; have HO198 := n0_; have HO202 := n1_; have HO205 := n2_; have HB := n3_; clear n0_ n1_ n2_ n3_; (try clear hb); (try clear hb2); (try clear hk); (try clear hi); (try clear ho0); obtain ⟨Ao13, co13, eo13⟩ := Kd.R_slice HO205.out; subst eo13) | ((with_reducible refine gate_callee (f := 14) rfl ?_); refine goesL_ (some 30) rfl rfl Try.func14 (by kernel_rfl) rfl #[.slice Ao13 t203.length co13, .int .i64 a1] rfl (by (try simp only [List.map_toArray, List.map_cons, List.map_nil]); first | done | rfl | (simp only [List.length_drop, List.length_take]; rfl)) ?_; (with_reducible refine (impl_MandatesByRemainders.calls k _ _ t203 a1 t206 t207 _ ?side1 ?side2 A7.out).mono ?_); (case side1 => repeat (first | exact (Kd.R_reads' HO205.out).2.2 | (with_reducible refine Kd.C_alloc ?_ _) | (with_reducible refine Kd.C_drewN ?_ _) | (with_reducible refine Kd.C_drew ?_))); (case side2 => exact (Kd.R_reads' HO205.out).2.1); rintro e w14 ⟨v208, rfl, ho0, hb⟩; refine ⟨_, rfl, ?_⟩; have n0_ := Aside0.mk (Kd.R_elder' (by (with_reducible repeat (first | apply Kd.R_alloc | apply Kd.R_drewN | apply Kd.R_drew)); exact HO198.out) (Kd.R_base ho0) hb); have n1_ := Aside0.mk (Kd.R_elder' (by (with_reducible repeat (first | apply Kd.R_alloc | apply Kd.R_drewN | apply Kd.R_drew)); exact HO202.out) (Kd.R_base ho0) hb); have n2_ := Aside0.mk (Kd.R_elder' (by (with_reducible repeat (first | apply Kd.R_alloc | apply Kd.R_drewN | apply Kd.R_drew)); exact HO205.out) (Kd.R_base ho0) hb); have n3_ := Aside0.mk (Kd.R_lower (Kd.R_new' (Kd.R_new' (Kd.R_new' ho0 (Kd.R_lt (by (with_reducible repeat (first | apply Kd.R_alloc | apply Kd.R_drewN | apply Kd.R_drew)); exact HO198.out))) (Kd.R_lt (by (with_reducible repeat (first | apply Kd.R_alloc | apply Kd.R_drewN | apply Kd.R_drew)); exact HO202.out))) (Kd.R_lt (by (with_reducible repeat (first | apply Kd.R_alloc | apply Kd.R_drewN | apply Kd.R_drew)); exact HO205.out))) (below_size (by repeat (first | (with_reducible first | exact HB.out | apply below_alloc | apply pw_below_drewN | apply below_drew1) | exact HB.out)))); have n4_ := Aside0.mk (below_step (by repeat (first | (with_reducible first | exact HB.out | apply below_alloc | apply pw_below_drewN | apply below_drew1) | exact HB.out)) hb); clear HO198; clear HO202; clear HO205; clear HB; have HO198 := n0_; have HO202 := n1_; have HO205 := n2_; have HO209 := n3_; have HB := n4_; clear n0_ n1_ n2_ n3_ n4_; (try clear hb); (try clear hb2); (try clear hk); (try clear hi); (try clear ho0)))
  (try simp only [Act.put, List.setIfInBounds_toArray, List.set_cons_zero, List.set_cons_succ])
  go_cut [41] (fun v41 wc => ∃ (kq : Nat) (x41_7 : Bool), v41 = .bool x41_7 ∧ Aside0 (laws_FnExactMandatesByRemainders.j0 kq l0 a1 t199 t200 t203 t206 t207 x41_7 = some r) ∧ Aside0 (kq ≤ k) ∧ Aside0 (Kd.R (Kd.int .i64) 2 wc w.heap.size (fun k_ => some k_ ≠ ((.slice Ao13 t203.length co13) : Value).ownBlock ∧ some k_ ≠ (v208 : Value).ownBlock) v201 t199) ∧ Aside0 (Kd.R (Kd.int .i64) 2 wc w.heap.size (fun k_ => some k_ ≠ (v201 : Value).ownBlock ∧ some k_ ≠ (v208 : Value).ownBlock) (.slice Ao13 t203.length co13) t203) ∧ Aside0 (Kd.R (Kd.int .i64) 2 wc w.heap.size (fun k_ => some k_ ≠ (v201 : Value).ownBlock ∧ some k_ ≠ ((.slice Ao13 t203.length co13) : Value).ownBlock) v208 t206) ∧ Aside0 (Below w.heap.size w wc))
  case first =>
   have H := HC8.out
   clear HC8
   replace H := Option.bind_eq_some_iff.mp H
   obtain ⟨t210, A150, H⟩ := H
   replace H : (if t210 = true then (laws_FnExactMandatesByRemainders.j0 k l0 a1 t199 t200 t203 t206 t207 (t207 != t200)) else (some false)) = some r := H
   have A15 := Aside0.mk A150
   clear A150
   by_cases c16 : t210 = true
   ·subst c16
    have H1 : (laws_FnExactMandatesByRemainders.j0 k l0 a1 t199 t200 t203 t206 t207 (t207 != t200)) = some r := by rw [if_pos rfl] at H; exact H
    clear H
    have H := H1
    clear H1
    have H' := Aside0.mk H
    clear H
    obtain ⟨Ao17, co17, eo17⟩ := Kd.R_slice HO209.out
    subst eo17
    obtain ⟨Ao18, co18, eo18⟩ := Kd.R_slice HO202.out
    subst eo18
    go_wp2_with (first | ((with_reducible refine gate_callee (f := 23) rfl ?_); refine goesL_ (some 35) rfl rfl Try.func23 (by kernel_rfl) rfl #[.slice Ao17 t206.length co17, .slice Ao18 t199.length co18] rfl (by (try simp only [List.map_toArray, List.map_cons, List.map_nil]); first | done | rfl | (simp only [List.length_drop, List.length_take]; rfl)) ?_; (with_reducible refine (laws_eqInt64S.calls k _ _ t206 _ _ t199 true _ ?side1 ?side2 ?side3 ?side4 A15.out).mono ?_); (case side1 => repeat (first | exact (Kd.R_reads' HO209.out).2.2 | (with_reducible refine Kd.C_alloc ?_ _) | (with_reducible refine Kd.C_drewN ?_ _) | (with_reducible refine Kd.C_drew ?_))); (case side2 => exact (Kd.R_reads' HO209.out).2.1); (case side3 => repeat (first | exact (Kd.R_reads' HO202.out).2.2 | (with_reducible refine Kd.C_alloc ?_ _) | (with_reducible refine Kd.C_drewN ?_ _) | (with_reducible refine Kd.C_drew ?_))); (case side4 => exact (Kd.R_reads' HO202.out).2.1); rintro e w' ⟨rfl, ⟨nd, rfl⟩⟩; refine ⟨_, rfl, ?_⟩))
    go_meet
    case rel => exact ⟨_, ((t207 != t200)), (by first | rfl | (simp; done) | (simp [*]; done)), H', ⟨by first | omega | exact Nat.le_refl _⟩, ⟨by (with_reducible repeat (first | apply Kd.R_alloc | apply Kd.R_drewN | apply Kd.R_drew)); exact Kd.R_mono HO202.out (fun _ hk => ⟨hk.1.2, hk.2⟩)⟩, ⟨by (with_reducible repeat (first | apply Kd.R_alloc | apply Kd.R_drewN | apply Kd.R_drew)); exact Kd.R_mono HO205.out (fun _ hk => ⟨hk.1.2, hk.2⟩)⟩, ⟨by (with_reducible repeat (first | apply Kd.R_alloc | apply Kd.R_drewN | apply Kd.R_drew)); exact Kd.R_mono HO209.out (fun _ hk => ⟨hk.1.2, hk.2⟩)⟩, ⟨by repeat (first | (with_reducible first | exact HB.out | apply below_alloc | apply pw_below_drewN | apply below_drew1) | exact HB.out)⟩⟩
   ·replace c16 := Bool.eq_false_iff.mpr c16
    subst c16
    have H1 : (some false) = some r := by rw [if_neg (show ¬ (false = true) by decide)] at H; exact H
    clear H
    have H := H1
    clear H1
    exact absurd (Option.some.inj H) (by rw [hr_.out]; decide)
  case rest =>
   clear HC8
   try clear c1
   try clear c2
   try clear p2
   try clear c3
   try clear c3b0
   try clear c3b1
   try clear c7
   try clear c14
   try clear c16
   obtain ⟨kq, x41_7, rfl, HA, HJ7, HO_5, HO_7, HO_8, HB⟩ := hcut
   cases kq with
   | zero => exact absurd HA.out (by simp [laws_FnExactMandatesByRemainders.j0])
   | succ kj7 =>
    have H := HA.out
    clear HA
    simp only [laws_FnExactMandatesByRemainders.j0] at H
    by_cases c19 : x41_7 = true
    ·subst c19
     have H1 : (some false) = some r := by rw [if_pos rfl] at H; exact H
     clear H
     have H := H1
     clear H1
     exact absurd (Option.some.inj H) (by rw [hr_.out]; decide)
    ·replace c19 := Bool.eq_false_iff.mpr c19
     subst c19
     have H1 : ((laws_toInt64S.f kj7 l0).bind fun t211 => ((laws_eqInt64S.f kj7 t203 t211).bind fun t214 => (if t214 = true then ((laws_markInt64S.f kj7 t203 1).bind fun bt215 => (if bt215.1 < 0 then (some false) else ((laws_eqInt64S.f kj7 t206 t199).bind fun t217 => (if t217 = true then (laws_FnExactMandatesByRemainders.j1 kj7 l0 a1 t199 t200 t206 (t207 != t200)) else (some false))))) else (some false)))) = some r := by rw [if_neg (show ¬ (false = true) by decide)] at H; exact H
     clear H
     have H := H1
     clear H1
     replace H := Option.bind_eq_some_iff.mp H
     obtain ⟨t211, A200, H⟩ := H
     replace H : ((laws_eqInt64S.f kj7 t203 t211).bind fun t214 => (if t214 = true then ((laws_markInt64S.f kj7 t203 1).bind fun bt215 => (if bt215.1 < 0 then (some false) else ((laws_eqInt64S.f kj7 t206 t199).bind fun t217 => (if t217 = true then (laws_FnExactMandatesByRemainders.j1 kj7 l0 a1 t199 t200 t206 (t207 != t200)) else (some false))))) else (some false))) = some r := H
     have A20 := Aside0.mk A200
     clear A200
     replace H := Option.bind_eq_some_iff.mp H
     obtain ⟨t214, A210, H⟩ := H
     replace H : (if t214 = true then ((laws_markInt64S.f kj7 t203 1).bind fun bt215 => (if bt215.1 < 0 then (some false) else ((laws_eqInt64S.f kj7 t206 t199).bind fun t217 => (if t217 = true then (laws_FnExactMandatesByRemainders.j1 kj7 l0 a1 t199 t200 t206 (t207 != t200)) else (some false))))) else (some false)) = some r := H
     have A21 := Aside0.mk A210
     clear A210
     by_cases c22 : t214 = true
     ·subst c22
      have H1 : ((laws_markInt64S.f kj7 t203 1).bind fun bt215 => (if bt215.1 < 0 then (some false) else ((laws_eqInt64S.f kj7 t206 t199).bind fun t217 => (if t217 = true then (laws_FnExactMandatesByRemainders.j1 kj7 l0 a1 t199 t200 t206 (t207 != t200)) else (some false))))) = some r := by rw [if_pos rfl] at H; exact H
      clear H
      have H := H1
      clear H1
      replace H := Option.bind_eq_some_iff.mp H
      obtain ⟨⟨t215, t216⟩, A230, H⟩ := H
      replace H : (if t215 < 0 then (some false) else ((laws_eqInt64S.f kj7 t206 t199).bind fun t217 => (if t217 = true then (laws_FnExactMandatesByRemainders.j1 kj7 l0 a1 t199 t200 t206 (t207 != t200)) else (some false)))) = some r := H
      have A23 := Aside0.mk A230
      clear A230
      have HC24 := Aside0.mk H
      clear H
      go_upto_region 12 with (first | ((with_reducible refine gate_callee (f := 21) rfl ?_); refine goesL_ (some 44) rfl rfl Try.func21 (by kernel_rfl) rfl #[.slice A0 l0.length c0] rfl (by (try simp only [List.map_toArray, List.map_cons, List.map_nil]); first | done | rfl | (simp only [List.length_drop, List.length_take]; rfl)) ?_; (with_reducible refine (laws_toInt64S.calls kj7 _ _ l0 t211 _ ?side1 ?side2 A20.out).mono ?_); (case side1 => repeat (first | exact (Kd.C_below HR0.out HB.out) | (with_reducible refine Kd.C_alloc ?_ _) | (with_reducible refine Kd.C_drewN ?_ _) | (with_reducible refine Kd.C_drew ?_))); (case side2 => exact HC0.out); rintro e w25 ⟨v212, rfl, ho0, hb⟩; refine ⟨_, rfl, ?_⟩; have n0_ := Aside0.mk (Kd.R_elder' (by (with_reducible repeat (first | apply Kd.R_alloc | apply Kd.R_drewN | apply Kd.R_drew)); exact HO_5.out) (Kd.R_base ho0) hb); have n1_ := Aside0.mk (Kd.R_elder' (by (with_reducible repeat (first | apply Kd.R_alloc | apply Kd.R_drewN | apply Kd.R_drew)); exact HO_7.out) (Kd.R_base ho0) hb); have n2_ := Aside0.mk (Kd.R_elder' (by (with_reducible repeat (first | apply Kd.R_alloc | apply Kd.R_drewN | apply Kd.R_drew)); exact HO_8.out) (Kd.R_base ho0) hb); have n3_ := Aside0.mk (Kd.R_lower (Kd.R_new' (Kd.R_new' (Kd.R_new' ho0 (Kd.R_lt (by (with_reducible repeat (first | apply Kd.R_alloc | apply Kd.R_drewN | apply Kd.R_drew)); exact HO_5.out))) (Kd.R_lt (by (with_reducible repeat (first | apply Kd.R_alloc | apply Kd.R_drewN | apply Kd.R_drew)); exact HO_7.out))) (Kd.R_lt (by (with_reducible repeat (first | apply Kd.R_alloc | apply Kd.R_drewN | apply Kd.R_drew)); exact HO_8.out))) (below_size (by repeat (first | (with_reducible first | exact HB.out | apply below_alloc | apply pw_below_drewN | apply below_drew1) | exact HB.out)))); have n4_ := Aside0.mk (below_step (by repeat (first | (with_reducible first | exact HB.out | apply below_alloc | apply pw_below_drewN | apply below_drew1) | exact HB.out)) hb); clear HO_5; clear HO_7; clear HO_8; clear HB; have HO_5 := n0_; have HO_7 := n1_; have HO_8 := n2_; have HO213 := n3_; have HB := n4_; clear n0_ n1_ n2_ n3_ n4_; (try clear hb); (try clear hb2); (try clear hk); (try clear hi); (try clear ho0); obtain ⟨Ao26, co26, eo26⟩ := Kd.R_slice HO213.out; subst eo26) | ((with_reducible refine gate_callee (f := 23) rfl ?_); refine goesL_ (some 45) rfl rfl Try.func23 (by kernel_rfl) rfl #[.slice Ao13 t203.length co13, .slice Ao26 t211.length co26] rfl (by (try simp only [List.map_toArray, List.map_cons, List.map_nil]); first | done | rfl | (simp only [List.length_drop, List.length_take]; rfl)) ?_; (with_reducible refine (laws_eqInt64S.calls kj7 _ _ t203 _ _ t211 true _ ?side1 ?side2 ?side3 ?side4 A21.out).mono ?_); (case side1 => repeat (first | exact (Kd.R_reads' HO_7.out).2.2 | (with_reducible refine Kd.C_alloc ?_ _) | (with_reducible refine Kd.C_drewN ?_ _) | (with_reducible refine Kd.C_drew ?_))); (case side2 => exact (Kd.R_reads' HO_7.out).2.1); (case side3 => repeat (first | exact (Kd.R_reads' HO213.out).2.2 | (with_reducible refine Kd.C_alloc ?_ _) | (with_reducible refine Kd.C_drewN ?_ _) | (with_reducible refine Kd.C_drew ?_))); (case side4 => exact (Kd.R_reads' HO213.out).2.1); rintro e w' ⟨rfl, ⟨nd, rfl⟩⟩; refine ⟨_, rfl, ?_⟩) | ((with_reducible refine gate_callee (f := 27) rfl ?_); refine goesL_ (some 49) rfl rfl Try.func27 (by kernel_rfl) rfl #[.slice Ao13 t203.length co13, .int .i64 1] rfl (by (try simp only [List.map_toArray, List.map_cons, List.map_nil]); first | done | rfl | (simp only [List.length_drop, List.length_take]; rfl)) ?_; (with_reducible refine (laws_markInt64S.calls kj7 (fun k_ => some k_ = (.slice Ao13 t203.length co13 : Value).ownBlock) (.slice Ao13 t203.length co13) t203 1 t215 t216 w _ ?side1 ?side2 A23.out).mono ?_); (case side1 => repeat (first | (with_reducible first | exact HB.out | apply below_alloc | apply pw_below_drewN | apply below_drew1) | exact HB.out)); (case side2 => exact Kd.R_tight rfl HO_7.out); rintro e w27 ⟨rfl, hy0, hb, hkp⟩; refine ⟨_, rfl, ?_⟩; have n0_ := Aside0.mk (Kd.R_mono (ok' := fun k_ => some k_ ≠ (.slice Ao13 t203.length co13 : Value).ownBlock ∧ some k_ ≠ (v208 : Value).ownBlock ∧ some k_ ≠ (.slice Ao26 t211.length co26 : Value).ownBlock) (Kd.R_keptB (HO_5.out) hkp (fun k_ hk_ hs_ => (hk_.1.1) hs_)) (fun k_ hk_ => ⟨hk_.1.1.1, hk_.1.1.2, hk_.1.2⟩)); have n1_ := Aside0.mk (Kd.R_reok rfl hy0 (fun k_ e_ => HO_7.out.1 k_ e_)); have n2_ := Aside0.mk (Kd.R_mono (ok' := fun k_ => some k_ ≠ (v201 : Value).ownBlock ∧ some k_ ≠ (.slice Ao13 t203.length co13 : Value).ownBlock ∧ some k_ ≠ (.slice Ao26 t211.length co26 : Value).ownBlock) (Kd.R_keptB (HO_8.out) hkp (fun k_ hk_ hs_ => (hk_.1.2) hs_)) (fun k_ hk_ => ⟨hk_.1.1.1, hk_.1.1.2, hk_.1.2⟩)); have n3_ := Aside0.mk (Kd.R_mono (ok' := fun k_ => some k_ ≠ (v201 : Value).ownBlock ∧ some k_ ≠ (.slice Ao13 t203.length co13 : Value).ownBlock ∧ some k_ ≠ (v208 : Value).ownBlock) (Kd.R_keptB (HO213.out) hkp (fun k_ hk_ hs_ => (hk_.1.2) hs_)) (fun k_ hk_ => ⟨hk_.1.1.1.2, hk_.1.1.2, hk_.1.2⟩)); have n4_ := Aside0.mk (hb); clear HO_5; clear HO_7; clear HO_8; clear HO213; clear HB; have HO_5 := n0_; have HO_7 := n1_; have HO_8 := n2_; have HO213 := n3_; have HB := n4_; clear n0_ n1_ n2_ n3_ n4_; (try clear hb); (try clear hkp); (try clear hy0)))
      (try simp only [Act.put, List.setIfInBounds_toArray, List.set_cons_zero, List.set_cons_succ])
      go_cut [62] (fun v62 wc => ∃ (kq : Nat) (x62_23 : Bool), v62 = .bool x62_23 ∧ Aside0 (laws_FnExactMandatesByRemainders.j1 kq l0 a1 t199 t200 t206 x62_23 = some r) ∧ Aside0 (kq ≤ kj7) ∧ Aside0 (Kd.R (Kd.int .i64) 2 wc w.heap.size (fun k_ => some k_ ≠ (v208 : Value).ownBlock) v201 t199) ∧ Aside0 (Kd.R (Kd.int .i64) 2 wc w.heap.size (fun k_ => some k_ ≠ (v201 : Value).ownBlock) v208 t206) ∧ Aside0 (Below w.heap.size w wc))
      case first =>
       have H := HC24.out
       clear HC24
       by_cases c28 : t215 < 0
       ·rw [if_pos c28] at H
        have c28b0 : decide (t215 < 0) = true := decide_eq_true c28
        clear c28
        (first | rw [c28b0] | (simp only [i64_w, i32_w]; rw [c28b0]) | skip)
        exact absurd (Option.some.inj H) (by rw [hr_.out]; decide)
       ·rw [if_neg c28] at H
        have c28b0 : decide (t215 < 0) = false := decide_eq_false c28
        clear c28
        (first | rw [c28b0] | (simp only [i64_w, i32_w]; rw [c28b0]) | skip)
        replace H := Option.bind_eq_some_iff.mp H
        obtain ⟨t217, A290, H⟩ := H
        replace H : (if t217 = true then (laws_FnExactMandatesByRemainders.j1 kj7 l0 a1 t199 t200 t206 (t207 != t200)) else (some false)) = some r := H
        have A29 := Aside0.mk A290
        clear A290
        by_cases c30 : t217 = true
        ·subst c30
         have H1 : (laws_FnExactMandatesByRemainders.j1 kj7 l0 a1 t199 t200 t206 (t207 != t200)) = some r := by rw [if_pos rfl] at H; exact H
         clear H
         have H := H1
         clear H1
         have H' := Aside0.mk H
         clear H
         obtain ⟨Ao31, co31, eo31⟩ := Kd.R_slice HO_8.out
         subst eo31
         obtain ⟨Ao32, co32, eo32⟩ := Kd.R_slice HO_5.out
         subst eo32
         go_wp2_with (first | (go_at_call 23; (with_reducible refine (laws_eqInt64S.calls kj7 _ _ t206 _ _ t199 true _ ?side1 ?side2 ?side3 ?side4 A29.out).mono ?_); (case side1 => repeat (first | exact (Kd.R_reads' HO_8.out).2.2 | (with_reducible refine Kd.C_alloc ?_ _) | (with_reducible refine Kd.C_drewN ?_ _) | (with_reducible refine Kd.C_drew ?_))); (case side2 => exact (Kd.R_reads' HO_8.out).2.1); (case side3 => repeat (first | exact (Kd.R_reads' HO_5.out).2.2 | (with_reducible refine Kd.C_alloc ?_ _) | (with_reducible refine Kd.C_drewN ?_ _) | (with_reducible refine Kd.C_drew ?_))); (case side4 => exact (Kd.R_reads' HO_5.out).2.1); rintro e w' ⟨rfl, ⟨nd, rfl⟩⟩))
         go_meet
         case rel => exact ⟨_, ((t207 != t200)), (by first | rfl | (simp; done) | (simp [*]; done)), H', ⟨by have := HJ7.out; first | omega | exact Nat.le_refl _⟩, ⟨by (with_reducible repeat (first | apply Kd.R_alloc | apply Kd.R_drewN | apply Kd.R_drew)); exact Kd.R_mono HO_5.out (fun _ hk => hk.2.1)⟩, ⟨by (with_reducible repeat (first | apply Kd.R_alloc | apply Kd.R_drewN | apply Kd.R_drew)); exact Kd.R_mono HO_8.out (fun _ hk => hk.1)⟩, ⟨by repeat (first | (with_reducible first | exact HB.out | apply below_alloc | apply pw_below_drewN | apply below_drew1) | exact HB.out)⟩⟩
        ·replace c30 := Bool.eq_false_iff.mpr c30
         subst c30
         have H1 : (some false) = some r := by rw [if_neg (show ¬ (false = true) by decide)] at H; exact H
         clear H
         have H := H1
         clear H1
         exact absurd (Option.some.inj H) (by rw [hr_.out]; decide)
      case rest =>
       clear HC24
       try clear c1
       try clear c2
       try clear p2
       try clear c3
       try clear c3b0
       try clear c3b1
       try clear c7
       try clear c14
       try clear c16
       try clear c19
       try clear c21
       try clear c22
       try clear c23
       try clear c27
       try clear c28
       try clear c28b0
       try clear c30
       try clear c31
       try clear p2
       obtain ⟨kq, x62_23, rfl, HA, HJ23, HO_5, HO_8, HB⟩ := hcut
       cases kq with
       | zero => exact absurd HA.out (by simp [laws_FnExactMandatesByRemainders.j1])
       | succ kj23 =>
        have H := HA.out
        clear HA
        simp only [laws_FnExactMandatesByRemainders.j1] at H
        by_cases c33 : x62_23 = true
        ·subst c33
         have H1 : (some false) = some r := by rw [if_pos rfl] at H; exact H
         clear H
         have H := H1
         clear H1
         exact absurd (Option.some.inj H) (by rw [hr_.out]; decide)
        ·replace c33 := Bool.eq_false_iff.mpr c33
         subst c33
         have H1 : ((laws_markInt64S.f kj23 t206 1).bind fun bt218 => ((laws_heldInt64S.f kj23 bt218.2 1).bind fun t220 => (if t220 < 0 then (some false) else (if t220 = bt218.1 then ((laws_toInt64S.f kj23 l0).bind fun t221 => ((impl_MandatesByRemainders.f kj23 t221 a1).bind fun bt224 => ((laws_eqInt64S.f kj23 bt224.1 t199).bind fun t228 => (if t228 = true then (laws_FnExactMandatesByRemainders.j2 kj23 bt218.2 bt218.1 (bt224.2 != t200)) else (some false))))) else (some false))))) = some r := by rw [if_neg (show ¬ (false = true) by decide)] at H; exact H
         clear H
         have H := H1
         clear H1
         replace H := Option.bind_eq_some_iff.mp H
         obtain ⟨⟨t218, t219⟩, A340, H⟩ := H
         replace H : ((laws_heldInt64S.f kj23 t219 1).bind fun t220 => (if t220 < 0 then (some false) else (if t220 = t218 then ((laws_toInt64S.f kj23 l0).bind fun t221 => ((impl_MandatesByRemainders.f kj23 t221 a1).bind fun bt224 => ((laws_eqInt64S.f kj23 bt224.1 t199).bind fun t228 => (if t228 = true then (laws_FnExactMandatesByRemainders.j2 kj23 t219 t218 (bt224.2 != t200)) else (some false))))) else (some false)))) = some r := H
         have A34 := Aside0.mk A340
         clear A340
         replace H := Option.bind_eq_some_iff.mp H
         obtain ⟨t220, A350, H⟩ := H
         replace H : (if t220 < 0 then (some false) else (if t220 = t218 then ((laws_toInt64S.f kj23 l0).bind fun t221 => ((impl_MandatesByRemainders.f kj23 t221 a1).bind fun bt224 => ((laws_eqInt64S.f kj23 bt224.1 t199).bind fun t228 => (if t228 = true then (laws_FnExactMandatesByRemainders.j2 kj23 t219 t218 (bt224.2 != t200)) else (some false))))) else (some false))) = some r := H
         have A35 := Aside0.mk A350
         clear A350
         by_cases c36 : t220 < 0
         ·rw [if_pos c36] at H
          have c36b0 : decide (t220 < 0) = true := decide_eq_true c36
          clear c36
          exact absurd (Option.some.inj H) (by rw [hr_.out]; decide)
         ·rw [if_neg c36] at H
          have c36b0 : decide (t220 < 0) = false := decide_eq_false c36
          clear c36
          by_cases c37 : t220 = t218
          ·rw [if_pos c37] at H
           have c37b0 : (t220 == t218) = true := beq_iff_eq.mpr c37
           have c37b1 : (t220 != t218) = false := bne_eq_false_iff_eq.mpr c37
           clear c37
           replace H := Option.bind_eq_some_iff.mp H
           obtain ⟨t221, A380, H⟩ := H
           replace H : ((impl_MandatesByRemainders.f kj23 t221 a1).bind fun bt224 => ((laws_eqInt64S.f kj23 bt224.1 t199).bind fun t228 => (if t228 = true then (laws_FnExactMandatesByRemainders.j2 kj23 t219 t218 (bt224.2 != t200)) else (some false)))) = some r := H
           have A38 := Aside0.mk A380
           clear A380
           replace H := Option.bind_eq_some_iff.mp H
           obtain ⟨⟨t224, t225⟩, A390, H⟩ := H
           replace H : ((laws_eqInt64S.f kj23 t224 t199).bind fun t228 => (if t228 = true then (laws_FnExactMandatesByRemainders.j2 kj23 t219 t218 (t225 != t200)) else (some false))) = some r := H
           have A39 := Aside0.mk A390
           clear A390
           have HC40 := Aside0.mk H
           clear H
           obtain ⟨Ao41, co41, eo41⟩ := Kd.R_slice HO_8.out
           subst eo41
           go_upto_region 23 with (first | ((with_reducible refine gate_callee (f := 27) rfl ?_); refine goesL_ (some 65) rfl rfl Try.func27 (by kernel_rfl) rfl #[.slice Ao41 t206.length co41, .int .i64 1] rfl (by (try simp only [List.map_toArray, List.map_cons, List.map_nil]); first | done | rfl | (simp only [List.length_drop, List.length_take]; rfl)) ?_; (with_reducible refine (laws_markInt64S.calls kj23 (fun k_ => some k_ = (.slice Ao41 t206.length co41 : Value).ownBlock) (.slice Ao41 t206.length co41) t206 1 t218 t219 w _ ?side1 ?side2 A34.out).mono ?_); (case side1 => repeat (first | (with_reducible first | exact HB.out | apply below_alloc | apply pw_below_drewN | apply below_drew1) | exact HB.out)); (case side2 => exact Kd.R_tight rfl HO_8.out); rintro e w42 ⟨rfl, hy0, hb, hkp⟩; refine ⟨_, rfl, ?_⟩; have n0_ := Aside0.mk (Kd.R_mono (ok' := fun k_ => some k_ ≠ (.slice Ao41 t206.length co41 : Value).ownBlock) (Kd.R_keptB (HO_5.out) hkp (fun k_ hk_ hs_ => (hk_) hs_)) (fun k_ hk_ => hk_.1)); have n1_ := Aside0.mk (Kd.R_reok rfl hy0 (fun k_ e_ => HO_8.out.1 k_ e_)); have n2_ := Aside0.mk (hb); clear HO_5; clear HO_8; clear HB; have HO_5 := n0_; have HO_8 := n1_; have HB := n2_; clear n0_ n1_ n2_; (try clear hb); (try clear hkp); (try clear hy0)) | ((with_reducible refine gate_callee (f := 32) rfl ?_); refine goesL_ (some 68) rfl rfl Try.func32 (by kernel_rfl) rfl #[.slice Ao41 t219.length co41, .int .i64 1] rfl (by (try simp only [List.map_toArray, List.map_cons, List.map_nil]); first | done | (rw [show t219.length = t206.length from (Kd.R_reads' HO_8.out).1.symm] <;> rfl) | rfl | (simp only [List.length_drop, List.length_take]; rfl)) ?_; (with_reducible refine (laws_heldInt64S.calls kj23 _ _ t219 1 t220 _ ?side1 ?side2 A35.out).mono ?_); (case side1 => repeat (first | exact (Kd.R_reads' HO_8.out).2.2 | (with_reducible refine Kd.C_alloc ?_ _) | (with_reducible refine Kd.C_drewN ?_ _) | (with_reducible refine Kd.C_drew ?_))); (case side2 => rw [show t219.length = t206.length from (Kd.R_reads' HO_8.out).1.symm]; exact (Kd.R_reads' HO_8.out).2.1); rintro e w' ⟨rfl, ⟨nd, rfl⟩⟩; refine ⟨_, rfl, ?_⟩) | ((with_reducible refine gate_callee (f := 21) rfl ?_); refine goesL_ (some 76) rfl rfl Try.func21 (by kernel_rfl) rfl #[.slice A0 l0.length c0] rfl (by (try simp only [List.map_toArray, List.map_cons, List.map_nil]); first | done | rfl | (simp only [List.length_drop, List.length_take]; rfl)) ?_; (with_reducible refine (laws_toInt64S.calls kj23 _ _ l0 t221 _ ?side1 ?side2 A38.out).mono ?_); (case side1 => repeat (first | exact (Kd.C_below HR0.out (by repeat (first | (with_reducible first | exact HB.out | apply below_alloc | apply pw_below_drewN | apply below_drew1) | exact HB.out))) | (with_reducible refine Kd.C_alloc ?_ _) | (with_reducible refine Kd.C_drewN ?_ _) | (with_reducible refine Kd.C_drew ?_))); (case side2 => exact HC0.out); rintro e w43 ⟨v222, rfl, ho0, hb⟩; refine ⟨_, rfl, ?_⟩; have n0_ := Aside0.mk (Kd.R_elder' (by (with_reducible repeat (first | apply Kd.R_alloc | apply Kd.R_drewN | apply Kd.R_drew)); exact HO_5.out) (Kd.R_base ho0) hb); have n1_ := Aside0.mk (Kd.R_elder' (by (with_reducible repeat (first | apply Kd.R_alloc | apply Kd.R_drewN | apply Kd.R_drew)); exact HO_8.out) (Kd.R_base ho0) hb); have n2_ := Aside0.mk (Kd.R_lower (Kd.R_new' (Kd.R_new' ho0 (Kd.R_lt (by (with_reducible repeat (first | apply Kd.R_alloc | apply Kd.R_drewN | apply Kd.R_drew)); exact HO_5.out))) (Kd.R_lt (by (with_reducible repeat (first | apply Kd.R_alloc | apply Kd.R_drewN | apply Kd.R_drew)); exact HO_8.out))) (below_size (by repeat (first | (with_reducible first | exact HB.out | apply below_alloc | apply pw_below_drewN | apply below_drew1) | exact HB.out)))); have n3_ := Aside0.mk (below_step (by repeat (first | (with_reducible first | exact HB.out | apply below_alloc | apply pw_below_drewN | apply below_drew1) | exact HB.out)) hb); clear HO_5; clear HO_8; clear HB; have HO_5 := n0_; have HO_8 := n1_; have HO223 := n2_; have HB := n3_; clear n0_ n1_ n2_ n3_; (try clear hb); (try clear hb2); (try clear hk); (try clear hi); (try clear ho0); obtain ⟨Ao44, co44, eo44⟩ := Kd.R_slice HO223.out; subst eo44) | ((with_reducible refine gate_callee (f := 14) rfl ?_); refine goesL_ (some 78) rfl rfl Try.func14 (by kernel_rfl) rfl #[.slice Ao44 t221.length co44, .int .i64 a1] rfl (by (try simp only [List.map_toArray, List.map_cons, List.map_nil]); first | done | rfl | (simp only [List.length_drop, List.length_take]; rfl)) ?_; (with_reducible refine (impl_MandatesByRemainders.calls kj23 _ _ t221 a1 t224 t225 _ ?side1 ?side2 A39.out).mono ?_); (case side1 => repeat (first | exact (Kd.R_reads' HO223.out).2.2 | (with_reducible refine Kd.C_alloc ?_ _) | (with_reducible refine Kd.C_drewN ?_ _) | (with_reducible refine Kd.C_drew ?_))); (case side2 => exact (Kd.R_reads' HO223.out).2.1); rintro e w45 ⟨v226, rfl, ho0, hb⟩; refine ⟨_, rfl, ?_⟩; have n0_ := Aside0.mk (Kd.R_elder' (by (with_reducible repeat (first | apply Kd.R_alloc | apply Kd.R_drewN | apply Kd.R_drew)); exact HO_5.out) (Kd.R_base ho0) hb); have n1_ := Aside0.mk (Kd.R_elder' (by (with_reducible repeat (first | apply Kd.R_alloc | apply Kd.R_drewN | apply Kd.R_drew)); exact HO_8.out) (Kd.R_base ho0) hb); have n2_ := Aside0.mk (Kd.R_elder' (by (with_reducible repeat (first | apply Kd.R_alloc | apply Kd.R_drewN | apply Kd.R_drew)); exact HO223.out) (Kd.R_base ho0) hb); have n3_ := Aside0.mk (Kd.R_lower (Kd.R_new' (Kd.R_new' (Kd.R_new' ho0 (Kd.R_lt (by (with_reducible repeat (first | apply Kd.R_alloc | apply Kd.R_drewN | apply Kd.R_drew)); exact HO_5.out))) (Kd.R_lt (by (with_reducible repeat (first | apply Kd.R_alloc | apply Kd.R_drewN | apply Kd.R_drew)); exact HO_8.out))) (Kd.R_lt (by (with_reducible repeat (first | apply Kd.R_alloc | apply Kd.R_drewN | apply Kd.R_drew)); exact HO223.out))) (below_size (by repeat (first | (with_reducible first | exact HB.out | apply below_alloc | apply pw_below_drewN | apply below_drew1) | exact HB.out)))); have n4_ := Aside0.mk (below_step (by repeat (first | (with_reducible first | exact HB.out | apply below_alloc | apply pw_below_drewN | apply below_drew1) | exact HB.out)) hb); clear HO_5; clear HO_8; clear HO223; clear HB; have HO_5 := n0_; have HO_8 := n1_; have HO223 := n2_; have HO227 := n3_; have HB := n4_; clear n0_ n1_ n2_ n3_ n4_; (try clear hb); (try clear hb2); (try clear hk); (try clear hi); (try clear ho0)))
           (try simp only [Act.put, List.setIfInBounds_toArray, List.set_cons_zero, List.set_cons_succ])
           go_cut [89] (fun v89 wc => ∃ (kq : Nat) (x89_39 : Bool), v89 = .bool x89_39 ∧ Aside0 (laws_FnExactMandatesByRemainders.j2 kq t219 t218 x89_39 = some r) ∧ Aside0 (kq ≤ kj23) ∧ Aside0 (Kd.R (Kd.int .i64) 2 wc w.heap.size (fun _ => True) (.slice Ao41 t206.length co41) t219) ∧ Aside0 (Below w.heap.size w wc))
           case first =>
            have H := HC40.out
            clear HC40
            replace H := Option.bind_eq_some_iff.mp H
            obtain ⟨t228, A460, H⟩ := H
            replace H : (if t228 = true then (laws_FnExactMandatesByRemainders.j2 kj23 t219 t218 (t225 != t200)) else (some false)) = some r := H
            have A46 := Aside0.mk A460
            clear A460
            by_cases c47 : t228 = true
            ·subst c47
             have H1 : (laws_FnExactMandatesByRemainders.j2 kj23 t219 t218 (t225 != t200)) = some r := by rw [if_pos rfl] at H; exact H
             clear H
             have H := H1
             clear H1
             have H' := Aside0.mk H
             clear H
             obtain ⟨Ao48, co48, eo48⟩ := Kd.R_slice HO227.out
             subst eo48
             obtain ⟨Ao49, co49, eo49⟩ := Kd.R_slice HO_5.out
             subst eo49
             go_wp2_with (first | ((with_reducible refine gate_callee (f := 23) rfl ?_); refine goesL_ (some 83) rfl rfl Try.func23 (by kernel_rfl) rfl #[.slice Ao48 t224.length co48, .slice Ao49 t199.length co49] rfl (by (try simp only [List.map_toArray, List.map_cons, List.map_nil]); first | done | rfl | (simp only [List.length_drop, List.length_take]; rfl)) ?_; (with_reducible refine (laws_eqInt64S.calls kj23 _ _ t224 _ _ t199 true _ ?side1 ?side2 ?side3 ?side4 A46.out).mono ?_); (case side1 => repeat (first | exact (Kd.R_reads' HO227.out).2.2 | (with_reducible refine Kd.C_alloc ?_ _) | (with_reducible refine Kd.C_drewN ?_ _) | (with_reducible refine Kd.C_drew ?_))); (case side2 => exact (Kd.R_reads' HO227.out).2.1); (case side3 => repeat (first | exact (Kd.R_reads' HO_5.out).2.2 | (with_reducible refine Kd.C_alloc ?_ _) | (with_reducible refine Kd.C_drewN ?_ _) | (with_reducible refine Kd.C_drew ?_))); (case side4 => exact (Kd.R_reads' HO_5.out).2.1); rintro e w' ⟨rfl, ⟨nd, rfl⟩⟩; refine ⟨_, rfl, ?_⟩))
             go_meet
             case rel => exact ⟨_, ((t225 != t200)), (by first | rfl | (simp; done) | (simp [*]; done)), H', ⟨by have := HJ7.out; have := HJ23.out; first | omega | exact Nat.le_refl _⟩, ⟨by (with_reducible repeat (first | apply Kd.R_alloc | apply Kd.R_drewN | apply Kd.R_drew)); exact Kd.R_mono HO_8.out (fun _ hk => trivial)⟩, ⟨by repeat (first | (with_reducible first | exact HB.out | apply below_alloc | apply pw_below_drewN | apply below_drew1) | exact HB.out)⟩⟩
            ·replace c47 := Bool.eq_false_iff.mpr c47
             subst c47
             have H1 : (some false) = some r := by rw [if_neg (show ¬ (false = true) by decide)] at H; exact H
             clear H
             have H := H1
             clear H1
             exact absurd (Option.some.inj H) (by rw [hr_.out]; decide)
           case rest =>
            clear HC40
            try clear c1
            try clear c2
            try clear p2
            try clear c3
            try clear c3b0
            try clear c3b1
            try clear c4
            try clear c7
            try clear c14
            try clear c16
            try clear c19
            try clear c21
            try clear c22
            try clear c23
            try clear c27
            try clear c28
            try clear c28b0
            try clear c30
            try clear c31
            try clear c32
            try clear c33
            try clear c36
            try clear c36b0
            try clear c37
            try clear c37b0
            try clear c37b1
            try clear c47
            try clear p2
            obtain ⟨kq, x89_39, rfl, HA, HJ39, HO_8, HB⟩ := hcut
            have hl8_39 := (Kd.R_reads' HO_8.out).1
            rw [hl8_39] at HO_8
            (try simp only [hl8_39])
            cases kq with
            | zero => exact absurd HA.out (by simp [laws_FnExactMandatesByRemainders.j2])
            | succ kj39 =>
             have H := HA.out
             clear HA
             simp only [laws_FnExactMandatesByRemainders.j2] at H
             by_cases c50 : x89_39 = true
             ·subst c50
              have H1 : (some false) = some r := by rw [if_pos rfl] at H; exact H
              clear H
              have H := H1
              clear H1
              exact absurd (Option.some.inj H) (by rw [hr_.out]; decide)
             ·replace c50 := Bool.eq_false_iff.mpr c50
              subst c50
              have H1 : ((laws_heldInt64S.f kj39 t219 1).bind fun t229 => (if t229 < 0 then (some false) else (if t229 = t218 then (some true) else (some false)))) = some r := by rw [if_neg (show ¬ (false = true) by decide)] at H; exact H
              clear H
              have H := H1
              clear H1
              replace H := Option.bind_eq_some_iff.mp H
              obtain ⟨t229, A510, H⟩ := H
              replace H : (if t229 < 0 then (some false) else (if t229 = t218 then (some true) else (some false))) = some r := H
              have A51 := Aside0.mk A510
              clear A510
              by_cases c52 : t229 < 0
              ·rw [if_pos c52] at H
               have c52b0 : decide (t229 < 0) = true := decide_eq_true c52
               clear c52
               exact absurd (Option.some.inj H) (by rw [hr_.out]; decide)
              ·rw [if_neg c52] at H
               have c52b0 : decide (t229 < 0) = false := decide_eq_false c52
               clear c52
               by_cases c53 : t229 = t218
               ·rw [if_pos c53] at H
                have c53b0 : (t229 == t218) = true := beq_iff_eq.mpr c53
                have c53b1 : (t229 != t218) = false := bne_eq_false_iff_eq.mpr c53
                clear c53
                obtain rfl := Option.some.inj H
                go_wp2_with (first | ((with_reducible refine gate_callee (f := 32) rfl ?_); refine goesL_ (some 92) rfl rfl Try.func32 (by kernel_rfl) rfl #[.slice Ao41 t219.length co41, .int .i64 1] rfl (by (try simp only [List.map_toArray, List.map_cons, List.map_nil]); first | done | rfl | (simp only [List.length_drop, List.length_take]; rfl)) ?_; (with_reducible refine (laws_heldInt64S.calls kj39 _ _ t219 1 t229 _ ?side1 ?side2 A51.out).mono ?_); (case side1 => repeat (first | exact (Kd.R_reads' HO_8.out).2.2 | (with_reducible refine Kd.C_alloc ?_ _) | (with_reducible refine Kd.C_drewN ?_ _) | (with_reducible refine Kd.C_drew ?_))); (case side2 => exact (Kd.R_reads' HO_8.out).2.1); rintro e w' ⟨rfl, ⟨nd, rfl⟩⟩; refine ⟨_, rfl, ?_⟩))
                go_ret
                exact ⟨by first | rfl | (simp [errW_none, errW_some] <;> rfl) | (simp [*, errW_none, errW_some] <;> rfl), by repeat (first | (with_reducible first | exact HB.out | apply below_alloc | apply pw_below_drewN | apply below_drew1) | exact HB.out)⟩
               ·rw [if_neg c53] at H
                have c53b0 : (t229 == t218) = false := beq_eq_false_iff_ne.mpr c53
                have c53b1 : (t229 != t218) = true := bne_iff_ne.mpr c53
                exact absurd (Option.some.inj H) (by rw [hr_.out]; decide)
          ·rw [if_neg c37] at H
           have c37b0 : (t220 == t218) = false := beq_eq_false_iff_ne.mpr c37
           have c37b1 : (t220 != t218) = true := bne_iff_ne.mpr c37
           exact absurd (Option.some.inj H) (by rw [hr_.out]; decide)
     ·replace c22 := Bool.eq_false_iff.mpr c22
      subst c22
      have H1 : (some false) = some r := by rw [if_neg (show ¬ (false = true) by decide)] at H; exact H
      clear H
      have H := H1
      clear H1
      exact absurd (Option.some.inj H) (by rw [hr_.out]; decide)

end Go.Proofs.Ytoklpimhcdfbbaa.X

/-! ## Rdr -/
/- How an argument that reads as data is given to the printed functions: whole numbers, bools, strings, slices and structs of these, of whatever depth. No condition. -/
namespace Go.Proofs.Ytoklpimhcdfbbaa.Rdr
open Go.ChangeShapes Go.WideShapes Go.Deep Go.Proofs.YtoklpimhcdfbbaaW.PrintWords

def I64 (n : Int) : Prop := -9223372036854775808 ≤ n ∧ n ≤ 9223372036854775807
def Str (s : ByteArray) : Prop := s.size ≤ 9223372036854775807
def Lst {α : Type} (Wf : α → Prop) (xs : List α) : Prop := xs.length ≤ 9223372036854775807 ∧ ∀ x ∈ xs, Wf x

structure Reads (P : Program) (t : TypeId) {α : Type} (κ : Kd α) (Wf : α → Prop) : Prop where
  size : P.cellsOf t = κ.sz
  read : ∀ {H : Type} {enc : TypeId × Value → H} {W : World} {base : Nat} {spare : Nat → Bool} {held : Bool} {fuel : Nat} {cs : List Value} {x : DataW H × List MemPlace}, DataW.trod enc P W base spare held fuel t cs = some x → ∃ a, κ.K W a cs ∧ Wf a

theorem reads_i64 {P : Program} {t : TypeId} (ht : P.underlying t = some (.int .i64)) (hc : P.cellsOf t = 1) : Reads P t (Kd.int .i64) I64 := by
  refine ⟨hc, ?_⟩
  intro H enc W base spare held fuel cs x h
  obtain ⟨n, rfl, _, hw⟩ := DataW.trod_int ht h
  refine ⟨n, rfl, ?_⟩
  have hb := bounds_i64 hw
  unfold I64
  omega
def U8 (n : Int) : Prop := 0 ≤ n ∧ n ≤ 255
theorem reads_u8 {P : Program} {t : TypeId} (ht : P.underlying t = some (.int .u8)) (hc : P.cellsOf t = 1) : Reads P t (Kd.int .u8) U8 := by
  refine ⟨hc, ?_⟩
  intro H enc W base spare held fuel cs x h
  obtain ⟨n, rfl, _, hw⟩ := DataW.trod_int ht h
  exact ⟨n, rfl, bounds_u8 hw⟩
theorem reads_bool {P : Program} {t : TypeId} (ht : P.underlying t = some .bool) (hc : P.cellsOf t = 1) : Reads P t Kd.bool (fun _ => True) := by
  refine ⟨hc, ?_⟩
  intro H enc W base spare held fuel cs x h
  obtain ⟨b, rfl, _⟩ := DataW.trod_bool ht h
  exact ⟨b, rfl, trivial⟩
theorem reads_str {P : Program} {t : TypeId} (ht : P.underlying t = some .string) (hc : P.cellsOf t = 1) : Reads P t Kd.string Str := by
  refine ⟨hc, ?_⟩
  intro H enc W base spare held fuel cs x h
  obtain ⟨s, rfl, _, hs⟩ := DataW.trod_string ht h
  exact ⟨s, rfl, hs⟩

theorem choose_any {α : Type} {n : Nat} {p : Nat → α → Prop} (h : ∀ i, i < n → ∃ x, p i x) : ∃ l : List α, l.length = n ∧ ∀ (j : Nat) (x : α), l[j]? = some x → p j x := by
  induction n with
  | zero => exact ⟨[], rfl, fun j x hj => by simp at hj⟩
  | succ n ih =>
    obtain ⟨l, hl, hp⟩ := ih (fun i hi => h i (by omega))
    obtain ⟨x, hx⟩ := h n (by omega)
    refine ⟨l ++ [x], by simp [hl], fun j y hj => ?_⟩
    rcases Nat.lt_or_ge j l.length with hj' | hj'
    · rw [List.getElem?_append_left hj'] at hj
      exact hp j y hj
    · have := (List.getElem?_eq_some_iff.1 hj).1
      rw [List.length_append, List.length_singleton] at this
      have e : j = l.length := by omega
      subst e
      have e2 : x = y := by simpa using hj
      subst e2
      rw [hl]
      exact hx

theorem reads_slice {P : Program} {t e : TypeId} {α : Type} {κ : Kd α} {Wf : α → Prop} (ht : P.underlying t = some (.slice e)) (hc : P.cellsOf t = 1) (he : Reads P e κ Wf) : Reads P t (Kd.slice e κ) (Lst Wf) := by
  refine ⟨hc, ?_⟩
  intro H enc W base spare held fuel cs x h
  rcases open_slice ht h with ⟨rfl, _⟩ | ⟨a, len, cap, m, n, D, Pl, rfl, hb, hl, hm, hmm, _, hx⟩
  · exact ⟨[], ⟨none, 0, rfl, Nat.le_refl _, rfl, by simp, fun h => by simp at h⟩, by simp [Lst]⟩
  · have hlm : len ≤ m := by rw [hmm]; split <;> omega
    obtain ⟨l, hll, hp⟩ := choose_any (α := α) (n := len) (p := fun i x => Wf x ∧ ∃ c, c.length = κ.sz ∧ κ.K W x c ∧ ∀ j u, c[j]? = some u → W.cell? (a.add (i * κ.sz + j)) = some u) (by
      intro i hi
      obtain ⟨c, hcells, htr⟩ := hx i (by omega)
      obtain ⟨y, hy, hw⟩ := he.read htr
      rw [he.size] at hcells
      obtain ⟨_, hlen, hcell⟩ := World.cells?_some hcells
      refine ⟨y, hw, c, hlen, hy, fun j u hj => ?_⟩
      have hjl := (List.getElem?_eq_some_iff.1 hj).1
      rw [← Go.Deep.add_add, hcell j (by omega)]
      exact hj)
    have hml : maxLen = 9223372036854775807 := by unfold maxLen; rfl
    refine ⟨l, ⟨some a, cap, by rw [hll], by omega, rfl, by omega, fun _ => ⟨a, rfl, fun j p hj => ?_⟩⟩, by omega, fun x hx' => ?_⟩
    · obtain ⟨_, c, h1, h2, h3⟩ := hp j p hj
      exact ⟨c, h1, h2, h3⟩
    · obtain ⟨j, hj⟩ := List.getElem?_of_mem hx'
      exact (hp j x hj).1

/-! The fields of a struct, from one on. -/
structure FReads (P : Program) (fs : List Field) (off : Nat) {α : Type} (κ : Kd α) (Wf : α → Prop) : Prop where
  read : ∀ {H : Type} {enc : TypeId × Value → H} {W : World} {base : Nat} {spare : Nat → Bool} {held : Bool} {n : Nat} (cs : List Value) (ys : List (DataW H × List MemPlace)), ys.length = fs.length →
    (∀ (i : Nat) (f : Field), fs[i]? = some f → DataW.trod enc P W base spare held n f.type ((cs.drop f.offset).take (P.cellsOf f.type)) = ys[i]?) → off + κ.sz = cs.length → ∃ a, κ.K W a (cs.drop off) ∧ Wf a

theorem freads_last {P : Program} {f : Field} {α : Type} {κ : Kd α} {Wf : α → Prop} {off : Nat} (ho : f.offset = off) (h : Reads P f.type κ Wf) : FReads P [f] off κ Wf := by
  constructor
  intro H enc W base spare held n cs ys hl hf hs
  have h0 := hf 0 f rfl
  have hy : 0 < ys.length := by rw [hl]; simp
  rw [List.getElem?_eq_getElem hy, ho, h.size, List.take_of_length_le (by rw [List.length_drop]; omega)] at h0
  exact h.read h0
theorem freads_cons {P : Program} {f : Field} {fs : List Field} {α β : Type} {κ : Kd α} {κ' : Kd β} {Wf : α → Prop} {Wf' : β → Prop} {off off' : Nat} (ho : f.offset = off) (h : Reads P f.type κ Wf) (hoff : off' = off + κ.sz) (h' : FReads P fs off' κ' Wf') :
    FReads P (f :: fs) off (Kd.pair κ κ') (fun x => Wf x.1 ∧ Wf' x.2) := by
  constructor
  intro H enc W base spare held n cs ys hl hf hs
  have hs' : off + (κ.sz + κ'.sz) = cs.length := hs
  have h0 := hf 0 f rfl
  have hy : 0 < ys.length := by rw [hl]; simp
  rw [List.getElem?_eq_getElem hy, ho, h.size] at h0
  obtain ⟨a, ha, hwa⟩ := h.read h0
  obtain ⟨b, hb, hwb⟩ := h'.read (H := H) (enc := enc) (W := W) (base := base) (spare := spare) (held := held) (n := n) cs ys.tail (by rw [List.length_tail, hl]; simp) (fun i g hg => by
    rw [List.getElem?_tail]
    exact hf (i + 1) g (by simpa using hg)) (by omega)
  refine ⟨(a, b), ⟨(cs.drop off).take κ.sz, cs.drop off', ?_, ha, hb⟩, hwa, hwb⟩
  rw [hoff, ← List.drop_drop, List.take_append_drop]
theorem reads_struct {P : Program} {t : TypeId} {fs : Array Field} {α : Type} {κ : Kd α} {Wf : α → Prop} (ht : P.underlying t = some (.struct fs)) (hc : P.cellsOf t = κ.sz) (h : FReads P fs.toList 0 κ Wf) : Reads P t κ Wf := by
  refine ⟨hc, ?_⟩
  intro H enc W base spare held fuel cs x hx
  obtain ⟨ys, n, _, _, hl, hyl, hf⟩ := DataW.trod_struct ht hx
  obtain ⟨a, ha, hw⟩ := h.read (H := H) (enc := enc) (W := W) (base := base) (spare := spare) (held := held) (n := n) cs ys (by simpa using hyl) (fun i f hi => hf i f (by simpa using hi)) (by rw [hl, hc]; omega)
  exact ⟨a, ha, hw⟩
theorem reads_iso {P : Program} {t : TypeId} {α β : Type} {κ : Kd α} {Wf : α → Prop} {f : β → α} (g : α → β) (hg : ∀ a, f (g a) = a) (h : Reads P t κ Wf) : Reads P t (Kd.iso κ f) (fun x => Wf (f x)) := by
  refine ⟨h.size, ?_⟩
  intro H enc W base spare held fuel cs x hx
  obtain ⟨a, ha, hw⟩ := h.read hx
  refine ⟨g a, ?_, ?_⟩
  · show κ.K W (f (g a)) cs
    rw [hg]
    exact ha
  · show Wf (f (g a))
    rw [hg]
    exact hw

end Go.Proofs.Ytoklpimhcdfbbaa.Rdr

/-! ## SFnExactMandatesByRemainders -/
namespace Go.Proofs.Ytoklpimhcdfbbaa.Say
open Go.RowKit Go.Proofs.Ytoklpimhcdfbbaa.X
/-- The plain statement of laws_FnExactMandatesByRemainders. -/
def FnExactMandatesByRemainders : Prop := ∀ (l0 : List Int) (a1 : Int), (Rdr.Lst Rdr.I64) l0 → Rdr.I64 a1 → ∃ k, laws_FnExactMandatesByRemainders.f k l0 a1 = some true
end Go.Proofs.Ytoklpimhcdfbbaa.Say

/-! ## Base -/
/- Plain words for the plain laws: what ends with a value once there are rounds enough; loops over an index; sums that do not wrap. No condition. -/
namespace Go.Proofs.Ytoklpimhcdfbbaa.B
open Go.RowKit Go.Proofs.YtoklpimhcdfbbaaW.PrintWords

theorem w64 {x : Int} (h : -9223372036854775808 ≤ x) (h' : x ≤ 9223372036854775807) : wrap64 x = x := by
  unfold wrap64; omega
theorem wnext {i n : Nat} (h : i < n) (hn : (n : Int) ≤ 9223372036854775807) : wrap64 ((i : Int) + 1) = ((i + 1 : Nat) : Int) := by
  rw [w64 (by omega) (by omega)]; omega

/-- From some number of rounds on these two are the same. -/
def EvEq {α : Type} (g f : Nat → Option α) : Prop := ∃ K, ∀ k, K ≤ k → g k = f k
theorem EvEq.now {α : Type} {g f : Nat → Option α} (h : ∀ k, g k = f k) : EvEq g f := ⟨0, fun k _ => h k⟩
theorem EvEq.trans {α : Type} {g f h : Nat → Option α} (a : EvEq g f) (b : EvEq f h) : EvEq g h := by
  obtain ⟨K, hK⟩ := a
  obtain ⟨K', hK'⟩ := b
  exact ⟨K + K', fun k hk => (hK k (by omega)).trans (hK' k (by omega))⟩
theorem EvEq.bind {α β : Type} {g : Nat → Option α} {a : α} {f : Nat → α → Option β} {h : Nat → Option β} (e : Ev g a) (b : EvEq (fun k => f k a) h) : EvEq (fun k => (g k).bind (f k)) h := by
  obtain ⟨K, hK⟩ := e
  obtain ⟨K', hK'⟩ := b
  refine ⟨K + K', fun k hk => ?_⟩
  show (g k).bind (f k) = _
  rw [hK k (by omega)]
  exact hK' k (by omega)
theorem Ev.ofEq {α : Type} {g f : Nat → Option α} {r : α} (a : EvEq g f) (b : Ev f r) : Ev g r := by
  obtain ⟨K, hK⟩ := a
  obtain ⟨K', hK'⟩ := b
  exact ⟨K + K', fun k hk => (hK k (by omega)).trans (hK' k (by omega))⟩
theorem Ev.const {α : Type} {g : Nat → Option α} {r : α} (h : ∀ k, g k = some r) : Ev g r := ⟨0, fun k _ => h k⟩
theorem Ev.up {α : Type} {g : Nat → Option α} {r : α} (h : Ev (fun k => g (k + 1)) r) : Ev g r := by
  obtain ⟨K, hK⟩ := h
  refine ⟨K + 1, fun k hk => ?_⟩
  have e : g (k - 1 + 1) = some r := hK (k - 1) (by omega)
  have : k - 1 + 1 = k := by omega
  rwa [this] at e
theorem Ev.bindE {α β : Type} {g : Nat → Option α} {a : α} {f : Nat → α → Option β} {r : β} (e : Ev g a) (b : Ev (fun k => f k a) r) : Ev (fun k => (g k).bind (f k)) r := Ev.bind e b
theorem Ev.ifPos {α : Type} {c : Prop} [Decidable c] {A B : Nat → Option α} {r : α} (h : c) (e : Ev A r) : Ev (fun k => if c then A k else B k) r := by
  simpa only [if_pos h] using e
theorem Ev.ifNeg {α : Type} {c : Prop} [Decidable c] {A B : Nat → Option α} {r : α} (h : ¬ c) (e : Ev B r) : Ev (fun k => if c then A k else B k) r := by
  simpa only [if_neg h] using e
theorem Ev.uniq {α : Type} {g : Nat → Option α} {a b : α} (h : Ev g a) (h' : Ev g b) : a = b := by
  obtain ⟨K, hK⟩ := h
  obtain ⟨K', hK'⟩ := h'
  have := (hK (K + K') (by omega)).symm.trans (hK' (K + K') (by omega))
  exact Option.some.inj this

/-- A loop by its rounds: at each one it ends, or goes on to the next. F: what it comes to from there. -/
theorem scan {ρ : Type} (L : Nat → Nat → Option ρ) (n : Nat) (F : Nat → ρ) (hend : Ev (fun k => L (k + 1) n) (F n))
    (hstep : ∀ i, i < n → Ev (fun k => L (k + 1) i) (F i) ∨ (F i = F (i + 1) ∧ EvEq (fun k => L (k + 1) i) (fun k => L k (i + 1)))) : ∀ i, i ≤ n → Ev (fun k => L k i) (F i) := by
  have key : ∀ d i, i + d = n → Ev (fun k => L k i) (F i) := by
    intro d
    induction d with
    | zero =>
      intro i hi
      have e : i = n := by omega
      rw [e]
      exact Ev.up (g := fun k => L k n) hend
    | succ d ih =>
      intro i hi
      rcases hstep i (by omega) with h | ⟨h, h'⟩
      · exact Ev.up (g := fun k => L k i) h
      · rw [h]
        exact Ev.up (g := fun k => L k i) (Ev.ofEq h' (ih (i + 1) (by omega)))
  intro i hi
  exact key (n - i) i (by omega)

/-- A loop whose value at the end is known, and at each round that of the next one. -/
theorem scanI {ρ : Type} (L : Nat → Nat → Option ρ) (n : Nat) (F : Nat → ρ) (hend : Ev (fun k => L k n) (F n))
    (hstep : ∀ i, i < n → Ev (fun k => L k (i + 1)) (F (i + 1)) → Ev (fun k => L k i) (F i)) : ∀ i, i ≤ n → Ev (fun k => L k i) (F i) := by
  have key : ∀ d i, i + d = n → Ev (fun k => L k i) (F i) := by
    intro d
    induction d with
    | zero =>
      intro i hi
      have e : i = n := by omega
      rw [e]
      exact hend
    | succ d ih =>
      intro i hi
      exact hstep i (by omega) (ih (i + 1) (by omega))
  intro i hi
  exact key (n - i) i (by omega)
theorem Ev.ite {α : Type} {c : Prop} [Decidable c] {A B : Nat → Option α} {r : α} (h : c → Ev A r) (h' : ¬ c → Ev B r) : Ev (fun k => if c then A k else B k) r := by
  by_cases e : c
  · exact Ev.ifPos e (h e)
  · exact Ev.ifNeg e (h' e)

def allFrom (p : Nat → Bool) (i n : Nat) : Bool := (List.range' i (n - i)).all p
theorem allFrom_end (p : Nat → Bool) (n : Nat) : allFrom p n n = true := by simp [allFrom]
theorem allFrom_step (p : Nat → Bool) {i n : Nat} (h : i < n) : allFrom p i n = (p i && allFrom p (i + 1) n) := by
  unfold allFrom
  obtain ⟨d, hd⟩ : ∃ d, n - i = d + 1 := ⟨n - i - 1, by omega⟩
  have : n - (i + 1) = d := by omega
  rw [hd, this, List.range'_succ, List.all_cons]
theorem allFrom_iff (p : Nat → Bool) (i n : Nat) : allFrom p i n = true ↔ ∀ j, i ≤ j → j < n → p j = true := by
  unfold allFrom
  rw [List.all_eq_true]
  constructor
  · intro h j h1 h2
    exact h j (by rw [List.mem_range'_1]; omega)
  · intro h j hj
    rw [List.mem_range'_1] at hj
    exact h j (by omega) (by omega)
/-- A loop that goes on while p, and ends with false. -/
theorem allScan (L : Nat → Nat → Option Bool) (n : Nat) (p : Nat → Bool) (fin : Bool) (hend : Ev (fun k => L (k + 1) n) fin)
    (hstep : ∀ i, i < n → EvEq (fun k => L (k + 1) i) (fun k => if p i = true then L k (i + 1) else some false)) : ∀ i, i ≤ n → Ev (fun k => L k i) (allFrom p i n && fin) := by
  refine scan L n (fun i => allFrom p i n && fin) ?_ ?_
  · show Ev _ (allFrom p n n && fin)
    rw [allFrom_end, Bool.true_and]
    exact hend
  · intro i hi
    by_cases hp : p i = true
    · right
      refine ⟨by show (allFrom p i n && fin) = (allFrom p (i + 1) n && fin); rw [allFrom_step p hi, hp, Bool.true_and], ?_⟩
      have h := hstep i hi
      simpa only [if_pos hp] using h
    · left
      have h := hstep i hi
      have hp' : p i = false := by simpa using hp
      have e : (allFrom p i n && fin) = false := by rw [allFrom_step p hi, hp']; rfl
      show Ev _ (allFrom p i n && fin)
      rw [e]
      refine Ev.ofEq h (Ev.const fun k => ?_)
      rw [if_neg hp]

def firstFrom (p : Nat → Bool) (i n : Nat) : Int := match (List.range' i (n - i)).find? p with | some j => (j : Int) | none => -1
theorem firstFrom_end (p : Nat → Bool) (n : Nat) : firstFrom p n n = -1 := by simp [firstFrom]
theorem firstFrom_step (p : Nat → Bool) {i n : Nat} (h : i < n) : firstFrom p i n = if p i = true then (i : Int) else firstFrom p (i + 1) n := by
  unfold firstFrom
  obtain ⟨d, hd⟩ : ∃ d, n - i = d + 1 := ⟨n - i - 1, by omega⟩
  have : n - (i + 1) = d := by omega
  rw [hd, this, List.range'_succ, List.find?_cons]
  cases p i <;> simp
/-- A loop that ends at the first index with p, and tells -1 where there is none. -/
theorem firstScan (L : Nat → Nat → Option Int) (n : Nat) (p : Nat → Bool) (hend : Ev (fun k => L (k + 1) n) (-1))
    (hstep : ∀ i, i < n → EvEq (fun k => L (k + 1) i) (fun k => if p i = true then some (i : Int) else L k (i + 1))) : ∀ i, i ≤ n → Ev (fun k => L k i) (firstFrom p i n) := by
  refine scan L n (fun i => firstFrom p i n) ?_ ?_
  · show Ev _ (firstFrom p n n)
    rw [firstFrom_end]
    exact hend
  · intro i hi
    by_cases hp : p i = true
    · left
      show Ev _ (firstFrom p i n)
      rw [firstFrom_step p hi, if_pos hp]
      exact Ev.ofEq (hstep i hi) (Ev.const fun k => by rw [if_pos hp])
    · right
      refine ⟨by show firstFrom p i n = firstFrom p (i + 1) n; rw [firstFrom_step p hi, if_neg hp], ?_⟩
      simpa only [if_neg hp] using hstep i hi
theorem firstFrom_none (p : Nat → Bool) {n : Nat} : ∀ i, i ≤ n → (firstFrom p i n = -1 ↔ ∀ j, i ≤ j → j < n → p j = false) := by
  have key : ∀ d i, i + d = n → (firstFrom p i n = -1 ↔ ∀ j, i ≤ j → j < n → p j = false) := by
    intro d
    induction d with
    | zero =>
      intro i hi
      have e : i = n := by omega
      subst e
      rw [firstFrom_end]
      exact ⟨fun _ j h1 h2 => by omega, fun _ => rfl⟩
    | succ d ih =>
      intro i hi
      rw [firstFrom_step p (by omega)]
      by_cases hp : p i = true
      · rw [if_pos hp]
        constructor
        · intro h; omega
        · intro h
          have := h i (by omega) (by omega)
          rw [hp] at this
          cases this
      · rw [if_neg hp, ih (i + 1) (by omega)]
        constructor
        · intro h j h1 h2
          by_cases e : j = i
          · subst e; simpa using hp
          · exact h j (by omega) h2
        · intro h j h1 h2
          exact h j (by omega) h2
  intro i hi
  exact key (n - i) i (by omega)
theorem firstFrom_some (p : Nat → Bool) {n : Nat} : ∀ i, i ≤ n → firstFrom p i n ≠ -1 → ∃ j : Nat, firstFrom p i n = (j : Int) ∧ i ≤ j ∧ j < n ∧ p j = true := by
  have key : ∀ d i, i + d = n → firstFrom p i n ≠ -1 → ∃ j : Nat, firstFrom p i n = (j : Int) ∧ i ≤ j ∧ j < n ∧ p j = true := by
    intro d
    induction d with
    | zero =>
      intro i hi h
      have e : i = n := by omega
      subst e
      rw [firstFrom_end] at h
      exact absurd rfl h
    | succ d ih =>
      intro i hi h
      rw [firstFrom_step p (by omega)] at h ⊢
      by_cases hp : p i = true
      · rw [if_pos hp]
        exact ⟨i, rfl, by omega, by omega, hp⟩
      · rw [if_neg hp] at h ⊢
        obtain ⟨j, h1, h2, h3, h4⟩ := ih (i + 1) (by omega) h
        exact ⟨j, h1, by omega, h3, h4⟩
  intro i hi
  exact key (n - i) i (by omega)
theorem firstFrom_congr {p q : Nat → Bool} {n : Nat} (h : ∀ j, j < n → p j = q j) : ∀ i, i ≤ n → firstFrom p i n = firstFrom q i n := by
  have key : ∀ d i, i + d = n → firstFrom p i n = firstFrom q i n := by
    intro d
    induction d with
    | zero =>
      intro i hi
      have e : i = n := by omega
      subst e
      rw [firstFrom_end, firstFrom_end]
    | succ d ih =>
      intro i hi
      rw [firstFrom_step p (by omega), firstFrom_step q (by omega), h i (by omega), ih (i + 1) (by omega)]
  intro i hi
  exact key (n - i) i (by omega)

theorem getD_at {α : Type} {xs : List α} {i : Nat} (h : i < xs.length) (d : α) : xs.getD i d = xs[i] := by
  rw [List.getD_eq_getElem?_getD, List.getElem?_eq_getElem h]; rfl
theorem rd_at {xs : List Int} {i : Nat} (h : i < xs.length) : rd xs (i : Int) = xs[i] := by
  unfold rd; rw [Int.toNat_natCast]; exact getD_at h _
theorem rdOf_at {α : Type} {d : α} {xs : List α} {i : Nat} (h : i < xs.length) : rdOf d xs (i : Int) = xs[i] := by
  unfold rdOf; rw [Int.toNat_natCast]; exact getD_at h _
theorem allFrom_congr {p q : Nat → Bool} (h : ∀ j, p j = q j) (i n : Nat) : allFrom p i n = allFrom q i n := by
  rw [show p = q from funext h]
/-- Rows that are compared place by place. -/
theorem rows3 {L : Nat → Int → Option Bool} {n m : Nat} {c : Int → Bool} (hn : n ≤ 9223372036854775807)
    (hL : ∀ k i, L (k + 1) i = if i < (n : Int) then (if 0 ≤ i then (if i < (m : Int) then (if c i = true then some false else L k (wrap64 (i + 1))) else none) else none) else some true) :
    Ev (fun k => if (n : Int) = (m : Int) then L k 0 else some false) (decide (n = m) && allFrom (fun j => !c j) 0 n) := by
  by_cases hl : n = m
  · rw [decide_eq_true hl, Bool.true_and]
    refine Ev.ifPos (by omega) ?_
    have h := allScan (fun k i => L k (i : Int)) n (fun j => !c j) true (Ev.const fun k => by rw [hL, if_neg (by omega)]) (by
      intro i hi
      refine EvEq.now fun k => ?_
      rw [hL, if_pos (by omega), if_pos (by omega), if_pos (by omega), wnext hi (by omega)]
      cases c i <;> rfl) 0 (by omega)
    rw [Bool.and_true] at h
    exact h
  · rw [decide_eq_false hl, Bool.false_and]
    exact Ev.ifNeg (by omega) (Ev.const fun _ => rfl)
theorem rows4 {L : Nat → Int → Option Bool} {n m : Nat} {c : Int → Bool} (hn : n ≤ 9223372036854775807)
    (hL : ∀ k i, L (k + 1) i = if i < (n : Int) then (if 0 ≤ i then (if i < (n : Int) then (if i < (m : Int) then (if c i = true then some false else L k (wrap64 (i + 1))) else none) else none) else none) else some true) :
    Ev (fun k => if (n : Int) = (m : Int) then L k 0 else some false) (decide (n = m) && allFrom (fun j => !c j) 0 n) := by
  refine rows3 hn fun k i => ?_
  rw [hL]
  by_cases h : i < (n : Int)
  · rw [if_pos h, if_pos h, if_pos h]
  · rw [if_neg h, if_neg h]
/-- A row that is filled from its begin. -/
theorem fill_set {α : Type} (xs : List α) (z : α) {i n : Nat} (hi : i < n) (hl : xs.length = n) : (xs.take i ++ List.replicate (n - i) z).set i (xs[i]'(by omega)) = xs.take (i + 1) ++ List.replicate (n - (i + 1)) z := by
  have hlt : (xs.take i).length = i := by rw [List.length_take]; omega
  rw [List.set_append_right _ _ (by omega), hlt, Nat.sub_self]
  obtain ⟨d, hd⟩ : ∃ d, n - i = d + 1 := ⟨n - i - 1, by omega⟩
  have hd' : n - (i + 1) = d := by omega
  rw [hd, hd', List.replicate_succ, List.set_cons_zero, List.take_succ_eq_append_getElem (by omega), List.append_assoc]
  rfl

end Go.Proofs.Ytoklpimhcdfbbaa.B

/-! ## Conv -/
/- Plain words for the laws' own helpers: measuring an argument, copying it, comparing it with itself, marking a result and finding the marks again. No condition but the lengths that fit. -/
namespace Go.Proofs.Ytoklpimhcdfbbaa.B
open Go.RowKit Go.Proofs.YtoklpimhcdfbbaaW.PrintWords

def sumOf {α : Type} (f : α → Int) (xs : List α) : Int := (xs.map f).sum
theorem sumOf_nil {α : Type} (f : α → Int) : sumOf f [] = 0 := rfl
theorem sumOf_cons {α : Type} (f : α → Int) (x : α) (xs : List α) : sumOf f (x :: xs) = f x + sumOf f xs := by simp [sumOf]
theorem sumOf_nonneg {α : Type} {f : α → Int} {xs : List α} (h : ∀ x ∈ xs, 0 ≤ f x) : 0 ≤ sumOf f xs := by
  induction xs with
  | nil => simp [sumOf]
  | cons x xs ih =>
    rw [sumOf_cons]
    have h1 := h x (List.mem_cons_self ..)
    have h2 := ih fun y hy => h y (List.mem_cons_of_mem _ hy)
    omega
theorem sumOf_mem {α : Type} {f : α → Int} {xs : List α} (h : ∀ x ∈ xs, 0 ≤ f x) : ∀ x ∈ xs, f x ≤ sumOf f xs := by
  induction xs with
  | nil => intro x hx; cases hx
  | cons y xs ih =>
    intro x hx
    rw [sumOf_cons]
    have h1 := h y (List.mem_cons_self ..)
    have h2 := sumOf_nonneg (f := f) (xs := xs) fun z hz => h z (List.mem_cons_of_mem _ hz)
    rcases List.mem_cons.1 hx with rfl | hx
    · omega
    · have := ih (fun z hz => h z (List.mem_cons_of_mem _ hz)) x hx
      omega

/-- g takes s off what is left, or tells -1 if there is less. -/
def Sz (g : Int → Nat → Option Int) (s : Int) : Prop := 0 ≤ s ∧ ∀ left, 0 ≤ left → left ≤ 1048576 → Ev (fun k => g left k) (if s ≤ left then left - s else -1)
theorem Sz.id : Sz (fun left _ => some left) 0 := ⟨by omega, fun left h h' => Ev.const fun k => by show some left = _; rw [if_pos h, show left - 0 = left by omega]⟩
theorem Sz.seq {g h : Int → Nat → Option Int} {s t : Int} (a : Sz g s) (b : Sz h t) : Sz (fun left k => (g left k).bind fun u => if u < 0 then some (-1) else h u k) (s + t) := by
  refine ⟨by have := a.1; have := b.1; omega, fun left h0 h1 => ?_⟩
  have hs := a.1
  have ht := b.1
  refine Ev.bindE (a.2 left h0 h1) ?_
  by_cases c : s ≤ left
  · simp only [if_pos c]
    refine Ev.ifNeg (by omega) ?_
    have := b.2 (left - s) (by omega) (by omega)
    by_cases d : t ≤ left - s
    · rw [if_pos (by omega)]
      rw [if_pos d] at this
      have e : left - s - t = left - (s + t) := by omega
      rwa [e] at this
    · rw [if_neg (by omega)]
      rwa [if_neg d] at this
  · simp only [if_neg c]
    rw [if_neg (by omega)]
    exact Ev.ifPos (by omega) (Ev.const fun _ => rfl)
theorem Sz.len {n : Nat} (hn : n ≤ 9223372036854775807) {h : Int → Nat → Option Int} {t : Int} (b : Sz h t) : Sz (fun left k => if wrap64 (left - (n : Int)) < 0 then some (-1) else h (wrap64 (left - (n : Int))) k) ((n : Int) + t) := by
  have ht := b.1
  refine ⟨by omega, fun left h0 h1 => ?_⟩
  have e : wrap64 (left - (n : Int)) = left - n := w64 (by omega) (by omega)
  simp only [e]
  by_cases c : (n : Int) ≤ left
  · refine Ev.ifNeg (by omega) ?_
    have := b.2 (left - n) (by omega) (by omega)
    by_cases d : t ≤ left - n
    · rw [if_pos (by omega)]
      rw [if_pos d] at this
      have e : left - n - t = left - (n + t) := by omega
      rwa [e] at this
    · rw [if_neg (by omega)]
      rwa [if_neg d] at this
  · rw [if_neg (by omega)]
    exact Ev.ifPos (by omega) (Ev.const fun _ => rfl)
/-- A row: its length, then each element in turn. -/
theorem Sz.list {α : Type} {xs : List α} {rdx : Int → α} {e : α → Int → Nat → Option Int} {s : α → Int} {L : Nat → Int → Int → Option Int} (hn : xs.length ≤ 9223372036854775807)
    (hrd : ∀ (i : Nat) (h : i < xs.length), rdx (i : Int) = xs[i]) (he : ∀ x ∈ xs, Sz (e x) (s x))
    (hL : ∀ k l i, L (k + 1) l i = if i < (xs.length : Int) then (if 0 ≤ i then ((e (rdx i) l k).bind fun u => if u < 0 then some (-1) else L k u (wrap64 (i + 1))) else none) else some l) :
    Sz (fun left k => if wrap64 (left - (xs.length : Int)) < 0 then some (-1) else L k (wrap64 (left - (xs.length : Int))) 0) ((xs.length : Int) + sumOf s xs) := by
  refine Sz.len hn (h := fun left k => L k left 0) ⟨sumOf_nonneg fun x hx => (he x hx).1, ?_⟩
  have key : ∀ (suf pre : List α), xs = pre ++ suf → ∀ left, 0 ≤ left → left ≤ 1048576 → Ev (fun k => L k left (pre.length : Int)) (if sumOf s suf ≤ left then left - sumOf s suf else -1) := by
    intro suf
    induction suf with
    | nil =>
      intro pre hx left h0 h1
      refine Ev.up (g := fun k => L k left (pre.length : Int)) (Ev.const fun k => ?_)
      have : xs.length = pre.length := by rw [hx]; simp
      rw [hL, if_neg (by omega), sumOf_nil, if_pos h0]
      congr 1; omega
    | cons x suf ih =>
      intro pre hx left h0 h1
      have hlen : xs.length = pre.length + (suf.length + 1) := by rw [hx]; simp
      have hi : pre.length < xs.length := by omega
      have hxi : xs[pre.length] = x := by simp [hx]
      have hm : x ∈ xs := by rw [hx]; simp
      have hs := (he x hm).1
      have hss : 0 ≤ sumOf s suf := sumOf_nonneg fun y hy => (he y (by rw [hx]; simp [hy])).1
      refine Ev.up (g := fun k => L k left (pre.length : Int)) ?_
      simp only [hL, hrd _ hi, hxi]
      refine Ev.ifPos (by omega) (Ev.ifPos (by omega) (Ev.bindE ((he x hm).2 left h0 h1) ?_))
      rw [sumOf_cons]
      by_cases c : s x ≤ left
      · simp only [if_pos c]
        refine Ev.ifNeg (by omega) ?_
        have h' := ih (pre ++ [x]) (by rw [hx]; simp) (left - s x) (by omega) (by omega)
        have e1 : ((pre ++ [x]).length : Int) = wrap64 ((pre.length : Int) + 1) := by rw [wnext hi (by omega)]; simp
        rw [e1] at h'
        by_cases d : sumOf s suf ≤ left - s x
        · rw [if_pos (by omega)]
          rw [if_pos d] at h'
          have e : left - s x - sumOf s suf = left - (s x + sumOf s suf) := by omega
          rwa [e] at h'
        · rw [if_neg (by omega)]
          rwa [if_neg d] at h'
      · simp only [if_neg c]
        rw [if_neg (by omega)]
        exact Ev.ifPos (by omega) (Ev.const fun _ => rfl)
  exact key xs [] rfl

/-- Copying a row, element by element. -/
theorem Cv.list {α β τ : Type} {xs : List α} {rdx : Int → α} {e : Nat → α → Option τ} {mk : τ → β} {c : α → β} {t : α → τ} {z : β} {L : Nat → List β → Int → Option (List β)} {lim : Nat}
    (hlim : xs.length ≤ lim) (hbig : xs.length ≤ 9223372036854775807) (hrd : ∀ (i : Nat) (h : i < xs.length), rdx (i : Int) = xs[i]) (he : ∀ x ∈ xs, Ev (fun k => e k x) (t x)) (hc : ∀ x, mk (t x) = c x)
    (hL : ∀ k ys i, L (k + 1) ys i = if i < (xs.length : Int) then (if 0 ≤ i then ((e k (rdx i)).bind fun bt => if i < (ys.length : Int) then L k (ys.set i.toNat (mk bt)) (wrap64 (i + 1)) else none) else none) else some ys) :
    Ev (fun k => if 0 ≤ (xs.length : Int) then (if ((xs.length : Int)).toNat ≤ lim then L k (List.replicate ((xs.length : Int)).toNat z) 0 else none) else none) (xs.map c) := by
  refine Ev.ifPos (by omega) (Ev.ifPos (by omega) ?_)
  have h := scanI (fun k i => L k ((xs.map c).take i ++ List.replicate (xs.length - i) z) (i : Int)) xs.length (fun _ => xs.map c) (Ev.up (g := fun k => L k ((xs.map c).take xs.length ++ List.replicate (xs.length - xs.length) z) (xs.length : Int)) (Ev.const fun k => by
      rw [hL, if_neg (by omega)]
      simp [List.take_of_length_le])) (by
      intro i hi ih
      refine Ev.up (g := fun k => L k ((xs.map c).take i ++ List.replicate (xs.length - i) z) (i : Int)) ?_
      have hl : ((xs.map c).take i ++ List.replicate (xs.length - i) z).length = xs.length := by simp; omega
      simp only [hL, hrd _ hi]
      refine Ev.ifPos (by omega) (Ev.ifPos (by omega) (Ev.bindE (he _ (List.getElem_mem hi)) (Ev.ifPos (by rw [hl]; omega) ?_)))
      have hs := fill_set (xs.map c) z (i := i) (n := xs.length) hi (by simp)
      rw [hc, Int.toNat_natCast, wnext hi (by omega)]
      rw [List.getElem_map] at hs
      rw [hs]
      exact ih) 0 (by omega)
  simpa using h
theorem Cv.plain {α : Type} {xs : List α} {rdx : Int → α} {z : α} {L : Nat → List α → Int → Option (List α)} {lim : Nat}
    (hlim : xs.length ≤ lim) (hbig : xs.length ≤ 9223372036854775807) (hrd : ∀ (i : Nat) (h : i < xs.length), rdx (i : Int) = xs[i])
    (hL : ∀ k ys i, L (k + 1) ys i = if i < (xs.length : Int) then (if 0 ≤ i then (if i < (ys.length : Int) then L k (ys.set i.toNat (rdx i)) (wrap64 (i + 1)) else none) else none) else some ys) :
    Ev (fun k => if 0 ≤ (xs.length : Int) then (if ((xs.length : Int)).toNat ≤ lim then L k (List.replicate ((xs.length : Int)).toNat z) 0 else none) else none) xs := by
  have h := Cv.list (xs := xs) (rdx := rdx) (e := fun _ x => some x) (mk := fun x => x) (c := fun x => x) (t := fun x => x) (z := z) (L := L) hlim hbig hrd (fun x _ => Ev.const fun _ => rfl) (fun _ => rfl) hL
  simpa using h

/-- Comparing a row with itself. -/
theorem Eq.list {α : Type} {xs : List α} {rdx : Int → α} {e : Nat → α → Option Bool} {L : Nat → Int → Option Bool}
    (hbig : xs.length ≤ 9223372036854775807) (hrd : ∀ (i : Nat) (h : i < xs.length), rdx (i : Int) = xs[i]) (he : ∀ x ∈ xs, Ev (fun k => e k x) true)
    (hL : ∀ k i, L (k + 1) i = if i < (xs.length : Int) then (if 0 ≤ i then (if i < (xs.length : Int) then ((e k (rdx i)).bind fun u => if u = true then L k (wrap64 (i + 1)) else some false) else none) else none) else some true) :
    Ev (fun k => if (xs.length : Int) = (xs.length : Int) then L k 0 else some false) true := by
  refine Ev.ifPos rfl ?_
  exact scanI (fun k i => L k (i : Int)) xs.length (fun _ => true) (Ev.up (g := fun k => L k (xs.length : Int)) (Ev.const fun k => by rw [hL, if_neg (by omega)])) (by
    intro i hi ih
    refine Ev.up (g := fun k => L k (i : Int)) ?_
    simp only [hL, hrd _ hi]
    refine Ev.ifPos (by omega) (Ev.ifPos (by omega) (Ev.ifPos (by omega) (Ev.bindE (he _ (List.getElem_mem hi)) (Ev.ifPos rfl ?_))))
    rw [wnext hi (by omega)]
    exact ih) 0 (by omega)

theorem Eq.flat {α : Type} {xs : List α} {P : Int → Prop} [DecidablePred P] {L : Nat → Int → Option Bool}
    (hbig : xs.length ≤ 9223372036854775807) (hP : ∀ x, P x)
    (hL : ∀ k i, L (k + 1) i = if i < (xs.length : Int) then (if 0 ≤ i then (if i < (xs.length : Int) then (if P i then L k (wrap64 (i + 1)) else some false) else none) else none) else some true) :
    Ev (fun k => if (xs.length : Int) = (xs.length : Int) then L k 0 else some false) true := by
  refine Ev.ifPos rfl ?_
  exact scanI (fun k i => L k (i : Int)) xs.length (fun _ => true) (Ev.up (g := fun k => L k (xs.length : Int)) (Ev.const fun k => by rw [hL, if_neg (by omega)])) (by
    intro i hi ih
    refine Ev.up (g := fun k => L k (i : Int)) ?_
    simp only [hL]
    refine Ev.ifPos (by omega) (Ev.ifPos (by omega) (Ev.ifPos (by omega) (Ev.ifPos (hP _) ?_)))
    rw [wnext hi (by omega)]
    exact ih) 0 (by omega)

/-- Marks from c on, put into each element in turn. -/
def markAll {α : Type} (E : α → Int → α) (cost : α → Int) : List α → Int → List α
  | [], _ => []
  | x :: xs, c => E x c :: markAll E cost xs (c + cost x)
theorem markAll_len {α : Type} (E : α → Int → α) (cost : α → Int) (xs : List α) : ∀ c, (markAll E cost xs c).length = xs.length := by
  induction xs with
  | nil => intro c; rfl
  | cons x xs ih => intro c; simp [markAll, ih]
theorem Mk.list {α : Type} {E : α → Int → α} {cost : α → Int} {L : Nat → List α → Int → Int → Option (Int × List α)} {n : Nat} (hbig : n ≤ 1048576) (hcost : ∀ x, 0 ≤ cost x)
    (hend : ∀ k ys c, ys.length = n → L (k + 1) ys c (n : Int) = some (c, ys))
    (hstep : ∀ ys c (i : Nat) (h : i < ys.length), ys.length = n → 0 ≤ c → c + cost ys[i] ≤ 4611686018427387904 → EvEq (fun k => L (k + 1) ys c (i : Int)) (fun k => L k (ys.set i (E ys[i] c)) (c + cost ys[i]) ((i + 1 : Nat) : Int))) :
    ∀ xs : List α, xs.length = n → ∀ c, 0 ≤ c → c + sumOf cost xs ≤ 4611686018427387904 → Ev (fun k => L k xs c 0) (c + sumOf cost xs, markAll E cost xs c) := by
  have key : ∀ (suf pre : List α) (c : Int), (pre ++ suf).length = n → 0 ≤ c → c + sumOf cost suf ≤ 4611686018427387904 → Ev (fun k => L k (pre ++ suf) c (pre.length : Int)) (c + sumOf cost suf, pre ++ markAll E cost suf c) := by
    intro suf
    induction suf with
    | nil =>
      intro pre c hl h0 h1
      refine Ev.up (g := fun k => L k (pre ++ []) c (pre.length : Int)) (Ev.const fun k => ?_)
      have e : (pre.length : Int) = (n : Int) := by rw [← hl]; simp
      rw [e, hend k _ c hl, sumOf_nil]
      simp [markAll]
    | cons x suf ih =>
      intro pre c hl h0 h1
      rw [sumOf_cons] at h1 ⊢
      have hc := hcost x
      have hs : 0 ≤ sumOf cost suf := sumOf_nonneg fun y _ => hcost y
      have hi : pre.length < (pre ++ x :: suf).length := by simp
      have hx : (pre ++ x :: suf)[pre.length] = x := by simp
      refine Ev.up (g := fun k => L k (pre ++ x :: suf) c (pre.length : Int)) ?_
      have st := hstep (pre ++ x :: suf) c pre.length hi hl h0 (by rw [hx]; omega)
      rw [hx] at st
      refine Ev.ofEq st ?_
      have h' := ih (pre ++ [E x c]) (c + cost x) (by simpa using hl) (by omega) (by omega)
      have e1 : (pre ++ x :: suf).set pre.length (E x c) = pre ++ [E x c] ++ suf := by
        rw [List.set_append_right _ _ (by omega), Nat.sub_self]
        simp
      have e2 : ((pre ++ [E x c]).length : Int) = ((pre.length + 1 : Nat) : Int) := by simp
      rw [e1, ← e2]
      have e3 : c + (cost x + sumOf cost suf) = c + cost x + sumOf cost suf := by omega
      rw [e3]
      simpa [markAll] using h'
  intro xs hn c h0 h1
  exact key xs [] c (by simpa using hn) h0 h1
theorem Hd.list {α : Type} {E : α → Int → α} {cost : α → Int} {L : Nat → List α → Int → Int → Option Int} {n : Nat} (hcost : ∀ x, 0 ≤ cost x)
    (hend : ∀ k ys c, ys.length = n → L (k + 1) ys c (n : Int) = some c)
    (hstep : ∀ ys c (i : Nat) (h : i < ys.length) x, ys[i] = E x c → ys.length = n → 0 ≤ c → c + cost x ≤ 4611686018427387904 → EvEq (fun k => L (k + 1) ys c (i : Int)) (fun k => L k ys (c + cost x) ((i + 1 : Nat) : Int))) :
    ∀ xs : List α, xs.length = n → ∀ c, 0 ≤ c → c + sumOf cost xs ≤ 4611686018427387904 → Ev (fun k => L k (markAll E cost xs c) c 0) (c + sumOf cost xs) := by
  have key : ∀ (suf pre : List α) (c : Int), (pre ++ suf).length = n → 0 ≤ c → c + sumOf cost suf ≤ 4611686018427387904 → Ev (fun k => L k (pre ++ markAll E cost suf c) c (pre.length : Int)) (c + sumOf cost suf) := by
    intro suf
    induction suf with
    | nil =>
      intro pre c hl h0 h1
      refine Ev.up (g := fun k => L k (pre ++ markAll E cost [] c) c (pre.length : Int)) (Ev.const fun k => ?_)
      have e : (pre.length : Int) = (n : Int) := by rw [← hl]; simp
      rw [e, hend k _ c (by simpa [markAll] using hl), sumOf_nil]
      simp
    | cons x suf ih =>
      intro pre c hl h0 h1
      rw [sumOf_cons] at h1 ⊢
      have hc := hcost x
      have hs : 0 ≤ sumOf cost suf := sumOf_nonneg fun y _ => hcost y
      have hi : pre.length < (pre ++ markAll E cost (x :: suf) c).length := by simp [markAll]
      have hx : (pre ++ markAll E cost (x :: suf) c)[pre.length] = E x c := by simp [markAll]
      refine Ev.up (g := fun k => L k (pre ++ markAll E cost (x :: suf) c) c (pre.length : Int)) ?_
      have hln : (pre ++ markAll E cost (x :: suf) c).length = n := by
        rw [← hl]; simp [markAll_len]
      refine Ev.ofEq (hstep _ c pre.length hi x hx hln h0 (by omega)) ?_
      have h' := ih (pre ++ [E x c]) (c + cost x) (by simpa using hl) (by omega) (by omega)
      have e2 : ((pre ++ [E x c]).length : Int) = ((pre.length + 1 : Nat) : Int) := by simp
      rw [← e2]
      have e3 : c + (cost x + sumOf cost suf) = c + cost x + sumOf cost suf := by omega
      rw [e3]
      simpa [markAll] using h'
  intro xs hn c h0 h1
  exact key xs [] c (by simpa using hn) h0 h1
end Go.Proofs.Ytoklpimhcdfbbaa.B

/-! ## CInt64S -/
/- Generated by conv.py: what the laws' helpers do with values of type Int64S. No condition but the lengths that fit. -/
namespace Go.Proofs.Ytoklpimhcdfbbaa.C
open Go.RowKit Go.Proofs.YtoklpimhcdfbbaaW.PrintWords Go.Proofs.Ytoklpimhcdfbbaa.X Go.Proofs.Ytoklpimhcdfbbaa.B
def szv_Int64S (xs : List Int) : Int := (xs.length : Int)
theorem szv_Int64S_nonneg (xs : List Int) : 0 ≤ szv_Int64S xs := by unfold szv_Int64S; omega
theorem szv_Int64S_len (xs : List Int) : (xs.length : Int) ≤ szv_Int64S xs := Int.le_refl _
theorem to_Int64S (xs : List Int) (h : szv_Int64S xs ≤ 1048576) : Ev (fun k => laws_toInt64S.f k xs) (xs) :=
  Cv.plain (rdx := rd xs) (L := fun k ys i => laws_toInt64S.l0 k xs ys i) (by have := szv_Int64S_len xs; omega) (by have := szv_Int64S_len xs; omega) (fun i hi => rd_at hi) (fun _ _ _ => rfl)
def fit_Int64S (xs : List Int) : Prop := xs.length ≤ 9223372036854775807
theorem fitc_Int64S (xs : List Int) (h : szv_Int64S xs ≤ 1048576) : fit_Int64S xs := by
  have hl := szv_Int64S_len xs
  unfold fit_Int64S
  omega
theorem eq_Int64S (xs : List Int) (h : fit_Int64S xs) : Ev (fun k => laws_eqInt64S.f k xs xs) true :=
  Eq.flat (xs := xs) (P := fun i => (rd xs i) = (rd xs i)) (L := fun k i => laws_eqInt64S.l0 k xs xs i) h (fun _ => rfl) (fun _ _ => rfl)
end Go.Proofs.Ytoklpimhcdfbbaa.C

/-! ## PMarks -/
/- Plain laws of marks: a row of whole numbers marked and found again; the text of a mark. No condition but sizes that fit. -/
namespace Go.Proofs.Ytoklpimhcdfbbaa.PMarks
open Go.RowKit Go.Proofs.YtoklpimhcdfbbaaW.PrintWords Go.Proofs.Ytoklpimhcdfbbaa.X Go.Proofs.Ytoklpimhcdfbbaa.B
/-- Whole numbers, marked from c on. -/
def mi (xs : List Int) (c : Int) : List Int := markAll (fun _ c => c) (fun _ => 1) xs c
theorem mi_len (xs : List Int) (c : Int) : (mi xs c).length = xs.length := markAll_len _ _ _ _
theorem one_sum (xs : List Int) : sumOf (fun _ : Int => (1 : Int)) xs = xs.length := by
  induction xs with
  | nil => rfl
  | cons x xs ih => rw [sumOf_cons, ih]; simp; omega
theorem markInts_ev (xs : List Int) (c : Int) (hn : xs.length ≤ 1048576) (h0 : 0 ≤ c) (h1 : c + xs.length ≤ 4611686018427387904) : Ev (fun k => laws_markInt64S.f k xs c) (c + xs.length, mi xs c) := by
  have h := Mk.list (E := fun (_ : Int) (c : Int) => c) (cost := fun _ => 1) (L := fun k ys c i => laws_markInt64S.l0 k ys c i) (n := xs.length) hn (fun _ => by omega) (by
    intro k ys c hl
    simp only [laws_markInt64S.l0]
    rw [if_neg (by omega)]) (by
    intro ys c i hi hl h0 h1
    refine EvEq.now fun k => ?_
    simp only [laws_markInt64S.l0]
    rw [if_pos (by omega), if_pos (by omega), wnext hi (by omega), w64 (x := c + 1) (by omega) (by omega)]
    rfl) xs rfl c h0 (by rw [one_sum]; omega)
  rw [one_sum] at h
  exact h
theorem heldInts_ev (xs : List Int) (c : Int) (hn : xs.length ≤ 1048576) (h0 : 0 ≤ c) (h1 : c + xs.length ≤ 4611686018427387904) : Ev (fun k => laws_heldInt64S.f k (mi xs c) c) (c + xs.length) := by
  have h := Hd.list (E := fun (_ : Int) (c : Int) => c) (cost := fun _ => 1) (L := fun k ys c i => laws_heldInt64S.l0 k ys c i) (n := xs.length) (fun _ => by omega) (by
    intro k ys c hl
    simp only [laws_heldInt64S.l0]
    rw [if_neg (by omega)]) (by
    intro ys c i hi x hx hl h0 h1
    refine EvEq.now fun k => ?_
    simp only [laws_heldInt64S.l0]
    rw [if_pos (by omega), if_pos (by omega), rd_at hi, if_pos hx, wnext hi (by omega), w64 (x := c + 1) (by omega) (by omega)]) xs rfl c h0 (by rw [one_sum]; omega)
  rw [one_sum] at h
  exact h
end Go.Proofs.Ytoklpimhcdfbbaa.PMarks

/-! ## PSum -/
/- Plain laws of sums. No condition but the lengths that fit. -/
namespace Go.Proofs.Ytoklpimhcdfbbaa.PSum
open Go.RowKit Go.Proofs.YtoklpimhcdfbbaaW.PrintWords Go.Proofs.Ytoklpimhcdfbbaa.X Go.Proofs.Ytoklpimhcdfbbaa.B

def sum64 (c : Int) (xs : List Int) : Int := xs.foldl (fun s x => wrap64 (s + x)) c
theorem sum64_take (xs : List Int) {i : Nat} (h : i < xs.length) : sum64 0 (xs.take (i + 1)) = wrap64 (sum64 0 (xs.take i) + xs[i]) := by
  unfold sum64
  rw [List.take_succ_eq_append_getElem h, List.foldl_append]
  rfl
theorem specSum_ev (xs : List Int) (hn : xs.length ≤ 9223372036854775807) : Ev (fun k => spec_l02Sum.f k xs) (sum64 0 xs) := by
  have h := scanI (fun k i => spec_l02Sum.l0 k xs (sum64 0 (xs.take i)) (i : Int)) xs.length (fun _ => sum64 0 xs) (Ev.up (g := fun k => spec_l02Sum.l0 k xs (sum64 0 (xs.take xs.length)) (xs.length : Int)) (Ev.const fun k => by
      simp only [spec_l02Sum.l0]
      rw [if_neg (by omega), List.take_length])) (by
    intro i hi ih
    refine Ev.up (g := fun k => spec_l02Sum.l0 k xs (sum64 0 (xs.take i)) (i : Int)) ?_
    simp only [spec_l02Sum.l0, rd_at hi, wnext hi (by omega : (xs.length : Int) ≤ _)]
    rw [sum64_take xs hi] at ih
    exact Ev.ifPos (by omega) (Ev.ifPos (by omega) ih)) 0 (by omega)
  exact h
theorem implSum_ev (xs : List Int) (hn : xs.length ≤ 9223372036854775807) : Ev (fun k => impl_sum.f k xs) (sum64 0 xs) := by
  have h := scanI (fun k i => impl_sum.l0 k (sum64 0 (xs.take i)) xs (xs.length : Int) (i : Int)) xs.length (fun _ => sum64 0 xs) (Ev.up (g := fun k => impl_sum.l0 k (sum64 0 (xs.take xs.length)) xs (xs.length : Int) (xs.length : Int)) (Ev.const fun k => by
      simp only [impl_sum.l0]
      rw [if_neg (by omega), List.take_length])) (by
    intro i hi ih
    refine Ev.up (g := fun k => impl_sum.l0 k (sum64 0 (xs.take i)) xs (xs.length : Int) (i : Int)) ?_
    simp only [impl_sum.l0, rd_at hi, wnext hi (by omega : (xs.length : Int) ≤ _)]
    rw [sum64_take xs hi] at ih
    exact Ev.ifPos (by omega) (Ev.ifPos (by omega) (Ev.ifPos (by omega) ih))) 0 (by omega)
  exact h
end Go.Proofs.Ytoklpimhcdfbbaa.PSum

/-! ## PVotes -/
/- Plain laws of votes: both ask the same of votes, mandates and step. No condition but the lengths that fit. -/
namespace Go.Proofs.Ytoklpimhcdfbbaa.PVotes
open Go.RowKit Go.Proofs.YtoklpimhcdfbbaaW.PrintWords Go.Proofs.Ytoklpimhcdfbbaa.X Go.Proofs.Ytoklpimhcdfbbaa.B Go.Proofs.Ytoklpimhcdfbbaa.PSum
theorem implIn_eq (a b c : Int) : impl_in.f a b c = some (decide (b ≤ a ∧ a ≤ c)) := by
  unfold impl_in.f
  by_cases h : a ≥ b <;> by_cases h' : a ≤ c <;> simp [h, h'] <;> omega
theorem specIn_eq (a b c : Int) : spec_l00In.f a b c = some (decide (b ≤ a ∧ a ≤ c)) := by
  unfold spec_l00In.f
  by_cases h : a ≥ b <;> by_cases h' : a ≤ c <;> simp [h, h'] <;> omega
def voteIn (xs : List Int) (j : Nat) : Bool := decide (0 ≤ rd xs (j : Int) ∧ rd xs (j : Int) ≤ 1000000)
def okVotes (xs : List Int) : Bool := allFrom (voteIn xs) 0 xs.length && (decide (1 ≤ (xs.length : Int) ∧ (xs.length : Int) ≤ 8) && decide (sum64 0 xs > 0))
theorem specOk_ev (xs : List Int) (hn : xs.length ≤ 9223372036854775807) : Ev (fun k => spec_l24Ok.f k xs 1000000) (okVotes xs) := by
  have h := allScan (fun k i => spec_l24Ok.l0 k xs 1000000 (i : Int)) xs.length (voteIn xs) (decide (1 ≤ (xs.length : Int) ∧ (xs.length : Int) ≤ 8) && decide (sum64 0 xs > 0)) (by
      simp only [spec_l24Ok.l0, specIn_eq, Option.bind_some]
      refine Ev.ifNeg (by omega) (Ev.ite (fun c => ?_) (fun c => ?_))
      · rw [c, Bool.true_and]; exact Ev.bindE (specSum_ev xs hn) (Ev.const fun _ => rfl)
      · rw [Bool.eq_false_iff.2 c, Bool.false_and]; exact Ev.const fun _ => rfl) (by
    intro i hi
    refine EvEq.now fun k => ?_
    simp only [spec_l24Ok.l0, specIn_eq, Option.bind_some]
    rw [if_pos (by omega), if_pos (by omega), wnext hi (by omega)]
    rfl) 0 (by omega)
  exact h
theorem implOk_ev (xs : List Int) (hn : xs.length ≤ 9223372036854775807) : Ev (fun k => impl_ValidVotes.f k xs) (okVotes xs) := by
  have h := allScan (fun k i => impl_all_int64__impl_ValidVotes_1.l0 k xs (xs.length : Int) (i : Int)) xs.length (voteIn xs) true (Ev.const fun k => by
      simp only [impl_all_int64__impl_ValidVotes_1.l0]
      rw [if_neg (by omega)]) (by
    intro i hi
    refine EvEq.now fun k => ?_
    simp only [impl_all_int64__impl_ValidVotes_1.l0, impl_ValidVotes_1.f, implIn_eq, Option.bind_some]
    rw [if_pos (by omega), if_pos (by omega), if_pos (by omega), wnext hi (by omega)]
    rfl) 0 (by omega)
  rw [Bool.and_true] at h
  unfold impl_ValidVotes.f okVotes
  simp only [impl_size_int64.f, implIn_eq, Option.bind_some]
  refine Ev.ite (fun c => ?_) (fun c => ?_)
  · rw [c, Bool.true_and]
    refine Ev.bindE (show Ev (fun k => impl_all_int64__impl_ValidVotes_1.f k xs) _ from h) (Ev.ite (fun d => ?_) (fun d => ?_))
    · rw [d, Bool.true_and]; exact Ev.bindE (implSum_ev xs hn) (Ev.const fun _ => rfl)
    · rw [Bool.eq_false_iff.2 d, Bool.false_and]; exact Ev.const fun _ => rfl
  · rw [Bool.eq_false_iff.2 c, Bool.false_and, Bool.and_false]; exact Ev.const fun _ => rfl
def code (xs : List Int) (t s : Int) : Int := if okVotes xs = true then (if 1 ≤ t ∧ t ≤ 60 then (if 1 ≤ s ∧ s ≤ 2 then 0 else 2) else 2) else 1
theorem specCode_ev (xs : List Int) (t s : Int) (hn : xs.length ≤ 9223372036854775807) : Ev (fun k => spec_l24Code.f k xs t s) (code xs t s) := by
  unfold spec_l24Code.f code
  simp only [specIn_eq, Option.bind_some, decide_eq_true_eq]
  refine Ev.bindE (specOk_ev xs hn) (Ev.ite (fun c => ?_) (fun c => ?_))
  · rw [if_pos c]
    refine Ev.ite (fun d => ?_) (fun d => ?_)
    · rw [if_pos d]
      refine Ev.ite (fun e => ?_) (fun e => ?_)
      · rw [if_pos e]; exact Ev.const fun _ => rfl
      · rw [if_neg e]; exact Ev.const fun _ => rfl
    · rw [if_neg d]; exact Ev.const fun _ => rfl
  · rw [if_neg c]; exact Ev.const fun _ => rfl
theorem implCode_ev (xs : List Int) (t s : Int) (hn : xs.length ≤ 9223372036854775807) : Ev (fun k => impl_votesCode.f k xs t s) (code xs t s) := by
  unfold impl_votesCode.f code
  simp only [implIn_eq, Option.bind_some, decide_eq_true_eq]
  refine Ev.bindE (implOk_ev xs hn) (Ev.ite (fun c => ?_) (fun c => ?_))
  · rw [if_pos c]
    refine Ev.ite (fun d => ?_) (fun d => ?_)
    · rw [if_pos d]
      refine Ev.ite (fun e => ?_) (fun e => ?_)
      · rw [if_pos e]; exact Ev.const fun _ => rfl
      · rw [if_neg e]; exact Ev.const fun _ => rfl
    · rw [if_neg d]; exact Ev.const fun _ => rfl
  · rw [if_neg c]; exact Ev.const fun _ => rfl
theorem code_zero {xs : List Int} {t s : Int} (h : code xs t s = 0) : okVotes xs = true ∧ (1 ≤ t ∧ t ≤ 60) ∧ 1 ≤ s ∧ s ≤ 2 := by
  unfold code at h
  by_cases c : okVotes xs = true
  · rw [if_pos c] at h
    by_cases d : 1 ≤ t ∧ t ≤ 60
    · rw [if_pos d] at h
      by_cases e : 1 ≤ s ∧ s ≤ 2
      · exact ⟨c, d, e⟩
      · rw [if_neg e] at h; omega
    · rw [if_neg d] at h; omega
  · rw [if_neg c] at h; omega
theorem okVotes_in {xs : List Int} (h : okVotes xs = true) : (1 ≤ xs.length ∧ xs.length ≤ 8) ∧ ∀ i, i < xs.length → 0 ≤ rd xs (i : Int) ∧ rd xs (i : Int) ≤ 1000000 := by
  unfold okVotes at h
  simp only [Bool.and_eq_true, decide_eq_true_eq] at h
  refine ⟨by omega, fun i hi => ?_⟩
  have := (allFrom_iff _ _ _).1 h.1 i (by omega) hi
  simpa [voteIn] using this
end Go.Proofs.Ytoklpimhcdfbbaa.PVotes

/-! ## PSort -/
/- Plain laws of impl.shareOut's sort: the indices, those with greater keys first, equal keys in the order of the indices. No condition but that there is an index. -/
namespace Go.Proofs.Ytoklpimhcdfbbaa.PSort
open Go.RowKit Go.Proofs.YtoklpimhcdfbbaaW.PrintWords Go.Proofs.Ytoklpimhcdfbbaa.X
def ltA (K : Nat → Int) (n : Nat) : Fin (n + 1) → Fin (n + 1) → Bool := fun a b => decide (K b.val < K a.val)
/-- .. and equal keys by the index. -/
def ltB (K : Nat → Int) (n : Nat) : Fin (n + 1) → Fin (n + 1) → Bool := fun a b => decide (K b.val < K a.val ∨ (K a.val = K b.val ∧ a.val < b.val))
theorem swoB (K : Nat → Int) (n : Nat) : Go.Sort.SWO (ltB K n) := by
  constructor
  · intro x; simp [ltB]
  · intro x y z h1 h2
    simp only [ltB, decide_eq_true_eq] at h1 h2 ⊢
    omega
  · intro x y z h1 h2
    simp only [ltB, decide_eq_false_iff_not] at h1 h2 ⊢
    omega
theorem lt_same (K : Nat → Int) {n : Nat} {a b : Fin (n + 1)} (h : b.val < a.val) : ltA K n a b = ltB K n a b := by
  unfold ltA ltB
  exact decide_eq_decide.2 ⟨Or.inl, fun h' => h'.elim id fun h'' => absurd h''.2 (by omega)⟩
theorem inner_eq (K : Nat → Int) (n a : Nat) : ∀ (j : Nat) (d : Array (Fin (n + 1))), j < d.size → (∀ k, k < j → (d[k]!).val < (d[j]!).val) → Go.Sort.insInner (ltA K n) a j d = Go.Sort.insInner (ltB K n) a j d
  | 0, d, _, _ => by unfold Go.Sort.insInner; rfl
  | j + 1, d, hj, h => by
    have e := lt_same K (h j (by omega))
    unfold Go.Sort.insInner
    rw [e]
    by_cases c : (decide (j + 1 > a) && ltB K n d[j + 1]! d[j]!) = true
    · rw [if_pos c, if_pos c]
      refine inner_eq K n a j _ (by rw [Go.Sort.swp_size]; omega) fun k hk => ?_
      rw [Go.Sort.swp_get d hj (by omega), Go.Sort.swp_get d hj (by omega), if_neg (by omega), if_neg (by omega), if_pos rfl]
      exact h k (by omega)
    · rw [if_neg c, if_neg c]
theorem inner_keep {n : Nat} (lt : Fin (n + 1) → Fin (n + 1) → Bool) (a : Nat) (P : Fin (n + 1) → Prop) : ∀ (j : Nat) (d : Array (Fin (n + 1))), j < d.size → (∀ k, k ≤ j → P d[k]!) → (∀ k, k ≤ j → P (Go.Sort.insInner lt a j d)[k]!) ∧ ∀ k, j < k → (Go.Sort.insInner lt a j d)[k]! = d[k]!
  | 0, d, _, h => by unfold Go.Sort.insInner; exact ⟨h, fun _ _ => rfl⟩
  | j + 1, d, hj, h => by
    unfold Go.Sort.insInner
    by_cases c : (decide (j + 1 > a) && lt d[j + 1]! d[j]!) = true
    · rw [if_pos c]
      have g := Go.Sort.swp_get d hj (show j < d.size by omega)
      obtain ⟨i1, i2⟩ := inner_keep lt a P j (Go.Sort.swp d (j + 1) j) (by rw [Go.Sort.swp_size]; omega) (fun k hk => by
        rw [g]
        by_cases e : k = j
        · rw [if_pos e]; exact h _ (by omega)
        · rw [if_neg e, if_neg (by omega)]; exact h _ (by omega))
      refine ⟨fun k hk => ?_, fun k hk => ?_⟩
      · by_cases e : k ≤ j
        · exact i1 k e
        · rw [i2 k (by omega), g, if_neg (by omega), if_pos (by omega)]
          exact h _ (by omega)
      · rw [i2 k (by omega), g, if_neg (by omega), if_neg (by omega)]
    · rw [if_neg c]
      exact ⟨h, fun _ _ => rfl⟩
theorem outer_eq (K : Nat → Int) (n b : Nat) : ∀ (m i : Nat) (d : Array (Fin (n + 1))), b - i = m → b ≤ d.size → (∀ k, k < i → (d[k]!).val < i) → (∀ k, i ≤ k → k < b → (d[k]!).val = k) → Go.Sort.insOuter (ltA K n) 0 b i d = Go.Sort.insOuter (ltB K n) 0 b i d
  | 0, i, d, hm, hb, h1, h2 => by rw [Go.Sort.insOuter, if_neg (by omega), Go.Sort.insOuter, if_neg (by omega)]
  | m + 1, i, d, hm, hb, h1, h2 => by
    have hi : i < b := by omega
    have e := inner_eq K n 0 i d (by omega) fun k hk => by have := h1 k hk; have := h2 i (by omega) hi; omega
    have go : ∀ (lt : Fin (n + 1) → Fin (n + 1) → Bool), Go.Sort.insOuter lt 0 b i d = Go.Sort.insOuter lt 0 b (i + 1) (Go.Sort.insInner lt 0 i d) := fun lt => by rw [Go.Sort.insOuter, if_pos hi]
    rw [go, go, e]
    obtain ⟨i1, i2⟩ := inner_keep (ltB K n) 0 (fun x => x.val < i + 1) i d (by omega) (fun k hk => by
      rcases Nat.lt_or_ge k i with c | c
      · have := h1 k c; omega
      · have := h2 k c (by omega); omega)
    refine outer_eq K n b m (i + 1) _ (by omega) (by rw [insInner_size]; exact hb) (fun k hk => i1 k (by omega)) fun k hk hkb => ?_
    rw [i2 k (by omega)]
    exact h2 k (by omega) hkb
/-- The whole numbers below m, one by one. -/
def upto (f : Nat → Int) (m : Nat) : List Int := (List.range m).map f
theorem upto_len (f : Nat → Int) (m : Nat) : (upto f m).length = m := by simp [upto]
theorem upto_succ (f : Nat → Int) (m : Nat) : upto f (m + 1) = upto f m ++ [f m] := by simp [upto, List.range_succ]
theorem upto_at (f : Nat → Int) {m i : Nat} (h : i < m) : rd (upto f m) (i : Int) = f i := by
  unfold rd upto
  rw [Int.toNat_natCast]
  simp [List.getD, h]
def ids (m : Nat) : List Int := upto (fun j => (j : Int)) m
theorem fin_at (n k : Nat) (h : k < n + 1) : ((shFin n (ids (n + 1)))[k]!).val = k := by
  have e := shFin_at (n := n) (xs := ids (n + 1)) k (by rw [ids, upto_len]; exact h)
  have e1 : (ids (n + 1)).getD k 0 = (k : Int) := by
    have := upto_at (fun j => (j : Int)) h
    unfold rd at this
    rwa [Int.toNat_natCast] at this
  rw [e1] at e
  have := e (by omega) (by omega)
  omega
/-- The indices as sorted. -/
def ord (K : Nat → Int) (n : Nat) : List Nat := (Go.Sort.insertionSort (ltA K n) (shFin n (ids (n + 1))) 0 (n + 1)).toList.map fun a => a.val
theorem ids_fin (n : Nat) : (shFin n (ids (n + 1))).toList.map (fun a => a.val) = List.range (n + 1) := by
  have hs : (shFin n (ids (n + 1))).size = n + 1 := by rw [shFin_size, ids, upto_len]
  apply List.ext_getElem
  · simp [hs]
  · intro i h1 h2
    have hi : i < n + 1 := by simpa using h2
    have := fin_at n i hi
    rw [getElem!_pos _ i (by rw [hs]; exact hi)] at this
    simp [this]
theorem ord_holds (K : Nat → Int) (n : Nat) : (ord K n).Perm (List.range (n + 1)) ∧ ∀ i j (hj : j < (ord K n).length), (hij : i < j) → K (ord K n)[j] < K ((ord K n)[i]'(by omega)) ∨ (K (ord K n)[j] = K ((ord K n)[i]'(by omega)) ∧ (ord K n)[i]'(by omega) < (ord K n)[j]) := by
  have hs : (shFin n (ids (n + 1))).size = n + 1 := by rw [shFin_size, ids, upto_len]
  have e : Go.Sort.insertionSort (ltA K n) (shFin n (ids (n + 1))) 0 (n + 1) = Go.Sort.insertionSort (ltB K n) (shFin n (ids (n + 1))) 0 (n + 1) := by
    unfold Go.Sort.insertionSort
    refine outer_eq K n (n + 1) _ (0 + 1) _ rfl (by rw [hs]; omega) (fun k hk => ?_) (fun k hk hk2 => fin_at n k hk2)
    obtain rfl : k = 0 := by omega
    rw [fin_at n 0 (by omega)]; omega
  obtain ⟨⟨p1, p2, p3⟩, so⟩ := Go.Sort.insertionSort_holds (lt := ltB K n) (swoB K n) (shFin n (ids (n + 1))) 0 (n + 1) (by omega) (by rw [hs]; omega)
  have hz : (Go.Sort.insertionSort (ltB K n) (shFin n (ids (n + 1))) 0 (n + 1)).size = n + 1 := by rw [p1, hs]
  have hp : (ord K n).Perm (List.range (n + 1)) := by
    unfold ord
    rw [e, ← ids_fin n]
    refine List.Perm.map _ ?_
    have ex : ∀ (a : Array (Fin (n + 1))) (q : Nat), a.size = q → a.extract 0 q = a := fun a q h => by subst h; exact Array.extract_size
    rw [ex _ _ hz, ex _ _ hs] at p3
    exact p3
  refine ⟨hp, fun i j hj hij => ?_⟩
  have hn : (ord K n).Nodup := (List.Perm.nodup_iff hp).2 List.nodup_range
  have hl : (ord K n).length = n + 1 := by rw [hp.length_eq, List.length_range]
  have at_ : ∀ q (hq : q < (ord K n).length), (ord K n)[q] = ((Go.Sort.insertionSort (ltB K n) (shFin n (ids (n + 1))) 0 (n + 1))[q]!).val := by
    intro q hq
    rw [getElem!_pos _ q (by rw [hz]; omega)]
    simp only [ord, e, List.getElem_map, Array.getElem_toList]
  have h := so i j (by omega) hij (by omega)
  have hne : (ord K n)[i]'(by omega) ≠ (ord K n)[j] := List.pairwise_iff_getElem.1 hn i j (by omega) hj hij
  simp only [ltB, decide_eq_false_iff_not] at h
  rw [← at_ i (by omega), ← at_ j hj] at h
  omega
end Go.Proofs.Ytoklpimhcdfbbaa.PSort

/-! ## PShare -/
/- Plain laws of sharing out by the largest remainders: impl.shareOut (which sorts) and spec.l02Share (which looks for the greatest remainder again and again) tell the same. For a total and weights whose products fit, one weight at least and twenty at most, and their sum above 0. -/
namespace Go.Proofs.Ytoklpimhcdfbbaa.PShare
open Go.RowKit Go.Proofs.YtoklpimhcdfbbaaW.PrintWords Go.Proofs.Ytoklpimhcdfbbaa.X Go.Proofs.Ytoklpimhcdfbbaa.B Go.Proofs.Ytoklpimhcdfbbaa.PSum Go.Proofs.Ytoklpimhcdfbbaa.PSort
/-- The sum of f below m. -/
def psum (f : Nat → Int) : Nat → Int
  | 0 => 0
  | m + 1 => psum f m + f m
theorem sum64_psum (xs : List Int) (hb : ∀ i, i ≤ xs.length → -9223372036854775808 ≤ psum (fun j => rd xs (j : Int)) i ∧ psum (fun j => rd xs (j : Int)) i ≤ 9223372036854775807) : sum64 0 xs = psum (fun j => rd xs (j : Int)) xs.length := by
  have h : ∀ i, i ≤ xs.length → sum64 0 (xs.take i) = psum (fun j => rd xs (j : Int)) i := by
    intro i
    induction i with
    | zero => intro _; rfl
    | succ i ih =>
      intro hi
      have hi' : i < xs.length := by omega
      rw [sum64_take xs hi', ih (by omega)]
      have := hb (i + 1) hi
      simp only [psum, rd_at hi'] at this ⊢
      exact w64 this.1 this.2
  have := h xs.length (by omega)
  rwa [List.take_length] at this
theorem psum_congr {f g : Nat → Int} : ∀ {m : Nat}, (∀ j, j < m → f j = g j) → psum f m = psum g m
  | 0, _ => rfl
  | m + 1, h => by simp only [psum]; rw [psum_congr (fun j hj => h j (by omega)), h m (by omega)]
theorem psum_mono {f : Nat → Int} {n : Nat} (h : ∀ j, j < n → 0 ≤ f j) : ∀ {m : Nat}, m ≤ n → 0 ≤ psum f m ∧ psum f m ≤ psum f n := by
  have h0 : ∀ m, m ≤ n → 0 ≤ psum f m := by
    intro m
    induction m with
    | zero => intro _; exact Int.le_refl _
    | succ m ih => intro hm; have := ih (by omega); have := h m (by omega); simp only [psum]; omega
  have h1 : ∀ q m, m + q = n → psum f m ≤ psum f n := by
    intro q
    induction q with
    | zero => intro m hm; obtain rfl : m = n := by omega
              exact Int.le_refl _
    | succ q ih => intro m hm; have h2 := ih (m + 1) (by omega); have h3 := h m (by omega); simp only [psum] at h2; omega
  intro m hm
  exact ⟨h0 m hm, h1 (n - m) m (by omega)⟩
/-- What is asked of the total and the weights. -/
structure Fit (t : Int) (lw : List Int) (s : Int) : Prop where
  one : 1 ≤ lw.length
  some20 : lw.length ≤ 20
  tot : 0 ≤ t ∧ t ≤ 4611686018427387904
  pos : 0 < s
  w : ∀ i, i < lw.length → 0 ≤ rd lw (i : Int) ∧ t * rd lw (i : Int) ≤ 9223372036854775807
  sum : sum64 0 lw = s
  psm : psum (fun j => rd lw (j : Int)) lw.length = s
/-- A share, rounded down; what remains. -/
def Q (t : Int) (lw : List Int) (s : Int) (i : Nat) : Int := wrap64 (Int.tdiv (wrap64 (t * rd lw (i : Int))) s)
def R (t : Int) (lw : List Int) (s : Int) (i : Nat) : Int := Int.tmod (wrap64 (t * rd lw (i : Int))) s
section
variable {t s : Int} {lw : List Int}
theorem qr (h : Fit t lw s) {i : Nat} (hi : i < lw.length) : (0 ≤ R t lw s i ∧ R t lw s i < s) ∧ 0 ≤ Q t lw s i ∧ s * Q t lw s i + R t lw s i = t * rd lw (i : Int) := by
  obtain ⟨h0, h1⟩ := h.w i hi
  have hp := h.pos
  have ht := h.tot
  have hm : 0 ≤ t * rd lw (i : Int) := Int.mul_nonneg ht.1 h0
  unfold Q R
  rw [w64 (x := t * rd lw (i : Int)) (by omega) h1, Int.tmod_eq_emod_of_nonneg hm, Int.tdiv_eq_ediv_of_nonneg hm]
  have e := Int.mul_ediv_add_emod (t * rd lw (i : Int)) s
  have r0 := Int.emod_nonneg (t * rd lw (i : Int)) (by omega : s ≠ 0)
  have r1 := Int.emod_lt_of_pos (t * rd lw (i : Int)) hp
  have q0 := Int.ediv_nonneg hm (by omega : 0 ≤ s)
  have q1 : t * rd lw (i : Int) / s ≤ t * rd lw (i : Int) := Int.ediv_le_self _ hm
  rw [w64 (by omega) (by omega)]
  exact ⟨⟨r0, r1⟩, q0, e⟩
theorem sums (h : Fit t lw s) : ∀ {m : Nat}, m ≤ lw.length → s * psum (Q t lw s) m + psum (R t lw s) m = t * psum (fun j => rd lw (j : Int)) m
  | 0, _ => by simp [psum]
  | m + 1, hm => by
    have ih := sums h (m := m) (by omega)
    have e := (qr h (i := m) (by omega)).2.2
    simp only [psum, Int.mul_add]
    omega
theorem rsum (h : Fit t lw s) : ∀ {m : Nat}, m ≤ lw.length → 1 ≤ m → 0 ≤ psum (R t lw s) m ∧ psum (R t lw s) m < m * s
  | m + 1, hm, _ => by
    have e := (qr h (i := m) (by omega)).1
    simp only [psum]
    rcases Nat.eq_zero_or_pos m with rfl | hp
    · simp only [psum]; push_cast; omega
    · have ih := rsum h (m := m) (by omega) hp
      have : ((m + 1 : Nat) : Int) * s = m * s + s := by push_cast; rw [Int.add_mul]; omega
      omega
/-- How many are left over: fewer than there are weights. -/
theorem left_in (h : Fit t lw s) : 0 ≤ t - psum (Q t lw s) lw.length ∧ t - psum (Q t lw s) lw.length < lw.length := by
  have h1 := sums h (Nat.le_refl _)
  have h2 := rsum h (Nat.le_refl _) h.one
  rw [h.psm] at h1
  have hp := h.pos
  have e : s * (t - psum (Q t lw s) lw.length) = psum (R t lw s) lw.length := by
    rw [Int.mul_sub, Int.mul_comm s t]; omega
  constructor
  · by_cases c : 0 ≤ t - psum (Q t lw s) lw.length
    · exact c
    · have : s * (t - psum (Q t lw s) lw.length) ≤ s * (-1) := Int.mul_le_mul_of_nonneg_left (by omega) (by omega)
      omega
  · by_cases c : t - psum (Q t lw s) lw.length < lw.length
    · exact c
    · have : s * (lw.length : Int) ≤ s * (t - psum (Q t lw s) lw.length) := Int.mul_le_mul_of_nonneg_left (by omega) (by omega)
      rw [Int.mul_comm s (lw.length : Int)] at this
      omega
/-- The order of the indices. -/
def sg (t : Int) (lw : List Int) (s : Int) : List Nat := ord (R t lw s) (lw.length - 1)
theorem sg_sort (h : Fit t lw s) : shSort t lw s (ids lw.length) = (sg t lw s).map fun (j : Nat) => (j : Int) := by
  have e : lw.length = lw.length - 1 + 1 := by have := h.one; omega
  have el : (ids lw.length).length = lw.length - 1 + 1 := by rw [ids, upto_len]; exact e
  unfold shSort sg ord
  rw [el, List.map_map, show ids lw.length = ids (lw.length - 1 + 1) from congrArg ids e]
  rfl
theorem sg_holds (h : Fit t lw s) : (sg t lw s).Perm (List.range lw.length) ∧ ∀ i j (hj : j < (sg t lw s).length), (hij : i < j) → R t lw s (sg t lw s)[j] < R t lw s ((sg t lw s)[i]'(by omega)) ∨ (R t lw s (sg t lw s)[j] = R t lw s ((sg t lw s)[i]'(by omega)) ∧ (sg t lw s)[i]'(by omega) < (sg t lw s)[j]) := by
  have e : lw.length = lw.length - 1 + 1 := by have := h.one; omega
  have := ord_holds (R t lw s) (lw.length - 1)
  rw [← e] at this
  exact this
theorem sg_len (h : Fit t lw s) : (sg t lw s).length = lw.length := by rw [(sg_holds h).1.length_eq, List.length_range]
theorem sg_lt (h : Fit t lw s) {m : Nat} (hm : m < (sg t lw s).length) : (sg t lw s)[m] < lw.length := by
  have := (sg_holds h).1.mem_iff.1 (List.getElem_mem hm)
  simpa using this
theorem sg_nodup (h : Fit t lw s) : (sg t lw s).Nodup := (List.Perm.nodup_iff (sg_holds h).1).2 List.nodup_range
end
/-- One more at place p. -/
def inc (xs : List Int) (p : Nat) : List Int := xs.set p (wrap64 (rd xs (p : Int) + 1))
theorem inc_len (xs : List Int) (p : Nat) : (inc xs p).length = xs.length := by simp [inc]
/-- The shares once m are given out. -/
def F (t : Int) (lw : List Int) (s : Int) (m : Nat) : List Int := ((sg t lw s).take m).foldl inc (upto (Q t lw s) lw.length)
theorem F_zero (t : Int) (lw : List Int) (s : Int) : F t lw s 0 = upto (Q t lw s) lw.length := rfl
theorem F_succ (t : Int) (lw : List Int) (s : Int) {m : Nat} (h : m < (sg t lw s).length) : F t lw s (m + 1) = inc (F t lw s m) (sg t lw s)[m] := by
  unfold F
  rw [List.take_succ_eq_append_getElem h, List.foldl_append]
  rfl
theorem foldl_len (ps : List Nat) : ∀ xs : List Int, (ps.foldl inc xs).length = xs.length := by
  induction ps with
  | nil => intro xs; rfl
  | cons p ps ih => intro xs; rw [List.foldl_cons, ih, inc_len]
theorem F_len (t : Int) (lw : List Int) (s : Int) (m : Nat) : (F t lw s m).length = lw.length := by
  unfold F
  rw [foldl_len, upto_len]
/-- What remains once m are given out. -/
def G (t : Int) (lw : List Int) (s : Int) (m : Nat) : List Int := upto (fun j => if j ∈ (sg t lw s).take m then -1 else R t lw s j) lw.length
theorem G_len (t : Int) (lw : List Int) (s : Int) (m : Nat) : (G t lw s m).length = lw.length := upto_len _ _
section
variable {t s : Int} {lw : List Int}
theorem G_succ (h : Fit t lw s) {m : Nat} (hm : m < (sg t lw s).length) : (G t lw s m).set (sg t lw s)[m] (-1) = G t lw s (m + 1) := by
  apply List.ext_getElem
  · simp [G, upto]
  · intro i h1 h2
    have hi : i < lw.length := by rw [G_len] at h2; exact h2
    have hg : ∀ q (hq : i < (G t lw s q).length), (G t lw s q)[i] = if i ∈ (sg t lw s).take q then -1 else R t lw s i := fun q hq => by simp [G, upto]
    rw [List.getElem_set, hg, hg, List.take_succ_eq_append_getElem hm]
    by_cases e : (sg t lw s)[m] = i
    · rw [if_pos e, if_pos (by rw [e]; simp)]
    · rw [if_neg e]
      by_cases c : i ∈ (sg t lw s).take m
      · rw [if_pos c, if_pos (List.mem_append.2 (Or.inl c))]
      · rw [if_neg c, if_neg (fun h' => (List.mem_append.1 h').elim c (fun h'' => e (List.mem_singleton.1 h'').symm))]
/-- The next one: its remainder is the greatest, and the first such. -/
theorem best (h : Fit t lw s) {m : Nat} (hm : m < (sg t lw s).length) {j : Nat} (hj : j < lw.length) : rd (G t lw s m) (j : Int) ≤ rd (G t lw s m) (((sg t lw s)[m] : Nat) : Int) ∧ (j < (sg t lw s)[m] → rd (G t lw s m) (j : Int) < rd (G t lw s m) (((sg t lw s)[m] : Nat) : Int)) := by
  have hp := sg_lt h hm
  have nd := sg_nodup h
  have hnot : (sg t lw s)[m] ∉ (sg t lw s).take m := fun hin => by
    obtain ⟨k, hk, he⟩ := List.mem_iff_getElem.1 hin
    rw [List.getElem_take] at he
    have hk' : k < m := by rw [List.length_take] at hk; omega
    exact List.pairwise_iff_getElem.1 nd k m (by omega) hm hk' he
  have e1 : rd (G t lw s m) (((sg t lw s)[m] : Nat) : Int) = R t lw s (sg t lw s)[m] := by
    rw [G, upto_at _ hp, if_neg hnot]
  have r1 := (qr h hp).1.1
  rw [e1, G, upto_at _ hj]
  by_cases c : j ∈ (sg t lw s).take m
  · rw [if_pos c]; omega
  · rw [if_neg c]
    obtain ⟨k, hk, he⟩ := List.mem_iff_getElem.1 ((sg_holds h).1.mem_iff.2 (List.mem_range.2 hj))
    have hkm : m ≤ k := by
      by_cases q : m ≤ k
      · exact q
      · refine absurd ?_ c
        rw [← he]
        exact List.mem_iff_getElem.2 ⟨k, by rw [List.length_take]; omega, by rw [List.getElem_take]⟩
    rcases Nat.eq_or_lt_of_le hkm with q | q
    · subst q
      rw [he]
      omega
    · have := (sg_holds h).2 m k hk q
      rw [he] at this
      omega
theorem implShare_ev (h : Fit t lw s) : Ev (fun k => impl_shareOut.f k t lw) (F t lw s (t - psum (Q t lw s) lw.length).toNat) := by
  have hn := h.some20
  have h1 := h.one
  have hl := left_in h
  have ht := h.tot
  have hs0 : ¬ s = 0 := by have := h.pos; omega
  have hq : ∀ {m : Nat}, m ≤ lw.length → 0 ≤ psum (Q t lw s) m ∧ psum (Q t lw s) m ≤ psum (Q t lw s) lw.length := fun hm => psum_mono (fun j hj => (qr h hj).2.1) hm
  unfold impl_shareOut.f
  have hsum := implSum_ev lw (by omega)
  rw [h.sum] at hsum
  refine Ev.bindE hsum ?_
  refine scanI (fun k i => impl_shareOut.l0 k (upto (Q t lw s) i) lw (lw.length : Int) (i : Int) t lw s (ids i)) lw.length (fun _ => F t lw s (t - psum (Q t lw s) lw.length).toNat) (Ev.up (g := fun k => impl_shareOut.l0 k (upto (Q t lw s) lw.length) lw (lw.length : Int) (lw.length : Int) t lw s (ids lw.length)) ?_) (fun i hi ih => ?_) 0 (by omega)
  · have hok : shOk lw s (ids lw.length) = true := by
      simp only [shOk, Bool.and_eq_true, decide_eq_true_eq, List.all_eq_true]
      refine ⟨by rw [ids, upto_len]; exact h1, by rw [ids, upto_len]; exact hn, hs0, fun x hx => ?_⟩
      simp only [ids, upto, List.mem_map, List.mem_range] at hx
      obtain ⟨a, ha, rfl⟩ := hx
      omega
    have hqs : sum64 0 (upto (Q t lw s) lw.length) = psum (Q t lw s) lw.length := by
      have e : ∀ i, i ≤ lw.length → psum (fun j => rd (upto (Q t lw s) lw.length) (j : Int)) i = psum (Q t lw s) i := fun i hi => psum_congr fun j hj => upto_at _ (by omega)
      rw [sum64_psum _ (fun i hi => by
        rw [upto_len] at hi
        rw [e i hi]
        have := hq hi
        omega), upto_len, e _ (Nat.le_refl _)]
    have hil : (ids lw.length).length = lw.length := upto_len _ _
    have his := implSum_ev (upto (Q t lw s) lw.length) (by rw [upto_len]; omega)
    rw [hqs] at his
    have hw : wrap64 (t - psum (Q t lw s) lw.length) = t - psum (Q t lw s) lw.length := w64 (by have := hq (Nat.le_refl _); omega) (by have := hq (Nat.le_refl _); omega)
    simp only [impl_shareOut.l0, Option.bind_some]
    refine Ev.ifNeg (by omega) (Ev.ifPos hok (Ev.bindE his ?_))
    rw [hw, hil]
    refine Ev.ifPos hl.1 (Ev.ifPos (by omega) ?_)
    rw [sg_sort h]
    obtain ⟨L, hL⟩ : ∃ L : Nat, t - psum (Q t lw s) lw.length = (L : Int) := ⟨(t - psum (Q t lw s) lw.length).toNat, by omega⟩
    rw [hL, Int.toNat_natCast]
    have hLn : L < lw.length := by omega
    have hsl := sg_len h
    have htl : (((sg t lw s).map fun (j : Nat) => (j : Int)).take L).length = L := by rw [List.length_take, List.length_map]; omega
    rw [htl]
    refine scanI (fun k i => impl_shareOut.l1 k (F t lw s i) (((sg t lw s).map fun (j : Nat) => (j : Int)).take L) (L : Int) (i : Int)) L (fun _ => F t lw s L) (Ev.up (g := fun k => impl_shareOut.l1 k (F t lw s L) (((sg t lw s).map fun (j : Nat) => (j : Int)).take L) (L : Int) (L : Int)) (Ev.const fun k => by
      simp only [impl_shareOut.l1]
      rw [if_neg (by omega)])) (fun i hi ih => ?_) 0 (by omega)
    have hi' : i < (sg t lw s).length := by omega
    have hrd : rd (((sg t lw s).map fun (j : Nat) => (j : Int)).take L) (i : Int) = (((sg t lw s)[i] : Nat) : Int) := by
      rw [rd_at (by omega)]; simp
    have hlt := sg_lt h hi'
    have hFl := F_len t lw s i
    refine Ev.up (g := fun k => impl_shareOut.l1 k (F t lw s i) (((sg t lw s).map fun (j : Nat) => (j : Int)).take L) (L : Int) (i : Int)) ?_
    simp only [impl_shareOut.l1, hrd, htl, hFl, wnext hi (by omega : (L : Int) ≤ _), Int.toNat_natCast]
    refine Ev.ifPos (by omega) (Ev.ifPos (by omega) (Ev.ifPos (by omega) (Ev.ifPos (by omega) (Ev.ifPos (by omega) ?_))))
    rw [F_succ t lw s hi'] at ih
    exact ih
  · refine Ev.up (g := fun k => impl_shareOut.l0 k (upto (Q t lw s) i) lw (lw.length : Int) (i : Int) t lw s (ids i)) ?_
    have a1 : (upto (Q t lw s) i).length = i := upto_len _ _
    have a2 : (ids i).length = i := upto_len _ _
    simp only [impl_shareOut.l0, Option.bind_some, a1, a2, List.length_cons, List.length_nil, wnext hi (by omega : (lw.length : Int) ≤ _)]
    refine Ev.ifPos (by omega) (Ev.ifPos (by omega) (Ev.ifPos (by omega) (Ev.ifNeg hs0 (Ev.ifPos (by omega) (Ev.ifPos (by omega) ?_)))))
    rw [upto_succ, ids, upto_succ] at ih
    exact ih
theorem specShare_ev (h : Fit t lw s) : Ev (fun k => spec_l02Share.f k t lw s) (F t lw s (t - psum (Q t lw s) lw.length).toNat) := by
  have hn := h.some20
  have h1 := h.one
  have hl := left_in h
  have ht := h.tot
  have hs0 : ¬ s = 0 := by have := h.pos; omega
  have hq : ∀ {m : Nat}, m ≤ lw.length → 0 ≤ psum (Q t lw s) m ∧ psum (Q t lw s) m ≤ psum (Q t lw s) lw.length := fun hm => psum_mono (fun j hj => (qr h hj).2.1) hm
  have hsl := sg_len h
  unfold spec_l02Share.f
  have e0 : t = t - psum (Q t lw s) 0 := by simp [psum]
  conv => arg 1; intro k; rw [show spec_l02Share.l0 k t lw s [] [] t 0 = spec_l02Share.l0 k t lw s (upto (Q t lw s) 0) (upto (R t lw s) 0) (t - psum (Q t lw s) 0) ((0 : Nat) : Int) by rw [← e0]; rfl]
  refine scanI (fun k i => spec_l02Share.l0 k t lw s (upto (Q t lw s) i) (upto (R t lw s) i) (t - psum (Q t lw s) i) (i : Int)) lw.length (fun _ => F t lw s (t - psum (Q t lw s) lw.length).toNat) (Ev.up (g := fun k => spec_l02Share.l0 k t lw s (upto (Q t lw s) lw.length) (upto (R t lw s) lw.length) (t - psum (Q t lw s) lw.length) (lw.length : Int)) ?_) (fun i hi ih => ?_) 0 (by omega)
  · simp only [spec_l02Share.l0]
    refine Ev.ifNeg (by omega) ?_
    obtain ⟨L, hL⟩ : ∃ L : Nat, t - psum (Q t lw s) lw.length = (L : Int) := ⟨(t - psum (Q t lw s) lw.length).toNat, by omega⟩
    rw [hL, Int.toNat_natCast]
    have hLn : L < lw.length := by omega
    have g0 : upto (R t lw s) lw.length = G t lw s 0 := by unfold G; simp
    rw [g0, ← F_zero]
    have key : ∀ m i, i + m = L → Ev (fun k => spec_l02Share.l1 k (F t lw s i) (G t lw s i) (m : Int)) (F t lw s L) := by
      intro m
      induction m with
      | zero =>
        intro i hi
        obtain rfl : i = L := by omega
        refine Ev.up (g := fun k => spec_l02Share.l1 k (F t lw s i) (G t lw s i) ((0 : Nat) : Int)) (Ev.const fun k => ?_)
        simp only [spec_l02Share.l1]
        rw [if_neg (by omega)]
      | succ m ih =>
        intro i hi
        have hi' : i < (sg t lw s).length := by omega
        have hp := sg_lt h hi'
        have hFl := F_len t lw s i
        have hGl := G_len t lw s i
        refine Ev.up (g := fun k => spec_l02Share.l1 k (F t lw s i) (G t lw s i) ((m + 1 : Nat) : Int)) ?_
        simp only [spec_l02Share.l1]
        refine Ev.ifPos (by omega) ?_
        have inner : ∀ q j (b : Nat), j + q = lw.length → 1 ≤ j → b < j → ((sg t lw s)[i] < j → b = (sg t lw s)[i]) → Ev (fun k => spec_l02Share.l2 k (F t lw s i) (G t lw s i) ((m + 1 : Nat) : Int) (b : Int) (j : Int)) (F t lw s L) := by
          intro q
          induction q with
          | zero =>
            intro j b hj _ hb hbp
            obtain rfl : j = lw.length := by omega
            obtain rfl := hbp hp
            refine Ev.up (g := fun k => spec_l02Share.l2 k (F t lw s i) (G t lw s i) ((m + 1 : Nat) : Int) (((sg t lw s)[i] : Nat) : Int) (lw.length : Int)) ?_
            have ih' := ih (i + 1) (by omega)
            rw [F_succ t lw s hi', ← G_succ h hi'] at ih'
            simp only [spec_l02Share.l2, hFl, hGl, Int.toNat_natCast, w64 (x := ((m + 1 : Nat) : Int) - 1) (by omega) (by omega)]
            refine Ev.ifNeg (by omega) (Ev.ifPos (by omega) (Ev.ifPos (by omega) (Ev.ifPos (by omega) ?_)))
            rw [show ((m + 1 : Nat) : Int) - 1 = (m : Int) by omega]
            exact ih'
          | succ q ihq =>
            intro j b hj hj1 hb hbp
            have hjn : j < lw.length := by omega
            refine Ev.up (g := fun k => spec_l02Share.l2 k (F t lw s i) (G t lw s i) ((m + 1 : Nat) : Int) (b : Int) (j : Int)) ?_
            simp only [spec_l02Share.l2, hGl, wnext hjn (by omega : (lw.length : Int) ≤ _)]
            refine Ev.ifPos (by omega) (Ev.ifPos (by omega) (Ev.ifPos (by omega) (Ev.ifPos (by omega) (Ev.ite (fun c => ?_) (fun c => ?_)))))
            · refine ihq (j + 1) j (by omega) (by omega) (by omega) fun hlt => ?_
              by_cases e : j = (sg t lw s)[i]
              · exact e
              · have := hbp (by omega)
                subst this
                have := (best h hi' hjn).1
                omega
            · refine ihq (j + 1) b (by omega) (by omega) (by omega) fun hlt => ?_
              by_cases e : (sg t lw s)[i] < j
              · exact hbp e
              · have e2 : (sg t lw s)[i] = j := by omega
                have := (best h hi' (j := b) (by omega)).2 (by omega)
                rw [e2] at this
                omega
        exact inner (lw.length - 1) 1 0 (by omega) (by omega) (by omega) (by omega)
    exact key L 0 (by omega)
  · refine Ev.up (g := fun k => spec_l02Share.l0 k t lw s (upto (Q t lw s) i) (upto (R t lw s) i) (t - psum (Q t lw s) i) (i : Int)) ?_
    have a1 : (upto (Q t lw s) i).length = i := upto_len _ _
    have a2 : (upto (R t lw s) i).length = i := upto_len _ _
    have b1 := hq (m := i) (by omega)
    have b2 := hq (m := i + 1) (by omega)
    simp only [psum] at b2
    have e : wrap64 (t - psum (Q t lw s) i - wrap64 (Int.tdiv (wrap64 (t * rd lw (i : Int))) s)) = t - psum (Q t lw s) (i + 1) := by
      show wrap64 (t - psum (Q t lw s) i - Q t lw s i) = t - (psum (Q t lw s) i + Q t lw s i)
      rw [w64 (by omega) (by omega)]
      omega
    simp only [spec_l02Share.l0, a1, a2, e, wnext hi (by omega : (lw.length : Int) ≤ _)]
    refine Ev.ifPos (by omega) (Ev.ifPos (by omega) (Ev.ifNeg hs0 (Ev.ifPos (by omega) (Ev.ifPos (by omega) ?_))))
    rw [upto_succ, upto_succ] at ih
    exact ih
end
end Go.Proofs.Ytoklpimhcdfbbaa.PShare

/-! ## PureFnExactMandatesByRemainders -/
/- The plain law of MandatesByRemainders: both share the mandates out by the greatest remainders, or tell the same fault; the votes are left as they are, and the answer shares nothing with them. For all rows of at most 1048576 votes (the law says nothing of longer ones). -/
namespace Go.Proofs.Ytoklpimhcdfbbaa.Pure
open Go.RowKit Go.Proofs.YtoklpimhcdfbbaaW.PrintWords Go.Proofs.Ytoklpimhcdfbbaa.X Go.Proofs.Ytoklpimhcdfbbaa.B Go.Proofs.Ytoklpimhcdfbbaa.C Go.Proofs.Ytoklpimhcdfbbaa.PMarks Go.Proofs.Ytoklpimhcdfbbaa.PVotes Go.Proofs.Ytoklpimhcdfbbaa.PShare Go.Proofs.Ytoklpimhcdfbbaa.PSum
theorem votes_fit {xs : List Int} {t : Int} (h : okVotes xs = true) (ht : 1 ≤ t ∧ t ≤ 60) : Fit t xs (sum64 0 xs) := by
  obtain ⟨⟨n1, n8⟩, hw⟩ := okVotes_in h
  have hb : ∀ i, i ≤ xs.length → 0 ≤ psum (fun j => rd xs (j : Int)) i ∧ psum (fun j => rd xs (j : Int)) i ≤ 1000000 * i := by
    intro i
    induction i with
    | zero => intro _; simp [psum]
    | succ i ih =>
      intro hi
      have h1 := ih (by omega)
      have h2 := hw i (by omega)
      simp only [psum]
      push_cast
      omega
  have e := sum64_psum xs fun i hi => by have := hb i hi; omega
  have hp : sum64 0 xs > 0 := by
    unfold okVotes at h
    simp only [Bool.and_eq_true, decide_eq_true_eq] at h
    exact h.2.2
  refine ⟨n1, by omega, by omega, hp, fun i hi => ⟨(hw i hi).1, ?_⟩, rfl, e.symm⟩
  have h2 := hw i hi
  have := Int.mul_le_mul ht.2 h2.2 h2.1 (by omega : (0 : Int) ≤ 60)
  omega
/-- What both answer. -/
def shared (xs : List Int) (t : Int) : List Int × Int := if code xs t 1 = 0 then (F t xs (sum64 0 xs) (t - psum (Q t xs (sum64 0 xs)) xs.length).toNat, 0) else ([], code xs t 1)
theorem specShared_ev (xs : List Int) (t : Int) (hn : xs.length ≤ 9223372036854775807) : Ev (fun k => spec_MandatesByRemainders.f k xs t) (shared xs t) := by
  unfold spec_MandatesByRemainders.f shared
  refine Ev.bindE (specCode_ev xs t 1 hn) (Ev.ite (fun c => ?_) (fun c => ?_))
  · obtain ⟨ho, ht, _⟩ := code_zero c
    rw [if_pos c]
    exact Ev.bindE (specSum_ev xs hn) (Ev.bindE (specShare_ev (votes_fit ho ht)) (Ev.const fun _ => rfl))
  · rw [if_neg c]; exact Ev.const fun _ => rfl
theorem implShared_ev (xs : List Int) (t : Int) (hn : xs.length ≤ 9223372036854775807) : Ev (fun k => impl_MandatesByRemainders.f k xs t) (shared xs t) := by
  unfold impl_MandatesByRemainders.f shared
  refine Ev.bindE (implCode_ev xs t 1 hn) (Ev.ite (fun c => ?_) (fun c => ?_))
  · obtain ⟨ho, ht, _⟩ := code_zero c
    rw [if_pos c]
    exact Ev.bindE (implShare_ev (votes_fit ho ht)) (Ev.const fun _ => rfl)
  · rw [if_neg c]; exact Ev.const fun _ => rfl
theorem shared_len (xs : List Int) (t : Int) (hn : xs.length ≤ 1048576) : (shared xs t).1.length ≤ 1048576 := by
  unfold shared
  split
  · rw [F_len]; exact hn
  · simp
theorem FnExactMandatesByRemainders : Say.FnExactMandatesByRemainders := by
  intro xs t hxs ht
  refine Ev.rounds ?_
  unfold laws_FnExactMandatesByRemainders.f
  refine Ev.ite (fun _ => Ev.const fun _ => rfl) (fun hx => ?_)
  have hx' : szv_Int64S xs ≤ 1048576 := by unfold szv_Int64S; omega
  have tx := to_Int64S xs hx'
  have fx := fitc_Int64S xs hx'
  have sp := specShared_ev xs t (by omega)
  have im := implShared_ev xs t (by omega)
  have hl := shared_len xs t (by omega)
  have ge := eq_Int64S _ (fitc_Int64S (shared xs t).1 (by unfold szv_Int64S; omega))
  refine Ev.bindE tx (Ev.bindE sp (Ev.bindE tx (Ev.bindE im (Ev.bindE ge (Ev.ifPos rfl ?_)))))
  simp only [bne_self_eq_false]
  refine Ev.up (g := fun k => laws_FnExactMandatesByRemainders.j0 k xs t (shared xs t).1 (shared xs t).2 xs (shared xs t).1 (shared xs t).2 false) ?_
  simp only [laws_FnExactMandatesByRemainders.j0]
  refine Ev.ifNeg (by simp) (Ev.bindE tx (Ev.bindE (eq_Int64S _ fx) (Ev.ifPos rfl (Ev.bindE (markInts_ev xs 1 (by omega) (by omega) (by omega)) (Ev.ifNeg (by simp only; omega) (Ev.bindE ge (Ev.ifPos rfl ?_)))))))
  simp only [bne_self_eq_false]
  refine Ev.up (g := fun k => laws_FnExactMandatesByRemainders.j1 k xs t (shared xs t).1 (shared xs t).2 (shared xs t).1 false) ?_
  simp only [laws_FnExactMandatesByRemainders.j1]
  have hm := markInts_ev (shared xs t).1 1 hl (by omega) (by omega)
  have hh := heldInts_ev (shared xs t).1 1 hl (by omega) (by omega)
  refine Ev.ifNeg (by simp) (Ev.bindE hm (Ev.bindE hh (Ev.ifNeg (by omega) (Ev.ifPos rfl (Ev.bindE tx (Ev.bindE im (Ev.bindE ge (Ev.ifPos rfl ?_))))))))
  simp only [bne_self_eq_false]
  refine Ev.up (g := fun k => laws_FnExactMandatesByRemainders.j2 k (mi (shared xs t).1 1) (1 + ((shared xs t).1.length : Int)) false) ?_
  simp only [laws_FnExactMandatesByRemainders.j2]
  exact Ev.ifNeg (by simp) (Ev.bindE hh (Ev.ifNeg (by omega) (Ev.ifPos rfl (Ev.const fun _ => rfl))))
end Go.Proofs.Ytoklpimhcdfbbaa.Pure

/-! ## LawFnExactMandatesByRemainders -/
/- FnExactMandatesByRemainders: the law's row, out of its plain statement and the walks. -/
namespace Go.Proofs.Ytoklpimhcdfbbaa.fnExactMandatesByRemainders
open Go.ChangeShapes Go.WideShapes Go.ChangeAt Go.RowKit Go.Proofs.Ytoklpimhcdfbbaa.X
open Go.ChangeMaps (open_string shut_string)
theorem own : ownKnob Try.prog.godebug = none := by kernel_rfl
theorem laidOut : laidOutB Try.prog = true := by kernel_rfl
open Go.Proofs.YtoklpimhcdfbbaaW.PrintWords in
theorem reader0 : Rdr.Reads Try.prog 24 (Kd.slice 2 (Kd.int .i64)) (Rdr.Lst Rdr.I64) := (Rdr.reads_slice Try.underlying24 (by kernel_rfl) (Rdr.reads_i64 Try.underlying2 (by kernel_rfl)))
set_option maxRecDepth 100000 in
theorem lifted (os : Os) (started : os.Started) (H : Type) (enc : TypeId × Value → H) :
    ReturnsInHanded {} Try.checked os 7 .any (Rows.fnExactMandatesByRemaindersSpec.pre6 enc Try.prog Try.f7 Rows.fnExactMandatesByRemaindersRow.domain false) (Rows.fnExactMandatesByRemaindersSpec.post enc Try.prog Try.f7 false true false false) := by
  refine returnsInHanded_of_change_sized (C := Try.checked) own started (by kernel_rfl) Try.func7
    (ChangeSpec.witness6 (enc := enc) (C := Try.checked) false ⟨#[], #[.slice none 0 0, .int .i64 0], []⟩ 8 (by kernel_rfl) (by kernel_rfl) (by kernel_rfl) (by kernel_rfl)) ?_
  intro W base args ds gs before hval0 hW hcnd hsz0 _
  have hval : ∀ (j : Nat) t v, Try.f7.params[j]? = some t → args[j]? = some v → Value.okWide Try.prog W .any base t v := hval0
  have hW' := hW
  obtain ⟨p, q, hA0, hV, rfl, hfz, hnd⟩ := hW
  have hA : DataW.TrodAll enc Try.prog W 0 (fun _ => true) true Try.f7.params.toList args.toList ds p := hA0
  rw [Try.params7] at hA hval
  obtain ⟨v0, vs0, d0, ds0, p0, q0, hargs, rfl, rfl, h0, r0⟩ := trodAll_cons hA
  obtain ⟨v1, vs1, d1, ds1, p1, q1, rfl, rfl, rfl, h1, r1⟩ := trodAll_cons r0
  obtain ⟨rfl, rfl, rfl⟩ := trodAll_nil r1
  obtain rfl : args = #[v0, v1] := by cases args; simp_all
  obtain ⟨rfl, rfl⟩ := trodVars_none hV
  have k0 := h0
  have lt0 : ∀ x ∈ p0, x.block < W.heap.size := by obtain ⟨m, hm⟩ := k0; exact DataW.trod_lt m _ _ _ hm
  obtain ⟨fuel0, hf0⟩ := h0
  obtain ⟨x0, hK0, w0⟩ := reader0.read hf0
  obtain ⟨a0, len0, cap0, rfl⟩ := okWide_slice Try.underlying24 (hval 0 24 v0 rfl rfl)
  obtain ⟨A0, c0, hcs0, hl0, hC0⟩ := hK0
  simp [Value.cells] at hcs0
  obtain ⟨rfl, rfl, rfl⟩ := hcs0
  obtain ⟨a1, rfl, rfl, rfl, w1⟩ := open_int Try.underlying2 (hval 1 2 v1 rfl rfl) h1
  have y1 : Rdr.I64 a1 := bounds_i64 w1
  clear hA0 hval0 hsz0
  obtain ⟨k, h⟩ := Pure.FnExactMandatesByRemainders x0 a1 w0 y1
  refine (laws_FnExactMandatesByRemainders.calls k _ _ x0 a1 true W hC0 hl0 ⟨rfl⟩ h).mono fun e W' ⟨he, hd⟩ => ?_
  have bel : Below W.heap.size W W' := hd
  subst he
  exact ⟨_, rfl, _, _, _, [], _, [], hW', trodAll_mk1 (shut_bool Try.underlying4 _), (trodAll_cons_mk (Below.trod laidOut (by kernel_rfl) (of_decide_eq_true (by kernel_rfl)) k0 bel lt0) (trodAll_cons_mk (shut_int Try.underlying2 w1) trodAll_mk0)), rfl, bel.frame _, fun h => by cases h⟩
theorem over : Rows.fnExactMandatesByRemaindersRow.holds Try.pinned (OpenSpec.ofChange Rows.fnExactMandatesByRemaindersSpec) :=
  OpenClaim.holds_of_wide 7 Try.f7 rfl rfl rfl rfl rfl rfl rfl ⟨rfl, rfl, rfl, rfl, rfl⟩ rfl rfl rfl rfl rfl (by kernel_rfl) Try.func7 (by kernel_rfl)
    (of_decide_eq_true (by kernel_rfl)) (by unfold Func.isWrapper; first | (rw [if_pos (by decide +kernel)]; kernel_rfl) | (rw [if_neg (by decide +kernel)]; exact ⟨rfl, rfl⟩))
    (fun os started H enc _ => lifted os started H enc)
theorem proved : Rows.FnExactMandatesByRemaindersSaid := over
end Go.Proofs.Ytoklpimhcdfbbaa.fnExactMandatesByRemainders
namespace Go.Proofs.Ytoklpimhcdfbbaa
/-- The row, under a short name, for the claim. -/
theorem fnExactMandatesByRemainders_holds : Rows.FnExactMandatesByRemaindersSaid := fnExactMandatesByRemainders.proved
end Go.Proofs.Ytoklpimhcdfbbaa
