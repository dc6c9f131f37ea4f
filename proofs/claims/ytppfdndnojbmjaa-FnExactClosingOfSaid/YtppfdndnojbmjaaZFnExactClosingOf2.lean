/- The plain law of ClosingOf: both tell the same closing error of a loop, or the same fault. For all rows of at most 1048576 elements (the law says nothing of longer ones). -/
import Derived.Test.YtppfdndnojbmjaaZFnExactClosingOf0
import Derived.Test.YtppfdndnojbmjaaZFnExactClosingOf1
import Derived.Test.YtppfdndnojbmjaaWWords
import Derived.Deep.Slices
import Derived.ChangeArms
import Derived.ProofKit
import Derived.OpenShut
import Derived.Test.YtppfdndnojbmjaaRows
import Derived.WalkKit
import Derived.ShutString
import Derived.ChangeOld
import Derived.Below
import Derived.SizedLaws
set_option linter.unusedVariables false
set_option linter.unusedSimpArgs false

/-! ## XLawsFnExactClosingOf -/
namespace Go.Proofs.Ytppfdndnojbmjaa.X
open Go.RowKit Go.Proofs.Ytppfdndnojbmjaa.XV Go.Proofs.YtppfdndnojbmjaaW.PrintWords Go.Proofs.YtppfdndnojbmjaaW.PrintLast Go.Proofs.YtppfdndnojbmjaaW.PrintMore
attribute [local go_sem] max2_int min2_int max_two min_two max_three min_three max_four min_four

/-! ### laws_FnExactClosingOf: function 6 -/
def laws_FnExactClosingOf.j0 : Nat → List (S60) → List Int → List (S51) → List Int → Bool → Option (Bool)
 | 0, _, _, _, _, _ => none
 | k + 1, x1, x2, x10, x11, x49 => if x49 = true then (some false) else ((laws_toLineS.f k x1).bind fun t264 => ((laws_eqLineS.f k x10 t264).bind fun t267 => (if t267 = true then ((laws_toInt64S.f k x2).bind fun t268 => ((laws_eqInt64S.f k x11 t268).bind fun t271 => (if t271 = true then (some true) else (some false)))) else (some false))))
def laws_FnExactClosingOf.f (k : Nat) (a0 : Int) (l1 : List (S60)) (l2 : List Int) : Option (Bool) := if (l2.length : Int) > 1048576 then (some true) else ((laws_szLineS.f l1 1048576).bind fun t247 => (if t247 < 0 then (some true) else ((laws_toLineS.f k l1).bind fun t248 => ((laws_toInt64S.f k l2).bind fun t251 => ((spec_ClosingOf.f k a0 t248 t251).bind fun bt254 => ((laws_toLineS.f k l1).bind fun t256 => ((laws_toInt64S.f k l2).bind fun t259 => ((impl_ClosingOf.f k a0 t256 t259).bind fun bt262 => (if bt262.1 = bt254.1 then (laws_FnExactClosingOf.j0 k l1 l2 t256 t259 (bt262.2 != bt254.2)) else (laws_FnExactClosingOf.j0 k l1 l2 t256 t259 true))))))))))
theorem laws_FnExactClosingOf.mono_l : ∀ k, (∀ y0 y1 y2 y3 y4, LeO (laws_FnExactClosingOf.j0 k y0 y1 y2 y3 y4) (laws_FnExactClosingOf.j0 (k + 1) y0 y1 y2 y3 y4))
 | 0 => fun _ _ _ _ _ r h => by simp [laws_FnExactClosingOf.j0] at h
 | k + 1 => by
  have ih0 := laws_FnExactClosingOf.mono_l k
  ·intro y0 y1 y2 y3 y4
   unfold laws_FnExactClosingOf.j0
   repeat' first
   | (with_reducible exact ih0 _ _ _ _ _)
   | (with_reducible exact impl_ClosingOf.mono _ _ _ _)
   | (with_reducible exact laws_eqInt64S.mono _ _ _)
   | (with_reducible exact laws_eqLineS.mono _ _ _)
   | (with_reducible exact laws_toInt64S.mono _ _)
   | (with_reducible exact laws_toLineS.mono _ _)
   | (with_reducible exact spec_ClosingOf.mono _ _ _ _)
   | (with_reducible exact LeO.refl _)
   | (with_reducible exact LeO.none _)
   | (with_reducible refine LeO.ite ?_ ?_)
   | (with_reducible refine LeO.bind ?_ (fun _ => ?_))
   | exact ih0 _ _ _ _ _
   | exact impl_ClosingOf.mono _ _ _ _
   | exact laws_eqInt64S.mono _ _ _
   | exact laws_eqLineS.mono _ _ _
   | exact laws_toInt64S.mono _ _
   | exact laws_toLineS.mono _ _
   | exact spec_ClosingOf.mono _ _ _ _
   | exact LeO.none _
   | refine LeO.ite ?_ ?_
   | refine LeO.bind ?_ (fun _ => ?_)
theorem laws_FnExactClosingOf.mono : ∀ a0 a1 a2 k, LeO (laws_FnExactClosingOf.f k a0 a1 a2) (laws_FnExactClosingOf.f (k + 1) a0 a1 a2) := by
 intro a0 a1 a2 k
 have ih0 := laws_FnExactClosingOf.mono_l k
 unfold laws_FnExactClosingOf.f
 repeat' first
   | (with_reducible exact ih0 _ _ _ _ _)
   | (with_reducible exact impl_ClosingOf.mono _ _ _ _)
   | (with_reducible exact laws_eqInt64S.mono _ _ _)
   | (with_reducible exact laws_eqLineS.mono _ _ _)
   | (with_reducible exact laws_toInt64S.mono _ _)
   | (with_reducible exact laws_toLineS.mono _ _)
   | (with_reducible exact spec_ClosingOf.mono _ _ _ _)
   | (with_reducible exact LeO.refl _)
   | (with_reducible exact LeO.none _)
   | (with_reducible refine LeO.ite ?_ ?_)
   | (with_reducible refine LeO.bind ?_ (fun _ => ?_))
   | exact ih0 _ _ _ _ _
   | exact impl_ClosingOf.mono _ _ _ _
   | exact laws_eqInt64S.mono _ _ _
   | exact laws_eqLineS.mono _ _ _
   | exact laws_toInt64S.mono _ _
   | exact laws_toLineS.mono _ _
   | exact spec_ClosingOf.mono _ _ _ _
   | exact LeO.none _
   | refine LeO.ite ?_ ?_
   | refine LeO.bind ?_ (fun _ => ?_)
set_option maxHeartbeats 8000000 in
set_option maxRecDepth 100000 in
theorem laws_FnExactClosingOf.calls (k : Nat) (a0 : Int) (A1 : Option Addr) (c1 : Nat) (l1 : List (S60)) (A2 : Option Addr) (c2 : Nat) (l2 : List Int) (r : Bool) (w : World) (hr1 : Kd.C k60 w A1 l1.length l1) (hc1 : l1.length ≤ c1) (hr2 : Kd.C (Kd.int .i64) w A2 l2.length l2) (hc2 : l2.length ≤ c2) (hr_ : Aside0 (r = true)) (h : laws_FnExactClosingOf.f k a0 l1 l2 = some r) :
  Calls Try.prog 6 #[.int .i64 a0, .slice A1 l1.length c1, .slice A2 l2.length c2] w fun e w' => e = .returned (.bool r) ∧ Below w.heap.size w w' := by
 have HR1 := Aside0.mk hr1
 have HC1 := Aside0.mk hc1
 clear hr1 hc1
 have HR2 := Aside0.mk hr2
 have HC2 := Aside0.mk hc2
 clear hr2 hc2
 have HB := Aside0.mk (Below.refl w.heap.size w)
 have H : (if (l2.length : Int) > 1048576 then (some true) else ((laws_szLineS.f l1 1048576).bind fun t247 => (if t247 < 0 then (some true) else ((laws_toLineS.f k l1).bind fun t248 => ((laws_toInt64S.f k l2).bind fun t251 => ((spec_ClosingOf.f k a0 t248 t251).bind fun bt254 => ((laws_toLineS.f k l1).bind fun t256 => ((laws_toInt64S.f k l2).bind fun t259 => ((impl_ClosingOf.f k a0 t256 t259).bind fun bt262 => (if bt262.1 = bt254.1 then (laws_FnExactClosingOf.j0 k l1 l2 t256 t259 (bt262.2 != bt254.2)) else (laws_FnExactClosingOf.j0 k l1 l2 t256 t259 true))))))))))) = some r := h
 clear h
 by_cases c4 : (l2.length : Int) > 1048576
 ·rw [if_pos c4] at H
  have c4b0 : decide (1048576 < (l2.length : Int)) = true := decide_eq_true c4
  have c4b1 : decide (1048576 < l2.length) = true := decide_eq_true (by omega)
  clear c4
  obtain rfl := Option.some.inj H
  go_enter Try.func6, Try.ntmps6
  go_wp2
  go_ret
  exact ⟨by first | rfl | (simp [errW_none, errW_some] <;> rfl) | (simp [*, errW_none, errW_some] <;> rfl), by repeat (first | (with_reducible first | exact HB.out | apply below_alloc | apply pw_below_drewN | apply below_drew1) | exact HB.out)⟩
 ·rw [if_neg c4] at H
  have c4b0 : decide (1048576 < (l2.length : Int)) = false := decide_eq_false c4
  have c4b1 : decide (1048576 < l2.length) = false := decide_eq_false (by omega)
  clear c4
  replace H := Option.bind_eq_some_iff.mp H
  obtain ⟨t247, A50, H⟩ := H
  replace H : (if t247 < 0 then (some true) else ((laws_toLineS.f k l1).bind fun t248 => ((laws_toInt64S.f k l2).bind fun t251 => ((spec_ClosingOf.f k a0 t248 t251).bind fun bt254 => ((laws_toLineS.f k l1).bind fun t256 => ((laws_toInt64S.f k l2).bind fun t259 => ((impl_ClosingOf.f k a0 t256 t259).bind fun bt262 => (if bt262.1 = bt254.1 then (laws_FnExactClosingOf.j0 k l1 l2 t256 t259 (bt262.2 != bt254.2)) else (laws_FnExactClosingOf.j0 k l1 l2 t256 t259 true))))))))) = some r := H
  have A5 := Aside0.mk A50
  clear A50
  by_cases c6 : t247 < 0
  ·rw [if_pos c6] at H
   have c6b0 : decide (t247 < 0) = true := decide_eq_true c6
   clear c6
   obtain rfl := Option.some.inj H
   go_enter Try.func6, Try.ntmps6
   go_wp2_with (first | ((with_reducible refine gate_callee (f := 11) rfl ?_); refine goesL_ (some 19) rfl rfl Try.func11 (by kernel_rfl) rfl #[.slice A1 l1.length c1, .int .i64 1048576] rfl (by (try simp only [List.map_toArray, List.map_cons, List.map_nil]); first | done | rfl | (simp only [List.length_drop, List.length_take]; rfl)) ?_; (with_reducible refine (laws_szLineS.calls _ _ l1 1048576 t247 _ ?side1 ?side2 A5.out).mono ?_); (case side1 => repeat (first | exact HR1.out | (with_reducible refine Kd.C_alloc ?_ _) | (with_reducible refine Kd.C_drewN ?_ _) | (with_reducible refine Kd.C_drew ?_))); (case side2 => exact HC1.out); rintro e w' ⟨rfl, ⟨nd, rfl⟩⟩; refine ⟨_, rfl, ?_⟩))
   go_ret
   exact ⟨by first | rfl | (simp [errW_none, errW_some] <;> rfl) | (simp [*, errW_none, errW_some] <;> rfl), by repeat (first | (with_reducible first | exact HB.out | apply below_alloc | apply pw_below_drewN | apply below_drew1) | exact HB.out)⟩
  ·rw [if_neg c6] at H
   have c6b0 : decide (t247 < 0) = false := decide_eq_false c6
   clear c6
   replace H := Option.bind_eq_some_iff.mp H
   obtain ⟨t248, A70, H⟩ := H
   replace H : ((laws_toInt64S.f k l2).bind fun t251 => ((spec_ClosingOf.f k a0 t248 t251).bind fun bt254 => ((laws_toLineS.f k l1).bind fun t256 => ((laws_toInt64S.f k l2).bind fun t259 => ((impl_ClosingOf.f k a0 t256 t259).bind fun bt262 => (if bt262.1 = bt254.1 then (laws_FnExactClosingOf.j0 k l1 l2 t256 t259 (bt262.2 != bt254.2)) else (laws_FnExactClosingOf.j0 k l1 l2 t256 t259 true))))))) = some r := H
   have A7 := Aside0.mk A70
   clear A70
   replace H := Option.bind_eq_some_iff.mp H
   obtain ⟨t251, A80, H⟩ := H
   replace H : ((spec_ClosingOf.f k a0 t248 t251).bind fun bt254 => ((laws_toLineS.f k l1).bind fun t256 => ((laws_toInt64S.f k l2).bind fun t259 => ((impl_ClosingOf.f k a0 t256 t259).bind fun bt262 => (if bt262.1 = bt254.1 then (laws_FnExactClosingOf.j0 k l1 l2 t256 t259 (bt262.2 != bt254.2)) else (laws_FnExactClosingOf.j0 k l1 l2 t256 t259 true)))))) = some r := H
   have A8 := Aside0.mk A80
   clear A80
   replace H := Option.bind_eq_some_iff.mp H
   obtain ⟨⟨t254, t255⟩, A90, H⟩ := H
   replace H : ((laws_toLineS.f k l1).bind fun t256 => ((laws_toInt64S.f k l2).bind fun t259 => ((impl_ClosingOf.f k a0 t256 t259).bind fun bt262 => (if bt262.1 = t254 then (laws_FnExactClosingOf.j0 k l1 l2 t256 t259 (bt262.2 != t255)) else (laws_FnExactClosingOf.j0 k l1 l2 t256 t259 true))))) = some r := H
   have A9 := Aside0.mk A90
   clear A90
   replace H := Option.bind_eq_some_iff.mp H
   obtain ⟨t256, A100, H⟩ := H
   replace H : ((laws_toInt64S.f k l2).bind fun t259 => ((impl_ClosingOf.f k a0 t256 t259).bind fun bt262 => (if bt262.1 = t254 then (laws_FnExactClosingOf.j0 k l1 l2 t256 t259 (bt262.2 != t255)) else (laws_FnExactClosingOf.j0 k l1 l2 t256 t259 true)))) = some r := H
   have A10 := Aside0.mk A100
   clear A100
   replace H := Option.bind_eq_some_iff.mp H
   obtain ⟨t259, A110, H⟩ := H
   replace H : ((impl_ClosingOf.f k a0 t256 t259).bind fun bt262 => (if bt262.1 = t254 then (laws_FnExactClosingOf.j0 k l1 l2 t256 t259 (bt262.2 != t255)) else (laws_FnExactClosingOf.j0 k l1 l2 t256 t259 true))) = some r := H
   have A11 := Aside0.mk A110
   clear A110
   replace H := Option.bind_eq_some_iff.mp H
   obtain ⟨⟨t262, t263⟩, A120, H⟩ := H
   replace H : (if t262 = t254 then (laws_FnExactClosingOf.j0 k l1 l2 t256 t259 (t263 != t255)) else (laws_FnExactClosingOf.j0 k l1 l2 t256 t259 true)) = some r := H
   have A12 := Aside0.mk A120
   clear A120
   have HC13 := Aside0.mk H
   clear H
   go_enter Try.func6, Try.ntmps6
   go_upto_region 11 with (first | ((with_reducible refine gate_callee (f := 11) rfl ?_); refine goesL_ (some 19) rfl rfl Try.func11 (by kernel_rfl) rfl #[.slice A1 l1.length c1, .int .i64 1048576] rfl (by (try simp only [List.map_toArray, List.map_cons, List.map_nil]); first | done | rfl | (simp only [List.length_drop, List.length_take]; rfl)) ?_; (with_reducible refine (laws_szLineS.calls _ _ l1 1048576 t247 _ ?side1 ?side2 A5.out).mono ?_); (case side1 => repeat (first | exact HR1.out | (with_reducible refine Kd.C_alloc ?_ _) | (with_reducible refine Kd.C_drewN ?_ _) | (with_reducible refine Kd.C_drew ?_))); (case side2 => exact HC1.out); rintro e w' ⟨rfl, ⟨nd, rfl⟩⟩; refine ⟨_, rfl, ?_⟩) | ((with_reducible refine gate_callee (f := 13) rfl ?_); refine goesL_ (some 25) rfl rfl Try.func13 (by kernel_rfl) rfl #[.slice A1 l1.length c1] rfl (by (try simp only [List.map_toArray, List.map_cons, List.map_nil]); first | done | rfl | (simp only [List.length_drop, List.length_take]; rfl)) ?_; (with_reducible refine (laws_toLineS.calls k _ _ l1 t248 _ ?side1 ?side2 A7.out).mono ?_); (case side1 => repeat (first | exact HR1.out | (with_reducible refine Kd.C_alloc ?_ _) | (with_reducible refine Kd.C_drewN ?_ _) | (with_reducible refine Kd.C_drew ?_))); (case side2 => exact HC1.out); rintro e w14 ⟨v249, rfl, ho0, hb⟩; refine ⟨_, rfl, ?_⟩; have n0_ := Aside0.mk (Kd.R_lower ho0 (below_size (by repeat (first | (with_reducible first | exact HB.out | apply below_alloc | apply pw_below_drewN | apply below_drew1) | exact HB.out)))); have n1_ := Aside0.mk (below_step (by repeat (first | (with_reducible first | exact HB.out | apply below_alloc | apply pw_below_drewN | apply below_drew1) | exact HB.out)) hb); clear HB; have HO250 := n0_; have HB := n1_; clear n0_ n1_; (try clear hb); (try clear hb2); (try clear hk); (try clear hi); (try clear ho0)) | ((with_reducible refine gate_callee (f := 25) rfl ?_); refine goesL_ (some 27) rfl rfl Try.func25 (by kernel_rfl) rfl #[.slice A2 l2.length c2] rfl (by (try simp only [List.map_toArray, List.map_cons, List.map_nil]); first | done | rfl | (simp only [List.length_drop, List.length_take]; rfl)) ?_; (with_reducible refine (laws_toInt64S.calls k _ _ l2 t251 _ ?side1 ?side2 A8.out).mono ?_); (case side1 => repeat (first | exact (Kd.C_below HR2.out HB.out) | (with_reducible refine Kd.C_alloc ?_ _) | (with_reducible refine Kd.C_drewN ?_ _) | (with_reducible refine Kd.C_drew ?_))); (case side2 => exact HC2.out); rintro e w15 ⟨v252, rfl, ho0, hb⟩; refine ⟨_, rfl, ?_⟩; have n0_ := Aside0.mk (Kd.R_below (by (with_reducible repeat (first | apply Kd.R_alloc | apply Kd.R_drewN | apply Kd.R_drew)); exact HO250.out) hb); have n1_ := Aside0.mk (Kd.R_lower ho0 (below_size (by repeat (first | (with_reducible first | exact HB.out | apply below_alloc | apply pw_below_drewN | apply below_drew1) | exact HB.out)))); have n2_ := Aside0.mk (below_step (by repeat (first | (with_reducible first | exact HB.out | apply below_alloc | apply pw_below_drewN | apply below_drew1) | exact HB.out)) hb); clear HO250; clear HB; have HO250 := n0_; have HO253 := n1_; have HB := n2_; clear n0_ n1_ n2_; (try clear hb); (try clear hb2); (try clear hk); (try clear hi); (try clear ho0); obtain ⟨Ao16, co16, eo16⟩ := Kd.R_slice HO250.out; subst eo16; obtain ⟨Ao17, co17, eo17⟩ := Kd.R_slice HO253.out; subst eo17) | ((with_reducible refine gate_callee (f := 24) rfl ?_); refine goesL_ (some 28) rfl rfl Try.func24 (by kernel_rfl) rfl #[.int .i64 a0, .slice Ao16 t248.length co16, .slice Ao17 t251.length co17] rfl (by (try simp only [List.map_toArray, List.map_cons, List.map_nil]); first | done | rfl | (simp only [List.length_drop, List.length_take]; rfl)) ?_; (with_reducible refine (spec_ClosingOf.calls k a0 _ _ t248 _ _ t251 t254 t255 _ ?side1 ?side2 ?side3 ?side4 A9.out).mono ?_); (case side1 => repeat (first | exact (Kd.R_reads' HO250.out).2.2 | (with_reducible refine Kd.C_alloc ?_ _) | (with_reducible refine Kd.C_drewN ?_ _) | (with_reducible refine Kd.C_drew ?_))); (case side2 => exact (Kd.R_reads' HO250.out).2.1); (case side3 => repeat (first | exact (Kd.R_reads' HO253.out).2.2 | (with_reducible refine Kd.C_alloc ?_ _) | (with_reducible refine Kd.C_drewN ?_ _) | (with_reducible refine Kd.C_drew ?_))); (case side4 => exact (Kd.R_reads' HO253.out).2.1); rintro e w18 ⟨rfl, hb⟩; refine ⟨_, rfl, ?_⟩; have n0_ := Aside0.mk (Kd.R_below (by (with_reducible repeat (first | apply Kd.R_alloc | apply Kd.R_drewN | apply Kd.R_drew)); exact HO250.out) hb); have n1_ := Aside0.mk (Kd.R_below (by (with_reducible repeat (first | apply Kd.R_alloc | apply Kd.R_drewN | apply Kd.R_drew)); exact HO253.out) hb); have n2_ := Aside0.mk (below_step (by repeat (first | (with_reducible first | exact HB.out | apply below_alloc | apply pw_below_drewN | apply below_drew1) | exact HB.out)) hb); clear HO250; clear HO253; clear HB; have HO250 := n0_; have HO253 := n1_; have HB := n2_; clear n0_ n1_ n2_; (try clear hb); (try clear hb2); (try clear hk); (try clear hi)) | ((with_reducible refine gate_callee (f := 13) rfl ?_); refine goesL_ (some 32) rfl rfl Try.func13 (by kernel_rfl) rfl #[.slice A1 l1.length c1] rfl (by (try simp only [List.map_toArray, List.map_cons, List.map_nil]); first | done | rfl | (simp only [List.length_drop, List.length_take]; rfl)) ?_; (with_reducible refine (laws_toLineS.calls k _ _ l1 t256 _ ?side1 ?side2 A10.out).mono ?_); (case side1 => repeat (first | exact (Kd.C_below HR1.out HB.out) | (with_reducible refine Kd.C_alloc ?_ _) | (with_reducible refine Kd.C_drewN ?_ _) | (with_reducible refine Kd.C_drew ?_))); (case side2 => exact HC1.out); rintro e w19 ⟨v257, rfl, ho0, hb⟩; refine ⟨_, rfl, ?_⟩; have n0_ := Aside0.mk (Kd.R_elder' (by (with_reducible repeat (first | apply Kd.R_alloc | apply Kd.R_drewN | apply Kd.R_drew)); exact HO250.out) (Kd.R_base ho0) hb); have n1_ := Aside0.mk (Kd.R_below (by (with_reducible repeat (first | apply Kd.R_alloc | apply Kd.R_drewN | apply Kd.R_drew)); exact HO253.out) hb); have n2_ := Aside0.mk (Kd.R_lower (Kd.R_new' ho0 (Kd.R_lt (by (with_reducible repeat (first | apply Kd.R_alloc | apply Kd.R_drewN | apply Kd.R_drew)); exact HO250.out))) (below_size (by repeat (first | (with_reducible first | exact HB.out | apply below_alloc | apply pw_below_drewN | apply below_drew1) | exact HB.out)))); have n3_ := Aside0.mk (below_step (by repeat (first | (with_reducible first | exact HB.out | apply below_alloc | apply pw_below_drewN | apply below_drew1) | exact HB.out)) hb); clear HO250; clear HO253; clear HB; have HO250 := n0_; have HO253 := n1_; have HO258 := n2_; have HB := n3_; clear n0_ n1_ n2_ n3_; (try clear hb); (try clear hb2); (try clear hk); (try clear hi); (try clear ho0)) | ((with_reducible refine gate_callee (f := 25) rfl ?_); refine goesL_ (some 34) rfl rfl Try.func25 (by kernel_rfl) rfl #[.slice A2 l2.length c2] rfl (by (try simp only [List.map_toArray, List.map_cons, List.map_nil]); first | done | rfl | (simp only [List.length_drop, List.length_take]; rfl)) ?_; (with_reducible refine (laws_toInt64S.calls k _ _ l2 t259 _ ?side1 ?side2 A11.out).mono ?_); (case side1 => repeat (first | exact (Kd.C_below HR2.out HB.out) | (with_reducible refine Kd.C_alloc ?_ _) | (with_reducible refine Kd.C_drewN ?_ _) | (with_reducible refine Kd.C_drew ?_))); (case side2 => exact HC2.out); rintro e w20 ⟨v260, rfl, ho0, hb⟩; refine ⟨_, rfl, ?_⟩; have n0_ := Aside0.mk (Kd.R_below (by (with_reducible repeat (first | apply Kd.R_alloc | apply Kd.R_drewN | apply Kd.R_drew)); exact HO250.out) hb); have n1_ := Aside0.mk (Kd.R_elder' (by (with_reducible repeat (first | apply Kd.R_alloc | apply Kd.R_drewN | apply Kd.R_drew)); exact HO253.out) (Kd.R_base ho0) hb); have n2_ := Aside0.mk (Kd.R_below (by (with_reducible repeat (first | apply Kd.R_alloc | apply Kd.R_drewN | apply Kd.R_drew)); exact HO258.out) hb); have n3_ := Aside0.mk (Kd.R_lower (Kd.R_new' ho0 (Kd.R_lt (by (with_reducible repeat (first | apply Kd.R_alloc | apply Kd.R_drewN | apply Kd.R_drew)); exact HO253.out))) (below_size (by repeat (first | (with_reducible first | exact HB.out | apply below_alloc | apply pw_below_drewN | apply below_drew1) | exact HB.out)))); have n4_ := Aside0.mk (below_step (by repeat (first | (with_reducible first | exact HB.out | apply below_alloc | apply pw_below_drewN | apply below_drew1) | exact HB.out)) hb); clear HO250; clear HO253; clear HO258; clear HB; have HO250 := n0_; have HO253 := n1_; have HO258 := n2_; have HO261 := n3_; have HB := n4_; clear n0_ n1_ n2_ n3_ n4_; (try clear hb); (try clear hb2); (try clear hk); (try clear hi); (try clear ho0); obtain ⟨Ao21, co21, eo21⟩ := Kd.R_slice HO258.out; subst eo21; obtain ⟨Ao22, co22, eo22⟩ := Kd.R_slice HO261.out; subst eo22) | ((with_reducible refine gate_callee (f := 26) rfl ?_); refine goesL_ (some 39) rfl rfl Try.func26 (by kernel_rfl) rfl #[.int .i64 a0, .slice Ao21 t256.length co21, .slice Ao22 t259.length co22] rfl (by (try simp only [List.map_toArray, List.map_cons, List.map_nil]); first | done | rfl | (simp only [List.length_drop, List.length_take]; rfl)) ?_; (with_reducible refine (impl_ClosingOf.calls k a0 _ _ t256 _ _ t259 t262 t263 _ ?side1 ?side2 ?side3 ?side4 A12.out).mono ?_); (case side1 => repeat (first | exact (Kd.R_reads' HO258.out).2.2 | (with_reducible refine Kd.C_alloc ?_ _) | (with_reducible refine Kd.C_drewN ?_ _) | (with_reducible refine Kd.C_drew ?_))); (case side2 => exact (Kd.R_reads' HO258.out).2.1); (case side3 => repeat (first | exact (Kd.R_reads' HO261.out).2.2 | (with_reducible refine Kd.C_alloc ?_ _) | (with_reducible refine Kd.C_drewN ?_ _) | (with_reducible refine Kd.C_drew ?_))); (case side4 => exact (Kd.R_reads' HO261.out).2.1); rintro e w23 ⟨rfl, hb⟩; refine ⟨_, rfl, ?_⟩; have n0_ := Aside0.mk (Kd.R_below (by (with_reducible repeat (first | apply Kd.R_alloc | apply Kd.R_drewN | apply Kd.R_drew)); exact HO250.out) hb); have n1_ := Aside0.mk (Kd.R_below (by (with_reducible repeat (first | apply Kd.R_alloc | apply Kd.R_drewN | apply Kd.R_drew)); exact HO253.out) hb); have n2_ := Aside0.mk (Kd.R_below (by (with_reducible repeat (first | apply Kd.R_alloc | apply Kd.R_drewN | apply Kd.R_drew)); exact HO258.out) hb); have n3_ := Aside0.mk (Kd.R_below (by (with_reducible repeat (first | apply Kd.R_alloc | apply Kd.R_drewN | apply Kd.R_drew)); exact HO261.out) hb); have n4_ := Aside0.mk (below_step (by repeat (first | (with_reducible first | exact HB.out | apply below_alloc | apply pw_below_drewN | apply below_drew1) | exact HB.out)) hb); clear HO250; clear HO253; clear HO258; clear HO261; clear HB; have HO250 := n0_; have HO253 := n1_; have HO258 := n2_; have HO261 := n3_; have HB := n4_; clear n0_ n1_ n2_ n3_ n4_; (try clear hb); (try clear hb2); (try clear hk); (try clear hi)))
   (try simp only [Act.put, List.setIfInBounds_toArray, List.set_cons_zero, List.set_cons_succ])
   go_cut [49] (fun v49 wc => ∃ (kq : Nat) (x49_12 : Bool), v49 = .bool x49_12 ∧ Aside0 (laws_FnExactClosingOf.j0 kq l1 l2 t256 t259 x49_12 = some r) ∧ Aside0 (kq ≤ k) ∧ Aside0 (Kd.R k51 51 wc w.heap.size (fun _ => True) (.slice Ao21 t256.length co21) t256) ∧ Aside0 (Kd.R (Kd.int .i64) 2 wc w.heap.size (fun _ => True) (.slice Ao22 t259.length co22) t259) ∧ Aside0 (Below w.heap.size w wc))
   case first =>
    have H := HC13.out
    clear HC13
    by_cases c24 : t262 = t254
    ·rw [if_pos c24] at H
     have c24b0 : (t262 == t254) = true := beq_iff_eq.mpr c24
     have c24b1 : (t262 != t254) = false := bne_eq_false_iff_eq.mpr c24
     clear c24
     (first | rw [c24b0] | (simp only [i64_w, i32_w]; rw [c24b0]) | skip)
     have H' := Aside0.mk H
     clear H
     go_wp2
     go_meet
     case rel => exact ⟨_, ((t263 != t255)), (by first | rfl | (simp; done) | (simp [*]; done)), H', ⟨by first | omega | exact Nat.le_refl _⟩, ⟨by (with_reducible repeat (first | apply Kd.R_alloc | apply Kd.R_drewN | apply Kd.R_drew)); exact Kd.R_mono HO258.out (fun _ hk => trivial)⟩, ⟨by (with_reducible repeat (first | apply Kd.R_alloc | apply Kd.R_drewN | apply Kd.R_drew)); exact Kd.R_mono HO261.out (fun _ hk => trivial)⟩, ⟨by repeat (first | (with_reducible first | exact HB.out | apply below_alloc | apply pw_below_drewN | apply below_drew1) | exact HB.out)⟩⟩
    ·rw [if_neg c24] at H
     have c24b0 : (t262 == t254) = false := beq_eq_false_iff_ne.mpr c24
     have c24b1 : (t262 != t254) = true := bne_iff_ne.mpr c24
     (first | rw [c24b0] | (simp only [i64_w, i32_w]; rw [c24b0]) | skip)
     have H' := Aside0.mk H
     clear H
     go_wp2
     go_meet
     case rel => exact ⟨_, (true), (by first | rfl | (simp; done) | (simp [*]; done)), H', ⟨by first | omega | exact Nat.le_refl _⟩, ⟨by (with_reducible repeat (first | apply Kd.R_alloc | apply Kd.R_drewN | apply Kd.R_drew)); exact Kd.R_mono HO258.out (fun _ hk => trivial)⟩, ⟨by (with_reducible repeat (first | apply Kd.R_alloc | apply Kd.R_drewN | apply Kd.R_drew)); exact Kd.R_mono HO261.out (fun _ hk => trivial)⟩, ⟨by repeat (first | (with_reducible first | exact HB.out | apply below_alloc | apply pw_below_drewN | apply below_drew1) | exact HB.out)⟩⟩
   case rest =>
    clear HC13
    try clear c1
    try clear c2
    try clear p2
    try clear c4
    try clear c4b0
    try clear c4b1
    try clear c6
    try clear c6b0
    try clear c11
    try clear c13
    try clear c24
    try clear c24b0
    try clear c24b1
    obtain ⟨kq, x49_12, rfl, HA, HJ12, HO_10, HO_11, HB⟩ := hcut
    cases kq with
    | zero => exact absurd HA.out (by simp [laws_FnExactClosingOf.j0])
    | succ kj12 =>
     have H := HA.out
     clear HA
     simp only [laws_FnExactClosingOf.j0] at H
     by_cases c25 : x49_12 = true
     ·subst c25
      have H1 : (some false) = some r := by rw [if_pos rfl] at H; exact H
      clear H
      have H := H1
      clear H1
      exact absurd (Option.some.inj H) (by rw [hr_.out]; decide)
     ·replace c25 := Bool.eq_false_iff.mpr c25
      subst c25
      have H1 : ((laws_toLineS.f kj12 l1).bind fun t264 => ((laws_eqLineS.f kj12 t256 t264).bind fun t267 => (if t267 = true then ((laws_toInt64S.f kj12 l2).bind fun t268 => ((laws_eqInt64S.f kj12 t259 t268).bind fun t271 => (if t271 = true then (some true) else (some false)))) else (some false)))) = some r := by rw [if_neg (show ¬ (false = true) by decide)] at H; exact H
      clear H
      have H := H1
      clear H1
      replace H := Option.bind_eq_some_iff.mp H
      obtain ⟨t264, A260, H⟩ := H
      replace H : ((laws_eqLineS.f kj12 t256 t264).bind fun t267 => (if t267 = true then ((laws_toInt64S.f kj12 l2).bind fun t268 => ((laws_eqInt64S.f kj12 t259 t268).bind fun t271 => (if t271 = true then (some true) else (some false)))) else (some false))) = some r := H
      have A26 := Aside0.mk A260
      clear A260
      replace H := Option.bind_eq_some_iff.mp H
      obtain ⟨t267, A270, H⟩ := H
      replace H : (if t267 = true then ((laws_toInt64S.f kj12 l2).bind fun t268 => ((laws_eqInt64S.f kj12 t259 t268).bind fun t271 => (if t271 = true then (some true) else (some false)))) else (some false)) = some r := H
      have A27 := Aside0.mk A270
      clear A270
      by_cases c28 : t267 = true
      ·subst c28
       have H1 : ((laws_toInt64S.f kj12 l2).bind fun t268 => ((laws_eqInt64S.f kj12 t259 t268).bind fun t271 => (if t271 = true then (some true) else (some false)))) = some r := by rw [if_pos rfl] at H; exact H
       clear H
       have H := H1
       clear H1
       replace H := Option.bind_eq_some_iff.mp H
       obtain ⟨t268, A290, H⟩ := H
       replace H : ((laws_eqInt64S.f kj12 t259 t268).bind fun t271 => (if t271 = true then (some true) else (some false))) = some r := H
       have A29 := Aside0.mk A290
       clear A290
       replace H := Option.bind_eq_some_iff.mp H
       obtain ⟨t271, A300, H⟩ := H
       replace H : (if t271 = true then (some true) else (some false)) = some r := H
       have A30 := Aside0.mk A300
       clear A300
       by_cases c31 : t271 = true
       ·subst c31
        have H1 : (some true) = some r := by rw [if_pos rfl] at H; exact H
        clear H
        have H := H1
        clear H1
        obtain rfl := Option.some.inj H
        go_wp2_with (first | ((with_reducible refine gate_callee (f := 13) rfl ?_); refine goesL_ (some 52) rfl rfl Try.func13 (by kernel_rfl) rfl #[.slice A1 l1.length c1] rfl (by (try simp only [List.map_toArray, List.map_cons, List.map_nil]); first | done | rfl | (simp only [List.length_drop, List.length_take]; rfl)) ?_; (with_reducible refine (laws_toLineS.calls kj12 _ _ l1 t264 _ ?side1 ?side2 A26.out).mono ?_); (case side1 => repeat (first | exact (Kd.C_below HR1.out HB.out) | (with_reducible refine Kd.C_alloc ?_ _) | (with_reducible refine Kd.C_drewN ?_ _) | (with_reducible refine Kd.C_drew ?_))); (case side2 => exact HC1.out); rintro e w32 ⟨v265, rfl, ho0, hb⟩; refine ⟨_, rfl, ?_⟩; have n0_ := Aside0.mk (Kd.R_elder' (by (with_reducible repeat (first | apply Kd.R_alloc | apply Kd.R_drewN | apply Kd.R_drew)); exact HO_10.out) (Kd.R_base ho0) hb); have n1_ := Aside0.mk (Kd.R_below (by (with_reducible repeat (first | apply Kd.R_alloc | apply Kd.R_drewN | apply Kd.R_drew)); exact HO_11.out) hb); have n2_ := Aside0.mk (Kd.R_lower (Kd.R_new' ho0 (Kd.R_lt (by (with_reducible repeat (first | apply Kd.R_alloc | apply Kd.R_drewN | apply Kd.R_drew)); exact HO_10.out))) (below_size (by repeat (first | (with_reducible first | exact HB.out | apply below_alloc | apply pw_below_drewN | apply below_drew1) | exact HB.out)))); have n3_ := Aside0.mk (below_step (by repeat (first | (with_reducible first | exact HB.out | apply below_alloc | apply pw_below_drewN | apply below_drew1) | exact HB.out)) hb); clear HO_10; clear HO_11; clear HB; have HO_10 := n0_; have HO_11 := n1_; have HO266 := n2_; have HB := n3_; clear n0_ n1_ n2_ n3_; (try clear hb); (try clear hb2); (try clear hk); (try clear hi); (try clear ho0); obtain ⟨Ao33, co33, eo33⟩ := Kd.R_slice HO266.out; subst eo33) | ((with_reducible refine gate_callee (f := 15) rfl ?_); refine goesL_ (some 53) rfl rfl Try.func15 (by kernel_rfl) rfl #[.slice Ao21 t256.length co21, .slice Ao33 t264.length co33] rfl (by (try simp only [List.map_toArray, List.map_cons, List.map_nil]); first | done | rfl | (simp only [List.length_drop, List.length_take]; rfl)) ?_; (with_reducible refine (laws_eqLineS.calls kj12 _ _ t256 _ _ t264 true _ ?side1 ?side2 ?side3 ?side4 A27.out).mono ?_); (case side1 => repeat (first | exact (Kd.R_reads' HO_10.out).2.2 | (with_reducible refine Kd.C_alloc ?_ _) | (with_reducible refine Kd.C_drewN ?_ _) | (with_reducible refine Kd.C_drew ?_))); (case side2 => exact (Kd.R_reads' HO_10.out).2.1); (case side3 => repeat (first | exact (Kd.R_reads' HO266.out).2.2 | (with_reducible refine Kd.C_alloc ?_ _) | (with_reducible refine Kd.C_drewN ?_ _) | (with_reducible refine Kd.C_drew ?_))); (case side4 => exact (Kd.R_reads' HO266.out).2.1); rintro e w34 ⟨rfl, hb⟩; refine ⟨_, rfl, ?_⟩; have n0_ := Aside0.mk (Kd.R_below (by (with_reducible repeat (first | apply Kd.R_alloc | apply Kd.R_drewN | apply Kd.R_drew)); exact HO_10.out) hb); have n1_ := Aside0.mk (Kd.R_below (by (with_reducible repeat (first | apply Kd.R_alloc | apply Kd.R_drewN | apply Kd.R_drew)); exact HO_11.out) hb); have n2_ := Aside0.mk (Kd.R_below (by (with_reducible repeat (first | apply Kd.R_alloc | apply Kd.R_drewN | apply Kd.R_drew)); exact HO266.out) hb); have n3_ := Aside0.mk (below_step (by repeat (first | (with_reducible first | exact HB.out | apply below_alloc | apply pw_below_drewN | apply below_drew1) | exact HB.out)) hb); clear HO_10; clear HO_11; clear HO266; clear HB; have HO_10 := n0_; have HO_11 := n1_; have HO266 := n2_; have HB := n3_; clear n0_ n1_ n2_ n3_; (try clear hb); (try clear hb2); (try clear hk); (try clear hi)) | ((with_reducible refine gate_callee (f := 25) rfl ?_); refine goesL_ (some 57) rfl rfl Try.func25 (by kernel_rfl) rfl #[.slice A2 l2.length c2] rfl (by (try simp only [List.map_toArray, List.map_cons, List.map_nil]); first | done | rfl | (simp only [List.length_drop, List.length_take]; rfl)) ?_; (with_reducible refine (laws_toInt64S.calls kj12 _ _ l2 t268 _ ?side1 ?side2 A29.out).mono ?_); (case side1 => repeat (first | exact (Kd.C_below HR2.out HB.out) | (with_reducible refine Kd.C_alloc ?_ _) | (with_reducible refine Kd.C_drewN ?_ _) | (with_reducible refine Kd.C_drew ?_))); (case side2 => exact HC2.out); rintro e w35 ⟨v269, rfl, ho0, hb⟩; refine ⟨_, rfl, ?_⟩; have n0_ := Aside0.mk (Kd.R_below (by (with_reducible repeat (first | apply Kd.R_alloc | apply Kd.R_drewN | apply Kd.R_drew)); exact HO_10.out) hb); have n1_ := Aside0.mk (Kd.R_elder' (by (with_reducible repeat (first | apply Kd.R_alloc | apply Kd.R_drewN | apply Kd.R_drew)); exact HO_11.out) (Kd.R_base ho0) hb); have n2_ := Aside0.mk (Kd.R_below (by (with_reducible repeat (first | apply Kd.R_alloc | apply Kd.R_drewN | apply Kd.R_drew)); exact HO266.out) hb); have n3_ := Aside0.mk (Kd.R_lower (Kd.R_new' ho0 (Kd.R_lt (by (with_reducible repeat (first | apply Kd.R_alloc | apply Kd.R_drewN | apply Kd.R_drew)); exact HO_11.out))) (below_size (by repeat (first | (with_reducible first | exact HB.out | apply below_alloc | apply pw_below_drewN | apply below_drew1) | exact HB.out)))); have n4_ := Aside0.mk (below_step (by repeat (first | (with_reducible first | exact HB.out | apply below_alloc | apply pw_below_drewN | apply below_drew1) | exact HB.out)) hb); clear HO_10; clear HO_11; clear HO266; clear HB; have HO_10 := n0_; have HO_11 := n1_; have HO266 := n2_; have HO270 := n3_; have HB := n4_; clear n0_ n1_ n2_ n3_ n4_; (try clear hb); (try clear hb2); (try clear hk); (try clear hi); (try clear ho0); obtain ⟨Ao36, co36, eo36⟩ := Kd.R_slice HO270.out; subst eo36) | ((with_reducible refine gate_callee (f := 18) rfl ?_); refine goesL_ (some 58) rfl rfl Try.func18 (by kernel_rfl) rfl #[.slice Ao22 t259.length co22, .slice Ao36 t268.length co36] rfl (by (try simp only [List.map_toArray, List.map_cons, List.map_nil]); first | done | rfl | (simp only [List.length_drop, List.length_take]; rfl)) ?_; (with_reducible refine (laws_eqInt64S.calls kj12 _ _ t259 _ _ t268 true _ ?side1 ?side2 ?side3 ?side4 A30.out).mono ?_); (case side1 => repeat (first | exact (Kd.R_reads' HO_11.out).2.2 | (with_reducible refine Kd.C_alloc ?_ _) | (with_reducible refine Kd.C_drewN ?_ _) | (with_reducible refine Kd.C_drew ?_))); (case side2 => exact (Kd.R_reads' HO_11.out).2.1); (case side3 => repeat (first | exact (Kd.R_reads' HO270.out).2.2 | (with_reducible refine Kd.C_alloc ?_ _) | (with_reducible refine Kd.C_drewN ?_ _) | (with_reducible refine Kd.C_drew ?_))); (case side4 => exact (Kd.R_reads' HO270.out).2.1); rintro e w' ⟨rfl, ⟨nd, rfl⟩⟩; refine ⟨_, rfl, ?_⟩))
        go_ret
        exact ⟨by first | rfl | (simp [errW_none, errW_some] <;> rfl) | (simp [*, errW_none, errW_some] <;> rfl), by repeat (first | (with_reducible first | exact HB.out | apply below_alloc | apply pw_below_drewN | apply below_drew1) | exact HB.out)⟩
       ·replace c31 := Bool.eq_false_iff.mpr c31
        subst c31
        have H1 : (some false) = some r := by rw [if_neg (show ¬ (false = true) by decide)] at H; exact H
        clear H
        have H := H1
        clear H1
        exact absurd (Option.some.inj H) (by rw [hr_.out]; decide)
      ·replace c28 := Bool.eq_false_iff.mpr c28
       subst c28
       have H1 : (some false) = some r := by rw [if_neg (show ¬ (false = true) by decide)] at H; exact H
       clear H
       have H := H1
       clear H1
       exact absurd (Option.some.inj H) (by rw [hr_.out]; decide)

end Go.Proofs.Ytppfdndnojbmjaa.X

/-! ## Rdr -/
/- How an argument that reads as data is given to the printed functions: whole numbers, bools, strings, slices and structs of these, of whatever depth. No condition. -/
namespace Go.Proofs.Ytppfdndnojbmjaa.Rdr
open Go.ChangeShapes Go.WideShapes Go.Deep Go.Proofs.YtppfdndnojbmjaaW.PrintWords

def I64 (n : Int) : Prop := -9223372036854775808 ≤ n ∧ n ≤ 9223372036854775807
def Str (s : ByteArray) : Prop := s.size ≤ 9223372036854775807
def Lst {α : Type} (Wf : α → Prop) (xs : List α) : Prop := xs.length ≤ 9223372036854775807 ∧ ∀ x ∈ xs, Wf x

structure Reads (P : Program) (t : TypeId) {α : Type} (κ : Kd α) (Wf : α → Prop) : Prop where
  size : P.cellsOf t = κ.sz
  read : ∀ {H : Type} {enc : TypeId × Value → H} {W : World} {base : Nat} {spare : Nat → Bool} {held : Bool} {fuel : Nat} {cs : List Value} {x : DataW H × List MemPlace}, DataW.trod enc P W base spare held fuel t cs = some x → ∃ a, κ.K W a cs ∧ Wf a

theorem reads_i64 {P : Program} {t : TypeId} (ht : P.underlying t = some (.int .i64)) (hc : P.cellsOf t = 1) : Reads P t (Kd.int .i64) I64 := by
  refine ⟨hc, ?_⟩
  intro H enc W base spare held fuel cs x h
  obtain ⟨n, rfl, _, hw⟩ := DataW.trod_int ht h
  refine ⟨n, rfl, ?_⟩
  have hb := bounds_i64 hw
  unfold I64
  omega
theorem reads_bool {P : Program} {t : TypeId} (ht : P.underlying t = some .bool) (hc : P.cellsOf t = 1) : Reads P t Kd.bool (fun _ => True) := by
  refine ⟨hc, ?_⟩
  intro H enc W base spare held fuel cs x h
  obtain ⟨b, rfl, _⟩ := DataW.trod_bool ht h
  exact ⟨b, rfl, trivial⟩
theorem reads_str {P : Program} {t : TypeId} (ht : P.underlying t = some .string) (hc : P.cellsOf t = 1) : Reads P t Kd.string Str := by
  refine ⟨hc, ?_⟩
  intro H enc W base spare held fuel cs x h
  obtain ⟨s, rfl, _, hs⟩ := DataW.trod_string ht h
  exact ⟨s, rfl, hs⟩

theorem choose_any {α : Type} {n : Nat} {p : Nat → α → Prop} (h : ∀ i, i < n → ∃ x, p i x) : ∃ l : List α, l.length = n ∧ ∀ (j : Nat) (x : α), l[j]? = some x → p j x := by
  induction n with
  | zero => exact ⟨[], rfl, fun j x hj => by simp at hj⟩
  | succ n ih =>
    obtain ⟨l, hl, hp⟩ := ih (fun i hi => h i (by omega))
    obtain ⟨x, hx⟩ := h n (by omega)
    refine ⟨l ++ [x], by simp [hl], fun j y hj => ?_⟩
    rcases Nat.lt_or_ge j l.length with hj' | hj'
    · rw [List.getElem?_append_left hj'] at hj
      exact hp j y hj
    · have := (List.getElem?_eq_some_iff.1 hj).1
      rw [List.length_append, List.length_singleton] at this
      have e : j = l.length := by omega
      subst e
      have e2 : x = y := by simpa using hj
      subst e2
      rw [hl]
      exact hx

theorem reads_slice {P : Program} {t e : TypeId} {α : Type} {κ : Kd α} {Wf : α → Prop} (ht : P.underlying t = some (.slice e)) (hc : P.cellsOf t = 1) (he : Reads P e κ Wf) : Reads P t (Kd.slice e κ) (Lst Wf) := by
  refine ⟨hc, ?_⟩
  intro H enc W base spare held fuel cs x h
  rcases open_slice ht h with ⟨rfl, _⟩ | ⟨a, len, cap, m, n, D, Pl, rfl, hb, hl, hm, hmm, _, hx⟩
  · exact ⟨[], ⟨none, 0, rfl, Nat.le_refl _, rfl, by simp, fun h => by simp at h⟩, by simp [Lst]⟩
  · have hlm : len ≤ m := by rw [hmm]; split <;> omega
    obtain ⟨l, hll, hp⟩ := choose_any (α := α) (n := len) (p := fun i x => Wf x ∧ ∃ c, c.length = κ.sz ∧ κ.K W x c ∧ ∀ j u, c[j]? = some u → W.cell? (a.add (i * κ.sz + j)) = some u) (by
      intro i hi
      obtain ⟨c, hcells, htr⟩ := hx i (by omega)
      obtain ⟨y, hy, hw⟩ := he.read htr
      rw [he.size] at hcells
      obtain ⟨_, hlen, hcell⟩ := World.cells?_some hcells
      refine ⟨y, hw, c, hlen, hy, fun j u hj => ?_⟩
      have hjl := (List.getElem?_eq_some_iff.1 hj).1
      rw [← Go.Deep.add_add, hcell j (by omega)]
      exact hj)
    have hml : maxLen = 9223372036854775807 := by unfold maxLen; rfl
    refine ⟨l, ⟨some a, cap, by rw [hll], by omega, rfl, by omega, fun _ => ⟨a, rfl, fun j p hj => ?_⟩⟩, by omega, fun x hx' => ?_⟩
    · obtain ⟨_, c, h1, h2, h3⟩ := hp j p hj
      exact ⟨c, h1, h2, h3⟩
    · obtain ⟨j, hj⟩ := List.getElem?_of_mem hx'
      exact (hp j x hj).1

/-! The fields of a struct, from one on. -/
structure FReads (P : Program) (fs : List Field) (off : Nat) {α : Type} (κ : Kd α) (Wf : α → Prop) : Prop where
  read : ∀ {H : Type} {enc : TypeId × Value → H} {W : World} {base : Nat} {spare : Nat → Bool} {held : Bool} {n : Nat} (cs : List Value) (ys : List (DataW H × List MemPlace)), ys.length = fs.length →
    (∀ (i : Nat) (f : Field), fs[i]? = some f → DataW.trod enc P W base spare held n f.type ((cs.drop f.offset).take (P.cellsOf f.type)) = ys[i]?) → off + κ.sz = cs.length → ∃ a, κ.K W a (cs.drop off) ∧ Wf a

theorem freads_last {P : Program} {f : Field} {α : Type} {κ : Kd α} {Wf : α → Prop} {off : Nat} (ho : f.offset = off) (h : Reads P f.type κ Wf) : FReads P [f] off κ Wf := by
  constructor
  intro H enc W base spare held n cs ys hl hf hs
  have h0 := hf 0 f rfl
  have hy : 0 < ys.length := by rw [hl]; simp
  rw [List.getElem?_eq_getElem hy, ho, h.size, List.take_of_length_le (by rw [List.length_drop]; omega)] at h0
  exact h.read h0
theorem freads_cons {P : Program} {f : Field} {fs : List Field} {α β : Type} {κ : Kd α} {κ' : Kd β} {Wf : α → Prop} {Wf' : β → Prop} {off off' : Nat} (ho : f.offset = off) (h : Reads P f.type κ Wf) (hoff : off' = off + κ.sz) (h' : FReads P fs off' κ' Wf') :
    FReads P (f :: fs) off (Kd.pair κ κ') (fun x => Wf x.1 ∧ Wf' x.2) := by
  constructor
  intro H enc W base spare held n cs ys hl hf hs
  have hs' : off + (κ.sz + κ'.sz) = cs.length := hs
  have h0 := hf 0 f rfl
  have hy : 0 < ys.length := by rw [hl]; simp
  rw [List.getElem?_eq_getElem hy, ho, h.size] at h0
  obtain ⟨a, ha, hwa⟩ := h.read h0
  obtain ⟨b, hb, hwb⟩ := h'.read (H := H) (enc := enc) (W := W) (base := base) (spare := spare) (held := held) (n := n) cs ys.tail (by rw [List.length_tail, hl]; simp) (fun i g hg => by
    rw [List.getElem?_tail]
    exact hf (i + 1) g (by simpa using hg)) (by omega)
  refine ⟨(a, b), ⟨(cs.drop off).take κ.sz, cs.drop off', ?_, ha, hb⟩, hwa, hwb⟩
  rw [hoff, ← List.drop_drop, List.take_append_drop]
theorem reads_struct {P : Program} {t : TypeId} {fs : Array Field} {α : Type} {κ : Kd α} {Wf : α → Prop} (ht : P.underlying t = some (.struct fs)) (hc : P.cellsOf t = κ.sz) (h : FReads P fs.toList 0 κ Wf) : Reads P t κ Wf := by
  refine ⟨hc, ?_⟩
  intro H enc W base spare held fuel cs x hx
  obtain ⟨ys, n, _, _, hl, hyl, hf⟩ := DataW.trod_struct ht hx
  obtain ⟨a, ha, hw⟩ := h.read (H := H) (enc := enc) (W := W) (base := base) (spare := spare) (held := held) (n := n) cs ys (by simpa using hyl) (fun i f hi => hf i f (by simpa using hi)) (by rw [hl, hc]; omega)
  exact ⟨a, ha, hw⟩
theorem reads_iso {P : Program} {t : TypeId} {α β : Type} {κ : Kd α} {Wf : α → Prop} {f : β → α} (g : α → β) (hg : ∀ a, f (g a) = a) (h : Reads P t κ Wf) : Reads P t (Kd.iso κ f) (fun x => Wf (f x)) := by
  refine ⟨h.size, ?_⟩
  intro H enc W base spare held fuel cs x hx
  obtain ⟨a, ha, hw⟩ := h.read hx
  refine ⟨g a, ?_, ?_⟩
  · show κ.K W (f (g a)) cs
    rw [hg]
    exact ha
  · show Wf (f (g a))
    rw [hg]
    exact hw

end Go.Proofs.Ytppfdndnojbmjaa.Rdr

/-! ## SFnExactClosingOf -/
namespace Go.Proofs.Ytppfdndnojbmjaa.Say
open Go.RowKit Go.Proofs.Ytppfdndnojbmjaa.X
/-- The plain statement of laws_FnExactClosingOf. -/
def FnExactClosingOf : Prop := ∀ (a0 : Int) (l1 : List (S60)) (l2 : List Int), Rdr.I64 a0 → (Rdr.Lst (fun x : S60 => Rdr.I64 x.f0 ∧ (Rdr.I64 x.f1 ∧ (Rdr.I64 x.f2 ∧ (Rdr.I64 x.f3))))) l1 → (Rdr.Lst Rdr.I64) l2 → ∃ k, laws_FnExactClosingOf.f k a0 l1 l2 = some true
end Go.Proofs.Ytppfdndnojbmjaa.Say

/-! ## Base -/
/- Plain words for the plain laws: what ends with a value once there are rounds enough; loops over an index; sums that do not wrap. No condition. -/
namespace Go.Proofs.Ytppfdndnojbmjaa.B
open Go.RowKit Go.Proofs.YtppfdndnojbmjaaW.PrintWords

theorem w64 {x : Int} (h : -9223372036854775808 ≤ x) (h' : x ≤ 9223372036854775807) : wrap64 x = x := by
  unfold wrap64; omega
theorem wnext {i n : Nat} (h : i < n) (hn : (n : Int) ≤ 9223372036854775807) : wrap64 ((i : Int) + 1) = ((i + 1 : Nat) : Int) := by
  rw [w64 (by omega) (by omega)]; omega

/-- From some number of rounds on these two are the same. -/
def EvEq {α : Type} (g f : Nat → Option α) : Prop := ∃ K, ∀ k, K ≤ k → g k = f k
theorem EvEq.now {α : Type} {g f : Nat → Option α} (h : ∀ k, g k = f k) : EvEq g f := ⟨0, fun k _ => h k⟩
theorem EvEq.trans {α : Type} {g f h : Nat → Option α} (a : EvEq g f) (b : EvEq f h) : EvEq g h := by
  obtain ⟨K, hK⟩ := a
  obtain ⟨K', hK'⟩ := b
  exact ⟨K + K', fun k hk => (hK k (by omega)).trans (hK' k (by omega))⟩
theorem EvEq.bind {α β : Type} {g : Nat → Option α} {a : α} {f : Nat → α → Option β} {h : Nat → Option β} (e : Ev g a) (b : EvEq (fun k => f k a) h) : EvEq (fun k => (g k).bind (f k)) h := by
  obtain ⟨K, hK⟩ := e
  obtain ⟨K', hK'⟩ := b
  refine ⟨K + K', fun k hk => ?_⟩
  show (g k).bind (f k) = _
  rw [hK k (by omega)]
  exact hK' k (by omega)
theorem Ev.ofEq {α : Type} {g f : Nat → Option α} {r : α} (a : EvEq g f) (b : Ev f r) : Ev g r := by
  obtain ⟨K, hK⟩ := a
  obtain ⟨K', hK'⟩ := b
  exact ⟨K + K', fun k hk => (hK k (by omega)).trans (hK' k (by omega))⟩
theorem Ev.const {α : Type} {g : Nat → Option α} {r : α} (h : ∀ k, g k = some r) : Ev g r := ⟨0, fun k _ => h k⟩
theorem Ev.up {α : Type} {g : Nat → Option α} {r : α} (h : Ev (fun k => g (k + 1)) r) : Ev g r := by
  obtain ⟨K, hK⟩ := h
  refine ⟨K + 1, fun k hk => ?_⟩
  have e : g (k - 1 + 1) = some r := hK (k - 1) (by omega)
  have : k - 1 + 1 = k := by omega
  rwa [this] at e
theorem Ev.bindE {α β : Type} {g : Nat → Option α} {a : α} {f : Nat → α → Option β} {r : β} (e : Ev g a) (b : Ev (fun k => f k a) r) : Ev (fun k => (g k).bind (f k)) r := Ev.bind e b
theorem Ev.ifPos {α : Type} {c : Prop} [Decidable c] {A B : Nat → Option α} {r : α} (h : c) (e : Ev A r) : Ev (fun k => if c then A k else B k) r := by
  simpa only [if_pos h] using e
theorem Ev.ifNeg {α : Type} {c : Prop} [Decidable c] {A B : Nat → Option α} {r : α} (h : ¬ c) (e : Ev B r) : Ev (fun k => if c then A k else B k) r := by
  simpa only [if_neg h] using e
theorem Ev.uniq {α : Type} {g : Nat → Option α} {a b : α} (h : Ev g a) (h' : Ev g b) : a = b := by
  obtain ⟨K, hK⟩ := h
  obtain ⟨K', hK'⟩ := h'
  have := (hK (K + K') (by omega)).symm.trans (hK' (K + K') (by omega))
  exact Option.some.inj this

/-- A loop by its rounds: at each one it ends, or goes on to the next. F: what it comes to from there. -/
theorem scan {ρ : Type} (L : Nat → Nat → Option ρ) (n : Nat) (F : Nat → ρ) (hend : Ev (fun k => L (k + 1) n) (F n))
    (hstep : ∀ i, i < n → Ev (fun k => L (k + 1) i) (F i) ∨ (F i = F (i + 1) ∧ EvEq (fun k => L (k + 1) i) (fun k => L k (i + 1)))) : ∀ i, i ≤ n → Ev (fun k => L k i) (F i) := by
  have key : ∀ d i, i + d = n → Ev (fun k => L k i) (F i) := by
    intro d
    induction d with
    | zero =>
      intro i hi
      have e : i = n := by omega
      rw [e]
      exact Ev.up (g := fun k => L k n) hend
    | succ d ih =>
      intro i hi
      rcases hstep i (by omega) with h | ⟨h, h'⟩
      · exact Ev.up (g := fun k => L k i) h
      · rw [h]
        exact Ev.up (g := fun k => L k i) (Ev.ofEq h' (ih (i + 1) (by omega)))
  intro i hi
  exact key (n - i) i (by omega)

/-- A loop whose value at the end is known, and at each round that of the next one. -/
theorem scanI {ρ : Type} (L : Nat → Nat → Option ρ) (n : Nat) (F : Nat → ρ) (hend : Ev (fun k => L k n) (F n))
    (hstep : ∀ i, i < n → Ev (fun k => L k (i + 1)) (F (i + 1)) → Ev (fun k => L k i) (F i)) : ∀ i, i ≤ n → Ev (fun k => L k i) (F i) := by
  have key : ∀ d i, i + d = n → Ev (fun k => L k i) (F i) := by
    intro d
    induction d with
    | zero =>
      intro i hi
      have e : i = n := by omega
      rw [e]
      exact hend
    | succ d ih =>
      intro i hi
      exact hstep i (by omega) (ih (i + 1) (by omega))
  intro i hi
  exact key (n - i) i (by omega)
theorem Ev.ite {α : Type} {c : Prop} [Decidable c] {A B : Nat → Option α} {r : α} (h : c → Ev A r) (h' : ¬ c → Ev B r) : Ev (fun k => if c then A k else B k) r := by
  by_cases e : c
  · exact Ev.ifPos e (h e)
  · exact Ev.ifNeg e (h' e)

def allFrom (p : Nat → Bool) (i n : Nat) : Bool := (List.range' i (n - i)).all p
theorem allFrom_end (p : Nat → Bool) (n : Nat) : allFrom p n n = true := by simp [allFrom]
theorem allFrom_step (p : Nat → Bool) {i n : Nat} (h : i < n) : allFrom p i n = (p i && allFrom p (i + 1) n) := by
  unfold allFrom
  obtain ⟨d, hd⟩ : ∃ d, n - i = d + 1 := ⟨n - i - 1, by omega⟩
  have : n - (i + 1) = d := by omega
  rw [hd, this, List.range'_succ, List.all_cons]
theorem allFrom_iff (p : Nat → Bool) (i n : Nat) : allFrom p i n = true ↔ ∀ j, i ≤ j → j < n → p j = true := by
  unfold allFrom
  rw [List.all_eq_true]
  constructor
  · intro h j h1 h2
    exact h j (by rw [List.mem_range'_1]; omega)
  · intro h j hj
    rw [List.mem_range'_1] at hj
    exact h j (by omega) (by omega)
/-- A loop that goes on while p, and ends with false. -/
theorem allScan (L : Nat → Nat → Option Bool) (n : Nat) (p : Nat → Bool) (fin : Bool) (hend : Ev (fun k => L (k + 1) n) fin)
    (hstep : ∀ i, i < n → EvEq (fun k => L (k + 1) i) (fun k => if p i = true then L k (i + 1) else some false)) : ∀ i, i ≤ n → Ev (fun k => L k i) (allFrom p i n && fin) := by
  refine scan L n (fun i => allFrom p i n && fin) ?_ ?_
  · show Ev _ (allFrom p n n && fin)
    rw [allFrom_end, Bool.true_and]
    exact hend
  · intro i hi
    by_cases hp : p i = true
    · right
      refine ⟨by show (allFrom p i n && fin) = (allFrom p (i + 1) n && fin); rw [allFrom_step p hi, hp, Bool.true_and], ?_⟩
      have h := hstep i hi
      simpa only [if_pos hp] using h
    · left
      have h := hstep i hi
      have hp' : p i = false := by simpa using hp
      have e : (allFrom p i n && fin) = false := by rw [allFrom_step p hi, hp']; rfl
      show Ev _ (allFrom p i n && fin)
      rw [e]
      refine Ev.ofEq h (Ev.const fun k => ?_)
      rw [if_neg hp]

def firstFrom (p : Nat → Bool) (i n : Nat) : Int := match (List.range' i (n - i)).find? p with | some j => (j : Int) | none => -1
theorem firstFrom_end (p : Nat → Bool) (n : Nat) : firstFrom p n n = -1 := by simp [firstFrom]
theorem firstFrom_step (p : Nat → Bool) {i n : Nat} (h : i < n) : firstFrom p i n = if p i = true then (i : Int) else firstFrom p (i + 1) n := by
  unfold firstFrom
  obtain ⟨d, hd⟩ : ∃ d, n - i = d + 1 := ⟨n - i - 1, by omega⟩
  have : n - (i + 1) = d := by omega
  rw [hd, this, List.range'_succ, List.find?_cons]
  cases p i <;> simp
/-- A loop that ends at the first index with p, and tells -1 where there is none. -/
theorem firstScan (L : Nat → Nat → Option Int) (n : Nat) (p : Nat → Bool) (hend : Ev (fun k => L (k + 1) n) (-1))
    (hstep : ∀ i, i < n → EvEq (fun k => L (k + 1) i) (fun k => if p i = true then some (i : Int) else L k (i + 1))) : ∀ i, i ≤ n → Ev (fun k => L k i) (firstFrom p i n) := by
  refine scan L n (fun i => firstFrom p i n) ?_ ?_
  · show Ev _ (firstFrom p n n)
    rw [firstFrom_end]
    exact hend
  · intro i hi
    by_cases hp : p i = true
    · left
      show Ev _ (firstFrom p i n)
      rw [firstFrom_step p hi, if_pos hp]
      exact Ev.ofEq (hstep i hi) (Ev.const fun k => by rw [if_pos hp])
    · right
      refine ⟨by show firstFrom p i n = firstFrom p (i + 1) n; rw [firstFrom_step p hi, if_neg hp], ?_⟩
      simpa only [if_neg hp] using hstep i hi
theorem firstFrom_none (p : Nat → Bool) {n : Nat} : ∀ i, i ≤ n → (firstFrom p i n = -1 ↔ ∀ j, i ≤ j → j < n → p j = false) := by
  have key : ∀ d i, i + d = n → (firstFrom p i n = -1 ↔ ∀ j, i ≤ j → j < n → p j = false) := by
    intro d
    induction d with
    | zero =>
      intro i hi
      have e : i = n := by omega
      subst e
      rw [firstFrom_end]
      exact ⟨fun _ j h1 h2 => by omega, fun _ => rfl⟩
    | succ d ih =>
      intro i hi
      rw [firstFrom_step p (by omega)]
      by_cases hp : p i = true
      · rw [if_pos hp]
        constructor
        · intro h; omega
        · intro h
          have := h i (by omega) (by omega)
          rw [hp] at this
          cases this
      · rw [if_neg hp, ih (i + 1) (by omega)]
        constructor
        · intro h j h1 h2
          by_cases e : j = i
          · subst e; simpa using hp
          · exact h j (by omega) h2
        · intro h j h1 h2
          exact h j (by omega) h2
  intro i hi
  exact key (n - i) i (by omega)
theorem firstFrom_some (p : Nat → Bool) {n : Nat} : ∀ i, i ≤ n → firstFrom p i n ≠ -1 → ∃ j : Nat, firstFrom p i n = (j : Int) ∧ i ≤ j ∧ j < n ∧ p j = true := by
  have key : ∀ d i, i + d = n → firstFrom p i n ≠ -1 → ∃ j : Nat, firstFrom p i n = (j : Int) ∧ i ≤ j ∧ j < n ∧ p j = true := by
    intro d
    induction d with
    | zero =>
      intro i hi h
      have e : i = n := by omega
      subst e
      rw [firstFrom_end] at h
      exact absurd rfl h
    | succ d ih =>
      intro i hi h
      rw [firstFrom_step p (by omega)] at h ⊢
      by_cases hp : p i = true
      · rw [if_pos hp]
        exact ⟨i, rfl, by omega, by omega, hp⟩
      · rw [if_neg hp] at h ⊢
        obtain ⟨j, h1, h2, h3, h4⟩ := ih (i + 1) (by omega) h
        exact ⟨j, h1, by omega, h3, h4⟩
  intro i hi
  exact key (n - i) i (by omega)
theorem firstFrom_congr {p q : Nat → Bool} {n : Nat} (h : ∀ j, j < n → p j = q j) : ∀ i, i ≤ n → firstFrom p i n = firstFrom q i n := by
  have key : ∀ d i, i + d = n → firstFrom p i n = firstFrom q i n := by
    intro d
    induction d with
    | zero =>
      intro i hi
      have e : i = n := by omega
      subst e
      rw [firstFrom_end, firstFrom_end]
    | succ d ih =>
      intro i hi
      rw [firstFrom_step p (by omega), firstFrom_step q (by omega), h i (by omega), ih (i + 1) (by omega)]
  intro i hi
  exact key (n - i) i (by omega)

theorem getD_at {α : Type} {xs : List α} {i : Nat} (h : i < xs.length) (d : α) : xs.getD i d = xs[i] := by
  rw [List.getD_eq_getElem?_getD, List.getElem?_eq_getElem h]; rfl
theorem rd_at {xs : List Int} {i : Nat} (h : i < xs.length) : rd xs (i : Int) = xs[i] := by
  unfold rd; rw [Int.toNat_natCast]; exact getD_at h _
theorem rdOf_at {α : Type} {d : α} {xs : List α} {i : Nat} (h : i < xs.length) : rdOf d xs (i : Int) = xs[i] := by
  unfold rdOf; rw [Int.toNat_natCast]; exact getD_at h _
theorem allFrom_congr {p q : Nat → Bool} (h : ∀ j, p j = q j) (i n : Nat) : allFrom p i n = allFrom q i n := by
  rw [show p = q from funext h]
/-- Rows that are compared place by place. -/
theorem rows3 {L : Nat → Int → Option Bool} {n m : Nat} {c : Int → Bool} (hn : n ≤ 9223372036854775807)
    (hL : ∀ k i, L (k + 1) i = if i < (n : Int) then (if 0 ≤ i then (if i < (m : Int) then (if c i = true then some false else L k (wrap64 (i + 1))) else none) else none) else some true) :
    Ev (fun k => if (n : Int) = (m : Int) then L k 0 else some false) (decide (n = m) && allFrom (fun j => !c j) 0 n) := by
  by_cases hl : n = m
  · rw [decide_eq_true hl, Bool.true_and]
    refine Ev.ifPos (by omega) ?_
    have h := allScan (fun k i => L k (i : Int)) n (fun j => !c j) true (Ev.const fun k => by rw [hL, if_neg (by omega)]) (by
      intro i hi
      refine EvEq.now fun k => ?_
      rw [hL, if_pos (by omega), if_pos (by omega), if_pos (by omega), wnext hi (by omega)]
      cases c i <;> rfl) 0 (by omega)
    rw [Bool.and_true] at h
    exact h
  · rw [decide_eq_false hl, Bool.false_and]
    exact Ev.ifNeg (by omega) (Ev.const fun _ => rfl)
theorem rows4 {L : Nat → Int → Option Bool} {n m : Nat} {c : Int → Bool} (hn : n ≤ 9223372036854775807)
    (hL : ∀ k i, L (k + 1) i = if i < (n : Int) then (if 0 ≤ i then (if i < (n : Int) then (if i < (m : Int) then (if c i = true then some false else L k (wrap64 (i + 1))) else none) else none) else none) else some true) :
    Ev (fun k => if (n : Int) = (m : Int) then L k 0 else some false) (decide (n = m) && allFrom (fun j => !c j) 0 n) := by
  refine rows3 hn fun k i => ?_
  rw [hL]
  by_cases h : i < (n : Int)
  · rw [if_pos h, if_pos h, if_pos h]
  · rw [if_neg h, if_neg h]
/-- A row that is filled from its begin. -/
theorem fill_set {α : Type} (xs : List α) (z : α) {i n : Nat} (hi : i < n) (hl : xs.length = n) : (xs.take i ++ List.replicate (n - i) z).set i (xs[i]'(by omega)) = xs.take (i + 1) ++ List.replicate (n - (i + 1)) z := by
  have hlt : (xs.take i).length = i := by rw [List.length_take]; omega
  rw [List.set_append_right _ _ (by omega), hlt, Nat.sub_self]
  obtain ⟨d, hd⟩ : ∃ d, n - i = d + 1 := ⟨n - i - 1, by omega⟩
  have hd' : n - (i + 1) = d := by omega
  rw [hd, hd', List.replicate_succ, List.set_cons_zero, List.take_succ_eq_append_getElem (by omega), List.append_assoc]
  rfl

end Go.Proofs.Ytppfdndnojbmjaa.B

/-! ## Conv -/
/- Plain words for the laws' own helpers: measuring an argument, copying it, comparing it with itself, marking a result and finding the marks again. No condition but the lengths that fit. -/
namespace Go.Proofs.Ytppfdndnojbmjaa.B
open Go.RowKit Go.Proofs.YtppfdndnojbmjaaW.PrintWords

def sumOf {α : Type} (f : α → Int) (xs : List α) : Int := (xs.map f).sum
theorem sumOf_nil {α : Type} (f : α → Int) : sumOf f [] = 0 := rfl
theorem sumOf_cons {α : Type} (f : α → Int) (x : α) (xs : List α) : sumOf f (x :: xs) = f x + sumOf f xs := by simp [sumOf]
theorem sumOf_nonneg {α : Type} {f : α → Int} {xs : List α} (h : ∀ x ∈ xs, 0 ≤ f x) : 0 ≤ sumOf f xs := by
  induction xs with
  | nil => simp [sumOf]
  | cons x xs ih =>
    rw [sumOf_cons]
    have h1 := h x (List.mem_cons_self ..)
    have h2 := ih fun y hy => h y (List.mem_cons_of_mem _ hy)
    omega
theorem sumOf_mem {α : Type} {f : α → Int} {xs : List α} (h : ∀ x ∈ xs, 0 ≤ f x) : ∀ x ∈ xs, f x ≤ sumOf f xs := by
  induction xs with
  | nil => intro x hx; cases hx
  | cons y xs ih =>
    intro x hx
    rw [sumOf_cons]
    have h1 := h y (List.mem_cons_self ..)
    have h2 := sumOf_nonneg (f := f) (xs := xs) fun z hz => h z (List.mem_cons_of_mem _ hz)
    rcases List.mem_cons.1 hx with rfl | hx
    · omega
    · have := ih (fun z hz => h z (List.mem_cons_of_mem _ hz)) x hx
      omega

/-- g takes s off what is left, or tells -1 if there is less. -/
def Sz (g : Int → Nat → Option Int) (s : Int) : Prop := 0 ≤ s ∧ ∀ left, 0 ≤ left → left ≤ 1048576 → Ev (fun k => g left k) (if s ≤ left then left - s else -1)
theorem Sz.id : Sz (fun left _ => some left) 0 := ⟨by omega, fun left h h' => Ev.const fun k => by show some left = _; rw [if_pos h, show left - 0 = left by omega]⟩
theorem Sz.seq {g h : Int → Nat → Option Int} {s t : Int} (a : Sz g s) (b : Sz h t) : Sz (fun left k => (g left k).bind fun u => if u < 0 then some (-1) else h u k) (s + t) := by
  refine ⟨by have := a.1; have := b.1; omega, fun left h0 h1 => ?_⟩
  have hs := a.1
  have ht := b.1
  refine Ev.bindE (a.2 left h0 h1) ?_
  by_cases c : s ≤ left
  · simp only [if_pos c]
    refine Ev.ifNeg (by omega) ?_
    have := b.2 (left - s) (by omega) (by omega)
    by_cases d : t ≤ left - s
    · rw [if_pos (by omega)]
      rw [if_pos d] at this
      have e : left - s - t = left - (s + t) := by omega
      rwa [e] at this
    · rw [if_neg (by omega)]
      rwa [if_neg d] at this
  · simp only [if_neg c]
    rw [if_neg (by omega)]
    exact Ev.ifPos (by omega) (Ev.const fun _ => rfl)
theorem Sz.len {n : Nat} (hn : n ≤ 9223372036854775807) {h : Int → Nat → Option Int} {t : Int} (b : Sz h t) : Sz (fun left k => if wrap64 (left - (n : Int)) < 0 then some (-1) else h (wrap64 (left - (n : Int))) k) ((n : Int) + t) := by
  have ht := b.1
  refine ⟨by omega, fun left h0 h1 => ?_⟩
  have e : wrap64 (left - (n : Int)) = left - n := w64 (by omega) (by omega)
  simp only [e]
  by_cases c : (n : Int) ≤ left
  · refine Ev.ifNeg (by omega) ?_
    have := b.2 (left - n) (by omega) (by omega)
    by_cases d : t ≤ left - n
    · rw [if_pos (by omega)]
      rw [if_pos d] at this
      have e : left - n - t = left - (n + t) := by omega
      rwa [e] at this
    · rw [if_neg (by omega)]
      rwa [if_neg d] at this
  · rw [if_neg (by omega)]
    exact Ev.ifPos (by omega) (Ev.const fun _ => rfl)
/-- A row: its length, then each element in turn. -/
theorem Sz.list {α : Type} {xs : List α} {rdx : Int → α} {e : α → Int → Nat → Option Int} {s : α → Int} {L : Nat → Int → Int → Option Int} (hn : xs.length ≤ 9223372036854775807)
    (hrd : ∀ (i : Nat) (h : i < xs.length), rdx (i : Int) = xs[i]) (he : ∀ x ∈ xs, Sz (e x) (s x))
    (hL : ∀ k l i, L (k + 1) l i = if i < (xs.length : Int) then (if 0 ≤ i then ((e (rdx i) l k).bind fun u => if u < 0 then some (-1) else L k u (wrap64 (i + 1))) else none) else some l) :
    Sz (fun left k => if wrap64 (left - (xs.length : Int)) < 0 then some (-1) else L k (wrap64 (left - (xs.length : Int))) 0) ((xs.length : Int) + sumOf s xs) := by
  refine Sz.len hn (h := fun left k => L k left 0) ⟨sumOf_nonneg fun x hx => (he x hx).1, ?_⟩
  have key : ∀ (suf pre : List α), xs = pre ++ suf → ∀ left, 0 ≤ left → left ≤ 1048576 → Ev (fun k => L k left (pre.length : Int)) (if sumOf s suf ≤ left then left - sumOf s suf else -1) := by
    intro suf
    induction suf with
    | nil =>
      intro pre hx left h0 h1
      refine Ev.up (g := fun k => L k left (pre.length : Int)) (Ev.const fun k => ?_)
      have : xs.length = pre.length := by rw [hx]; simp
      rw [hL, if_neg (by omega), sumOf_nil, if_pos h0]
      congr 1; omega
    | cons x suf ih =>
      intro pre hx left h0 h1
      have hlen : xs.length = pre.length + (suf.length + 1) := by rw [hx]; simp
      have hi : pre.length < xs.length := by omega
      have hxi : xs[pre.length] = x := by simp [hx]
      have hm : x ∈ xs := by rw [hx]; simp
      have hs := (he x hm).1
      have hss : 0 ≤ sumOf s suf := sumOf_nonneg fun y hy => (he y (by rw [hx]; simp [hy])).1
      refine Ev.up (g := fun k => L k left (pre.length : Int)) ?_
      simp only [hL, hrd _ hi, hxi]
      refine Ev.ifPos (by omega) (Ev.ifPos (by omega) (Ev.bindE ((he x hm).2 left h0 h1) ?_))
      rw [sumOf_cons]
      by_cases c : s x ≤ left
      · simp only [if_pos c]
        refine Ev.ifNeg (by omega) ?_
        have h' := ih (pre ++ [x]) (by rw [hx]; simp) (left - s x) (by omega) (by omega)
        have e1 : ((pre ++ [x]).length : Int) = wrap64 ((pre.length : Int) + 1) := by rw [wnext hi (by omega)]; simp
        rw [e1] at h'
        by_cases d : sumOf s suf ≤ left - s x
        · rw [if_pos (by omega)]
          rw [if_pos d] at h'
          have e : left - s x - sumOf s suf = left - (s x + sumOf s suf) := by omega
          rwa [e] at h'
        · rw [if_neg (by omega)]
          rwa [if_neg d] at h'
      · simp only [if_neg c]
        rw [if_neg (by omega)]
        exact Ev.ifPos (by omega) (Ev.const fun _ => rfl)
  exact key xs [] rfl

/-- Copying a row, element by element. -/
theorem Cv.list {α β τ : Type} {xs : List α} {rdx : Int → α} {e : Nat → α → Option τ} {mk : τ → β} {c : α → β} {t : α → τ} {z : β} {L : Nat → List β → Int → Option (List β)} {lim : Nat}
    (hlim : xs.length ≤ lim) (hbig : xs.length ≤ 9223372036854775807) (hrd : ∀ (i : Nat) (h : i < xs.length), rdx (i : Int) = xs[i]) (he : ∀ x ∈ xs, Ev (fun k => e k x) (t x)) (hc : ∀ x, mk (t x) = c x)
    (hL : ∀ k ys i, L (k + 1) ys i = if i < (xs.length : Int) then (if 0 ≤ i then ((e k (rdx i)).bind fun bt => if i < (ys.length : Int) then L k (ys.set i.toNat (mk bt)) (wrap64 (i + 1)) else none) else none) else some ys) :
    Ev (fun k => if 0 ≤ (xs.length : Int) then (if ((xs.length : Int)).toNat ≤ lim then L k (List.replicate ((xs.length : Int)).toNat z) 0 else none) else none) (xs.map c) := by
  refine Ev.ifPos (by omega) (Ev.ifPos (by omega) ?_)
  have h := scanI (fun k i => L k ((xs.map c).take i ++ List.replicate (xs.length - i) z) (i : Int)) xs.length (fun _ => xs.map c) (Ev.up (g := fun k => L k ((xs.map c).take xs.length ++ List.replicate (xs.length - xs.length) z) (xs.length : Int)) (Ev.const fun k => by
      rw [hL, if_neg (by omega)]
      simp [List.take_of_length_le])) (by
      intro i hi ih
      refine Ev.up (g := fun k => L k ((xs.map c).take i ++ List.replicate (xs.length - i) z) (i : Int)) ?_
      have hl : ((xs.map c).take i ++ List.replicate (xs.length - i) z).length = xs.length := by simp; omega
      simp only [hL, hrd _ hi]
      refine Ev.ifPos (by omega) (Ev.ifPos (by omega) (Ev.bindE (he _ (List.getElem_mem hi)) (Ev.ifPos (by rw [hl]; omega) ?_)))
      have hs := fill_set (xs.map c) z (i := i) (n := xs.length) hi (by simp)
      rw [hc, Int.toNat_natCast, wnext hi (by omega)]
      rw [List.getElem_map] at hs
      rw [hs]
      exact ih) 0 (by omega)
  simpa using h
theorem Cv.plain {α : Type} {xs : List α} {rdx : Int → α} {z : α} {L : Nat → List α → Int → Option (List α)} {lim : Nat}
    (hlim : xs.length ≤ lim) (hbig : xs.length ≤ 9223372036854775807) (hrd : ∀ (i : Nat) (h : i < xs.length), rdx (i : Int) = xs[i])
    (hL : ∀ k ys i, L (k + 1) ys i = if i < (xs.length : Int) then (if 0 ≤ i then (if i < (ys.length : Int) then L k (ys.set i.toNat (rdx i)) (wrap64 (i + 1)) else none) else none) else some ys) :
    Ev (fun k => if 0 ≤ (xs.length : Int) then (if ((xs.length : Int)).toNat ≤ lim then L k (List.replicate ((xs.length : Int)).toNat z) 0 else none) else none) xs := by
  have h := Cv.list (xs := xs) (rdx := rdx) (e := fun _ x => some x) (mk := fun x => x) (c := fun x => x) (t := fun x => x) (z := z) (L := L) hlim hbig hrd (fun x _ => Ev.const fun _ => rfl) (fun _ => rfl) hL
  simpa using h

/-- Comparing a row with itself. -/
theorem Eq.list {α : Type} {xs : List α} {rdx : Int → α} {e : Nat → α → Option Bool} {L : Nat → Int → Option Bool}
    (hbig : xs.length ≤ 9223372036854775807) (hrd : ∀ (i : Nat) (h : i < xs.length), rdx (i : Int) = xs[i]) (he : ∀ x ∈ xs, Ev (fun k => e k x) true)
    (hL : ∀ k i, L (k + 1) i = if i < (xs.length : Int) then (if 0 ≤ i then (if i < (xs.length : Int) then ((e k (rdx i)).bind fun u => if u = true then L k (wrap64 (i + 1)) else some false) else none) else none) else some true) :
    Ev (fun k => if (xs.length : Int) = (xs.length : Int) then L k 0 else some false) true := by
  refine Ev.ifPos rfl ?_
  exact scanI (fun k i => L k (i : Int)) xs.length (fun _ => true) (Ev.up (g := fun k => L k (xs.length : Int)) (Ev.const fun k => by rw [hL, if_neg (by omega)])) (by
    intro i hi ih
    refine Ev.up (g := fun k => L k (i : Int)) ?_
    simp only [hL, hrd _ hi]
    refine Ev.ifPos (by omega) (Ev.ifPos (by omega) (Ev.ifPos (by omega) (Ev.bindE (he _ (List.getElem_mem hi)) (Ev.ifPos rfl ?_))))
    rw [wnext hi (by omega)]
    exact ih) 0 (by omega)

theorem Eq.flat {α : Type} {xs : List α} {P : Int → Prop} [DecidablePred P] {L : Nat → Int → Option Bool}
    (hbig : xs.length ≤ 9223372036854775807) (hP : ∀ x, P x)
    (hL : ∀ k i, L (k + 1) i = if i < (xs.length : Int) then (if 0 ≤ i then (if i < (xs.length : Int) then (if P i then L k (wrap64 (i + 1)) else some false) else none) else none) else some true) :
    Ev (fun k => if (xs.length : Int) = (xs.length : Int) then L k 0 else some false) true := by
  refine Ev.ifPos rfl ?_
  exact scanI (fun k i => L k (i : Int)) xs.length (fun _ => true) (Ev.up (g := fun k => L k (xs.length : Int)) (Ev.const fun k => by rw [hL, if_neg (by omega)])) (by
    intro i hi ih
    refine Ev.up (g := fun k => L k (i : Int)) ?_
    simp only [hL]
    refine Ev.ifPos (by omega) (Ev.ifPos (by omega) (Ev.ifPos (by omega) (Ev.ifPos (hP _) ?_)))
    rw [wnext hi (by omega)]
    exact ih) 0 (by omega)

/-- Marks from c on, put into each element in turn. -/
def markAll {α : Type} (E : α → Int → α) (cost : α → Int) : List α → Int → List α
  | [], _ => []
  | x :: xs, c => E x c :: markAll E cost xs (c + cost x)
theorem markAll_len {α : Type} (E : α → Int → α) (cost : α → Int) (xs : List α) : ∀ c, (markAll E cost xs c).length = xs.length := by
  induction xs with
  | nil => intro c; rfl
  | cons x xs ih => intro c; simp [markAll, ih]
theorem Mk.list {α : Type} {E : α → Int → α} {cost : α → Int} {L : Nat → List α → Int → Int → Option (Int × List α)} {n : Nat} (hbig : n ≤ 1048576) (hcost : ∀ x, 0 ≤ cost x)
    (hend : ∀ k ys c, ys.length = n → L (k + 1) ys c (n : Int) = some (c, ys))
    (hstep : ∀ ys c (i : Nat) (h : i < ys.length), ys.length = n → 0 ≤ c → c + cost ys[i] ≤ 4611686018427387904 → EvEq (fun k => L (k + 1) ys c (i : Int)) (fun k => L k (ys.set i (E ys[i] c)) (c + cost ys[i]) ((i + 1 : Nat) : Int))) :
    ∀ xs : List α, xs.length = n → ∀ c, 0 ≤ c → c + sumOf cost xs ≤ 4611686018427387904 → Ev (fun k => L k xs c 0) (c + sumOf cost xs, markAll E cost xs c) := by
  have key : ∀ (suf pre : List α) (c : Int), (pre ++ suf).length = n → 0 ≤ c → c + sumOf cost suf ≤ 4611686018427387904 → Ev (fun k => L k (pre ++ suf) c (pre.length : Int)) (c + sumOf cost suf, pre ++ markAll E cost suf c) := by
    intro suf
    induction suf with
    | nil =>
      intro pre c hl h0 h1
      refine Ev.up (g := fun k => L k (pre ++ []) c (pre.length : Int)) (Ev.const fun k => ?_)
      have e : (pre.length : Int) = (n : Int) := by rw [← hl]; simp
      rw [e, hend k _ c hl, sumOf_nil]
      simp [markAll]
    | cons x suf ih =>
      intro pre c hl h0 h1
      rw [sumOf_cons] at h1 ⊢
      have hc := hcost x
      have hs : 0 ≤ sumOf cost suf := sumOf_nonneg fun y _ => hcost y
      have hi : pre.length < (pre ++ x :: suf).length := by simp
      have hx : (pre ++ x :: suf)[pre.length] = x := by simp
      refine Ev.up (g := fun k => L k (pre ++ x :: suf) c (pre.length : Int)) ?_
      have st := hstep (pre ++ x :: suf) c pre.length hi hl h0 (by rw [hx]; omega)
      rw [hx] at st
      refine Ev.ofEq st ?_
      have h' := ih (pre ++ [E x c]) (c + cost x) (by simpa using hl) (by omega) (by omega)
      have e1 : (pre ++ x :: suf).set pre.length (E x c) = pre ++ [E x c] ++ suf := by
        rw [List.set_append_right _ _ (by omega), Nat.sub_self]
        simp
      have e2 : ((pre ++ [E x c]).length : Int) = ((pre.length + 1 : Nat) : Int) := by simp
      rw [e1, ← e2]
      have e3 : c + (cost x + sumOf cost suf) = c + cost x + sumOf cost suf := by omega
      rw [e3]
      simpa [markAll] using h'
  intro xs hn c h0 h1
  exact key xs [] c (by simpa using hn) h0 h1
theorem Hd.list {α : Type} {E : α → Int → α} {cost : α → Int} {L : Nat → List α → Int → Int → Option Int} {n : Nat} (hcost : ∀ x, 0 ≤ cost x)
    (hend : ∀ k ys c, ys.length = n → L (k + 1) ys c (n : Int) = some c)
    (hstep : ∀ ys c (i : Nat) (h : i < ys.length) x, ys[i] = E x c → ys.length = n → 0 ≤ c → c + cost x ≤ 4611686018427387904 → EvEq (fun k => L (k + 1) ys c (i : Int)) (fun k => L k ys (c + cost x) ((i + 1 : Nat) : Int))) :
    ∀ xs : List α, xs.length = n → ∀ c, 0 ≤ c → c + sumOf cost xs ≤ 4611686018427387904 → Ev (fun k => L k (markAll E cost xs c) c 0) (c + sumOf cost xs) := by
  have key : ∀ (suf pre : List α) (c : Int), (pre ++ suf).length = n → 0 ≤ c → c + sumOf cost suf ≤ 4611686018427387904 → Ev (fun k => L k (pre ++ markAll E cost suf c) c (pre.length : Int)) (c + sumOf cost suf) := by
    intro suf
    induction suf with
    | nil =>
      intro pre c hl h0 h1
      refine Ev.up (g := fun k => L k (pre ++ markAll E cost [] c) c (pre.length : Int)) (Ev.const fun k => ?_)
      have e : (pre.length : Int) = (n : Int) := by rw [← hl]; simp
      rw [e, hend k _ c (by simpa [markAll] using hl), sumOf_nil]
      simp
    | cons x suf ih =>
      intro pre c hl h0 h1
      rw [sumOf_cons] at h1 ⊢
      have hc := hcost x
      have hs : 0 ≤ sumOf cost suf := sumOf_nonneg fun y _ => hcost y
      have hi : pre.length < (pre ++ markAll E cost (x :: suf) c).length := by simp [markAll]
      have hx : (pre ++ markAll E cost (x :: suf) c)[pre.length] = E x c := by simp [markAll]
      refine Ev.up (g := fun k => L k (pre ++ markAll E cost (x :: suf) c) c (pre.length : Int)) ?_
      have hln : (pre ++ markAll E cost (x :: suf) c).length = n := by
        rw [← hl]; simp [markAll_len]
      refine Ev.ofEq (hstep _ c pre.length hi x hx hln h0 (by omega)) ?_
      have h' := ih (pre ++ [E x c]) (c + cost x) (by simpa using hl) (by omega) (by omega)
      have e2 : ((pre ++ [E x c]).length : Int) = ((pre.length + 1 : Nat) : Int) := by simp
      rw [← e2]
      have e3 : c + (cost x + sumOf cost suf) = c + cost x + sumOf cost suf := by omega
      rw [e3]
      simpa [markAll] using h'
  intro xs hn c h0 h1
  exact key xs [] c (by simpa using hn) h0 h1
end Go.Proofs.Ytppfdndnojbmjaa.B

/-! ## CLine -/
/- Generated by conv.py: what the laws' helpers do with values of type Line. No condition but the lengths that fit. -/
namespace Go.Proofs.Ytppfdndnojbmjaa.C
open Go.RowKit Go.Proofs.YtppfdndnojbmjaaW.PrintWords Go.Proofs.Ytppfdndnojbmjaa.X Go.Proofs.Ytppfdndnojbmjaa.B
theorem rdat_T51 {xs : List S51} {i : Nat} (h : i < xs.length) : rd_T51 xs (i : Int) = xs[i] := by unfold rd_T51; rw [Int.toNat_natCast]; exact getD_at h _
theorem rdat_T60 {xs : List S60} {i : Nat} (h : i < xs.length) : rd_T60 xs (i : Int) = xs[i] := by unfold rd_T60; rw [Int.toNat_natCast]; exact getD_at h _
def c_Line (x : S60) : S51 := ⟨x.f0, x.f1, x.f2, x.f3⟩
theorem to_Line (v0 : Int) (v1 : Int) (v2 : Int) (v3 : Int) : Ev (fun k => laws_toLine.f v0 v1 v2 v3) (v0, v1, v2, v3) := by
  exact (Ev.const fun _ => rfl)
theorem eq_Line (v0 : Int) (v1 : Int) (v2 : Int) (v3 : Int) : Ev (fun k => laws_eqLine.f v0 v1 v2 v3 v0 v1 v2 v3) true := by
  unfold laws_eqLine.f
  refine Ev.ifPos rfl ?_
  refine Ev.ifPos rfl ?_
  refine Ev.ifPos rfl ?_
  refine Ev.ifPos rfl ?_
  exact Ev.const fun _ => rfl
end Go.Proofs.Ytppfdndnojbmjaa.C

/-! ## CLineS -/
/- Generated by conv.py: what the laws' helpers do with values of type LineS. No condition but the lengths that fit. -/
namespace Go.Proofs.Ytppfdndnojbmjaa.C
open Go.RowKit Go.Proofs.YtppfdndnojbmjaaW.PrintWords Go.Proofs.Ytppfdndnojbmjaa.X Go.Proofs.Ytppfdndnojbmjaa.B
def szv_LineS (xs : List S60) : Int := (xs.length : Int) + 0
theorem szv_LineS_nonneg (xs : List S60) : 0 ≤ szv_LineS xs := by
  unfold szv_LineS
  omega
theorem szv_LineS_len (xs : List S60) : (xs.length : Int) ≤ szv_LineS xs := by
  unfold szv_LineS
  omega
theorem sz_LineS (xs : List S60) (h : (Rdr.Lst (fun x : S60 => Rdr.I64 x.f0 ∧ (Rdr.I64 x.f1 ∧ (Rdr.I64 x.f2 ∧ (Rdr.I64 x.f3))))) xs) : Sz (fun left k => laws_szLineS.f xs left) (szv_LineS xs) :=
  Sz.len h.1 Sz.id
theorem to_LineS (xs : List S60) (h : szv_LineS xs ≤ 1048576) : Ev (fun k => laws_toLineS.f k xs) (xs.map c_Line) :=
  Cv.list (rdx := rd_T60 xs) (e := fun k x => laws_toLine.f (x.f0) (x.f1) (x.f2) (x.f3)) (mk := fun bt => (⟨bt.1, bt.2.1, bt.2.2.1, bt.2.2.2⟩ : S51)) (t := fun x => (x.f0, x.f1, x.f2, x.f3)) (L := fun k ys i => laws_toLineS.l0 k xs ys i) (by have := szv_LineS_len xs; omega) (by have := szv_LineS_len xs; omega) (fun i hi => rdat_T60 hi) (fun x hx => to_Line (x.f0) (x.f1) (x.f2) (x.f3)) (fun _ => rfl) (fun _ _ _ => rfl)
def c_LineS (xs : List S60) : List S51 := xs.map c_Line
def fit_LineS (xs : List S51) : Prop := xs.length ≤ 9223372036854775807
theorem fitc_LineS (xs : List S60) (h : szv_LineS xs ≤ 1048576) : fit_LineS (xs.map c_Line) := by
  have hl := szv_LineS_len xs
  unfold fit_LineS
  simp only [List.length_map]; omega
theorem eq_LineS (xs : List S51) (h : fit_LineS xs) : Ev (fun k => laws_eqLineS.f k xs xs) true :=
  Eq.list (xs := xs) (rdx := rd_T51 xs) (e := fun k x => laws_eqLine.f (x.f0) (x.f1) (x.f2) (x.f3) (x.f0) (x.f1) (x.f2) (x.f3)) (L := fun k i => laws_eqLineS.l0 k xs xs i) h (fun i hi => rdat_T51 hi) (fun x hx => eq_Line (x.f0) (x.f1) (x.f2) (x.f3)) (fun _ _ => rfl)
end Go.Proofs.Ytppfdndnojbmjaa.C

/-! ## PLineOk -/
/- Plain laws of lines: a line's own rule; both ValidLines. No condition but the lengths that fit in memory. -/
namespace Go.Proofs.Ytppfdndnojbmjaa.PLineOk
open Go.RowKit Go.Proofs.YtppfdndnojbmjaaW.PrintWords Go.Proofs.Ytppfdndnojbmjaa.X Go.Proofs.Ytppfdndnojbmjaa.B Go.Proofs.Ytppfdndnojbmjaa.C
abbrev M := S51
theorem rdM {xs : List M} {i : Nat} (h : i < xs.length) : rd_T51 xs (i : Int) = xs[i] := rdat_T51 h
/-- A line's rule. -/
def okLine (x : M) (marks : Int) : Bool := decide (0 ≤ x.f0 ∧ x.f0 ≤ marks - 1 ∧ 0 ≤ x.f1 ∧ x.f1 ≤ marks - 1 ∧ x.f0 ≠ x.f1 ∧ -100000 ≤ x.f2 ∧ x.f2 ≤ 100000 ∧ 1 ≤ x.f3 ∧ x.f3 ≤ 10000)
theorem implIn_eq (a b c : Int) : impl_in.f a b c = some (decide (b ≤ a ∧ a ≤ c)) := by
  unfold impl_in.f
  by_cases h : a ≥ b <;> by_cases h' : a ≤ c <;> simp [h, h'] <;> omega
theorem specIn_eq (a b c : Int) : spec_l00In.f a b c = some (decide (b ≤ a ∧ a ≤ c)) := by
  unfold spec_l00In.f
  by_cases h : a ≥ b <;> by_cases h' : a ≤ c <;> simp [h, h'] <;> omega
theorem implLineOk_eq (x : M) (m : Int) (hm : -9223372036854775808 < m) (hm' : m ≤ 9223372036854775807) : impl_lineOk.f x.f0 x.f1 x.f2 x.f3 m = some (okLine x m) := by
  unfold impl_lineOk.f okLine
  simp only [implIn_eq, Option.bind_some]
  rw [w64 (x := m - 1) (by omega) (by omega)]
  by_cases h1 : 0 ≤ x.f0 ∧ x.f0 ≤ m - 1 <;> by_cases h2 : 0 ≤ x.f1 ∧ x.f1 ≤ m - 1 <;> by_cases h3 : x.f0 = x.f1 <;> by_cases h4 : -100000 ≤ x.f2 ∧ x.f2 ≤ 100000 <;> simp [h1, h2, h3, h4] <;> omega
theorem specLineOk_eq (x : M) (m : Int) (hm : -9223372036854775808 < m) (hm' : m ≤ 9223372036854775807) : spec_l26One.f x.f0 x.f1 x.f2 x.f3 m = some (okLine x m) := by
  unfold spec_l26One.f okLine
  simp only [specIn_eq, Option.bind_some]
  rw [w64 (x := m - 1) (by omega) (by omega)]
  by_cases h1 : 0 ≤ x.f0 ∧ x.f0 ≤ m - 1 <;> by_cases h2 : 0 ≤ x.f1 ∧ x.f1 ≤ m - 1 <;> by_cases h3 : x.f0 = x.f1 <;> by_cases h4 : -100000 ≤ x.f2 ∧ x.f2 ≤ 100000 <;> simp [h1, h2, h3, h4] <;> omega

/-- Both say so of valid lines. -/
def okLines (marks : Int) (xs : List M) : Bool := decide (2 ≤ marks ∧ marks ≤ 10) && (allFrom (fun j => okLine (xs.getD j z51) marks) 0 xs.length && decide ((xs.length : Int) ≤ 12))
theorem specOk_ev (marks : Int) (xs : List M) (hn : xs.length ≤ 9223372036854775807) : Ev (fun k => spec_l26Ok.f k marks xs) (okLines marks xs) := by
  unfold okLines
  by_cases hm : 2 ≤ marks ∧ marks ≤ 10
  · have h0 := allScan (fun k i => spec_l26Ok.l0 k marks xs (i : Int)) xs.length (fun j => okLine (xs.getD j z51) marks) (decide ((xs.length : Int) ≤ 12)) (Ev.const fun k => by
      simp only [spec_l26Ok.l0]
      rw [if_neg (by omega)]) (by
      intro i hi
      refine EvEq.now fun k => ?_
      simp only [spec_l26Ok.l0]
      rw [if_pos (by omega), if_pos (by omega), rdM hi, specLineOk_eq _ _ (by omega) (by omega), Option.bind_some, wnext hi (by omega), getD_at hi]) 0 (by omega)
    refine Ev.ofEq (EvEq.now fun k => ?_) (show Ev (fun k => spec_l26Ok.l0 k marks xs ((0 : Nat) : Int)) _ from by simpa [hm] using h0)
    unfold spec_l26Ok.f
    rw [specIn_eq, Option.bind_some, if_pos (by simpa using hm)]
    rfl
  · refine Ev.const fun k => ?_
    unfold spec_l26Ok.f
    rw [specIn_eq, Option.bind_some, if_neg (by simpa using hm)]
    simp [hm]
theorem implOk_ev (marks : Int) (xs : List M) (hn : xs.length ≤ 9223372036854775807) : Ev (fun k => impl_ValidLines.f k marks xs) (okLines marks xs) := by
  unfold okLines
  by_cases hm : 2 ≤ marks ∧ marks ≤ 10
  · by_cases hl : (xs.length : Int) ≤ 12
    · have h0 := allScan (fun k i => impl_all_impl_Line__impl_ValidLines_1.l0 k xs (xs.length : Int) (i : Int) marks) xs.length (fun j => okLine (xs.getD j z51) marks) true (Ev.const fun k => by
        simp only [impl_all_impl_Line__impl_ValidLines_1.l0]
        rw [if_neg (by omega)]) (by
        intro i hi
        refine EvEq.now fun k => ?_
        simp only [impl_all_impl_Line__impl_ValidLines_1.l0, impl_ValidLines_1.f]
        rw [if_pos (by omega), if_pos (by omega), if_pos (by omega), rdM hi, implLineOk_eq _ _ (by omega) (by omega), Option.bind_some, Option.bind_some, wnext hi (by omega), getD_at hi]) 0 (by omega)
      refine Ev.ofEq (g := fun k => impl_ValidLines.f k marks xs) (f := fun k => (impl_all_impl_Line__impl_ValidLines_1.l0 k xs (xs.length : Int) ((0 : Nat) : Int) marks).bind fun t => some t) (EvEq.now fun k => ?_) ?_
      · simp only [impl_ValidLines.f, implIn_eq, Option.bind_some, impl_all_impl_Line__impl_ValidLines_1.f]
        rw [if_pos (by simpa using hm), if_pos hl]
        rfl
      · simpa [hm, hl] using h0
    · refine Ev.const fun k => ?_
      simp only [impl_ValidLines.f, implIn_eq, Option.bind_some]
      rw [if_pos (by simpa using hm), if_neg hl]
      simp [hl]
  · refine Ev.const fun k => ?_
    simp only [impl_ValidLines.f, implIn_eq, Option.bind_some]
    rw [if_neg (by simpa using hm)]
    simp [hm]

end Go.Proofs.Ytppfdndnojbmjaa.PLineOk

/-! ## PSum -/
/- Plain laws of sums. No condition but the lengths that fit. -/
namespace Go.Proofs.Ytppfdndnojbmjaa.PSum
open Go.RowKit Go.Proofs.YtppfdndnojbmjaaW.PrintWords Go.Proofs.Ytppfdndnojbmjaa.X Go.Proofs.Ytppfdndnojbmjaa.B

def sum64 (c : Int) (xs : List Int) : Int := xs.foldl (fun s x => wrap64 (s + x)) c
theorem sum64_take (xs : List Int) {i : Nat} (h : i < xs.length) : sum64 0 (xs.take (i + 1)) = wrap64 (sum64 0 (xs.take i) + xs[i]) := by
  unfold sum64
  rw [List.take_succ_eq_append_getElem h, List.foldl_append]
  rfl
theorem specSum_ev (xs : List Int) (hn : xs.length ≤ 9223372036854775807) : Ev (fun k => spec_l02Sum.f k xs) (sum64 0 xs) := by
  have h := scanI (fun k i => spec_l02Sum.l0 k xs (sum64 0 (xs.take i)) (i : Int)) xs.length (fun _ => sum64 0 xs) (Ev.up (g := fun k => spec_l02Sum.l0 k xs (sum64 0 (xs.take xs.length)) (xs.length : Int)) (Ev.const fun k => by
      simp only [spec_l02Sum.l0]
      rw [if_neg (by omega), List.take_length])) (by
    intro i hi ih
    refine Ev.up (g := fun k => spec_l02Sum.l0 k xs (sum64 0 (xs.take i)) (i : Int)) ?_
    simp only [spec_l02Sum.l0, rd_at hi, wnext hi (by omega : (xs.length : Int) ≤ _)]
    rw [sum64_take xs hi] at ih
    exact Ev.ifPos (by omega) (Ev.ifPos (by omega) ih)) 0 (by omega)
  exact h
theorem implSum_ev (xs : List Int) (hn : xs.length ≤ 9223372036854775807) : Ev (fun k => impl_sum.f k xs) (sum64 0 xs) := by
  have h := scanI (fun k i => impl_sum.l0 k (sum64 0 (xs.take i)) xs (xs.length : Int) (i : Int)) xs.length (fun _ => sum64 0 xs) (Ev.up (g := fun k => impl_sum.l0 k (sum64 0 (xs.take xs.length)) xs (xs.length : Int) (xs.length : Int)) (Ev.const fun k => by
      simp only [impl_sum.l0]
      rw [if_neg (by omega), List.take_length])) (by
    intro i hi ih
    refine Ev.up (g := fun k => impl_sum.l0 k (sum64 0 (xs.take i)) xs (xs.length : Int) (i : Int)) ?_
    simp only [impl_sum.l0, rd_at hi, wnext hi (by omega : (xs.length : Int) ≤ _)]
    rw [sum64_take xs hi] at ih
    exact Ev.ifPos (by omega) (Ev.ifPos (by omega) (Ev.ifPos (by omega) ih))) 0 (by omega)
  exact h
end Go.Proofs.Ytppfdndnojbmjaa.PSum

/-! ## PHas -/
/- Plain laws of looking for a number in a row. No condition but the lengths that fit. -/
namespace Go.Proofs.Ytppfdndnojbmjaa.PHas
open Go.RowKit Go.Proofs.YtppfdndnojbmjaaW.PrintWords Go.Proofs.Ytppfdndnojbmjaa.X Go.Proofs.Ytppfdndnojbmjaa.B
theorem mem_drop (xs : List Int) (v : Int) {i : Nat} (h : i < xs.length) : decide (v ∈ xs.drop i) = if xs[i] = v then true else decide (v ∈ xs.drop (i + 1)) := by
  have e : (v ∈ xs.drop i) = (v = xs[i] ∨ v ∈ xs.drop (i + 1)) := by rw [List.drop_eq_getElem_cons h, List.mem_cons]
  by_cases c : xs[i] = v
  · rw [if_pos c, decide_eq_true_iff, e]
    exact Or.inl c.symm
  · rw [if_neg c]
    refine decide_eq_decide.2 ?_
    rw [e]
    exact ⟨fun h => h.resolve_left fun q => c q.symm, Or.inr⟩
theorem specHas_ev (xs : List Int) (v : Int) (hn : xs.length ≤ 9223372036854775807) : Ev (fun k => spec_l00Has.f k xs v) (decide (v ∈ xs)) := by
  have h := scanI (fun k i => spec_l00Has.l0 k xs v (i : Int)) xs.length (fun i => decide (v ∈ xs.drop i)) (Ev.up (g := fun k => spec_l00Has.l0 k xs v (xs.length : Int)) (Ev.const fun k => by
      simp only [spec_l00Has.l0]
      rw [if_neg (by omega)]
      simp)) (by
    intro i hi ih
    refine Ev.up (g := fun k => spec_l00Has.l0 k xs v (i : Int)) ?_
    simp only [spec_l00Has.l0, rd_at hi, wnext hi (by omega : (xs.length : Int) ≤ _)]
    rw [mem_drop xs v hi]
    refine Ev.ifPos (by omega) (Ev.ifPos (by omega) ?_)
    by_cases c : xs[i] = v
    · rw [if_pos c]; exact Ev.ifPos c (Ev.const fun _ => rfl)
    · rw [if_neg c]; exact Ev.ifNeg c ih) 0 (by omega)
  exact h
theorem implHas_ev (xs : List Int) (v : Int) (hn : xs.length ≤ 9223372036854775807) : Ev (fun k => impl_has.f k xs v) (decide (v ∈ xs)) := by
  have h := scanI (fun k i => impl_has.l0 k v xs (xs.length : Int) (i : Int)) xs.length (fun i => decide (v ∈ xs.drop i)) (Ev.up (g := fun k => impl_has.l0 k v xs (xs.length : Int) (xs.length : Int)) (Ev.const fun k => by
      simp only [impl_has.l0]
      rw [if_neg (by omega)]
      simp)) (by
    intro i hi ih
    refine Ev.up (g := fun k => impl_has.l0 k v xs (xs.length : Int) (i : Int)) ?_
    simp only [impl_has.l0, rd_at hi, wnext hi (by omega : (xs.length : Int) ≤ _)]
    rw [mem_drop xs v hi]
    refine Ev.ifPos (by omega) (Ev.ifPos (by omega) (Ev.ifPos (by omega) ?_))
    by_cases c : xs[i] = v
    · rw [if_pos c]; exact Ev.ifPos c (Ev.const fun _ => rfl)
    · rw [if_neg c]; exact Ev.ifNeg c ih) 0 (by omega)
  exact h
end Go.Proofs.Ytppfdndnojbmjaa.PHas

/-! ## PLoop -/
/- Plain laws of loops of marks: both find the same sides of a loop, or tell the same fault. No condition but the lengths that fit in memory. -/
namespace Go.Proofs.Ytppfdndnojbmjaa.PLoop
open Go.RowKit Go.Proofs.YtppfdndnojbmjaaW.PrintWords Go.Proofs.Ytppfdndnojbmjaa.X Go.Proofs.Ytppfdndnojbmjaa.B Go.Proofs.Ytppfdndnojbmjaa.C Go.Proofs.Ytppfdndnojbmjaa.PLineOk Go.Proofs.Ytppfdndnojbmjaa.PSum Go.Proofs.Ytppfdndnojbmjaa.PHas

/-- What a line tells of the way from a to b. -/
def hit (x : M) (a b : Int) : Option (Int × Int) := if x.f0 = a ∧ x.f1 = b then some (x.f2, x.f3) else if x.f0 = b ∧ x.f1 = a then some (wrap64 (-x.f2), x.f3) else none
/-- What the first line between a and b tells. -/
def btw (ls : List M) (a b : Int) : Option (Int × Int) := ls.findSome? fun x => hit x a b
theorem btw_cons (x : M) (ls : List M) (a b : Int) : btw (x :: ls) a b = match hit x a b with | some r => some r | none => btw ls a b := by
  unfold btw
  rw [List.findSome?_cons]
  cases hit x a b <;> rfl
theorem implBtw_ev (ls : List M) (a b : Int) (hn : ls.length ≤ 9223372036854775807) : ∃ r : Int × Int × Int × Int × Bool, Ev (fun k => impl_lineBetween.f k ls a b) r ∧ (match btw ls a b with | some p => r.2.2.2.2 = true ∧ r.2.2.1 = p.1 ∧ r.2.2.2.1 = p.2 | none => r.2.2.2.2 = false) := by
  have key : ∀ (suf pre : List M), ls = pre ++ suf → ∃ r : Int × Int × Int × Int × Bool, Ev (fun k => impl_lineBetween.l0 k a b ls (ls.length : Int) (pre.length : Int)) r ∧ (match btw suf a b with | some p => r.2.2.2.2 = true ∧ r.2.2.1 = p.1 ∧ r.2.2.2.1 = p.2 | none => r.2.2.2.2 = false) := by
    intro suf
    induction suf with
    | nil =>
      intro pre hx
      have hl : ls.length = pre.length := by rw [hx]; simp
      refine ⟨(0, 0, 0, 0, false), Ev.up (g := fun k => impl_lineBetween.l0 k a b ls (ls.length : Int) (pre.length : Int)) (Ev.const fun k => ?_), rfl⟩
      simp only [impl_lineBetween.l0]
      rw [if_neg (by omega)]
    | cons x suf ih =>
      intro pre hx
      have hlen : ls.length = pre.length + (suf.length + 1) := by rw [hx]; simp
      have hi : pre.length < ls.length := by omega
      have hxi : ls[pre.length] = x := by simp [hx]
      have hj : ∀ (c : Bool) r, (c = (decide (x.f0 = a) && decide (x.f1 = b))) → Ev (fun k => impl_lineBetween.j1 k a b ls (ls.length : Int) (pre.length : Int) c x.f0 x.f1 x.f2 x.f3) r → Ev (fun k => impl_lineBetween.l0 k a b ls (ls.length : Int) (pre.length : Int)) r := by
        intro c r hc he
        refine Ev.up (g := fun k => impl_lineBetween.l0 k a b ls (ls.length : Int) (pre.length : Int)) ?_
        simp only [impl_lineBetween.l0, rdM hi, hxi]
        refine Ev.ifPos (by omega) (Ev.ifPos (by omega) (Ev.ifPos (by omega) (Ev.ite (fun h => ?_) (fun h => ?_))))
        · have : (x.f1 == b) = c := by rw [hc, decide_eq_true h, Bool.true_and]; rfl
          rw [this]; exact he
        · have : false = c := by rw [hc, decide_eq_false h, Bool.false_and]
          rw [this]; exact he
      rw [btw_cons]
      unfold hit
      by_cases h1 : x.f0 = a ∧ x.f1 = b
      · rw [if_pos h1]
        refine ⟨(x.f0, x.f1, x.f2, x.f3, true), hj true _ (by rw [decide_eq_true h1.1, decide_eq_true h1.2]; rfl) (Ev.up (g := fun k => impl_lineBetween.j1 k a b ls (ls.length : Int) (pre.length : Int) true x.f0 x.f1 x.f2 x.f3) (Ev.const fun k => ?_)), rfl, rfl, rfl⟩
        simp only [impl_lineBetween.j1]
        rw [if_pos trivial]
      · rw [if_neg h1]
        have hc : false = (decide (x.f0 = a) && decide (x.f1 = b)) := by
          by_cases q : x.f0 = a
          · have : ¬ x.f1 = b := fun e => h1 ⟨q, e⟩
            simp [this]
          · simp [q]
        by_cases h2 : x.f0 = b ∧ x.f1 = a
        · rw [if_pos h2]
          refine ⟨(x.f1, x.f0, wrap64 (-x.f2), x.f3, true), hj false _ hc (Ev.up (g := fun k => impl_lineBetween.j1 k a b ls (ls.length : Int) (pre.length : Int) false x.f0 x.f1 x.f2 x.f3) (Ev.const fun k => ?_)), rfl, rfl, rfl⟩
          simp only [impl_lineBetween.j1, impl_Line_reverse.f, Option.bind_some]
          rw [if_neg (by simp), if_pos h2.1, if_pos h2.2]
        · rw [if_neg h2]
          obtain ⟨r, hr, hr'⟩ := ih (pre ++ [x]) (by rw [hx]; simp)
          refine ⟨r, hj false _ hc (Ev.up (g := fun k => impl_lineBetween.j1 k a b ls (ls.length : Int) (pre.length : Int) false x.f0 x.f1 x.f2 x.f3) ?_), hr'⟩
          have e1 : ((pre ++ [x]).length : Int) = wrap64 ((pre.length : Int) + 1) := by rw [wnext hi (by omega)]; simp
          rw [e1] at hr
          simp only [impl_lineBetween.j1]
          refine Ev.ifNeg (by simp) (Ev.ite (fun q => Ev.ite (fun q' => absurd ⟨q, q'⟩ h2) (fun _ => hr)) (fun _ => hr))
  exact key ls [] rfl

/-- The way from mark i of a loop to the next one. -/
def next (xs : List Int) (i : Int) : Int := rd xs (Int.tmod (wrap64 (i + 1)) (xs.length : Int))
def side (ls : List M) (xs : List Int) (i : Nat) : Option (Int × Int) := btw ls (rd xs (i : Int)) (next xs (i : Int))
def hs (ls : List M) (xs : List Int) (i : Nat) : List Int := (List.range i).map fun j => ((side ls xs j).getD (0, 0)).1
def ms (ls : List M) (xs : List Int) (i : Nat) : List Int := (List.range i).map fun j => ((side ls xs j).getD (0, 0)).2
theorem hs_len (ls : List M) (xs : List Int) (i : Nat) : (hs ls xs i).length = i := by simp [hs]
theorem ms_len (ls : List M) (xs : List Int) (i : Nat) : (ms ls xs i).length = i := by simp [ms]
theorem hs_succ {ls : List M} {xs : List Int} {i : Nat} {p : Int × Int} (h : side ls xs i = some p) : hs ls xs (i + 1) = hs ls xs i ++ [p.1] := by
  simp [hs, List.range_succ, h]
theorem ms_succ {ls : List M} {xs : List Int} {i : Nat} {p : Int × Int} (h : side ls xs i = some p) : ms ls xs (i + 1) = ms ls xs i ++ [p.2] := by
  simp [ms, List.range_succ, h]
def sided (ls : List M) (xs : List Int) (j : Nat) : Bool := (side ls xs j).isSome
theorem tmod_lt {i n : Nat} (h : i < n) (hn : (n : Int) ≤ 9223372036854775807) : 0 ≤ Int.tmod (wrap64 ((i : Int) + 1)) (n : Int) ∧ Int.tmod (wrap64 ((i : Int) + 1)) (n : Int) < (n : Int) := by
  rw [wnext h hn]
  have h0 : 0 ≤ ((i + 1 : Nat) : Int) := by omega
  exact ⟨Int.tmod_nonneg _ h0, Int.tmod_lt_of_pos _ (by omega)⟩

/-- What both find of a loop's sides. -/
def sidesOf {ρ : Type} (ls : List M) (xs : List Int) (i : Nat) (ok : List Int → List Int → ρ) (no : ρ) : ρ := if allFrom (sided ls xs) i xs.length = true then ok (hs ls xs xs.length) (ms ls xs xs.length) else no
theorem sidesOf_end {ρ : Type} (ls : List M) (xs : List Int) (ok : List Int → List Int → ρ) (no : ρ) : sidesOf ls xs xs.length ok no = ok (hs ls xs xs.length) (ms ls xs xs.length) := by
  unfold sidesOf; rw [allFrom_end, if_pos rfl]
theorem sidesOf_step {ρ : Type} (ls : List M) (xs : List Int) {i : Nat} (h : i < xs.length) (ok : List Int → List Int → ρ) (no : ρ) : sidesOf ls xs i ok no = match side ls xs i with | some _ => sidesOf ls xs (i + 1) ok no | none => no := by
  unfold sidesOf
  rw [allFrom_step _ h]
  unfold sided
  cases side ls xs i <;> simp

theorem implSides_ev (ls : List M) (xs : List Int) (hn : ls.length ≤ 9223372036854775807) (hx : xs.length ≤ 1048576) : Ev (fun k => impl_loopOf.l1 k ls xs [] [] xs (xs.length : Int) 0) (sidesOf ls xs 0 (fun a b => (a, b, (0 : Int))) ([], [], 3)) := by
  have h := scanI (fun k i => impl_loopOf.l1 k ls xs (hs ls xs i) (ms ls xs i) xs (xs.length : Int) (i : Int)) xs.length (fun i => sidesOf ls xs i (fun a b => (a, b, (0 : Int))) ([], [], 3)) (Ev.up (g := fun k => impl_loopOf.l1 k ls xs (hs ls xs xs.length) (ms ls xs xs.length) xs (xs.length : Int) (xs.length : Int)) (Ev.const fun k => by
      simp only [impl_loopOf.l1]
      rw [if_neg (by omega), sidesOf_end])) (by
    intro i hi ih
    obtain ⟨t0, t1⟩ := tmod_lt hi (by omega)
    obtain ⟨r, hr, hr'⟩ := implBtw_ev ls (rd xs (i : Int)) (next xs (i : Int)) hn
    rw [sidesOf_step ls xs hi]
    refine Ev.up (g := fun k => impl_loopOf.l1 k ls xs (hs ls xs i) (ms ls xs i) xs (xs.length : Int) (i : Int)) ?_
    simp only [impl_loopOf.l1, Option.bind_some]
    refine Ev.ifPos (by omega) (Ev.ifPos (by omega) (Ev.ifPos (by omega) (Ev.ifNeg (by omega) (Ev.ifPos t0 (Ev.ifPos t1 (Ev.bindE hr ?_))))))
    rw [show btw ls (rd xs (i : Int)) (next xs (i : Int)) = side ls xs i from rfl] at hr'
    cases hsd : side ls xs i with
    | none =>
      rw [hsd] at hr'
      exact Ev.ifNeg (by rw [hr']; simp) (Ev.const fun _ => rfl)
    | some p =>
      rw [hsd] at hr'
      obtain ⟨e1, e2, e3⟩ := hr'
      rw [hs_succ hsd, ms_succ hsd] at ih
      refine Ev.ifPos e1 (Ev.ifPos (by simp [hs_len]; omega) (Ev.ifPos (by simp [ms_len]; omega) ?_))
      rw [e2, e3, wnext hi (by omega)]
      exact ih) 0 (by omega)
  exact h

theorem specSide_ev {ρ : Type} (ls : List M) (xs h m : List Int) (i : Int) (a b : Int) (hn : ls.length ≤ 9223372036854775807) (hh : h.length < 1048576) (hm : m.length < 1048576) (R : List Int × List Int × Bool)
    (hok : ∀ p, btw ls a b = some p → Ev (fun k => spec_l26Sides.l0 k ls xs (h ++ [p.1]) (m ++ [p.2]) (wrap64 (i + 1))) R) (hno : btw ls a b = none → R = ([], [], false)) : Ev (fun k => spec_l26Sides.l1 k ls xs h m i a b false 0) R := by
  have fin : ∀ (h m : List Int) (j : Nat), j ≤ ls.length → Ev (fun k => spec_l26Sides.l0 k ls xs h m (wrap64 (i + 1))) R → Ev (fun k => spec_l26Sides.l1 k ls xs h m i a b true (j : Int)) R := by
    intro h m j hj he
    have hj2 : Ev (fun k => spec_l26Sides.j2 k ls xs h m i a b true (j : Int) false) R := by
      refine Ev.up (g := fun k => spec_l26Sides.j2 k ls xs h m i a b true (j : Int) false) ?_
      simp only [spec_l26Sides.j2]
      exact Ev.ifNeg (by simp) (Ev.ifPos trivial he)
    refine Ev.up (g := fun k => spec_l26Sides.l1 k ls xs h m i a b true (j : Int)) ?_
    simp only [spec_l26Sides.l1]
    exact Ev.ite (fun _ => hj2) (fun _ => hj2)
  have key : ∀ (suf pre : List M), ls = pre ++ suf → btw suf a b = btw ls a b → Ev (fun k => spec_l26Sides.l1 k ls xs h m i a b false (pre.length : Int)) R := by
    intro suf
    induction suf with
    | nil =>
      intro pre hx hb
      have hl : ls.length = pre.length := by rw [hx]; simp
      refine Ev.up (g := fun k => spec_l26Sides.l1 k ls xs h m i a b false (pre.length : Int)) ?_
      simp only [spec_l26Sides.l1]
      refine Ev.ifNeg (by omega) (Ev.up (g := fun k => spec_l26Sides.j2 k ls xs h m i a b false (pre.length : Int) false) ?_)
      simp only [spec_l26Sides.j2]
      rw [hno (by rw [← hb]; rfl)]
      exact Ev.ifNeg (by simp) (Ev.ifNeg (by simp) (Ev.const fun _ => rfl))
    | cons x suf ih =>
      intro pre hx hb
      have hlen : ls.length = pre.length + (suf.length + 1) := by rw [hx]; simp
      have hi : pre.length < ls.length := by omega
      have hxi : ls[pre.length] = x := by simp [hx]
      have e1 : wrap64 ((pre.length : Int) + 1) = ((pre.length + 1 : Nat) : Int) := wnext hi (by omega)
      rw [btw_cons] at hb
      have J4 : ∀ c : Bool, c = (decide (x.f0 = b) && decide (x.f1 = a)) → ¬ (x.f0 = a ∧ x.f1 = b) → Ev (fun k => spec_l26Sides.j4 k ls xs h m i a b false (pre.length : Int) c x.f0 x.f1 x.f2 x.f3) R := by
        intro c hc h1
        refine Ev.up (g := fun k => spec_l26Sides.j4 k ls xs h m i a b false (pre.length : Int) c x.f0 x.f1 x.f2 x.f3) ?_
        simp only [spec_l26Sides.j4, e1]
        by_cases h2 : x.f0 = b ∧ x.f1 = a
        · rw [hit, if_neg h1, if_pos h2] at hb
          rw [hc, decide_eq_true h2.1, decide_eq_true h2.2]
          refine Ev.ifPos rfl (Ev.ifPos (by omega) (Ev.ifPos (by omega) (fin _ _ _ (by omega) (hok (wrap64 (-x.f2), x.f3) hb.symm))))
        · have hcf : c = false := by
            rw [hc]
            by_cases q : x.f0 = b
            · have : ¬ x.f1 = a := fun e => h2 ⟨q, e⟩
              simp [this]
            · simp [q]
          rw [hit, if_neg h1, if_neg h2] at hb
          have hr := ih (pre ++ [x]) (by rw [hx]; simp) hb
          rw [show ((pre ++ [x]).length : Int) = ((pre.length + 1 : Nat) : Int) by simp] at hr
          rw [hcf]
          exact Ev.ifNeg (by simp) (Ev.ifNeg (by simp) hr)
      have J3 : ∀ c : Bool, c = (decide (x.f0 = a) && decide (x.f1 = b)) → Ev (fun k => spec_l26Sides.j3 k ls xs h m i a b false (pre.length : Int) c x.f0 x.f1 x.f2 x.f3) R := by
        intro c hc
        refine Ev.up (g := fun k => spec_l26Sides.j3 k ls xs h m i a b false (pre.length : Int) c x.f0 x.f1 x.f2 x.f3) ?_
        simp only [spec_l26Sides.j3, e1]
        by_cases h1 : x.f0 = a ∧ x.f1 = b
        · rw [hit, if_pos h1] at hb
          rw [hc, decide_eq_true h1.1, decide_eq_true h1.2]
          refine Ev.ifPos rfl (Ev.ifPos (by omega) (Ev.ifPos (by omega) (fin _ _ _ (by omega) (hok (x.f2, x.f3) hb.symm))))
        · have hcf : c = false := by
            rw [hc]
            by_cases q : x.f0 = a
            · have : ¬ x.f1 = b := fun e => h1 ⟨q, e⟩
              simp [this]
            · simp [q]
          rw [hcf]
          refine Ev.ifNeg (by simp) (Ev.ite (fun q => J4 _ ?_ h1) (fun q => J4 _ ?_ h1))
          · rw [decide_eq_true q, Bool.true_and]; rfl
          · rw [decide_eq_false q, Bool.false_and]
      refine Ev.up (g := fun k => spec_l26Sides.l1 k ls xs h m i a b false (pre.length : Int)) ?_
      simp only [spec_l26Sides.l1]
      refine Ev.ifPos (by omega) (Ev.up (g := fun k => spec_l26Sides.j2 k ls xs h m i a b false (pre.length : Int) true) ?_)
      simp only [spec_l26Sides.j2, rdM hi, hxi]
      refine Ev.ifPos trivial (Ev.ifPos (by omega) (Ev.ifPos (by omega) (Ev.ite (fun q => J3 _ ?_) (fun q => J3 _ ?_))))
      · rw [decide_eq_true q, Bool.true_and]; rfl
      · rw [decide_eq_false q, Bool.false_and]
  exact key ls [] rfl rfl
theorem specSides_ev (ls : List M) (xs : List Int) (hn : ls.length ≤ 9223372036854775807) (hx : xs.length ≤ 1048576) : Ev (fun k => spec_l26Sides.f k ls xs) (sidesOf ls xs 0 (fun a b => (a, b, true)) ([], [], false)) := by
  have h := scanI (fun k i => spec_l26Sides.l0 k ls xs (hs ls xs i) (ms ls xs i) (i : Int)) xs.length (fun i => sidesOf ls xs i (fun a b => (a, b, true)) ([], [], false)) (Ev.up (g := fun k => spec_l26Sides.l0 k ls xs (hs ls xs xs.length) (ms ls xs xs.length) (xs.length : Int)) (Ev.const fun k => by
      simp only [spec_l26Sides.l0]
      rw [if_neg (by omega), sidesOf_end])) (by
    intro i hi ih
    obtain ⟨t0, t1⟩ := tmod_lt hi (by omega)
    rw [sidesOf_step ls xs hi]
    refine Ev.up (g := fun k => spec_l26Sides.l0 k ls xs (hs ls xs i) (ms ls xs i) (i : Int)) ?_
    simp only [spec_l26Sides.l0]
    refine Ev.ifPos (by omega) (Ev.ifPos (by omega) (Ev.ifNeg (by omega) (Ev.ifPos t0 (Ev.ifPos t1 ?_))))
    refine specSide_ev (ρ := Unit) ls xs _ _ _ _ _ hn (by rw [hs_len]; omega) (by rw [ms_len]; omega) _ ?_ ?_
    · intro p hp
      have hsd : side ls xs i = some p := hp
      rw [hs_succ hsd, ms_succ hsd] at ih
      rw [hsd, wnext hi (by omega)]
      exact ih
    · intro hp
      have hsd : side ls xs i = none := hp
      rw [hsd]) 0 (by omega)
  exact h

/-- Marks that make a loop: each is one of the marks, and comes once. -/
def markOk (m : Int) (xs : List Int) (i : Nat) : Bool := decide (0 ≤ rd xs (i : Int) ∧ rd xs (i : Int) ≤ m - 1) && !decide (rd xs (i : Int) ∈ xs.take i)
theorem specLoop_ev (m : Int) (xs : List Int) (hm : 2 ≤ m ∧ m ≤ 10) (hx : xs.length ≤ 1048576) : Ev (fun k => spec_l26Loop.f k m xs) (allFrom (markOk m xs) 0 xs.length && decide ((xs.length : Int) ≥ 2)) := by
  have h := scanI (fun k i => spec_l26Loop.l0 k m xs (i : Int)) xs.length (fun i => allFrom (markOk m xs) i xs.length && decide ((xs.length : Int) ≥ 2)) (Ev.up (g := fun k => spec_l26Loop.l0 k m xs (xs.length : Int)) (Ev.const fun k => by
      simp only [spec_l26Loop.l0]
      rw [if_neg (by omega), allFrom_end, Bool.true_and])) (by
    intro i hi ih
    rw [allFrom_step _ hi]
    refine Ev.up (g := fun k => spec_l26Loop.l0 k m xs (i : Int)) ?_
    simp only [spec_l26Loop.l0, specIn_eq, Option.bind_some, w64 (x := m - 1) (by omega) (by omega), Int.toNat_natCast]
    refine Ev.ifPos (by omega) (Ev.ifPos (by omega) (Ev.ite (fun c => ?_) (fun c => ?_)))
    · refine Ev.ifPos (by omega) (Ev.bindE (specHas_ev _ _ (by rw [List.length_take]; omega)) (Ev.ite (fun d => ?_) (fun d => ?_)))
      · unfold markOk; rw [d]; simpa using Ev.const (fun _ => rfl)
      · have : markOk m xs i = true := by unfold markOk; rw [c, Bool.eq_false_iff.2 d]; rfl
        rw [this, Bool.true_and, wnext hi (by omega)]
        exact ih
    · unfold markOk; rw [Bool.eq_false_iff.2 c]; simpa using Ev.const (fun _ => rfl)) 0 (by omega)
  exact h
theorem implLoop_ev (m : Int) (ls : List M) (xs : List Int) (hm : 2 ≤ m ∧ m ≤ 10) (hn : ls.length ≤ 9223372036854775807) (hx : xs.length ≤ 1048576) : Ev (fun k => impl_loopOf.l0 k m ls xs xs (xs.length : Int) 0) (if allFrom (markOk m xs) 0 xs.length = true then (if 2 ≤ (xs.length : Int) ∧ (xs.length : Int) ≤ 10 then sidesOf ls xs 0 (fun a b => (a, b, (0 : Int))) ([], [], 3) else ([], [], 2)) else ([], [], 2)) := by
  have h := scanI (fun k i => impl_loopOf.l0 k m ls xs xs (xs.length : Int) (i : Int)) xs.length (fun i => if allFrom (markOk m xs) i xs.length = true then (if 2 ≤ (xs.length : Int) ∧ (xs.length : Int) ≤ 10 then sidesOf ls xs 0 (fun a b => (a, b, (0 : Int))) ([], [], 3) else ([], [], 2)) else ([], [], 2)) (Ev.up (g := fun k => impl_loopOf.l0 k m ls xs xs (xs.length : Int) (xs.length : Int)) (by
      simp only [impl_loopOf.l0, impl_size_int64.f, implIn_eq, Option.bind_some]
      refine Ev.ifNeg (by omega) ?_
      rw [allFrom_end, if_pos rfl]
      refine Ev.ite (fun c => ?_) (fun c => ?_)
      · rw [if_pos (by simpa using c)]; exact implSides_ev ls xs hn hx
      · rw [if_neg (by simpa using c)]; exact Ev.const fun _ => rfl)) (by
    intro i hi ih
    rw [allFrom_step _ hi]
    refine Ev.up (g := fun k => impl_loopOf.l0 k m ls xs xs (xs.length : Int) (i : Int)) ?_
    simp only [impl_loopOf.l0, implIn_eq, Option.bind_some, w64 (x := m - 1) (by omega) (by omega), Int.toNat_natCast]
    refine Ev.ifPos (by omega) (Ev.ifPos (by omega) (Ev.ifPos (by omega) (Ev.ite (fun c => ?_) (fun c => ?_))))
    · refine Ev.ifPos (by omega) (Ev.bindE (implHas_ev _ _ (by rw [List.length_take]; omega)) (Ev.ite (fun d => ?_) (fun d => ?_)))
      · have : markOk m xs i = false := by unfold markOk; rw [d]; simp
        rw [this, Bool.false_and, if_neg (by simp)]; exact Ev.const fun _ => rfl
      · have : markOk m xs i = true := by unfold markOk; rw [c, Bool.eq_false_iff.2 d]; rfl
        rw [this, Bool.true_and, wnext hi (by omega)]
        exact ih
    · have : markOk m xs i = false := by unfold markOk; rw [Bool.eq_false_iff.2 c]; rfl
      rw [this, Bool.false_and, if_neg (by simp)]; exact Ev.const fun _ => rfl) 0 (by omega)
  exact h
/-- Marks that come once are no more than there are marks. -/
theorem few (m : Nat) : ∀ xs : List Int, xs.Nodup → (∀ x ∈ xs, 0 ≤ x ∧ x ≤ (m : Int) - 1) → xs.length ≤ m := by
  induction m with
  | zero =>
    intro xs _ h
    cases xs with
    | nil => simp
    | cons x xs => have := h x (by simp); omega
  | succ m ih =>
    intro xs hd h
    have h1 := ih (xs.erase (m : Int)) (hd.erase _) (by
      intro x hx
      have hx' := (List.Nodup.mem_erase_iff hd).1 hx
      have := h x hx'.2
      have := hx'.1
      omega)
    have h2 := List.length_erase (a := (m : Int)) (l := xs)
    split at h2 <;> omega
theorem loop_few (m : Int) (xs : List Int) (hm : 2 ≤ m ∧ m ≤ 10) (h : allFrom (markOk m xs) 0 xs.length = true) : xs.length ≤ 10 := by
  rw [allFrom_iff] at h
  have hh : ∀ (j : Nat) (hj : j < xs.length), (0 ≤ xs[j] ∧ xs[j] ≤ m - 1) ∧ ¬ xs[j] ∈ xs.take j := by
    intro j hj
    have := h j (by omega) hj
    unfold markOk at this
    rw [rd_at hj] at this
    simpa using this
  have hd : xs.Nodup := by
    rw [List.Nodup, List.pairwise_iff_getElem]
    intro i j hi hj hij e
    refine (hh j hj).2 ?_
    rw [← e, List.mem_take_iff_getElem]
    exact ⟨i, by omega, rfl⟩
  have := few m.toNat xs hd (by
    intro x hx
    obtain ⟨j, hj, rfl⟩ := List.getElem_of_mem hx
    have := (hh j hj).1
    omega)
  omega
/-- What both tell of a loop: the heights and metres of its sides, and a code. -/
def loopOf (m : Int) (ls : List M) (xs : List Int) : List Int × List Int × Int :=
  if okLines m ls = true then (if (allFrom (markOk m xs) 0 xs.length && decide ((xs.length : Int) ≥ 2)) = true then sidesOf ls xs 0 (fun a b => (a, b, (0 : Int))) ([], [], 3) else ([], [], 2)) else ([], [], 1)
theorem okLines_marks {m : Int} {ls : List M} (h : okLines m ls = true) : 2 ≤ m ∧ m ≤ 10 := by
  unfold okLines at h
  simp only [Bool.and_eq_true, decide_eq_true_eq] at h
  exact h.1
theorem specCode_ev (m : Int) (ls : List M) (xs : List Int) (hn : ls.length ≤ 9223372036854775807) (hx : xs.length ≤ 1048576) : Ev (fun k => spec_l26Code.f k m ls xs) (loopOf m ls xs) := by
  unfold spec_l26Code.f loopOf
  refine Ev.bindE (specOk_ev m ls hn) (Ev.ite (fun c => ?_) (fun c => ?_))
  · rw [if_pos c]
    refine Ev.bindE (specLoop_ev m xs (okLines_marks c) hx) (Ev.ite (fun d => ?_) (fun d => ?_))
    · rw [if_pos d]
      refine Ev.bindE (specSides_ev ls xs hn hx) ?_
      unfold sidesOf
      by_cases e : allFrom (sided ls xs) 0 xs.length = true
      · simp only [if_pos e]; exact Ev.ifPos trivial (Ev.const fun _ => rfl)
      · simp only [if_neg e]; exact Ev.ifNeg (by simp) (Ev.const fun _ => rfl)
    · rw [if_neg d]; exact Ev.const fun _ => rfl
  · rw [if_neg c]; exact Ev.const fun _ => rfl
theorem implCode_ev (m : Int) (ls : List M) (xs : List Int) (hn : ls.length ≤ 9223372036854775807) (hx : xs.length ≤ 1048576) : Ev (fun k => impl_loopOf.f k m ls xs) (loopOf m ls xs) := by
  unfold impl_loopOf.f loopOf
  refine Ev.bindE (implOk_ev m ls hn) (Ev.ite (fun c => ?_) (fun c => ?_))
  · rw [if_pos c]
    have hm := okLines_marks c
    refine Ev.ofEq (EvEq.now fun _ => rfl) ?_
    have h := implLoop_ev m ls xs hm hn hx
    by_cases d : allFrom (markOk m xs) 0 xs.length = true
    · have hf := loop_few m xs hm d
      rw [d, Bool.true_and]
      rw [if_pos d] at h
      by_cases e : (xs.length : Int) ≥ 2
      · rw [if_pos ⟨e, by omega⟩] at h; rw [if_pos (by simpa using e)]; exact h
      · rw [if_neg (by omega)] at h; rw [if_neg (by simpa using e)]; exact h
    · rw [if_neg d] at h
      rw [if_neg (by simp [d])]
      exact h
  · rw [if_neg c]; exact Ev.const fun _ => rfl
end Go.Proofs.Ytppfdndnojbmjaa.PLoop

/-! ## CInt64S -/
/- Generated by conv.py: what the laws' helpers do with values of type Int64S. No condition but the lengths that fit. -/
namespace Go.Proofs.Ytppfdndnojbmjaa.C
open Go.RowKit Go.Proofs.YtppfdndnojbmjaaW.PrintWords Go.Proofs.Ytppfdndnojbmjaa.X Go.Proofs.Ytppfdndnojbmjaa.B
def szv_Int64S (xs : List Int) : Int := (xs.length : Int)
theorem szv_Int64S_nonneg (xs : List Int) : 0 ≤ szv_Int64S xs := by unfold szv_Int64S; omega
theorem szv_Int64S_len (xs : List Int) : (xs.length : Int) ≤ szv_Int64S xs := Int.le_refl _
theorem to_Int64S (xs : List Int) (h : szv_Int64S xs ≤ 1048576) : Ev (fun k => laws_toInt64S.f k xs) (xs) :=
  Cv.plain (rdx := rd xs) (L := fun k ys i => laws_toInt64S.l0 k xs ys i) (by have := szv_Int64S_len xs; omega) (by have := szv_Int64S_len xs; omega) (fun i hi => rd_at hi) (fun _ _ _ => rfl)
def fit_Int64S (xs : List Int) : Prop := xs.length ≤ 9223372036854775807
theorem fitc_Int64S (xs : List Int) (h : szv_Int64S xs ≤ 1048576) : fit_Int64S xs := by
  have hl := szv_Int64S_len xs
  unfold fit_Int64S
  omega
theorem eq_Int64S (xs : List Int) (h : fit_Int64S xs) : Ev (fun k => laws_eqInt64S.f k xs xs) true :=
  Eq.flat (xs := xs) (P := fun i => (rd xs i) = (rd xs i)) (L := fun k i => laws_eqInt64S.l0 k xs xs i) h (fun _ => rfl) (fun _ _ => rfl)
end Go.Proofs.Ytppfdndnojbmjaa.C

/-! ## PureFnExactClosingOf -/
/- The plain law of ClosingOf: both tell the same closing error of a loop, or the same fault. For all rows of at most 1048576 elements (the law says nothing of longer ones). -/
namespace Go.Proofs.Ytppfdndnojbmjaa.Pure
open Go.RowKit Go.Proofs.YtppfdndnojbmjaaW.PrintWords Go.Proofs.Ytppfdndnojbmjaa.X Go.Proofs.Ytppfdndnojbmjaa.B Go.Proofs.Ytppfdndnojbmjaa.C Go.Proofs.Ytppfdndnojbmjaa.PLineOk Go.Proofs.Ytppfdndnojbmjaa.PSum Go.Proofs.Ytppfdndnojbmjaa.PLoop
def closing (m : Int) (ls : List M) (xs : List Int) : Int × Int := (sum64 0 (loopOf m ls xs).1, (loopOf m ls xs).2.2)
theorem loopOf_fault (m : Int) (ls : List M) (xs : List Int) (h : ¬ (loopOf m ls xs).2.2 = 0) : (loopOf m ls xs).1 = [] := by
  unfold loopOf sidesOf at *
  by_cases a : okLines m ls = true
  · rw [if_pos a] at h ⊢
    by_cases b : (allFrom (markOk m xs) 0 xs.length && decide ((xs.length : Int) ≥ 2)) = true
    · rw [if_pos b] at h ⊢
      by_cases c : allFrom (sided ls xs) 0 xs.length = true
      · rw [if_pos c] at h; exact absurd rfl h
      · rw [if_neg c]
    · rw [if_neg b]
  · rw [if_neg a]
theorem loopOf_len (m : Int) (ls : List M) (xs : List Int) (hx : xs.length ≤ 1048576) : (loopOf m ls xs).1.length ≤ 9223372036854775807 := by
  unfold loopOf sidesOf
  repeat' split
  all_goals simp [hs_len]
  omega
theorem specClosing_ev (m : Int) (ls : List M) (xs : List Int) (hn : ls.length ≤ 9223372036854775807) (hx : xs.length ≤ 1048576) : Ev (fun k => spec_ClosingOf.f k m ls xs) (closing m ls xs) := by
  unfold spec_ClosingOf.f closing
  refine Ev.bindE (specCode_ev m ls xs hn hx) (Ev.ite (fun c => ?_) (fun c => ?_))
  · rw [c]
    exact Ev.bindE (specSum_ev _ (loopOf_len m ls xs hx)) (Ev.const fun _ => rfl)
  · rw [loopOf_fault m ls xs c]
    exact Ev.const fun _ => rfl
theorem implClosing_ev (m : Int) (ls : List M) (xs : List Int) (hn : ls.length ≤ 9223372036854775807) (hx : xs.length ≤ 1048576) : Ev (fun k => impl_ClosingOf.f k m ls xs) (closing m ls xs) := by
  unfold impl_ClosingOf.f closing
  exact Ev.bindE (implCode_ev m ls xs hn hx) (Ev.bindE (implSum_ev _ (loopOf_len m ls xs hx)) (Ev.const fun _ => rfl))
theorem FnExactClosingOf : Say.FnExactClosingOf := by
  intro m ls xs hm hls hxs
  refine Ev.rounds ?_
  unfold laws_FnExactClosingOf.f
  refine Ev.ite (fun _ => Ev.const fun _ => rfl) (fun hx => ?_)
  refine Ev.bindE ((sz_LineS ls hls).2 _ (by omega) (by omega)) ?_
  by_cases h : szv_LineS ls ≤ 1048576
  · simp only [if_pos h]
    have tl := to_LineS ls h
    have fl := fitc_LineS ls h
    have hx' : szv_Int64S xs ≤ 1048576 := by unfold szv_Int64S; omega
    have tx := to_Int64S xs hx'
    have fx := fitc_Int64S xs hx'
    have hl : (ls.map c_Line).length ≤ 9223372036854775807 := fl
    refine Ev.ifNeg (by omega) (Ev.bindE tl (Ev.bindE tx (Ev.bindE (specClosing_ev m _ xs hl (by omega)) (Ev.bindE tl (Ev.bindE tx (Ev.bindE (implClosing_ev m _ xs hl (by omega)) (Ev.ifPos rfl ?_)))))))
    simp only [bne_self_eq_false]
    refine Ev.up (g := fun k => laws_FnExactClosingOf.j0 k ls xs (ls.map c_Line) xs false) ?_
    simp only [laws_FnExactClosingOf.j0]
    exact Ev.ifNeg (by simp) (Ev.bindE tl (Ev.bindE (eq_LineS _ fl) (Ev.ifPos rfl (Ev.bindE tx (Ev.bindE (eq_Int64S _ fx) (Ev.ifPos rfl (Ev.const fun _ => rfl)))))))
  · simp only [if_neg h]
    exact Ev.ifPos (by omega) (Ev.const fun _ => rfl)
end Go.Proofs.Ytppfdndnojbmjaa.Pure

/-! ## LawFnExactClosingOf -/
/- FnExactClosingOf: the law's row, out of its plain statement and the walks. -/
namespace Go.Proofs.Ytppfdndnojbmjaa.fnExactClosingOf
open Go.ChangeShapes Go.WideShapes Go.ChangeAt Go.RowKit Go.Proofs.Ytppfdndnojbmjaa.X
open Go.ChangeMaps (open_string shut_string)
theorem own : ownKnob Try.prog.godebug = none := by kernel_rfl
theorem laidOut : laidOutB Try.prog = true := by kernel_rfl
open Go.Proofs.YtppfdndnojbmjaaW.PrintWords in
theorem reader1 : Rdr.Reads Try.prog 22 (Kd.slice 60 k60) (Rdr.Lst (fun x : S60 => Rdr.I64 x.f0 ∧ (Rdr.I64 x.f1 ∧ (Rdr.I64 x.f2 ∧ (Rdr.I64 x.f3))))) := (Rdr.reads_slice Try.underlying22 (by kernel_rfl) (show Rdr.Reads Try.prog 60 k60 _ from Rdr.reads_iso (f := fun x : S60 => (x.f0, x.f1, x.f2, x.f3)) (fun a => ⟨a.1, a.2.1, a.2.2.1, a.2.2.2⟩) (fun _ => rfl) (Rdr.reads_struct Try.underlying60 (by kernel_rfl) (Rdr.freads_cons rfl (Rdr.reads_i64 Try.underlying2 (by kernel_rfl)) rfl (Rdr.freads_cons rfl (Rdr.reads_i64 Try.underlying2 (by kernel_rfl)) rfl (Rdr.freads_cons rfl (Rdr.reads_i64 Try.underlying2 (by kernel_rfl)) rfl (Rdr.freads_last rfl (Rdr.reads_i64 Try.underlying2 (by kernel_rfl)))))))))
open Go.Proofs.YtppfdndnojbmjaaW.PrintWords in
theorem reader2 : Rdr.Reads Try.prog 30 (Kd.slice 2 (Kd.int .i64)) (Rdr.Lst Rdr.I64) := (Rdr.reads_slice Try.underlying30 (by kernel_rfl) (Rdr.reads_i64 Try.underlying2 (by kernel_rfl)))
set_option maxRecDepth 100000 in
theorem lifted (os : Os) (started : os.Started) (H : Type) (enc : TypeId × Value → H) :
    ReturnsInHanded {} Try.checked os 6 .any (Rows.fnExactClosingOfSpec.pre6 enc Try.prog Try.f6 Rows.fnExactClosingOfRow.domain false) (Rows.fnExactClosingOfSpec.post enc Try.prog Try.f6 false true false false) := by
  refine returnsInHanded_of_change_sized (C := Try.checked) own started (by kernel_rfl) Try.func6
    (ChangeSpec.witness6 (enc := enc) (C := Try.checked) false ⟨#[], #[.int .i64 0, .slice none 0 0, .slice none 0 0], []⟩ 8 (by kernel_rfl) (by kernel_rfl) (by kernel_rfl) (by kernel_rfl)) ?_
  intro W base args ds gs before hval0 hW hcnd hsz0 _
  have hval : ∀ (j : Nat) t v, Try.f6.params[j]? = some t → args[j]? = some v → Value.okWide Try.prog W .any base t v := hval0
  have hW' := hW
  obtain ⟨p, q, hA0, hV, rfl, hfz, hnd⟩ := hW
  have hA : DataW.TrodAll enc Try.prog W 0 (fun _ => true) true Try.f6.params.toList args.toList ds p := hA0
  rw [Try.params6] at hA hval
  obtain ⟨v0, vs0, d0, ds0, p0, q0, hargs, rfl, rfl, h0, r0⟩ := trodAll_cons hA
  obtain ⟨v1, vs1, d1, ds1, p1, q1, rfl, rfl, rfl, h1, r1⟩ := trodAll_cons r0
  obtain ⟨v2, vs2, d2, ds2, p2, q2, rfl, rfl, rfl, h2, r2⟩ := trodAll_cons r1
  obtain ⟨rfl, rfl, rfl⟩ := trodAll_nil r2
  obtain rfl : args = #[v0, v1, v2] := by cases args; simp_all
  obtain ⟨rfl, rfl⟩ := trodVars_none hV
  obtain ⟨a0, rfl, rfl, rfl, w0⟩ := open_int Try.underlying2 (hval 0 2 v0 rfl rfl) h0
  have y0 : Rdr.I64 a0 := bounds_i64 w0
  have k1 := h1
  have lt1 : ∀ x ∈ p1, x.block < W.heap.size := by obtain ⟨m, hm⟩ := k1; exact DataW.trod_lt m _ _ _ hm
  obtain ⟨fuel1, hf1⟩ := h1
  obtain ⟨x1, hK1, w1⟩ := reader1.read hf1
  obtain ⟨a1, len1, cap1, rfl⟩ := okWide_slice Try.underlying22 (hval 1 22 v1 rfl rfl)
  obtain ⟨A1, c1, hcs1, hl1, hC1⟩ := hK1
  simp [Value.cells] at hcs1
  obtain ⟨rfl, rfl, rfl⟩ := hcs1
  have k2 := h2
  have lt2 : ∀ x ∈ p2, x.block < W.heap.size := by obtain ⟨m, hm⟩ := k2; exact DataW.trod_lt m _ _ _ hm
  obtain ⟨fuel2, hf2⟩ := h2
  obtain ⟨x2, hK2, w2⟩ := reader2.read hf2
  obtain ⟨a2, len2, cap2, rfl⟩ := okWide_slice Try.underlying30 (hval 2 30 v2 rfl rfl)
  obtain ⟨A2, c2, hcs2, hl2, hC2⟩ := hK2
  simp [Value.cells] at hcs2
  obtain ⟨rfl, rfl, rfl⟩ := hcs2
  clear hA0 hval0 hsz0
  obtain ⟨k, h⟩ := Pure.FnExactClosingOf a0 x1 x2 y0 w1 w2
  refine (laws_FnExactClosingOf.calls k a0 _ _ x1 _ _ x2 true W hC1 hl1 hC2 hl2 ⟨rfl⟩ h).mono fun e W' ⟨he, hd⟩ => ?_
  have bel : Below W.heap.size W W' := hd
  subst he
  exact ⟨_, rfl, _, _, _, [], _, [], hW', trodAll_mk1 (shut_bool Try.underlying4 _), (trodAll_cons_mk (shut_int Try.underlying2 w0) (trodAll_cons_mk (Below.trod laidOut (by kernel_rfl) (of_decide_eq_true (by kernel_rfl)) k1 bel lt1) (trodAll_cons_mk (Below.trod laidOut (by kernel_rfl) (of_decide_eq_true (by kernel_rfl)) k2 bel lt2) trodAll_mk0))), rfl, bel.frame _, fun h => by cases h⟩
theorem over : Rows.fnExactClosingOfRow.holds Try.pinned (OpenSpec.ofChange Rows.fnExactClosingOfSpec) :=
  OpenClaim.holds_of_wide 6 Try.f6 rfl rfl rfl rfl rfl rfl rfl ⟨rfl, rfl, rfl, rfl, rfl⟩ rfl rfl rfl rfl rfl (by kernel_rfl) Try.func6 (by kernel_rfl)
    (of_decide_eq_true (by kernel_rfl)) (by unfold Func.isWrapper; first | (rw [if_pos (by decide +kernel)]; kernel_rfl) | (rw [if_neg (by decide +kernel)]; exact ⟨rfl, rfl⟩))
    (fun os started H enc _ => lifted os started H enc)
theorem proved : Rows.FnExactClosingOfSaid := over
end Go.Proofs.Ytppfdndnojbmjaa.fnExactClosingOf
namespace Go.Proofs.Ytppfdndnojbmjaa
/-- The row, under a short name, for the claim. -/
theorem fnExactClosingOf_holds : Rows.FnExactClosingOfSaid := fnExactClosingOf.proved
end Go.Proofs.Ytppfdndnojbmjaa
