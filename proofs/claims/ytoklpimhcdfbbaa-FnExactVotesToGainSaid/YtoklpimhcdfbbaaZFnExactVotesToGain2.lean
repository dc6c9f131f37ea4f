/- The plain law of VotesToGain: both tell the same least number of votes, or the same fault. For all rows of at most 1048576 votes (the law says nothing of longer ones). -/
import Derived.Test.YtoklpimhcdfbbaaZFnExactVotesToGain0
import Derived.Test.YtoklpimhcdfbbaaZFnExactVotesToGain1
import Derived.Test.YtoklpimhcdfbbaaWWords
import Derived.Deep.Slices
import Derived.ChangeArms
import Derived.ProofKit
import Derived.OpenShut
import Derived.Test.YtoklpimhcdfbbaaRows
import Derived.WalkKit
import Derived.ShutString
import Derived.ChangeOld
import Derived.Below
import Derived.SizedLaws
set_option linter.unusedVariables false
set_option linter.unusedSimpArgs false

/-! ## XLawsFnExactVotesToGain -/
namespace Go.Proofs.Ytoklpimhcdfbbaa.X
open Go.RowKit Go.Proofs.Ytoklpimhcdfbbaa.XV Go.Proofs.YtoklpimhcdfbbaaW.PrintWords Go.Proofs.YtoklpimhcdfbbaaW.PrintLast Go.Proofs.YtoklpimhcdfbbaaW.PrintMore
attribute [local go_sem] max2_int min2_int max_two min_two max_three min_three max_four min_four

/-! ### laws_FnExactVotesToGain: function 4 -/
def laws_FnExactVotesToGain.j0 : Nat → List Int → List Int → Bool → Option (Bool)
 | 0, _, _, _ => none
 | k + 1, x0, x11, x43 => if x43 = true then (some false) else ((laws_toInt64S.f k x0).bind fun t249 => ((laws_eqInt64S.f k x11 t249).bind fun t252 => (if t252 = true then (some true) else (some false))))
def laws_FnExactVotesToGain.f (k : Nat) (l0 : List Int) (a1 : Int) (a2 : Int) (a3 : Int) : Option (Bool) := if (l0.length : Int) > 1048576 then (some true) else ((laws_toInt64S.f k l0).bind fun t239 => ((spec_VotesToGain.f k t239 a1 a2 a3).bind fun bt242 => ((laws_toInt64S.f k l0).bind fun t244 => ((impl_VotesToGain.f k t244 a1 a2 a3).bind fun bt247 => (if bt247.1 = bt242.1 then (laws_FnExactVotesToGain.j0 k l0 t244 (bt247.2 != bt242.2)) else (laws_FnExactVotesToGain.j0 k l0 t244 true))))))
theorem laws_FnExactVotesToGain.mono_l : ∀ k, (∀ y0 y1 y2, LeO (laws_FnExactVotesToGain.j0 k y0 y1 y2) (laws_FnExactVotesToGain.j0 (k + 1) y0 y1 y2))
 | 0 => fun _ _ _ r h => by simp [laws_FnExactVotesToGain.j0] at h
 | k + 1 => by
  have ih0 := laws_FnExactVotesToGain.mono_l k
  ·intro y0 y1 y2
   unfold laws_FnExactVotesToGain.j0
   repeat' first
   | (with_reducible exact ih0 _ _ _)
   | (with_reducible exact impl_VotesToGain.mono _ _ _ _ _)
   | (with_reducible exact laws_eqInt64S.mono _ _ _)
   | (with_reducible exact laws_toInt64S.mono _ _)
   | (with_reducible exact spec_VotesToGain.mono _ _ _ _ _)
   | (with_reducible exact LeO.refl _)
   | (with_reducible exact LeO.none _)
   | (with_reducible refine LeO.ite ?_ ?_)
   | (with_reducible refine LeO.bind ?_ (fun _ => ?_))
   | exact ih0 _ _ _
   | exact impl_VotesToGain.mono _ _ _ _ _
   | exact laws_eqInt64S.mono _ _ _
   | exact laws_toInt64S.mono _ _
   | exact spec_VotesToGain.mono _ _ _ _ _
   | exact LeO.none _
   | refine LeO.ite ?_ ?_
   | refine LeO.bind ?_ (fun _ => ?_)
theorem laws_FnExactVotesToGain.mono : ∀ a0 a1 a2 a3 k, LeO (laws_FnExactVotesToGain.f k a0 a1 a2 a3) (laws_FnExactVotesToGain.f (k + 1) a0 a1 a2 a3) := by
 intro a0 a1 a2 a3 k
 have ih0 := laws_FnExactVotesToGain.mono_l k
 unfold laws_FnExactVotesToGain.f
 repeat' first
   | (with_reducible exact ih0 _ _ _)
   | (with_reducible exact impl_VotesToGain.mono _ _ _ _ _)
   | (with_reducible exact laws_eqInt64S.mono _ _ _)
   | (with_reducible exact laws_toInt64S.mono _ _)
   | (with_reducible exact spec_VotesToGain.mono _ _ _ _ _)
   | (with_reducible exact LeO.refl _)
   | (with_reducible exact LeO.none _)
   | (with_reducible refine LeO.ite ?_ ?_)
   | (with_reducible refine LeO.bind ?_ (fun _ => ?_))
   | exact ih0 _ _ _
   | exact impl_VotesToGain.mono _ _ _ _ _
   | exact laws_eqInt64S.mono _ _ _
   | exact laws_toInt64S.mono _ _
   | exact spec_VotesToGain.mono _ _ _ _ _
   | exact LeO.none _
   | refine LeO.ite ?_ ?_
   | refine LeO.bind ?_ (fun _ => ?_)
set_option maxHeartbeats 8000000 in
set_option maxRecDepth 100000 in
theorem laws_FnExactVotesToGain.calls (k : Nat) (A0 : Option Addr) (c0 : Nat) (l0 : List Int) (a1 : Int) (a2 : Int) (a3 : Int) (r : Bool) (w : World) (hr0 : Kd.C (Kd.int .i64) w A0 l0.length l0) (hc0 : l0.length ≤ c0) (hr_ : Aside0 (r = true)) (h : laws_FnExactVotesToGain.f k l0 a1 a2 a3 = some r) :
  Calls Try.prog 4 #[.slice A0 l0.length c0, .int .i64 a1, .int .i64 a2, .int .i64 a3] w fun e w' => e = .returned (.bool r) ∧ Below w.heap.size w w' := by
 have HR0 := Aside0.mk hr0
 have HC0 := Aside0.mk hc0
 clear hr0 hc0
 have HB := Aside0.mk (Below.refl w.heap.size w)
 have H : (if (l0.length : Int) > 1048576 then (some true) else ((laws_toInt64S.f k l0).bind fun t239 => ((spec_VotesToGain.f k t239 a1 a2 a3).bind fun bt242 => ((laws_toInt64S.f k l0).bind fun t244 => ((impl_VotesToGain.f k t244 a1 a2 a3).bind fun bt247 => (if bt247.1 = bt242.1 then (laws_FnExactVotesToGain.j0 k l0 t244 (bt247.2 != bt242.2)) else (laws_FnExactVotesToGain.j0 k l0 t244 true))))))) = some r := h
 clear h
 by_cases c5 : (l0.length : Int) > 1048576
 ·rw [if_pos c5] at H
  have c5b0 : decide (1048576 < (l0.length : Int)) = true := decide_eq_true c5
  have c5b1 : decide (1048576 < l0.length) = true := decide_eq_true (by omega)
  clear c5
  obtain rfl := Option.some.inj H
  go_enter Try.func4, Try.ntmps4
  go_wp2
  go_ret
  exact ⟨by first | rfl | (simp [errW_none, errW_some] <;> rfl) | (simp [*, errW_none, errW_some] <;> rfl), by repeat (first | (with_reducible first | exact HB.out | apply below_alloc | apply pw_below_drewN | apply below_drew1) | exact HB.out)⟩
 ·rw [if_neg c5] at H
  have c5b0 : decide (1048576 < (l0.length : Int)) = false := decide_eq_false c5
  have c5b1 : decide (1048576 < l0.length) = false := decide_eq_false (by omega)
  clear c5
  replace H := Option.bind_eq_some_iff.mp H
  obtain ⟨t239, A60, H⟩ := H
  replace H : ((spec_VotesToGain.f k t239 a1 a2 a3).bind fun bt242 => ((laws_toInt64S.f k l0).bind fun t244 => ((impl_VotesToGain.f k t244 a1 a2 a3).bind fun bt247 => (if bt247.1 = bt242.1 then (laws_FnExactVotesToGain.j0 k l0 t244 (bt247.2 != bt242.2)) else (laws_FnExactVotesToGain.j0 k l0 t244 true))))) = some r := H
  have A6 := Aside0.mk A60
  clear A60
  replace H := Option.bind_eq_some_iff.mp H
  obtain ⟨⟨t242, t243⟩, A70, H⟩ := H
  replace H : ((laws_toInt64S.f k l0).bind fun t244 => ((impl_VotesToGain.f k t244 a1 a2 a3).bind fun bt247 => (if bt247.1 = t242 then (laws_FnExactVotesToGain.j0 k l0 t244 (bt247.2 != t243)) else (laws_FnExactVotesToGain.j0 k l0 t244 true)))) = some r := H
  have A7 := Aside0.mk A70
  clear A70
  replace H := Option.bind_eq_some_iff.mp H
  obtain ⟨t244, A80, H⟩ := H
  replace H : ((impl_VotesToGain.f k t244 a1 a2 a3).bind fun bt247 => (if bt247.1 = t242 then (laws_FnExactVotesToGain.j0 k l0 t244 (bt247.2 != t243)) else (laws_FnExactVotesToGain.j0 k l0 t244 true))) = some r := H
  have A8 := Aside0.mk A80
  clear A80
  replace H := Option.bind_eq_some_iff.mp H
  obtain ⟨⟨t247, t248⟩, A90, H⟩ := H
  replace H : (if t247 = t242 then (laws_FnExactVotesToGain.j0 k l0 t244 (t248 != t243)) else (laws_FnExactVotesToGain.j0 k l0 t244 true)) = some r := H
  have A9 := Aside0.mk A90
  clear A90
  have HC10 := Aside0.mk H
  clear H
  go_enter Try.func4, Try.ntmps4
  go_upto_region 6 with (first | ((with_reducible refine gate_callee (f := 21) rfl ?_); refine goesL_ (some 19) rfl rfl Try.func21 (by kernel_rfl) rfl #[.slice A0 l0.length c0] rfl (by (try simp only [List.map_toArray, List.map_cons, List.map_nil]); first | done | rfl | (simp only [List.length_drop, List.length_take]; rfl)) ?_; (with_reducible refine (laws_toInt64S.calls k _ _ l0 t239 _ ?side1 ?side2 A6.out).mono ?_); (case side1 => repeat (first | exact HR0.out | (with_reducible refine Kd.C_alloc ?_ _) | (with_reducible refine Kd.C_drewN ?_ _) | (with_reducible refine Kd.C_drew ?_))); (case side2 => exact HC0.out); rintro e w11 ⟨v240, rfl, ho0, hb⟩; refine ⟨_, rfl, ?_⟩; have n0_ := Aside0.mk (Kd.R_lower ho0 (below_size (by repeat (first | (with_reducible first | exact HB.out | apply below_alloc | apply pw_below_drewN | apply below_drew1) | exact HB.out)))); have n1_ := Aside0.mk (below_step (by repeat (first | (with_reducible first | exact HB.out | apply below_alloc | apply pw_below_drewN | apply below_drew1) | exact HB.out)) hb); clear HB; have HO241 := n0_; have HB := n1_; clear n0_ n1_; (try clear hb); (try clear hb2); (try clear hk); (try clear hi); (try clear ho0); obtain ⟨Ao12, co12, eo12⟩ := Kd.R_slice HO241.out; subst eo12) | ((with_reducible refine gate_callee (f := 20) rfl ?_); refine goesL_ (some 23) rfl rfl Try.func20 (by kernel_rfl) rfl #[.slice Ao12 t239.length co12, .int .i64 a1, .int .i64 a2, .int .i64 a3] rfl (by (try simp only [List.map_toArray, List.map_cons, List.map_nil]); first | done | rfl | (simp only [List.length_drop, List.length_take]; rfl)) ?_; (with_reducible refine (spec_VotesToGain.calls k _ _ t239 a1 a2 a3 t242 t243 _ ?side1 ?side2 A7.out).mono ?_); (case side1 => repeat (first | exact (Kd.R_reads' HO241.out).2.2 | (with_reducible refine Kd.C_alloc ?_ _) | (with_reducible refine Kd.C_drewN ?_ _) | (with_reducible refine Kd.C_drew ?_))); (case side2 => exact (Kd.R_reads' HO241.out).2.1); rintro e w13 ⟨rfl, hb⟩; refine ⟨_, rfl, ?_⟩; have n0_ := Aside0.mk (Kd.R_below (by (with_reducible repeat (first | apply Kd.R_alloc | apply Kd.R_drewN | apply Kd.R_drew)); exact HO241.out) hb); have n1_ := Aside0.mk (below_step (by repeat (first | (with_reducible first | exact HB.out | apply below_alloc | apply pw_below_drewN | apply below_drew1) | exact HB.out)) hb); clear HO241; clear HB; have HO241 := n0_; have HB := n1_; clear n0_ n1_; (try clear hb); (try clear hb2); (try clear hk); (try clear hi)) | ((with_reducible refine gate_callee (f := 21) rfl ?_); refine goesL_ (some 27) rfl rfl Try.func21 (by kernel_rfl) rfl #[.slice A0 l0.length c0] rfl (by (try simp only [List.map_toArray, List.map_cons, List.map_nil]); first | done | rfl | (simp only [List.length_drop, List.length_take]; rfl)) ?_; (with_reducible refine (laws_toInt64S.calls k _ _ l0 t244 _ ?side1 ?side2 A8.out).mono ?_); (case side1 => repeat (first | exact (Kd.C_below HR0.out HB.out) | (with_reducible refine Kd.C_alloc ?_ _) | (with_reducible refine Kd.C_drewN ?_ _) | (with_reducible refine Kd.C_drew ?_))); (case side2 => exact HC0.out); rintro e w14 ⟨v245, rfl, ho0, hb⟩; refine ⟨_, rfl, ?_⟩; have n0_ := Aside0.mk (Kd.R_elder' (by (with_reducible repeat (first | apply Kd.R_alloc | apply Kd.R_drewN | apply Kd.R_drew)); exact HO241.out) (Kd.R_base ho0) hb); have n1_ := Aside0.mk (Kd.R_lower (Kd.R_new' ho0 (Kd.R_lt (by (with_reducible repeat (first | apply Kd.R_alloc | apply Kd.R_drewN | apply Kd.R_drew)); exact HO241.out))) (below_size (by repeat (first | (with_reducible first | exact HB.out | apply below_alloc | apply pw_below_drewN | apply below_drew1) | exact HB.out)))); have n2_ := Aside0.mk (below_step (by repeat (first | (with_reducible first | exact HB.out | apply below_alloc | apply pw_below_drewN | apply below_drew1) | exact HB.out)) hb); clear HO241; clear HB; have HO241 := n0_; have HO246 := n1_; have HB := n2_; clear n0_ n1_ n2_; (try clear hb); (try clear hb2); (try clear hk); (try clear hi); (try clear ho0); obtain ⟨Ao15, co15, eo15⟩ := Kd.R_slice HO246.out; subst eo15) | ((with_reducible refine gate_callee (f := 22) rfl ?_); refine goesL_ (some 33) rfl rfl Try.func22 (by kernel_rfl) rfl #[.slice Ao15 t244.length co15, .int .i64 a1, .int .i64 a2, .int .i64 a3] rfl (by (try simp only [List.map_toArray, List.map_cons, List.map_nil]); first | done | rfl | (simp only [List.length_drop, List.length_take]; rfl)) ?_; (with_reducible refine (impl_VotesToGain.calls k _ _ t244 a1 a2 a3 t247 t248 _ ?side1 ?side2 A9.out).mono ?_); (case side1 => repeat (first | exact (Kd.R_reads' HO246.out).2.2 | (with_reducible refine Kd.C_alloc ?_ _) | (with_reducible refine Kd.C_drewN ?_ _) | (with_reducible refine Kd.C_drew ?_))); (case side2 => exact (Kd.R_reads' HO246.out).2.1); rintro e w16 ⟨rfl, hb⟩; refine ⟨_, rfl, ?_⟩; have n0_ := Aside0.mk (Kd.R_below (by (with_reducible repeat (first | apply Kd.R_alloc | apply Kd.R_drewN | apply Kd.R_drew)); exact HO241.out) hb); have n1_ := Aside0.mk (Kd.R_below (by (with_reducible repeat (first | apply Kd.R_alloc | apply Kd.R_drewN | apply Kd.R_drew)); exact HO246.out) hb); have n2_ := Aside0.mk (below_step (by repeat (first | (with_reducible first | exact HB.out | apply below_alloc | apply pw_below_drewN | apply below_drew1) | exact HB.out)) hb); clear HO241; clear HO246; clear HB; have HO241 := n0_; have HO246 := n1_; have HB := n2_; clear n0_ n1_ n2_; (try clear hb); (try clear hb2); (try clear hk); (try clear hi)))
  (try simp only [Act.put, List.setIfInBounds_toArray, List.set_cons_zero, List.set_cons_succ])
  go_cut [43] (fun v43 wc => ∃ (kq : Nat) (x43_9 : Bool), v43 = .bool x43_9 ∧ Aside0 (laws_FnExactVotesToGain.j0 kq l0 t244 x43_9 = some r) ∧ Aside0 (kq ≤ k) ∧ Aside0 (Kd.R (Kd.int .i64) 2 wc w.heap.size (fun _ => True) (.slice Ao15 t244.length co15) t244) ∧ Aside0 (Below w.heap.size w wc))
  case first =>
   have H := HC10.out
   clear HC10
   by_cases c17 : t247 = t242
   ·rw [if_pos c17] at H
    have c17b0 : (t247 == t242) = true := beq_iff_eq.mpr c17
    have c17b1 : (t247 != t242) = false := bne_eq_false_iff_eq.mpr c17
    clear c17
    (first | rw [c17b0] | (simp only [i64_w, i32_w]; rw [c17b0]) | skip)
    have H' := Aside0.mk H
    clear H
    go_wp2
    go_meet
    case rel => exact ⟨_, ((t248 != t243)), (by first | rfl | (simp; done) | (simp [*]; done)), H', ⟨by first | omega | exact Nat.le_refl _⟩, ⟨by (with_reducible repeat (first | apply Kd.R_alloc | apply Kd.R_drewN | apply Kd.R_drew)); exact Kd.R_mono HO246.out (fun _ hk => trivial)⟩, ⟨by repeat (first | (with_reducible first | exact HB.out | apply below_alloc | apply pw_below_drewN | apply below_drew1) | exact HB.out)⟩⟩
   ·rw [if_neg c17] at H
    have c17b0 : (t247 == t242) = false := beq_eq_false_iff_ne.mpr c17
    have c17b1 : (t247 != t242) = true := bne_iff_ne.mpr c17
    (first | rw [c17b0] | (simp only [i64_w, i32_w]; rw [c17b0]) | skip)
    have H' := Aside0.mk H
    clear H
    go_wp2
    go_meet
    case rel => exact ⟨_, (true), (by first | rfl | (simp; done) | (simp [*]; done)), H', ⟨by first | omega | exact Nat.le_refl _⟩, ⟨by (with_reducible repeat (first | apply Kd.R_alloc | apply Kd.R_drewN | apply Kd.R_drew)); exact Kd.R_mono HO246.out (fun _ hk => trivial)⟩, ⟨by repeat (first | (with_reducible first | exact HB.out | apply below_alloc | apply pw_below_drewN | apply below_drew1) | exact HB.out)⟩⟩
  case rest =>
   clear HC10
   try clear c1
   try clear c2
   try clear p2
   try clear c4
   try clear c5
   try clear c5b0
   try clear c5b1
   try clear c17
   try clear c17b0
   try clear c17b1
   obtain ⟨kq, x43_9, rfl, HA, HJ9, HO_11, HB⟩ := hcut
   cases kq with
   | zero => exact absurd HA.out (by simp [laws_FnExactVotesToGain.j0])
   | succ kj9 =>
    have H := HA.out
    clear HA
    simp only [laws_FnExactVotesToGain.j0] at H
    by_cases c18 : x43_9 = true
    ·subst c18
     have H1 : (some false) = some r := by rw [if_pos rfl] at H; exact H
     clear H
     have H := H1
     clear H1
     exact absurd (Option.some.inj H) (by rw [hr_.out]; decide)
    ·replace c18 := Bool.eq_false_iff.mpr c18
     subst c18
     have H1 : ((laws_toInt64S.f kj9 l0).bind fun t249 => ((laws_eqInt64S.f kj9 t244 t249).bind fun t252 => (if t252 = true then (some true) else (some false)))) = some r := by rw [if_neg (show ¬ (false = true) by decide)] at H; exact H
     clear H
     have H := H1
     clear H1
     replace H := Option.bind_eq_some_iff.mp H
     obtain ⟨t249, A190, H⟩ := H
     replace H : ((laws_eqInt64S.f kj9 t244 t249).bind fun t252 => (if t252 = true then (some true) else (some false))) = some r := H
     have A19 := Aside0.mk A190
     clear A190
     replace H := Option.bind_eq_some_iff.mp H
     obtain ⟨t252, A200, H⟩ := H
     replace H : (if t252 = true then (some true) else (some false)) = some r := H
     have A20 := Aside0.mk A200
     clear A200
     by_cases c21 : t252 = true
     ·subst c21
      have H1 : (some true) = some r := by rw [if_pos rfl] at H; exact H
      clear H
      have H := H1
      clear H1
      obtain rfl := Option.some.inj H
      go_wp2_with (first | ((with_reducible refine gate_callee (f := 21) rfl ?_); refine goesL_ (some 46) rfl rfl Try.func21 (by kernel_rfl) rfl #[.slice A0 l0.length c0] rfl (by (try simp only [List.map_toArray, List.map_cons, List.map_nil]); first | done | rfl | (simp only [List.length_drop, List.length_take]; rfl)) ?_; (with_reducible refine (laws_toInt64S.calls kj9 _ _ l0 t249 _ ?side1 ?side2 A19.out).mono ?_); (case side1 => repeat (first | exact (Kd.C_below HR0.out HB.out) | (with_reducible refine Kd.C_alloc ?_ _) | (with_reducible refine Kd.C_drewN ?_ _) | (with_reducible refine Kd.C_drew ?_))); (case side2 => exact HC0.out); rintro e w22 ⟨v250, rfl, ho0, hb⟩; refine ⟨_, rfl, ?_⟩; have n0_ := Aside0.mk (Kd.R_elder' (by (with_reducible repeat (first | apply Kd.R_alloc | apply Kd.R_drewN | apply Kd.R_drew)); exact HO_11.out) (Kd.R_base ho0) hb); have n1_ := Aside0.mk (Kd.R_lower (Kd.R_new' ho0 (Kd.R_lt (by (with_reducible repeat (first | apply Kd.R_alloc | apply Kd.R_drewN | apply Kd.R_drew)); exact HO_11.out))) (below_size (by repeat (first | (with_reducible first | exact HB.out | apply below_alloc | apply pw_below_drewN | apply below_drew1) | exact HB.out)))); have n2_ := Aside0.mk (below_step (by repeat (first | (with_reducible first | exact HB.out | apply below_alloc | apply pw_below_drewN | apply below_drew1) | exact HB.out)) hb); clear HO_11; clear HB; have HO_11 := n0_; have HO251 := n1_; have HB := n2_; clear n0_ n1_ n2_; (try clear hb); (try clear hb2); (try clear hk); (try clear hi); (try clear ho0); obtain ⟨Ao23, co23, eo23⟩ := Kd.R_slice HO251.out; subst eo23) | ((with_reducible refine gate_callee (f := 23) rfl ?_); refine goesL_ (some 47) rfl rfl Try.func23 (by kernel_rfl) rfl #[.slice Ao15 t244.length co15, .slice Ao23 t249.length co23] rfl (by (try simp only [List.map_toArray, List.map_cons, List.map_nil]); first | done | rfl | (simp only [List.length_drop, List.length_take]; rfl)) ?_; (with_reducible refine (laws_eqInt64S.calls kj9 _ _ t244 _ _ t249 true _ ?side1 ?side2 ?side3 ?side4 A20.out).mono ?_); (case side1 => repeat (first | exact (Kd.R_reads' HO_11.out).2.2 | (with_reducible refine Kd.C_alloc ?_ _) | (with_reducible refine Kd.C_drewN ?_ _) | (with_reducible refine Kd.C_drew ?_))); (case side2 => exact (Kd.R_reads' HO_11.out).2.1); (case side3 => repeat (first | exact (Kd.R_reads' HO251.out).2.2 | (with_reducible refine Kd.C_alloc ?_ _) | (with_reducible refine Kd.C_drewN ?_ _) | (with_reducible refine Kd.C_drew ?_))); (case side4 => exact (Kd.R_reads' HO251.out).2.1); rintro e w' ⟨rfl, ⟨nd, rfl⟩⟩; refine ⟨_, rfl, ?_⟩))
      go_ret
      exact ⟨by first | rfl | (simp [errW_none, errW_some] <;> rfl) | (simp [*, errW_none, errW_some] <;> rfl), by repeat (first | (with_reducible first | exact HB.out | apply below_alloc | apply pw_below_drewN | apply below_drew1) | exact HB.out)⟩
     ·replace c21 := Bool.eq_false_iff.mpr c21
      subst c21
      have H1 : (some false) = some r := by rw [if_neg (show ¬ (false = true) by decide)] at H; exact H
      clear H
      have H := H1
      clear H1
      exact absurd (Option.some.inj H) (by rw [hr_.out]; decide)

end Go.Proofs.Ytoklpimhcdfbbaa.X

/-! ## Rdr -/
/- How an argument that reads as data is given to the printed functions: whole numbers, bools, strings, slices and structs of these, of whatever depth. No condition. -/
namespace Go.Proofs.Ytoklpimhcdfbbaa.Rdr
open Go.ChangeShapes Go.WideShapes Go.Deep Go.Proofs.YtoklpimhcdfbbaaW.PrintWords

def I64 (n : Int) : Prop := -9223372036854775808 ≤ n ∧ n ≤ 9223372036854775807
def Str (s : ByteArray) : Prop := s.size ≤ 9223372036854775807
def Lst {α : Type} (Wf : α → Prop) (xs : List α) : Prop := xs.length ≤ 9223372036854775807 ∧ ∀ x ∈ xs, Wf x

structure Reads (P : Program) (t : TypeId) {α : Type} (κ : Kd α) (Wf : α → Prop) : Prop where
  size : P.cellsOf t = κ.sz
  read : ∀ {H : Type} {enc : TypeId × Value → H} {W : World} {base : Nat} {spare : Nat → Bool} {held : Bool} {fuel : Nat} {cs : List Value} {x : DataW H × List MemPlace}, DataW.trod enc P W base spare held fuel t cs = some x → ∃ a, κ.K W a cs ∧ Wf a

theorem reads_i64 {P : Program} {t : TypeId} (ht : P.underlying t = some (.int .i64)) (hc : P.cellsOf t = 1) : Reads P t (Kd.int .i64) I64 := by
  refine ⟨hc, ?_⟩
  intro H enc W base spare held fuel cs x h
  obtain ⟨n, rfl, _, hw⟩ := DataW.trod_int ht h
  refine ⟨n, rfl, ?_⟩
  have hb := bounds_i64 hw
  unfold I64
  omega
theorem reads_bool {P : Program} {t : TypeId} (ht : P.underlying t = some .bool) (hc : P.cellsOf t = 1) : Reads P t Kd.bool (fun _ => True) := by
  refine ⟨hc, ?_⟩
  intro H enc W base spare held fuel cs x h
  obtain ⟨b, rfl, _⟩ := DataW.trod_bool ht h
  exact ⟨b, rfl, trivial⟩
theorem reads_str {P : Program} {t : TypeId} (ht : P.underlying t = some .string) (hc : P.cellsOf t = 1) : Reads P t Kd.string Str := by
  refine ⟨hc, ?_⟩
  intro H enc W base spare held fuel cs x h
  obtain ⟨s, rfl, _, hs⟩ := DataW.trod_string ht h
  exact ⟨s, rfl, hs⟩

theorem choose_any {α : Type} {n : Nat} {p : Nat → α → Prop} (h : ∀ i, i < n → ∃ x, p i x) : ∃ l : List α, l.length = n ∧ ∀ (j : Nat) (x : α), l[j]? = some x → p j x := by
  induction n with
  | zero => exact ⟨[], rfl, fun j x hj => by simp at hj⟩
  | succ n ih =>
    obtain ⟨l, hl, hp⟩ := ih (fun i hi => h i (by omega))
    obtain ⟨x, hx⟩ := h n (by omega)
    refine ⟨l ++ [x], by simp [hl], fun j y hj => ?_⟩
    rcases Nat.lt_or_ge j l.length with hj' | hj'
    · rw [List.getElem?_append_left hj'] at hj
      exact hp j y hj
    · have := (List.getElem?_eq_some_iff.1 hj).1
      rw [List.length_append, List.length_singleton] at this
      have e : j = l.length := by omega
      subst e
      have e2 : x = y := by simpa using hj
      subst e2
      rw [hl]
      exact hx

theorem reads_slice {P : Program} {t e : TypeId} {α : Type} {κ : Kd α} {Wf : α → Prop} (ht : P.underlying t = some (.slice e)) (hc : P.cellsOf t = 1) (he : Reads P e κ Wf) : Reads P t (Kd.slice e κ) (Lst Wf) := by
  refine ⟨hc, ?_⟩
  intro H enc W base spare held fuel cs x h
  rcases open_slice ht h with ⟨rfl, _⟩ | ⟨a, len, cap, m, n, D, Pl, rfl, hb, hl, hm, hmm, _, hx⟩
  · exact ⟨[], ⟨none, 0, rfl, Nat.le_refl _, rfl, by simp, fun h => by simp at h⟩, by simp [Lst]⟩
  · have hlm : len ≤ m := by rw [hmm]; split <;> omega
    obtain ⟨l, hll, hp⟩ := choose_any (α := α) (n := len) (p := fun i x => Wf x ∧ ∃ c, c.length = κ.sz ∧ κ.K W x c ∧ ∀ j u, c[j]? = some u → W.cell? (a.add (i * κ.sz + j)) = some u) (by
      intro i hi
      obtain ⟨c, hcells, htr⟩ := hx i (by omega)
      obtain ⟨y, hy, hw⟩ := he.read htr
      rw [he.size] at hcells
      obtain ⟨_, hlen, hcell⟩ := World.cells?_some hcells
      refine ⟨y, hw, c, hlen, hy, fun j u hj => ?_⟩
      have hjl := (List.getElem?_eq_some_iff.1 hj).1
      rw [← Go.Deep.add_add, hcell j (by omega)]
      exact hj)
    have hml : maxLen = 9223372036854775807 := by unfold maxLen; rfl
    refine ⟨l, ⟨some a, cap, by rw [hll], by omega, rfl, by omega, fun _ => ⟨a, rfl, fun j p hj => ?_⟩⟩, by omega, fun x hx' => ?_⟩
    · obtain ⟨_, c, h1, h2, h3⟩ := hp j p hj
      exact ⟨c, h1, h2, h3⟩
    · obtain ⟨j, hj⟩ := List.getElem?_of_mem hx'
      exact (hp j x hj).1

/-! The fields of a struct, from one on. -/
structure FReads (P : Program) (fs : List Field) (off : Nat) {α : Type} (κ : Kd α) (Wf : α → Prop) : Prop where
  read : ∀ {H : Type} {enc : TypeId × Value → H} {W : World} {base : Nat} {spare : Nat → Bool} {held : Bool} {n : Nat} (cs : List Value) (ys : List (DataW H × List MemPlace)), ys.length = fs.length →
    (∀ (i : Nat) (f : Field), fs[i]? = some f → DataW.trod enc P W base spare held n f.type ((cs.drop f.offset).take (P.cellsOf f.type)) = ys[i]?) → off + κ.sz = cs.length → ∃ a, κ.K W a (cs.drop off) ∧ Wf a

theorem freads_last {P : Program} {f : Field} {α : Type} {κ : Kd α} {Wf : α → Prop} {off : Nat} (ho : f.offset = off) (h : Reads P f.type κ Wf) : FReads P [f] off κ Wf := by
  constructor
  intro H enc W base spare held n cs ys hl hf hs
  have h0 := hf 0 f rfl
  have hy : 0 < ys.length := by rw [hl]; simp
  rw [List.getElem?_eq_getElem hy, ho, h.size, List.take_of_length_le (by rw [List.length_drop]; omega)] at h0
  exact h.read h0
theorem freads_cons {P : Program} {f : Field} {fs : List Field} {α β : Type} {κ : Kd α} {κ' : Kd β} {Wf : α → Prop} {Wf' : β → Prop} {off off' : Nat} (ho : f.offset = off) (h : Reads P f.type κ Wf) (hoff : off' = off + κ.sz) (h' : FReads P fs off' κ' Wf') :
    FReads P (f :: fs) off (Kd.pair κ κ') (fun x => Wf x.1 ∧ Wf' x.2) := by
  constructor
  intro H enc W base spare held n cs ys hl hf hs
  have hs' : off + (κ.sz + κ'.sz) = cs.length := hs
  have h0 := hf 0 f rfl
  have hy : 0 < ys.length := by rw [hl]; simp
  rw [List.getElem?_eq_getElem hy, ho, h.size] at h0
  obtain ⟨a, ha, hwa⟩ := h.read h0
  obtain ⟨b, hb, hwb⟩ := h'.read (H := H) (enc := enc) (W := W) (base := base) (spare := spare) (held := held) (n := n) cs ys.tail (by rw [List.length_tail, hl]; simp) (fun i g hg => by
    rw [List.getElem?_tail]
    exact hf (i + 1) g (by simpa using hg)) (by omega)
  refine ⟨(a, b), ⟨(cs.drop off).take κ.sz, cs.drop off', ?_, ha, hb⟩, hwa, hwb⟩
  rw [hoff, ← List.drop_drop, List.take_append_drop]
theorem reads_struct {P : Program} {t : TypeId} {fs : Array Field} {α : Type} {κ : Kd α} {Wf : α → Prop} (ht : P.underlying t = some (.struct fs)) (hc : P.cellsOf t = κ.sz) (h : FReads P fs.toList 0 κ Wf) : Reads P t κ Wf := by
  refine ⟨hc, ?_⟩
  intro H enc W base spare held fuel cs x hx
  obtain ⟨ys, n, _, _, hl, hyl, hf⟩ := DataW.trod_struct ht hx
  obtain ⟨a, ha, hw⟩ := h.read (H := H) (enc := enc) (W := W) (base := base) (spare := spare) (held := held) (n := n) cs ys (by simpa using hyl) (fun i f hi => hf i f (by simpa using hi)) (by rw [hl, hc]; omega)
  exact ⟨a, ha, hw⟩
theorem reads_iso {P : Program} {t : TypeId} {α β : Type} {κ : Kd α} {Wf : α → Prop} {f : β → α} (g : α → β) (hg : ∀ a, f (g a) = a) (h : Reads P t κ Wf) : Reads P t (Kd.iso κ f) (fun x => Wf (f x)) := by
  refine ⟨h.size, ?_⟩
  intro H enc W base spare held fuel cs x hx
  obtain ⟨a, ha, hw⟩ := h.read hx
  refine ⟨g a, ?_, ?_⟩
  · show κ.K W (f (g a)) cs
    rw [hg]
    exact ha
  · show Wf (f (g a))
    rw [hg]
    exact hw

end Go.Proofs.Ytoklpimhcdfbbaa.Rdr

/-! ## SFnExactVotesToGain -/
namespace Go.Proofs.Ytoklpimhcdfbbaa.Say
open Go.RowKit Go.Proofs.Ytoklpimhcdfbbaa.X
/-- The plain statement of laws_FnExactVotesToGain. -/
def FnExactVotesToGain : Prop := ∀ (l0 : List Int) (a1 : Int) (a2 : Int) (a3 : Int), (Rdr.Lst Rdr.I64) l0 → Rdr.I64 a1 → Rdr.I64 a2 → Rdr.I64 a3 → ∃ k, laws_FnExactVotesToGain.f k l0 a1 a2 a3 = some true
end Go.Proofs.Ytoklpimhcdfbbaa.Say

/-! ## Base -/
/- Plain words for the plain laws: what ends with a value once there are rounds enough; loops over an index; sums that do not wrap. No condition. -/
namespace Go.Proofs.Ytoklpimhcdfbbaa.B
open Go.RowKit Go.Proofs.YtoklpimhcdfbbaaW.PrintWords

theorem w64 {x : Int} (h : -9223372036854775808 ≤ x) (h' : x ≤ 9223372036854775807) : wrap64 x = x := by
  unfold wrap64; omega
theorem wnext {i n : Nat} (h : i < n) (hn : (n : Int) ≤ 9223372036854775807) : wrap64 ((i : Int) + 1) = ((i + 1 : Nat) : Int) := by
  rw [w64 (by omega) (by omega)]; omega

/-- From some number of rounds on these two are the same. -/
def EvEq {α : Type} (g f : Nat → Option α) : Prop := ∃ K, ∀ k, K ≤ k → g k = f k
theorem EvEq.now {α : Type} {g f : Nat → Option α} (h : ∀ k, g k = f k) : EvEq g f := ⟨0, fun k _ => h k⟩
theorem EvEq.trans {α : Type} {g f h : Nat → Option α} (a : EvEq g f) (b : EvEq f h) : EvEq g h := by
  obtain ⟨K, hK⟩ := a
  obtain ⟨K', hK'⟩ := b
  exact ⟨K + K', fun k hk => (hK k (by omega)).trans (hK' k (by omega))⟩
theorem EvEq.bind {α β : Type} {g : Nat → Option α} {a : α} {f : Nat → α → Option β} {h : Nat → Option β} (e : Ev g a) (b : EvEq (fun k => f k a) h) : EvEq (fun k => (g k).bind (f k)) h := by
  obtain ⟨K, hK⟩ := e
  obtain ⟨K', hK'⟩ := b
  refine ⟨K + K', fun k hk => ?_⟩
  show (g k).bind (f k) = _
  rw [hK k (by omega)]
  exact hK' k (by omega)
theorem Ev.ofEq {α : Type} {g f : Nat → Option α} {r : α} (a : EvEq g f) (b : Ev f r) : Ev g r := by
  obtain ⟨K, hK⟩ := a
  obtain ⟨K', hK'⟩ := b
  exact ⟨K + K', fun k hk => (hK k (by omega)).trans (hK' k (by omega))⟩
theorem Ev.const {α : Type} {g : Nat → Option α} {r : α} (h : ∀ k, g k = some r) : Ev g r := ⟨0, fun k _ => h k⟩
theorem Ev.up {α : Type} {g : Nat → Option α} {r : α} (h : Ev (fun k => g (k + 1)) r) : Ev g r := by
  obtain ⟨K, hK⟩ := h
  refine ⟨K + 1, fun k hk => ?_⟩
  have e : g (k - 1 + 1) = some r := hK (k - 1) (by omega)
  have : k - 1 + 1 = k := by omega
  rwa [this] at e
theorem Ev.bindE {α β : Type} {g : Nat → Option α} {a : α} {f : Nat → α → Option β} {r : β} (e : Ev g a) (b : Ev (fun k => f k a) r) : Ev (fun k => (g k).bind (f k)) r := Ev.bind e b
theorem Ev.ifPos {α : Type} {c : Prop} [Decidable c] {A B : Nat → Option α} {r : α} (h : c) (e : Ev A r) : Ev (fun k => if c then A k else B k) r := by
  simpa only [if_pos h] using e
theorem Ev.ifNeg {α : Type} {c : Prop} [Decidable c] {A B : Nat → Option α} {r : α} (h : ¬ c) (e : Ev B r) : Ev (fun k => if c then A k else B k) r := by
  simpa only [if_neg h] using e
theorem Ev.uniq {α : Type} {g : Nat → Option α} {a b : α} (h : Ev g a) (h' : Ev g b) : a = b := by
  obtain ⟨K, hK⟩ := h
  obtain ⟨K', hK'⟩ := h'
  have := (hK (K + K') (by omega)).symm.trans (hK' (K + K') (by omega))
  exact Option.some.inj this

/-- A loop by its rounds: at each one it ends, or goes on to the next. F: what it comes to from there. -/
theorem scan {ρ : Type} (L : Nat → Nat → Option ρ) (n : Nat) (F : Nat → ρ) (hend : Ev (fun k => L (k + 1) n) (F n))
    (hstep : ∀ i, i < n → Ev (fun k => L (k + 1) i) (F i) ∨ (F i = F (i + 1) ∧ EvEq (fun k => L (k + 1) i) (fun k => L k (i + 1)))) : ∀ i, i ≤ n → Ev (fun k => L k i) (F i) := by
  have key : ∀ d i, i + d = n → Ev (fun k => L k i) (F i) := by
    intro d
    induction d with
    | zero =>
      intro i hi
      have e : i = n := by omega
      rw [e]
      exact Ev.up (g := fun k => L k n) hend
    | succ d ih =>
      intro i hi
      rcases hstep i (by omega) with h | ⟨h, h'⟩
      · exact Ev.up (g := fun k => L k i) h
      · rw [h]
        exact Ev.up (g := fun k => L k i) (Ev.ofEq h' (ih (i + 1) (by omega)))
  intro i hi
  exact key (n - i) i (by omega)

/-- A loop whose value at the end is known, and at each round that of the next one. -/
theorem scanI {ρ : Type} (L : Nat → Nat → Option ρ) (n : Nat) (F : Nat → ρ) (hend : Ev (fun k => L k n) (F n))
    (hstep : ∀ i, i < n → Ev (fun k => L k (i + 1)) (F (i + 1)) → Ev (fun k => L k i) (F i)) : ∀ i, i ≤ n → Ev (fun k => L k i) (F i) := by
  have key : ∀ d i, i + d = n → Ev (fun k => L k i) (F i) := by
    intro d
    induction d with
    | zero =>
      intro i hi
      have e : i = n := by omega
      rw [e]
      exact hend
    | succ d ih =>
      intro i hi
      exact hstep i (by omega) (ih (i + 1) (by omega))
  intro i hi
  exact key (n - i) i (by omega)
theorem Ev.ite {α : Type} {c : Prop} [Decidable c] {A B : Nat → Option α} {r : α} (h : c → Ev A r) (h' : ¬ c → Ev B r) : Ev (fun k => if c then A k else B k) r := by
  by_cases e : c
  · exact Ev.ifPos e (h e)
  · exact Ev.ifNeg e (h' e)

def allFrom (p : Nat → Bool) (i n : Nat) : Bool := (List.range' i (n - i)).all p
theorem allFrom_end (p : Nat → Bool) (n : Nat) : allFrom p n n = true := by simp [allFrom]
theorem allFrom_step (p : Nat → Bool) {i n : Nat} (h : i < n) : allFrom p i n = (p i && allFrom p (i + 1) n) := by
  unfold allFrom
  obtain ⟨d, hd⟩ : ∃ d, n - i = d + 1 := ⟨n - i - 1, by omega⟩
  have : n - (i + 1) = d := by omega
  rw [hd, this, List.range'_succ, List.all_cons]
theorem allFrom_iff (p : Nat → Bool) (i n : Nat) : allFrom p i n = true ↔ ∀ j, i ≤ j → j < n → p j = true := by
  unfold allFrom
  rw [List.all_eq_true]
  constructor
  · intro h j h1 h2
    exact h j (by rw [List.mem_range'_1]; omega)
  · intro h j hj
    rw [List.mem_range'_1] at hj
    exact h j (by omega) (by omega)
/-- A loop that goes on while p, and ends with false. -/
theorem allScan (L : Nat → Nat → Option Bool) (n : Nat) (p : Nat → Bool) (fin : Bool) (hend : Ev (fun k => L (k + 1) n) fin)
    (hstep : ∀ i, i < n → EvEq (fun k => L (k + 1) i) (fun k => if p i = true then L k (i + 1) else some false)) : ∀ i, i ≤ n → Ev (fun k => L k i) (allFrom p i n && fin) := by
  refine scan L n (fun i => allFrom p i n && fin) ?_ ?_
  · show Ev _ (allFrom p n n && fin)
    rw [allFrom_end, Bool.true_and]
    exact hend
  · intro i hi
    by_cases hp : p i = true
    · right
      refine ⟨by show (allFrom p i n && fin) = (allFrom p (i + 1) n && fin); rw [allFrom_step p hi, hp, Bool.true_and], ?_⟩
      have h := hstep i hi
      simpa only [if_pos hp] using h
    · left
      have h := hstep i hi
      have hp' : p i = false := by simpa using hp
      have e : (allFrom p i n && fin) = false := by rw [allFrom_step p hi, hp']; rfl
      show Ev _ (allFrom p i n && fin)
      rw [e]
      refine Ev.ofEq h (Ev.const fun k => ?_)
      rw [if_neg hp]

def firstFrom (p : Nat → Bool) (i n : Nat) : Int := match (List.range' i (n - i)).find? p with | some j => (j : Int) | none => -1
theorem firstFrom_end (p : Nat → Bool) (n : Nat) : firstFrom p n n = -1 := by simp [firstFrom]
theorem firstFrom_step (p : Nat → Bool) {i n : Nat} (h : i < n) : firstFrom p i n = if p i = true then (i : Int) else firstFrom p (i + 1) n := by
  unfold firstFrom
  obtain ⟨d, hd⟩ : ∃ d, n - i = d + 1 := ⟨n - i - 1, by omega⟩
  have : n - (i + 1) = d := by omega
  rw [hd, this, List.range'_succ, List.find?_cons]
  cases p i <;> simp
/-- A loop that ends at the first index with p, and tells -1 where there is none. -/
theorem firstScan (L : Nat → Nat → Option Int) (n : Nat) (p : Nat → Bool) (hend : Ev (fun k => L (k + 1) n) (-1))
    (hstep : ∀ i, i < n → EvEq (fun k => L (k + 1) i) (fun k => if p i = true then some (i : Int) else L k (i + 1))) : ∀ i, i ≤ n → Ev (fun k => L k i) (firstFrom p i n) := by
  refine scan L n (fun i => firstFrom p i n) ?_ ?_
  · show Ev _ (firstFrom p n n)
    rw [firstFrom_end]
    exact hend
  · intro i hi
    by_cases hp : p i = true
    · left
      show Ev _ (firstFrom p i n)
      rw [firstFrom_step p hi, if_pos hp]
      exact Ev.ofEq (hstep i hi) (Ev.const fun k => by rw [if_pos hp])
    · right
      refine ⟨by show firstFrom p i n = firstFrom p (i + 1) n; rw [firstFrom_step p hi, if_neg hp], ?_⟩
      simpa only [if_neg hp] using hstep i hi
theorem firstFrom_none (p : Nat → Bool) {n : Nat} : ∀ i, i ≤ n → (firstFrom p i n = -1 ↔ ∀ j, i ≤ j → j < n → p j = false) := by
  have key : ∀ d i, i + d = n → (firstFrom p i n = -1 ↔ ∀ j, i ≤ j → j < n → p j = false) := by
    intro d
    induction d with
    | zero =>
      intro i hi
      have e : i = n := by omega
      subst e
      rw [firstFrom_end]
      exact ⟨fun _ j h1 h2 => by omega, fun _ => rfl⟩
    | succ d ih =>
      intro i hi
      rw [firstFrom_step p (by omega)]
      by_cases hp : p i = true
      · rw [if_pos hp]
        constructor
        · intro h; omega
        · intro h
          have := h i (by omega) (by omega)
          rw [hp] at this
          cases this
      · rw [if_neg hp, ih (i + 1) (by omega)]
        constructor
        · intro h j h1 h2
          by_cases e : j = i
          · subst e; simpa using hp
          · exact h j (by omega) h2
        · intro h j h1 h2
          exact h j (by omega) h2
  intro i hi
  exact key (n - i) i (by omega)
theorem firstFrom_some (p : Nat → Bool) {n : Nat} : ∀ i, i ≤ n → firstFrom p i n ≠ -1 → ∃ j : Nat, firstFrom p i n = (j : Int) ∧ i ≤ j ∧ j < n ∧ p j = true := by
  have key : ∀ d i, i + d = n → firstFrom p i n ≠ -1 → ∃ j : Nat, firstFrom p i n = (j : Int) ∧ i ≤ j ∧ j < n ∧ p j = true := by
    intro d
    induction d with
    | zero =>
      intro i hi h
      have e : i = n := by omega
      subst e
      rw [firstFrom_end] at h
      exact absurd rfl h
    | succ d ih =>
      intro i hi h
      rw [firstFrom_step p (by omega)] at h ⊢
      by_cases hp : p i = true
      · rw [if_pos hp]
        exact ⟨i, rfl, by omega, by omega, hp⟩
      · rw [if_neg hp] at h ⊢
        obtain ⟨j, h1, h2, h3, h4⟩ := ih (i + 1) (by omega) h
        exact ⟨j, h1, by omega, h3, h4⟩
  intro i hi
  exact key (n - i) i (by omega)
theorem firstFrom_congr {p q : Nat → Bool} {n : Nat} (h : ∀ j, j < n → p j = q j) : ∀ i, i ≤ n → firstFrom p i n = firstFrom q i n := by
  have key : ∀ d i, i + d = n → firstFrom p i n = firstFrom q i n := by
    intro d
    induction d with
    | zero =>
      intro i hi
      have e : i = n := by omega
      subst e
      rw [firstFrom_end, firstFrom_end]
    | succ d ih =>
      intro i hi
      rw [firstFrom_step p (by omega), firstFrom_step q (by omega), h i (by omega), ih (i + 1) (by omega)]
  intro i hi
  exact key (n - i) i (by omega)

theorem getD_at {α : Type} {xs : List α} {i : Nat} (h : i < xs.length) (d : α) : xs.getD i d = xs[i] := by
  rw [List.getD_eq_getElem?_getD, List.getElem?_eq_getElem h]; rfl
theorem rd_at {xs : List Int} {i : Nat} (h : i < xs.length) : rd xs (i : Int) = xs[i] := by
  unfold rd; rw [Int.toNat_natCast]; exact getD_at h _
theorem rdOf_at {α : Type} {d : α} {xs : List α} {i : Nat} (h : i < xs.length) : rdOf d xs (i : Int) = xs[i] := by
  unfold rdOf; rw [Int.toNat_natCast]; exact getD_at h _
theorem allFrom_congr {p q : Nat → Bool} (h : ∀ j, p j = q j) (i n : Nat) : allFrom p i n = allFrom q i n := by
  rw [show p = q from funext h]
/-- Rows that are compared place by place. -/
theorem rows3 {L : Nat → Int → Option Bool} {n m : Nat} {c : Int → Bool} (hn : n ≤ 9223372036854775807)
    (hL : ∀ k i, L (k + 1) i = if i < (n : Int) then (if 0 ≤ i then (if i < (m : Int) then (if c i = true then some false else L k (wrap64 (i + 1))) else none) else none) else some true) :
    Ev (fun k => if (n : Int) = (m : Int) then L k 0 else some false) (decide (n = m) && allFrom (fun j => !c j) 0 n) := by
  by_cases hl : n = m
  · rw [decide_eq_true hl, Bool.true_and]
    refine Ev.ifPos (by omega) ?_
    have h := allScan (fun k i => L k (i : Int)) n (fun j => !c j) true (Ev.const fun k => by rw [hL, if_neg (by omega)]) (by
      intro i hi
      refine EvEq.now fun k => ?_
      rw [hL, if_pos (by omega), if_pos (by omega), if_pos (by omega), wnext hi (by omega)]
      cases c i <;> rfl) 0 (by omega)
    rw [Bool.and_true] at h
    exact h
  · rw [decide_eq_false hl, Bool.false_and]
    exact Ev.ifNeg (by omega) (Ev.const fun _ => rfl)
theorem rows4 {L : Nat → Int → Option Bool} {n m : Nat} {c : Int → Bool} (hn : n ≤ 9223372036854775807)
    (hL : ∀ k i, L (k + 1) i = if i < (n : Int) then (if 0 ≤ i then (if i < (n : Int) then (if i < (m : Int) then (if c i = true then some false else L k (wrap64 (i + 1))) else none) else none) else none) else some true) :
    Ev (fun k => if (n : Int) = (m : Int) then L k 0 else some false) (decide (n = m) && allFrom (fun j => !c j) 0 n) := by
  refine rows3 hn fun k i => ?_
  rw [hL]
  by_cases h : i < (n : Int)
  · rw [if_pos h, if_pos h, if_pos h]
  · rw [if_neg h, if_neg h]
/-- A row that is filled from its begin. -/
theorem fill_set {α : Type} (xs : List α) (z : α) {i n : Nat} (hi : i < n) (hl : xs.length = n) : (xs.take i ++ List.replicate (n - i) z).set i (xs[i]'(by omega)) = xs.take (i + 1) ++ List.replicate (n - (i + 1)) z := by
  have hlt : (xs.take i).length = i := by rw [List.length_take]; omega
  rw [List.set_append_right _ _ (by omega), hlt, Nat.sub_self]
  obtain ⟨d, hd⟩ : ∃ d, n - i = d + 1 := ⟨n - i - 1, by omega⟩
  have hd' : n - (i + 1) = d := by omega
  rw [hd, hd', List.replicate_succ, List.set_cons_zero, List.take_succ_eq_append_getElem (by omega), List.append_assoc]
  rfl

end Go.Proofs.Ytoklpimhcdfbbaa.B

/-! ## Conv -/
/- Plain words for the laws' own helpers: measuring an argument, copying it, comparing it with itself, marking a result and finding the marks again. No condition but the lengths that fit. -/
namespace Go.Proofs.Ytoklpimhcdfbbaa.B
open Go.RowKit Go.Proofs.YtoklpimhcdfbbaaW.PrintWords

def sumOf {α : Type} (f : α → Int) (xs : List α) : Int := (xs.map f).sum
theorem sumOf_nil {α : Type} (f : α → Int) : sumOf f [] = 0 := rfl
theorem sumOf_cons {α : Type} (f : α → Int) (x : α) (xs : List α) : sumOf f (x :: xs) = f x + sumOf f xs := by simp [sumOf]
theorem sumOf_nonneg {α : Type} {f : α → Int} {xs : List α} (h : ∀ x ∈ xs, 0 ≤ f x) : 0 ≤ sumOf f xs := by
  induction xs with
  | nil => simp [sumOf]
  | cons x xs ih =>
    rw [sumOf_cons]
    have h1 := h x (List.mem_cons_self ..)
    have h2 := ih fun y hy => h y (List.mem_cons_of_mem _ hy)
    omega
theorem sumOf_mem {α : Type} {f : α → Int} {xs : List α} (h : ∀ x ∈ xs, 0 ≤ f x) : ∀ x ∈ xs, f x ≤ sumOf f xs := by
  induction xs with
  | nil => intro x hx; cases hx
  | cons y xs ih =>
    intro x hx
    rw [sumOf_cons]
    have h1 := h y (List.mem_cons_self ..)
    have h2 := sumOf_nonneg (f := f) (xs := xs) fun z hz => h z (List.mem_cons_of_mem _ hz)
    rcases List.mem_cons.1 hx with rfl | hx
    · omega
    · have := ih (fun z hz => h z (List.mem_cons_of_mem _ hz)) x hx
      omega

/-- g takes s off what is left, or tells -1 if there is less. -/
def Sz (g : Int → Nat → Option Int) (s : Int) : Prop := 0 ≤ s ∧ ∀ left, 0 ≤ left → left ≤ 1048576 → Ev (fun k => g left k) (if s ≤ left then left - s else -1)
theorem Sz.id : Sz (fun left _ => some left) 0 := ⟨by omega, fun left h h' => Ev.const fun k => by show some left = _; rw [if_pos h, show left - 0 = left by omega]⟩
theorem Sz.seq {g h : Int → Nat → Option Int} {s t : Int} (a : Sz g s) (b : Sz h t) : Sz (fun left k => (g left k).bind fun u => if u < 0 then some (-1) else h u k) (s + t) := by
  refine ⟨by have := a.1; have := b.1; omega, fun left h0 h1 => ?_⟩
  have hs := a.1
  have ht := b.1
  refine Ev.bindE (a.2 left h0 h1) ?_
  by_cases c : s ≤ left
  · simp only [if_pos c]
    refine Ev.ifNeg (by omega) ?_
    have := b.2 (left - s) (by omega) (by omega)
    by_cases d : t ≤ left - s
    · rw [if_pos (by omega)]
      rw [if_pos d] at this
      have e : left - s - t = left - (s + t) := by omega
      rwa [e] at this
    · rw [if_neg (by omega)]
      rwa [if_neg d] at this
  · simp only [if_neg c]
    rw [if_neg (by omega)]
    exact Ev.ifPos (by omega) (Ev.const fun _ => rfl)
theorem Sz.len {n : Nat} (hn : n ≤ 9223372036854775807) {h : Int → Nat → Option Int} {t : Int} (b : Sz h t) : Sz (fun left k => if wrap64 (left - (n : Int)) < 0 then some (-1) else h (wrap64 (left - (n : Int))) k) ((n : Int) + t) := by
  have ht := b.1
  refine ⟨by omega, fun left h0 h1 => ?_⟩
  have e : wrap64 (left - (n : Int)) = left - n := w64 (by omega) (by omega)
  simp only [e]
  by_cases c : (n : Int) ≤ left
  · refine Ev.ifNeg (by omega) ?_
    have := b.2 (left - n) (by omega) (by omega)
    by_cases d : t ≤ left - n
    · rw [if_pos (by omega)]
      rw [if_pos d] at this
      have e : left - n - t = left - (n + t) := by omega
      rwa [e] at this
    · rw [if_neg (by omega)]
      rwa [if_neg d] at this
  · rw [if_neg (by omega)]
    exact Ev.ifPos (by omega) (Ev.const fun _ => rfl)
/-- A row: its length, then each element in turn. -/
theorem Sz.list {α : Type} {xs : List α} {rdx : Int → α} {e : α → Int → Nat → Option Int} {s : α → Int} {L : Nat → Int → Int → Option Int} (hn : xs.length ≤ 9223372036854775807)
    (hrd : ∀ (i : Nat) (h : i < xs.length), rdx (i : Int) = xs[i]) (he : ∀ x ∈ xs, Sz (e x) (s x))
    (hL : ∀ k l i, L (k + 1) l i = if i < (xs.length : Int) then (if 0 ≤ i then ((e (rdx i) l k).bind fun u => if u < 0 then some (-1) else L k u (wrap64 (i + 1))) else none) else some l) :
    Sz (fun left k => if wrap64 (left - (xs.length : Int)) < 0 then some (-1) else L k (wrap64 (left - (xs.length : Int))) 0) ((xs.length : Int) + sumOf s xs) := by
  refine Sz.len hn (h := fun left k => L k left 0) ⟨sumOf_nonneg fun x hx => (he x hx).1, ?_⟩
  have key : ∀ (suf pre : List α), xs = pre ++ suf → ∀ left, 0 ≤ left → left ≤ 1048576 → Ev (fun k => L k left (pre.length : Int)) (if sumOf s suf ≤ left then left - sumOf s suf else -1) := by
    intro suf
    induction suf with
    | nil =>
      intro pre hx left h0 h1
      refine Ev.up (g := fun k => L k left (pre.length : Int)) (Ev.const fun k => ?_)
      have : xs.length = pre.length := by rw [hx]; simp
      rw [hL, if_neg (by omega), sumOf_nil, if_pos h0]
      congr 1; omega
    | cons x suf ih =>
      intro pre hx left h0 h1
      have hlen : xs.length = pre.length + (suf.length + 1) := by rw [hx]; simp
      have hi : pre.length < xs.length := by omega
      have hxi : xs[pre.length] = x := by simp [hx]
      have hm : x ∈ xs := by rw [hx]; simp
      have hs := (he x hm).1
      have hss : 0 ≤ sumOf s suf := sumOf_nonneg fun y hy => (he y (by rw [hx]; simp [hy])).1
      refine Ev.up (g := fun k => L k left (pre.length : Int)) ?_
      simp only [hL, hrd _ hi, hxi]
      refine Ev.ifPos (by omega) (Ev.ifPos (by omega) (Ev.bindE ((he x hm).2 left h0 h1) ?_))
      rw [sumOf_cons]
      by_cases c : s x ≤ left
      · simp only [if_pos c]
        refine Ev.ifNeg (by omega) ?_
        have h' := ih (pre ++ [x]) (by rw [hx]; simp) (left - s x) (by omega) (by omega)
        have e1 : ((pre ++ [x]).length : Int) = wrap64 ((pre.length : Int) + 1) := by rw [wnext hi (by omega)]; simp
        rw [e1] at h'
        by_cases d : sumOf s suf ≤ left - s x
        · rw [if_pos (by omega)]
          rw [if_pos d] at h'
          have e : left - s x - sumOf s suf = left - (s x + sumOf s suf) := by omega
          rwa [e] at h'
        · rw [if_neg (by omega)]
          rwa [if_neg d] at h'
      · simp only [if_neg c]
        rw [if_neg (by omega)]
        exact Ev.ifPos (by omega) (Ev.const fun _ => rfl)
  exact key xs [] rfl

/-- Copying a row, element by element. -/
theorem Cv.list {α β τ : Type} {xs : List α} {rdx : Int → α} {e : Nat → α → Option τ} {mk : τ → β} {c : α → β} {t : α → τ} {z : β} {L : Nat → List β → Int → Option (List β)} {lim : Nat}
    (hlim : xs.length ≤ lim) (hbig : xs.length ≤ 9223372036854775807) (hrd : ∀ (i : Nat) (h : i < xs.length), rdx (i : Int) = xs[i]) (he : ∀ x ∈ xs, Ev (fun k => e k x) (t x)) (hc : ∀ x, mk (t x) = c x)
    (hL : ∀ k ys i, L (k + 1) ys i = if i < (xs.length : Int) then (if 0 ≤ i then ((e k (rdx i)).bind fun bt => if i < (ys.length : Int) then L k (ys.set i.toNat (mk bt)) (wrap64 (i + 1)) else none) else none) else some ys) :
    Ev (fun k => if 0 ≤ (xs.length : Int) then (if ((xs.length : Int)).toNat ≤ lim then L k (List.replicate ((xs.length : Int)).toNat z) 0 else none) else none) (xs.map c) := by
  refine Ev.ifPos (by omega) (Ev.ifPos (by omega) ?_)
  have h := scanI (fun k i => L k ((xs.map c).take i ++ List.replicate (xs.length - i) z) (i : Int)) xs.length (fun _ => xs.map c) (Ev.up (g := fun k => L k ((xs.map c).take xs.length ++ List.replicate (xs.length - xs.length) z) (xs.length : Int)) (Ev.const fun k => by
      rw [hL, if_neg (by omega)]
      simp [List.take_of_length_le])) (by
      intro i hi ih
      refine Ev.up (g := fun k => L k ((xs.map c).take i ++ List.replicate (xs.length - i) z) (i : Int)) ?_
      have hl : ((xs.map c).take i ++ List.replicate (xs.length - i) z).length = xs.length := by simp; omega
      simp only [hL, hrd _ hi]
      refine Ev.ifPos (by omega) (Ev.ifPos (by omega) (Ev.bindE (he _ (List.getElem_mem hi)) (Ev.ifPos (by rw [hl]; omega) ?_)))
      have hs := fill_set (xs.map c) z (i := i) (n := xs.length) hi (by simp)
      rw [hc, Int.toNat_natCast, wnext hi (by omega)]
      rw [List.getElem_map] at hs
      rw [hs]
      exact ih) 0 (by omega)
  simpa using h
theorem Cv.plain {α : Type} {xs : List α} {rdx : Int → α} {z : α} {L : Nat → List α → Int → Option (List α)} {lim : Nat}
    (hlim : xs.length ≤ lim) (hbig : xs.length ≤ 9223372036854775807) (hrd : ∀ (i : Nat) (h : i < xs.length), rdx (i : Int) = xs[i])
    (hL : ∀ k ys i, L (k + 1) ys i = if i < (xs.length : Int) then (if 0 ≤ i then (if i < (ys.length : Int) then L k (ys.set i.toNat (rdx i)) (wrap64 (i + 1)) else none) else none) else some ys) :
    Ev (fun k => if 0 ≤ (xs.length : Int) then (if ((xs.length : Int)).toNat ≤ lim then L k (List.replicate ((xs.length : Int)).toNat z) 0 else none) else none) xs := by
  have h := Cv.list (xs := xs) (rdx := rdx) (e := fun _ x => some x) (mk := fun x => x) (c := fun x => x) (t := fun x => x) (z := z) (L := L) hlim hbig hrd (fun x _ => Ev.const fun _ => rfl) (fun _ => rfl) hL
  simpa using h

/-- Comparing a row with itself. -/
theorem Eq.list {α : Type} {xs : List α} {rdx : Int → α} {e : Nat → α → Option Bool} {L : Nat → Int → Option Bool}
    (hbig : xs.length ≤ 9223372036854775807) (hrd : ∀ (i : Nat) (h : i < xs.length), rdx (i : Int) = xs[i]) (he : ∀ x ∈ xs, Ev (fun k => e k x) true)
    (hL : ∀ k i, L (k + 1) i = if i < (xs.length : Int) then (if 0 ≤ i then (if i < (xs.length : Int) then ((e k (rdx i)).bind fun u => if u = true then L k (wrap64 (i + 1)) else some false) else none) else none) else some true) :
    Ev (fun k => if (xs.length : Int) = (xs.length : Int) then L k 0 else some false) true := by
  refine Ev.ifPos rfl ?_
  exact scanI (fun k i => L k (i : Int)) xs.length (fun _ => true) (Ev.up (g := fun k => L k (xs.length : Int)) (Ev.const fun k => by rw [hL, if_neg (by omega)])) (by
    intro i hi ih
    refine Ev.up (g := fun k => L k (i : Int)) ?_
    simp only [hL, hrd _ hi]
    refine Ev.ifPos (by omega) (Ev.ifPos (by omega) (Ev.ifPos (by omega) (Ev.bindE (he _ (List.getElem_mem hi)) (Ev.ifPos rfl ?_))))
    rw [wnext hi (by omega)]
    exact ih) 0 (by omega)

theorem Eq.flat {α : Type} {xs : List α} {P : Int → Prop} [DecidablePred P] {L : Nat → Int → Option Bool}
    (hbig : xs.length ≤ 9223372036854775807) (hP : ∀ x, P x)
    (hL : ∀ k i, L (k + 1) i = if i < (xs.length : Int) then (if 0 ≤ i then (if i < (xs.length : Int) then (if P i then L k (wrap64 (i + 1)) else some false) else none) else none) else some true) :
    Ev (fun k => if (xs.length : Int) = (xs.length : Int) then L k 0 else some false) true := by
  refine Ev.ifPos rfl ?_
  exact scanI (fun k i => L k (i : Int)) xs.length (fun _ => true) (Ev.up (g := fun k => L k (xs.length : Int)) (Ev.const fun k => by rw [hL, if_neg (by omega)])) (by
    intro i hi ih
    refine Ev.up (g := fun k => L k (i : Int)) ?_
    simp only [hL]
    refine Ev.ifPos (by omega) (Ev.ifPos (by omega) (Ev.ifPos (by omega) (Ev.ifPos (hP _) ?_)))
    rw [wnext hi (by omega)]
    exact ih) 0 (by omega)

/-- Marks from c on, put into each element in turn. -/
def markAll {α : Type} (E : α → Int → α) (cost : α → Int) : List α → Int → List α
  | [], _ => []
  | x :: xs, c => E x c :: markAll E cost xs (c + cost x)
theorem markAll_len {α : Type} (E : α → Int → α) (cost : α → Int) (xs : List α) : ∀ c, (markAll E cost xs c).length = xs.length := by
  induction xs with
  | nil => intro c; rfl
  | cons x xs ih => intro c; simp [markAll, ih]
theorem Mk.list {α : Type} {E : α → Int → α} {cost : α → Int} {L : Nat → List α → Int → Int → Option (Int × List α)} {n : Nat} (hbig : n ≤ 1048576) (hcost : ∀ x, 0 ≤ cost x)
    (hend : ∀ k ys c, ys.length = n → L (k + 1) ys c (n : Int) = some (c, ys))
    (hstep : ∀ ys c (i : Nat) (h : i < ys.length), ys.length = n → 0 ≤ c → c + cost ys[i] ≤ 4611686018427387904 → EvEq (fun k => L (k + 1) ys c (i : Int)) (fun k => L k (ys.set i (E ys[i] c)) (c + cost ys[i]) ((i + 1 : Nat) : Int))) :
    ∀ xs : List α, xs.length = n → ∀ c, 0 ≤ c → c + sumOf cost xs ≤ 4611686018427387904 → Ev (fun k => L k xs c 0) (c + sumOf cost xs, markAll E cost xs c) := by
  have key : ∀ (suf pre : List α) (c : Int), (pre ++ suf).length = n → 0 ≤ c → c + sumOf cost suf ≤ 4611686018427387904 → Ev (fun k => L k (pre ++ suf) c (pre.length : Int)) (c + sumOf cost suf, pre ++ markAll E cost suf c) := by
    intro suf
    induction suf with
    | nil =>
      intro pre c hl h0 h1
      refine Ev.up (g := fun k => L k (pre ++ []) c (pre.length : Int)) (Ev.const fun k => ?_)
      have e : (pre.length : Int) = (n : Int) := by rw [← hl]; simp
      rw [e, hend k _ c hl, sumOf_nil]
      simp [markAll]
    | cons x suf ih =>
      intro pre c hl h0 h1
      rw [sumOf_cons] at h1 ⊢
      have hc := hcost x
      have hs : 0 ≤ sumOf cost suf := sumOf_nonneg fun y _ => hcost y
      have hi : pre.length < (pre ++ x :: suf).length := by simp
      have hx : (pre ++ x :: suf)[pre.length] = x := by simp
      refine Ev.up (g := fun k => L k (pre ++ x :: suf) c (pre.length : Int)) ?_
      have st := hstep (pre ++ x :: suf) c pre.length hi hl h0 (by rw [hx]; omega)
      rw [hx] at st
      refine Ev.ofEq st ?_
      have h' := ih (pre ++ [E x c]) (c + cost x) (by simpa using hl) (by omega) (by omega)
      have e1 : (pre ++ x :: suf).set pre.length (E x c) = pre ++ [E x c] ++ suf := by
        rw [List.set_append_right _ _ (by omega), Nat.sub_self]
        simp
      have e2 : ((pre ++ [E x c]).length : Int) = ((pre.length + 1 : Nat) : Int) := by simp
      rw [e1, ← e2]
      have e3 : c + (cost x + sumOf cost suf) = c + cost x + sumOf cost suf := by omega
      rw [e3]
      simpa [markAll] using h'
  intro xs hn c h0 h1
  exact key xs [] c (by simpa using hn) h0 h1
theorem Hd.list {α : Type} {E : α → Int → α} {cost : α → Int} {L : Nat → List α → Int → Int → Option Int} {n : Nat} (hcost : ∀ x, 0 ≤ cost x)
    (hend : ∀ k ys c, ys.length = n → L (k + 1) ys c (n : Int) = some c)
    (hstep : ∀ ys c (i : Nat) (h : i < ys.length) x, ys[i] = E x c → ys.length = n → 0 ≤ c → c + cost x ≤ 4611686018427387904 → EvEq (fun k => L (k + 1) ys c (i : Int)) (fun k => L k ys (c + cost x) ((i + 1 : Nat) : Int))) :
    ∀ xs : List α, xs.length = n → ∀ c, 0 ≤ c → c + sumOf cost xs ≤ 4611686018427387904 → Ev (fun k => L k (markAll E cost xs c) c 0) (c + sumOf cost xs) := by
  have key : ∀ (suf pre : List α) (c : Int), (pre ++ suf).length = n → 0 ≤ c → c + sumOf cost suf ≤ 4611686018427387904 → Ev (fun k => L k (pre ++ markAll E cost suf c) c (pre.length : Int)) (c + sumOf cost suf) := by
    intro suf
    induction suf with
    | nil =>
      intro pre c hl h0 h1
      refine Ev.up (g := fun k => L k (pre ++ markAll E cost [] c) c (pre.length : Int)) (Ev.const fun k => ?_)
      have e : (pre.length : Int) = (n : Int) := by rw [← hl]; simp
      rw [e, hend k _ c (by simpa [markAll] using hl), sumOf_nil]
      simp
    | cons x suf ih =>
      intro pre c hl h0 h1
      rw [sumOf_cons] at h1 ⊢
      have hc := hcost x
      have hs : 0 ≤ sumOf cost suf := sumOf_nonneg fun y _ => hcost y
      have hi : pre.length < (pre ++ markAll E cost (x :: suf) c).length := by simp [markAll]
      have hx : (pre ++ markAll E cost (x :: suf) c)[pre.length] = E x c := by simp [markAll]
      refine Ev.up (g := fun k => L k (pre ++ markAll E cost (x :: suf) c) c (pre.length : Int)) ?_
      have hln : (pre ++ markAll E cost (x :: suf) c).length = n := by
        rw [← hl]; simp [markAll_len]
      refine Ev.ofEq (hstep _ c pre.length hi x hx hln h0 (by omega)) ?_
      have h' := ih (pre ++ [E x c]) (c + cost x) (by simpa using hl) (by omega) (by omega)
      have e2 : ((pre ++ [E x c]).length : Int) = ((pre.length + 1 : Nat) : Int) := by simp
      rw [← e2]
      have e3 : c + (cost x + sumOf cost suf) = c + cost x + sumOf cost suf := by omega
      rw [e3]
      simpa [markAll] using h'
  intro xs hn c h0 h1
  exact key xs [] c (by simpa using hn) h0 h1
end Go.Proofs.Ytoklpimhcdfbbaa.B

/-! ## CInt64S -/
/- Generated by conv.py: what the laws' helpers do with values of type Int64S. No condition but the lengths that fit. -/
namespace Go.Proofs.Ytoklpimhcdfbbaa.C
open Go.RowKit Go.Proofs.YtoklpimhcdfbbaaW.PrintWords Go.Proofs.Ytoklpimhcdfbbaa.X Go.Proofs.Ytoklpimhcdfbbaa.B
def szv_Int64S (xs : List Int) : Int := (xs.length : Int)
theorem szv_Int64S_nonneg (xs : List Int) : 0 ≤ szv_Int64S xs := by unfold szv_Int64S; omega
theorem szv_Int64S_len (xs : List Int) : (xs.length : Int) ≤ szv_Int64S xs := Int.le_refl _
theorem to_Int64S (xs : List Int) (h : szv_Int64S xs ≤ 1048576) : Ev (fun k => laws_toInt64S.f k xs) (xs) :=
  Cv.plain (rdx := rd xs) (L := fun k ys i => laws_toInt64S.l0 k xs ys i) (by have := szv_Int64S_len xs; omega) (by have := szv_Int64S_len xs; omega) (fun i hi => rd_at hi) (fun _ _ _ => rfl)
def fit_Int64S (xs : List Int) : Prop := xs.length ≤ 9223372036854775807
theorem fitc_Int64S (xs : List Int) (h : szv_Int64S xs ≤ 1048576) : fit_Int64S xs := by
  have hl := szv_Int64S_len xs
  unfold fit_Int64S
  omega
theorem eq_Int64S (xs : List Int) (h : fit_Int64S xs) : Ev (fun k => laws_eqInt64S.f k xs xs) true :=
  Eq.flat (xs := xs) (P := fun i => (rd xs i) = (rd xs i)) (L := fun k i => laws_eqInt64S.l0 k xs xs i) h (fun _ => rfl) (fun _ _ => rfl)
end Go.Proofs.Ytoklpimhcdfbbaa.C

/-! ## PSum -/
/- Plain laws of sums. No condition but the lengths that fit. -/
namespace Go.Proofs.Ytoklpimhcdfbbaa.PSum
open Go.RowKit Go.Proofs.YtoklpimhcdfbbaaW.PrintWords Go.Proofs.Ytoklpimhcdfbbaa.X Go.Proofs.Ytoklpimhcdfbbaa.B

def sum64 (c : Int) (xs : List Int) : Int := xs.foldl (fun s x => wrap64 (s + x)) c
theorem sum64_take (xs : List Int) {i : Nat} (h : i < xs.length) : sum64 0 (xs.take (i + 1)) = wrap64 (sum64 0 (xs.take i) + xs[i]) := by
  unfold sum64
  rw [List.take_succ_eq_append_getElem h, List.foldl_append]
  rfl
theorem specSum_ev (xs : List Int) (hn : xs.length ≤ 9223372036854775807) : Ev (fun k => spec_l02Sum.f k xs) (sum64 0 xs) := by
  have h := scanI (fun k i => spec_l02Sum.l0 k xs (sum64 0 (xs.take i)) (i : Int)) xs.length (fun _ => sum64 0 xs) (Ev.up (g := fun k => spec_l02Sum.l0 k xs (sum64 0 (xs.take xs.length)) (xs.length : Int)) (Ev.const fun k => by
      simp only [spec_l02Sum.l0]
      rw [if_neg (by omega), List.take_length])) (by
    intro i hi ih
    refine Ev.up (g := fun k => spec_l02Sum.l0 k xs (sum64 0 (xs.take i)) (i : Int)) ?_
    simp only [spec_l02Sum.l0, rd_at hi, wnext hi (by omega : (xs.length : Int) ≤ _)]
    rw [sum64_take xs hi] at ih
    exact Ev.ifPos (by omega) (Ev.ifPos (by omega) ih)) 0 (by omega)
  exact h
theorem implSum_ev (xs : List Int) (hn : xs.length ≤ 9223372036854775807) : Ev (fun k => impl_sum.f k xs) (sum64 0 xs) := by
  have h := scanI (fun k i => impl_sum.l0 k (sum64 0 (xs.take i)) xs (xs.length : Int) (i : Int)) xs.length (fun _ => sum64 0 xs) (Ev.up (g := fun k => impl_sum.l0 k (sum64 0 (xs.take xs.length)) xs (xs.length : Int) (xs.length : Int)) (Ev.const fun k => by
      simp only [impl_sum.l0]
      rw [if_neg (by omega), List.take_length])) (by
    intro i hi ih
    refine Ev.up (g := fun k => impl_sum.l0 k (sum64 0 (xs.take i)) xs (xs.length : Int) (i : Int)) ?_
    simp only [impl_sum.l0, rd_at hi, wnext hi (by omega : (xs.length : Int) ≤ _)]
    rw [sum64_take xs hi] at ih
    exact Ev.ifPos (by omega) (Ev.ifPos (by omega) (Ev.ifPos (by omega) ih))) 0 (by omega)
  exact h
end Go.Proofs.Ytoklpimhcdfbbaa.PSum

/-! ## PVotes -/
/- Plain laws of votes: both ask the same of votes, mandates and step. No condition but the lengths that fit. -/
namespace Go.Proofs.Ytoklpimhcdfbbaa.PVotes
open Go.RowKit Go.Proofs.YtoklpimhcdfbbaaW.PrintWords Go.Proofs.Ytoklpimhcdfbbaa.X Go.Proofs.Ytoklpimhcdfbbaa.B Go.Proofs.Ytoklpimhcdfbbaa.PSum
theorem implIn_eq (a b c : Int) : impl_in.f a b c = some (decide (b ≤ a ∧ a ≤ c)) := by
  unfold impl_in.f
  by_cases h : a ≥ b <;> by_cases h' : a ≤ c <;> simp [h, h'] <;> omega
theorem specIn_eq (a b c : Int) : spec_l00In.f a b c = some (decide (b ≤ a ∧ a ≤ c)) := by
  unfold spec_l00In.f
  by_cases h : a ≥ b <;> by_cases h' : a ≤ c <;> simp [h, h'] <;> omega
def voteIn (xs : List Int) (j : Nat) : Bool := decide (0 ≤ rd xs (j : Int) ∧ rd xs (j : Int) ≤ 1000000)
def okVotes (xs : List Int) : Bool := allFrom (voteIn xs) 0 xs.length && (decide (1 ≤ (xs.length : Int) ∧ (xs.length : Int) ≤ 8) && decide (sum64 0 xs > 0))
theorem specOk_ev (xs : List Int) (hn : xs.length ≤ 9223372036854775807) : Ev (fun k => spec_l24Ok.f k xs 1000000) (okVotes xs) := by
  have h := allScan (fun k i => spec_l24Ok.l0 k xs 1000000 (i : Int)) xs.length (voteIn xs) (decide (1 ≤ (xs.length : Int) ∧ (xs.length : Int) ≤ 8) && decide (sum64 0 xs > 0)) (by
      simp only [spec_l24Ok.l0, specIn_eq, Option.bind_some]
      refine Ev.ifNeg (by omega) (Ev.ite (fun c => ?_) (fun c => ?_))
      · rw [c, Bool.true_and]; exact Ev.bindE (specSum_ev xs hn) (Ev.const fun _ => rfl)
      · rw [Bool.eq_false_iff.2 c, Bool.false_and]; exact Ev.const fun _ => rfl) (by
    intro i hi
    refine EvEq.now fun k => ?_
    simp only [spec_l24Ok.l0, specIn_eq, Option.bind_some]
    rw [if_pos (by omega), if_pos (by omega), wnext hi (by omega)]
    rfl) 0 (by omega)
  exact h
theorem implOk_ev (xs : List Int) (hn : xs.length ≤ 9223372036854775807) : Ev (fun k => impl_ValidVotes.f k xs) (okVotes xs) := by
  have h := allScan (fun k i => impl_all_int64__impl_ValidVotes_1.l0 k xs (xs.length : Int) (i : Int)) xs.length (voteIn xs) true (Ev.const fun k => by
      simp only [impl_all_int64__impl_ValidVotes_1.l0]
      rw [if_neg (by omega)]) (by
    intro i hi
    refine EvEq.now fun k => ?_
    simp only [impl_all_int64__impl_ValidVotes_1.l0, impl_ValidVotes_1.f, implIn_eq, Option.bind_some]
    rw [if_pos (by omega), if_pos (by omega), if_pos (by omega), wnext hi (by omega)]
    rfl) 0 (by omega)
  rw [Bool.and_true] at h
  unfold impl_ValidVotes.f okVotes
  simp only [impl_size_int64.f, implIn_eq, Option.bind_some]
  refine Ev.ite (fun c => ?_) (fun c => ?_)
  · rw [c, Bool.true_and]
    refine Ev.bindE (show Ev (fun k => impl_all_int64__impl_ValidVotes_1.f k xs) _ from h) (Ev.ite (fun d => ?_) (fun d => ?_))
    · rw [d, Bool.true_and]; exact Ev.bindE (implSum_ev xs hn) (Ev.const fun _ => rfl)
    · rw [Bool.eq_false_iff.2 d, Bool.false_and]; exact Ev.const fun _ => rfl
  · rw [Bool.eq_false_iff.2 c, Bool.false_and, Bool.and_false]; exact Ev.const fun _ => rfl
def code (xs : List Int) (t s : Int) : Int := if okVotes xs = true then (if 1 ≤ t ∧ t ≤ 60 then (if 1 ≤ s ∧ s ≤ 2 then 0 else 2) else 2) else 1
theorem specCode_ev (xs : List Int) (t s : Int) (hn : xs.length ≤ 9223372036854775807) : Ev (fun k => spec_l24Code.f k xs t s) (code xs t s) := by
  unfold spec_l24Code.f code
  simp only [specIn_eq, Option.bind_some, decide_eq_true_eq]
  refine Ev.bindE (specOk_ev xs hn) (Ev.ite (fun c => ?_) (fun c => ?_))
  · rw [if_pos c]
    refine Ev.ite (fun d => ?_) (fun d => ?_)
    · rw [if_pos d]
      refine Ev.ite (fun e => ?_) (fun e => ?_)
      · rw [if_pos e]; exact Ev.const fun _ => rfl
      · rw [if_neg e]; exact Ev.const fun _ => rfl
    · rw [if_neg d]; exact Ev.const fun _ => rfl
  · rw [if_neg c]; exact Ev.const fun _ => rfl
theorem implCode_ev (xs : List Int) (t s : Int) (hn : xs.length ≤ 9223372036854775807) : Ev (fun k => impl_votesCode.f k xs t s) (code xs t s) := by
  unfold impl_votesCode.f code
  simp only [implIn_eq, Option.bind_some, decide_eq_true_eq]
  refine Ev.bindE (implOk_ev xs hn) (Ev.ite (fun c => ?_) (fun c => ?_))
  · rw [if_pos c]
    refine Ev.ite (fun d => ?_) (fun d => ?_)
    · rw [if_pos d]
      refine Ev.ite (fun e => ?_) (fun e => ?_)
      · rw [if_pos e]; exact Ev.const fun _ => rfl
      · rw [if_neg e]; exact Ev.const fun _ => rfl
    · rw [if_neg d]; exact Ev.const fun _ => rfl
  · rw [if_neg c]; exact Ev.const fun _ => rfl
theorem code_zero {xs : List Int} {t s : Int} (h : code xs t s = 0) : okVotes xs = true ∧ (1 ≤ t ∧ t ≤ 60) ∧ 1 ≤ s ∧ s ≤ 2 := by
  unfold code at h
  by_cases c : okVotes xs = true
  · rw [if_pos c] at h
    by_cases d : 1 ≤ t ∧ t ≤ 60
    · rw [if_pos d] at h
      by_cases e : 1 ≤ s ∧ s ≤ 2
      · exact ⟨c, d, e⟩
      · rw [if_neg e] at h; omega
    · rw [if_neg d] at h; omega
  · rw [if_neg c] at h; omega
theorem okVotes_in {xs : List Int} (h : okVotes xs = true) : (1 ≤ xs.length ∧ xs.length ≤ 8) ∧ ∀ i, i < xs.length → 0 ≤ rd xs (i : Int) ∧ rd xs (i : Int) ≤ 1000000 := by
  unfold okVotes at h
  simp only [Bool.and_eq_true, decide_eq_true_eq] at h
  refine ⟨by omega, fun i hi => ?_⟩
  have := (allFrom_iff _ _ _).1 h.1 i (by omega) hi
  simpa [voteIn] using this
end Go.Proofs.Ytoklpimhcdfbbaa.PVotes

/-! ## PAverages -/
/- Plain laws of mandates by averages: both ways of finding the best party find the same first one; the mandates that are given are stable; a party with more votes gets no fewer. For rows of at most 8 votes, each from 0 to 1000000, at most 60 mandates, a step of 1 or 2 (what the program asks of them). -/
namespace Go.Proofs.Ytoklpimhcdfbbaa.PAverages
open Go.RowKit Go.Proofs.YtoklpimhcdfbbaaW.PrintWords Go.Proofs.Ytoklpimhcdfbbaa.X Go.Proofs.Ytoklpimhcdfbbaa.B

theorem mul_le {a b c : Int} (h : a ≤ b) (hc : 0 ≤ c) : a * c ≤ b * c := Int.mul_le_mul_of_nonneg_right h hc
theorem mul_lt {a b c : Int} (h : a < b) (hc : 0 < c) : a * c < b * c := Int.mul_lt_mul_of_pos_right h hc
theorem le_mul {a b c : Int} (h : a * c ≤ b * c) (hc : 0 < c) : a ≤ b := Int.le_of_mul_le_mul_right h hc
theorem lt_mul {a b c : Int} (h : a * c < b * c) (hc : 0 < c) : a < b := Int.lt_of_mul_lt_mul_right h (by omega)
/-- a/b ≤ c/d, c/d ≤ e/f. -/
theorem frac_le {a b c d e f : Int} (hb : 0 < b) (hd : 0 < d) (hf : 0 < f) (h : a * d ≤ c * b) (h' : c * f ≤ e * d) : a * f ≤ e * b := by
  refine le_mul (c := d) ?_ hd
  have h1 := mul_le h (Int.le_of_lt hf)
  have h2 := mul_le h' (Int.le_of_lt hb)
  have e1 : a * d * f = a * f * d := by rw [Int.mul_right_comm]
  have e2 : c * b * f = c * f * b := by rw [Int.mul_right_comm]
  have e3 : e * d * b = e * b * d := by rw [Int.mul_right_comm]
  omega
theorem frac_lt {a b c d e f : Int} (hb : 0 < b) (hd : 0 < d) (hf : 0 < f) (h : a * d < c * b) (h' : c * f ≤ e * d) : a * f < e * b := by
  refine lt_mul (c := d) ?_ hd
  have h1 := mul_lt h hf
  have h2 := mul_le h' (Int.le_of_lt hb)
  have e1 : a * d * f = a * f * d := by rw [Int.mul_right_comm]
  have e2 : c * b * f = c * f * b := by rw [Int.mul_right_comm]
  have e3 : e * d * b = e * b * d := by rw [Int.mul_right_comm]
  omega
theorem frac_lt' {a b c d e f : Int} (hb : 0 < b) (hd : 0 < d) (hf : 0 < f) (h : a * d ≤ c * b) (h' : c * f < e * d) : a * f < e * b := by
  refine lt_mul (c := d) ?_ hd
  have h1 := mul_le h (Int.le_of_lt hf)
  have h2 := mul_lt h' hb
  have e1 : a * d * f = a * f * d := by rw [Int.mul_right_comm]
  have e2 : c * b * f = c * f * b := by rw [Int.mul_right_comm]
  have e3 : e * d * b = e * b * d := by rw [Int.mul_right_comm]
  omega

/-- The divisor of a party's next mandate. -/
def dv (s : Int) (m : List Int) (i : Nat) : Int := 1 + s * rd m (i : Int)
/-- The first of the parties below n with the greatest average. -/
def IsFirst (s : Int) (xs m : List Int) (n h : Nat) : Prop := h < n ∧ (∀ j, j < n → rd xs (j : Int) * dv s m h ≤ rd xs (h : Int) * dv s m j) ∧ ∀ j, j < h → rd xs (j : Int) * dv s m h < rd xs (h : Int) * dv s m j
theorem IsFirst.uniq {s : Int} {xs m : List Int} {n h h' : Nat} (a : IsFirst s xs m n h) (b : IsFirst s xs m n h') : h = h' := by
  rcases Nat.lt_trichotomy h h' with c | c | c
  · have h1 := b.2.2 h c
    have h2 := a.2.1 h' b.1
    omega
  · exact c
  · have h1 := a.2.2 h' c
    have h2 := b.2.1 h a.1
    omega
/-- Votes and mandates as the program has them. -/
structure Fits (s : Int) (xs m : List Int) : Prop where
  step : 1 ≤ s ∧ s ≤ 2
  some : 1 ≤ xs.length ∧ xs.length ≤ 8
  len : m.length = xs.length
  vote : ∀ i, i < xs.length → 0 ≤ rd xs (i : Int) ∧ rd xs (i : Int) ≤ 1000000
  mand : ∀ i, i < xs.length → 0 ≤ rd m (i : Int) ∧ rd m (i : Int) ≤ 60
theorem Fits.dv {s : Int} {xs m : List Int} (f : Fits s xs m) {i : Nat} (h : i < xs.length) : 0 < dv s m i ∧ PAverages.dv s m i ≤ 121 := by
  have h1 := f.step
  have h2 := f.mand i h
  unfold PAverages.dv
  have e : s = 1 ∨ s = 2 := by omega
  rcases e with rfl | rfl <;> omega
theorem Fits.wrapdv {s : Int} {xs m : List Int} (f : Fits s xs m) {i : Nat} (h : i < xs.length) : wrap64 (1 + wrap64 (s * rd m (i : Int))) = PAverages.dv s m i := by
  have h1 := f.step
  have h2 := f.mand i h
  unfold PAverages.dv
  have e : s = 1 ∨ s = 2 := by omega
  rcases e with rfl | rfl
  · rw [w64 (x := 1 * rd m (i : Int)) (by omega) (by omega), w64 (by omega) (by omega)]
  · rw [w64 (x := 2 * rd m (i : Int)) (by omega) (by omega), w64 (by omega) (by omega)]
theorem Fits.wrapmul {s : Int} {xs m : List Int} (f : Fits s xs m) {i j : Nat} (h : i < xs.length) (h' : j < xs.length) : wrap64 (rd xs (i : Int) * wrap64 (1 + wrap64 (s * rd m (j : Int)))) = rd xs (i : Int) * PAverages.dv s m j := by
  rw [f.wrapdv h']
  obtain ⟨d0, d1⟩ := f.dv h'
  obtain ⟨v0, v1⟩ := f.vote i h
  have a1 : 0 ≤ rd xs (i : Int) * PAverages.dv s m j := Int.mul_nonneg v0 (by omega)
  have a2 : rd xs (i : Int) * PAverages.dv s m j ≤ 1000000 * PAverages.dv s m j := mul_le v1 (by omega)
  exact w64 (by omega) (by omega)

/-! The program's way: the best so far. -/
def bl (s : Int) (xs m : List Int) : Nat → List Int
  | 0 => []
  | i + 1 => if (bl s xs m i).length = 0 then [(i : Int)] else
      if rd xs (i : Int) * (1 + s * rd m (rd (bl s xs m i) 0)) > rd xs (rd (bl s xs m i) 0) * (1 + s * rd m (i : Int)) then [(i : Int)] else
      if rd xs (i : Int) * (1 + s * rd m (rd (bl s xs m i) 0)) = rd xs (rd (bl s xs m i) 0) * (1 + s * rd m (i : Int)) then bl s xs m i ++ [(i : Int)] else bl s xs m i
theorem bl_first {s : Int} {xs m : List Int} (f : Fits s xs m) : ∀ i, i + 1 ≤ xs.length → ∃ (h : Nat) (t : List Int), bl s xs m (i + 1) = (h : Int) :: t ∧ IsFirst s xs m (i + 1) h ∧ t.length ≤ i := by
  intro i
  induction i with
  | zero =>
    intro hl
    refine ⟨0, [], by simp [bl], ⟨by omega, ?_, fun j hj => by omega⟩, by simp⟩
    intro j hj
    have : j = 0 := by omega
    subst this
    exact Int.le_refl _
  | succ i ih =>
    intro hl
    obtain ⟨h, t, e, ⟨f1, f2, f3⟩, ht⟩ := ih (by omega)
    have hd : rd ((h : Int) :: t) 0 = (h : Int) := rfl
    have dh := (f.dv (i := h) (by omega)).1
    have di := (f.dv (i := i + 1) (by omega)).1
    rw [bl, e]
    rw [if_neg (by simp), hd, show 1 + s * rd m (h : Int) = dv s m h from rfl, show 1 + s * rd m ((i + 1 : Nat) : Int) = dv s m (i + 1) from rfl]
    by_cases c : rd xs ((i + 1 : Nat) : Int) * dv s m h > rd xs (h : Int) * dv s m (i + 1)
    · rw [if_pos c]
      refine ⟨i + 1, [], rfl, ⟨by omega, ?_, ?_⟩, by simp⟩
      · intro j hj
        by_cases ej : j = i + 1
        · subst ej; exact Int.le_refl _
        · exact Int.le_of_lt (frac_lt' (f.dv (i := j) (by omega)).1 dh di (f2 j (by omega)) c)
      · intro j hj
        exact frac_lt' (f.dv (i := j) (by omega)).1 dh di (f2 j (by omega)) c
    · rw [if_neg c]
      have hle : IsFirst s xs m (i + 1 + 1) h := by
        refine ⟨by omega, ?_, f3⟩
        intro j hj
        by_cases ej : j = i + 1
        · subst ej; omega
        · exact f2 j (by omega)
      by_cases c' : rd xs ((i + 1 : Nat) : Int) * dv s m h = rd xs (h : Int) * dv s m (i + 1)
      · rw [if_pos c']
        exact ⟨h, t ++ [((i + 1 : Nat) : Int)], by simp, hle, by simp; omega⟩
      · rw [if_neg c']
        exact ⟨h, t, rfl, hle, by omega⟩
theorem implBest_ev {s : Int} {xs m : List Int} (f : Fits s xs m) : Ev (fun k => impl_bestParties.f k xs m s) (bl s xs m xs.length) := by
  have hl := f.some.2
  have h := scanI (fun k i => impl_bestParties.l0 k xs m s (bl s xs m i) (xs.length : Int) (i : Int)) xs.length (fun _ => bl s xs m xs.length) (Ev.up (g := fun k => impl_bestParties.l0 k xs m s (bl s xs m xs.length) (xs.length : Int) (xs.length : Int)) (Ev.const fun k => by
      simp only [impl_bestParties.l0]
      rw [if_neg (by omega)])) (by
    intro i hi ih
    refine Ev.up (g := fun k => impl_bestParties.l0 k xs m s (bl s xs m i) (xs.length : Int) (i : Int)) ?_
    simp only [impl_bestParties.l0, wnext hi (by omega : (xs.length : Int) ≤ _)]
    refine Ev.ifPos (by omega) ?_
    cases i with
    | zero =>
      refine Ev.ifPos (by simp [bl]) ?_
      have e : bl s xs m (0 + 1) = [((0 : Nat) : Int)] := by simp [bl]
      rw [e] at ih
      exact ih
    | succ i =>
      obtain ⟨h, t, e, ⟨f1, f2, f3⟩, ht⟩ := bl_first f i (by omega)
      rw [bl, e] at ih
      rw [e]
      have hd : rd ((h : Int) :: t) 0 = (h : Int) := rfl
      rw [hd] at ih ⊢
      rw [if_neg (by simp), show 1 + s * rd m (h : Int) = dv s m h from rfl, show 1 + s * rd m ((i + 1 : Nat) : Int) = dv s m (i + 1) from rfl] at ih
      have hm := f.len
      rw [f.wrapmul (i := i + 1) (j := h) (by omega) (by omega), f.wrapmul (i := h) (j := i + 1) (by omega) (by omega)]
      refine Ev.ifNeg (by simp only [List.length_cons]; omega) (Ev.ifPos (by simp only [List.length_cons]; omega) (Ev.ifPos (by omega) (Ev.ifPos (by omega) (Ev.ifPos (by omega) (Ev.ifPos (by omega) (Ev.ifPos (by omega) (Ev.ifPos (by omega) ?_)))))))
      refine Ev.ite (fun c => ?_) (fun c => Ev.ite (fun c' => ?_) (fun c' => ?_))
      · rw [if_pos c] at ih; exact ih
      · rw [if_neg c, if_pos c'] at ih
        exact Ev.ifPos (by simp only [List.length_cons]; omega) ih
      · rw [if_neg c, if_neg c'] at ih; exact ih) 0 (by omega)
  exact h

/-! The reference's way: all that no one beats. -/
def bestB (s : Int) (xs m : List Int) (i : Nat) (j : Nat) : Bool := decide (rd xs (i : Int) * dv s m j ≥ rd xs (j : Int) * dv s m i)
def al (s : Int) (xs m : List Int) : Nat → List Int
  | 0 => []
  | i + 1 => if allFrom (bestB s xs m i) 0 xs.length = true then al s xs m i ++ [(i : Int)] else al s xs m i
theorem al_len (s : Int) (xs m : List Int) : ∀ i, (al s xs m i).length ≤ i := by
  intro i
  induction i with
  | zero => simp [al]
  | succ i ih =>
    rw [al]
    split
    · simp; omega
    · omega
theorem al_first {s : Int} {xs m : List Int} {h : Nat} (a : IsFirst s xs m xs.length h) : ∀ i, i ≤ xs.length → (i ≤ h → al s xs m i = []) ∧ (h < i → ∃ t, al s xs m i = (h : Int) :: t) := by
  intro i
  induction i with
  | zero => intro _; exact ⟨fun _ => rfl, fun h => by omega⟩
  | succ i ih =>
    intro hi
    obtain ⟨h1, h2⟩ := ih (by omega)
    rw [al]
    constructor
    · intro hh
      have c : ¬ allFrom (bestB s xs m i) 0 xs.length = true := by
        rw [allFrom_iff]
        intro q
        have q1 := q h (by omega) a.1
        have q2 := a.2.2 i (by omega)
        simp only [bestB, decide_eq_true_eq] at q1
        omega
      rw [if_neg c]
      exact h1 (by omega)
    · intro hh
      by_cases e : i = h
      · subst e
        have c : allFrom (bestB s xs m i) 0 xs.length = true := by
          rw [allFrom_iff]
          intro j _ hj
          have := a.2.1 j hj
          simp only [bestB, decide_eq_true_eq]
          omega
        rw [if_pos c, h1 (by omega)]
        exact ⟨[], rfl⟩
      · obtain ⟨t, ht⟩ := h2 (by omega)
        rw [ht]
        split
        · exact ⟨t ++ [(i : Int)], rfl⟩
        · exact ⟨t, rfl⟩
theorem specNext_ev {s : Int} {xs m : List Int} (f : Fits s xs m) : Ev (fun k => spec_l24Next.f k xs m s) (al s xs m xs.length) := by
  have hl := f.some.2
  have hm := f.len
  have inner : ∀ (i : Nat), i < xs.length → ∀ r, Ev (fun k => spec_l24Next.l0 k xs m s (al s xs m (i + 1)) ((i + 1 : Nat) : Int)) r → Ev (fun k => spec_l24Next.l1 k xs m s (al s xs m i) (i : Int) true 0) r := by
    intro i hi r hr
    have h := scanI (fun k j => spec_l24Next.l1 k xs m s (al s xs m i) (i : Int) (decide (∀ q, q < j → bestB s xs m i q = true)) (j : Int)) xs.length (fun _ => r) (Ev.up (g := fun k => spec_l24Next.l1 k xs m s (al s xs m i) (i : Int) (decide (∀ q, q < xs.length → bestB s xs m i q = true)) (xs.length : Int)) (by
        simp only [spec_l24Next.l1, wnext hi (by omega : (xs.length : Int) ≤ _)]
        rw [al] at hr
        have ef : (decide (∀ q, q < xs.length → bestB s xs m i q = true) = true) ↔ allFrom (bestB s xs m i) 0 xs.length = true := by
          rw [decide_eq_true_iff, allFrom_iff]
          exact ⟨fun h j _ hj => h j hj, fun h j hj => h j (by omega) hj⟩
        refine Ev.ifNeg (by omega) (Ev.ite (fun c => ?_) (fun c => ?_))
        · rw [if_pos (ef.1 c)] at hr
          have := al_len s xs m i
          exact Ev.ifPos (by omega) hr
        · rw [if_neg (fun q => c (ef.2 q))] at hr
          exact hr)) (by
      intro j hj ih
      refine Ev.up (g := fun k => spec_l24Next.l1 k xs m s (al s xs m i) (i : Int) (decide (∀ q, q < j → bestB s xs m i q = true)) (j : Int)) ?_
      simp only [spec_l24Next.l1, wnext hj (by omega : (xs.length : Int) ≤ _), f.wrapmul hi hj, f.wrapmul hj hi]
      refine Ev.ifPos (by omega) (Ev.ite (fun c => Ev.ifPos (by omega) (Ev.ifPos (by omega) (Ev.ifPos (by omega) (Ev.ifPos (by omega) (Ev.ifPos (by omega) ?_))))) (fun c => ?_))
      · have e : decide (∀ q, q < j + 1 → bestB s xs m i q = true) = decide (rd xs (i : Int) * dv s m j ≥ rd xs (j : Int) * dv s m i) := by
          rw [decide_eq_true_iff] at c
          refine decide_eq_decide.2 ⟨fun h => by simpa [bestB] using h j (by omega), fun h q hq => ?_⟩
          by_cases eq : q = j
          · subst eq; simpa [bestB] using h
          · exact c q (by omega)
        rw [e] at ih
        exact ih
      · have e : decide (∀ q, q < j + 1 → bestB s xs m i q = true) = false := by
          refine decide_eq_false fun h => c (decide_eq_true fun q hq => h q (by omega))
        rw [e] at ih
        exact ih) 0 (by omega)
    simpa using h
  have h := scanI (fun k i => spec_l24Next.l0 k xs m s (al s xs m i) (i : Int)) xs.length (fun _ => al s xs m xs.length) (Ev.up (g := fun k => spec_l24Next.l0 k xs m s (al s xs m xs.length) (xs.length : Int)) (Ev.const fun k => by
      simp only [spec_l24Next.l0]
      rw [if_neg (by omega)])) (by
    intro i hi ih
    refine Ev.up (g := fun k => spec_l24Next.l0 k xs m s (al s xs m i) (i : Int)) ?_
    simp only [spec_l24Next.l0]
    exact Ev.ifPos (by omega) (inner i hi _ ih)) 0 (by omega)
  exact h

/-! The rounds. -/
def win (s : Int) (xs m : List Int) : Int := rd (bl s xs m xs.length) 0
def give (s : Int) (xs m : List Int) : List Int := m.set (win s xs m).toNat (rd m (win s xs m) + 1)
def av (s : Int) (xs : List Int) : Nat → List Int
  | 0 => List.replicate xs.length 0
  | t + 1 => give s xs (av s xs t)
theorem win_first {s : Int} {xs m : List Int} (f : Fits s xs m) : ∃ h : Nat, win s xs m = (h : Int) ∧ IsFirst s xs m xs.length h := by
  obtain ⟨n, hn⟩ : ∃ n, xs.length = n + 1 := ⟨xs.length - 1, by have := f.some.1; omega⟩
  obtain ⟨h, t, e, hf, _⟩ := bl_first f n (by omega)
  refine ⟨h, ?_, by rw [hn]; exact hf⟩
  unfold win
  rw [hn, e]
  rfl
/-- (q, j) comes no later than (p, i): its average is greater, or the same and q is no later than p. -/
def Beats (s : Int) (xs : List Int) (q : Nat) (j : Int) (p : Nat) (i : Int) : Prop := rd xs (p : Int) * (1 + s * j) < rd xs (q : Int) * (1 + s * i) ∨ (rd xs (p : Int) * (1 + s * j) = rd xs (q : Int) * (1 + s * i) ∧ q ≤ p)
/-- What the votes have to be. -/
structure GoodV (s : Int) (xs : List Int) : Prop where
  step : 1 ≤ s ∧ s ≤ 2
  some : 1 ≤ xs.length ∧ xs.length ≤ 8
  vote : ∀ i, i < xs.length → 0 ≤ rd xs (i : Int) ∧ rd xs (i : Int) ≤ 1000000
/-- t mandates, none of which another party should have had. -/
structure Stable (s : Int) (xs m : List Int) (t : Nat) : Prop where
  len : m.length = xs.length
  mand : ∀ i, i < xs.length → 0 ≤ rd m (i : Int)
  sum : m.sum = t
  beats : ∀ q p, q < xs.length → p < xs.length → 1 ≤ rd m (q : Int) → Beats s xs q (rd m (q : Int) - 1) p (rd m (p : Int))
theorem le_sum : ∀ (m : List Int), (∀ x ∈ m, 0 ≤ x) → ∀ x ∈ m, x ≤ m.sum := by
  intro m
  induction m with
  | nil => intro _ x hx; cases hx
  | cons y m ih =>
    intro h x hx
    have h0 : 0 ≤ m.sum := by
      clear ih hx
      induction m with
      | nil => simp
      | cons z m ih =>
        have := ih (fun q hq => h q (by rcases List.mem_cons.1 hq with rfl | hq <;> simp [*]))
        have := h z (by simp)
        simp; omega
    have hy := h y (by simp)
    rcases List.mem_cons.1 hx with rfl | hx
    · simp; omega
    · have := ih (fun q hq => h q (by simp [hq])) x hx
      simp; omega
theorem rd_mem {m : List Int} {i : Nat} (h : i < m.length) : rd m (i : Int) ∈ m := by rw [rd_at h]; exact List.getElem_mem h
theorem mem_rd {m : List Int} {x : Int} (h : x ∈ m) : ∃ i, i < m.length ∧ rd m (i : Int) = x := by
  obtain ⟨i, hi, e⟩ := List.getElem_of_mem h
  exact ⟨i, hi, by rw [rd_at hi, e]⟩
theorem Stable.fits {s : Int} {xs m : List Int} {t : Nat} (g : GoodV s xs) (h : Stable s xs m t) (ht : t ≤ 60) : Fits s xs m :=
  ⟨g.step, g.some, h.len, g.vote, fun i hi => ⟨h.mand i hi, by
    have hm := h.len
    have := le_sum m (fun x hx => by obtain ⟨j, hj, rfl⟩ := mem_rd hx; exact h.mand j (by omega)) _ (rd_mem (m := m) (i := i) (by omega))
    rw [h.sum] at this
    omega⟩⟩
theorem sum_set : ∀ (m : List Int) (i : Nat) (v : Int), i < m.length → (m.set i v).sum = m.sum - rd m (i : Int) + v := by
  intro m
  induction m with
  | nil => intro i v h; simp at h
  | cons x m ih =>
    intro i v h
    cases i with
    | zero => simp [rd]; omega
    | succ i =>
      have h' := ih i v (by simpa using h)
      have e : rd (x :: m) ((i + 1 : Nat) : Int) = rd m (i : Int) := by unfold rd; simp
      rw [e]
      simp only [List.set_cons_succ, List.sum_cons, h']
      omega
theorem rd_set {m : List Int} {i j : Nat} {v : Int} (h : i < m.length) : rd (m.set i v) (j : Int) = if i = j then v else rd m (j : Int) := by
  unfold rd
  simp only [Int.toNat_natCast, List.getD_eq_getElem?_getD, List.getElem?_set]
  by_cases e : i = j
  · subst e; simp [h]
  · simp [e]
theorem stable_zero {s : Int} {xs : List Int} : Stable s xs (List.replicate xs.length 0) 0 := by
  have e : ∀ i, i < xs.length → rd (List.replicate xs.length (0 : Int)) (i : Int) = 0 := by
    intro i hi
    rw [rd_at (by simpa using hi)]; simp
  refine ⟨by simp, fun i hi => by rw [e i hi]; omega, by simp, fun q p hq hp h => by rw [e q hq] at h; omega⟩
theorem stable_give {s : Int} {xs m : List Int} {t : Nat} (g : GoodV s xs) (h : Stable s xs m t) (ht : t + 1 ≤ 60) : Stable s xs (give s xs m) (t + 1) := by
  have f := h.fits g (by omega)
  obtain ⟨w, ew, hw⟩ := win_first f
  have hl := h.len
  have hwl : w < m.length := by have := hw.1; omega
  unfold give
  rw [ew, Int.toNat_natCast]
  refine ⟨by simp [hl], ?_, by rw [sum_set m w _ hwl, h.sum]; push_cast; omega, ?_⟩
  · intro i hi
    rw [rd_set hwl]
    have := h.mand i hi
    have := h.mand w (by omega)
    split <;> omega
  · intro q p hq hp hge
    have dw := (f.dv (i := w) hw.1).1
    have dp := (f.dv (i := p) hp).1
    have vw := f.vote w hw.1
    have vq := f.vote q hq
    have vp := f.vote p hp
    have hs := f.step
    have mw := f.mand w hw.1
    rw [rd_set hwl] at hge
    rw [rd_set hwl, rd_set hwl]
    -- w's own next average is no greater
    have more : rd xs (w : Int) * (1 + s * rd m (w : Int)) ≤ rd xs (w : Int) * (1 + s * (rd m (w : Int) + 1)) := by
      rw [Int.mul_comm (rd xs (w : Int)), Int.mul_comm (rd xs (w : Int))]
      refine mul_le ?_ vw.1
      rw [Int.mul_add]
      omega
    by_cases e1 : w = q
    · subst e1
      rw [if_pos rfl]
      have e3 : rd m (w : Int) + 1 - 1 = rd m (w : Int) := by omega
      rw [e3]
      by_cases e2 : w = p
      · subst e2
        rw [if_pos rfl]
        unfold Beats
        by_cases c : rd xs (w : Int) * (1 + s * rd m (w : Int)) < rd xs (w : Int) * (1 + s * (rd m (w : Int) + 1))
        · exact Or.inl c
        · exact Or.inr ⟨by omega, Nat.le_refl _⟩
      · rw [if_neg e2]
        have a1 := hw.2.1 p hp
        unfold dv at a1
        unfold Beats
        by_cases c : rd xs (p : Int) * (1 + s * rd m (w : Int)) < rd xs (w : Int) * (1 + s * rd m (p : Int))
        · exact Or.inl c
        · refine Or.inr ⟨by omega, ?_⟩
          by_cases d : w ≤ p
          · exact d
          · have a2 := hw.2.2 p (by omega)
            unfold dv at a2
            omega
    · rw [if_neg e1] at hge ⊢
      by_cases e2 : w = p
      · subst e2
        rw [if_pos rfl]
        have b := h.beats q w hq hw.1 hge
        unfold Beats at b ⊢
        have vmore : rd xs (q : Int) * (1 + s * rd m (w : Int)) ≤ rd xs (q : Int) * (1 + s * (rd m (w : Int) + 1)) := by
          rw [Int.mul_comm (rd xs (q : Int)), Int.mul_comm (rd xs (q : Int))]
          refine mul_le ?_ vq.1
          rw [Int.mul_add]
          omega
        rcases b with b | ⟨b, b'⟩
        · exact Or.inl (by omega)
        · by_cases c : rd xs (w : Int) * (1 + s * (rd m (q : Int) - 1)) < rd xs (q : Int) * (1 + s * (rd m (w : Int) + 1))
          · exact Or.inl c
          · exact Or.inr ⟨by omega, b'⟩
      · rw [if_neg e2]
        exact h.beats q p hq hp hge
theorem stable_av {s : Int} {xs : List Int} (g : GoodV s xs) : ∀ t, t ≤ 60 → Stable s xs (av s xs t) t := by
  intro t
  induction t with
  | zero => intro _; exact stable_zero
  | succ t ih => intro ht; exact stable_give g (ih (by omega)) ht

/-- With the same sum, where one has less another has more. -/
theorem more_of_less : ∀ (a b : List Int), a.length = b.length → a.sum = b.sum → ∀ p, p < a.length → rd b (p : Int) < rd a (p : Int) → ∃ q, q < a.length ∧ rd a (q : Int) < rd b (q : Int) := by
  have key : ∀ (a b : List Int), a.length = b.length → (∀ q, q < a.length → rd b (q : Int) ≤ rd a (q : Int)) → b.sum ≤ a.sum ∧ ∀ p, p < a.length → rd b (p : Int) < rd a (p : Int) → b.sum < a.sum := by
    intro a
    induction a with
    | nil =>
      intro b hl _
      have : b = [] := List.length_eq_zero_iff.1 hl.symm
      subst this
      exact ⟨Int.le_refl _, fun p hp => by simp at hp⟩
    | cons x a ih =>
      intro b hl h
      cases b with
      | nil => simp at hl
      | cons y b =>
        have e : ∀ (z : Int) (l : List Int) (i : Nat), rd (z :: l) ((i + 1 : Nat) : Int) = rd l (i : Int) := by intro z l i; unfold rd; simp
        have e0 : ∀ (z : Int) (l : List Int), rd (z :: l) ((0 : Nat) : Int) = z := fun _ _ => rfl
        obtain ⟨h1, h2⟩ := ih b (by simpa using hl) (fun q hq => by have := h (q + 1) (by simpa using hq); rwa [e, e] at this)
        have h0 := h 0 (by simp)
        rw [e0, e0] at h0
        simp only [List.sum_cons]
        refine ⟨by omega, fun p hp hlt => ?_⟩
        cases p with
        | zero => rw [e0, e0] at hlt; omega
        | succ p =>
          rw [e, e] at hlt
          have := h2 p (by simpa using hp) hlt
          omega
  intro a b hl hs p hp hlt
  by_cases h : ∃ q, q < a.length ∧ rd a (q : Int) < rd b (q : Int)
  · exact h
  · have := (key a b hl (fun q hq => by
      by_cases c : rd b (q : Int) ≤ rd a (q : Int)
      · exact c
      · exact absurd ⟨q, hq, by omega⟩ h)).2 p hp hlt
    omega
/-- A party with more votes, the others' being the same, gets no fewer mandates. -/
theorem mono {s : Int} {xs ys : List Int} (gx : GoodV s xs) (gy : GoodV s ys) (hl : xs.length = ys.length) {p : Nat} (hp : p < xs.length) (hv : rd xs (p : Int) ≤ rd ys (p : Int)) (hq : ∀ q, q ≠ p → rd xs (q : Int) = rd ys (q : Int)) {t : Nat} (ht : t ≤ 60) :
    rd (av s xs t) (p : Int) ≤ rd (av s ys t) (p : Int) := by
  have sx := stable_av gx t ht
  have sy := stable_av gy t ht
  by_cases c : rd (av s xs t) (p : Int) ≤ rd (av s ys t) (p : Int)
  · exact c
  · exfalso
    have hlx := sx.len
    have hly := sy.len
    obtain ⟨q, hql, hqm⟩ := more_of_less (av s xs t) (av s ys t) (by omega) (by rw [sx.sum, sy.sum]) p (by omega) (by omega)
    have hqp : q ≠ p := by rintro rfl; omega
    have mp := sy.mand p (by omega)
    have mq := sx.mand q (by omega)
    have A := sx.beats p q hp (by omega) (by omega)
    have B := sy.beats q p (by omega) (by omega) (by omega)
    have fx := sx.fits gx ht
    have fy := sy.fits gy ht
    have hs := gx.step
    have vq := gx.vote q (by omega)
    have vp := gx.vote p hp
    have evq := hq q hqp
    unfold Beats at A B
    rw [← evq] at B
    generalize ea : rd (av s xs t) (p : Int) = pa at *
    generalize eb : rd (av s ys t) (p : Int) = pb at *
    generalize ec : rd (av s xs t) (q : Int) = qa at *
    generalize ed : rd (av s ys t) (q : Int) = qb at *
    generalize ee : rd xs (p : Int) = va at *
    generalize ef : rd ys (p : Int) = vb at *
    generalize eg : rd xs (q : Int) = v at *
    -- va (1 + s qa) ≥ v (1 + s (pa - 1)) ≥ v (1 + s pb) ≥ vb (1 + s (qb - 1)) ≥ va (1 + s qa)
    have m1 : v * (1 + s * pb) ≤ v * (1 + s * (pa - 1)) := by
      rw [Int.mul_comm v, Int.mul_comm v]
      refine mul_le ?_ vq.1
      have : s * pb ≤ s * (pa - 1) := by rw [Int.mul_comm s, Int.mul_comm s]; exact mul_le (by omega) (by omega)
      omega
    have m2 : vb * (1 + s * qa) ≤ vb * (1 + s * (qb - 1)) := by
      rw [Int.mul_comm vb, Int.mul_comm vb]
      refine mul_le ?_ (by omega)
      have : s * qa ≤ s * (qb - 1) := by rw [Int.mul_comm s, Int.mul_comm s]; exact mul_le (by omega) (by omega)
      omega
    have m3 : va * (1 + s * qa) ≤ vb * (1 + s * qa) := by
      refine mul_le hv ?_
      have : 0 ≤ s * qa := Int.mul_nonneg (by omega) mq
      omega
    rcases A with A | ⟨A, A'⟩
    · rcases B with B | ⟨B, B'⟩ <;> omega
    · rcases B with B | ⟨B, B'⟩
      · omega
      · omega

theorem specAverages_ev {s : Int} {xs : List Int} (g : GoodV s xs) {t : Nat} (ht : t ≤ 60) : ∃ b, Ev (fun k => spec_l24Averages.f k xs (t : Int) s) (av s xs t, b) := by
  have hl := g.some
  have step : ∀ d i (b : List Int), i + d = t → ∃ b', Ev (fun k => spec_l24Averages.l0 k xs (t : Int) s (av s xs i) b (i : Int)) (av s xs t, b') := by
    intro d
    induction d with
    | zero =>
      intro i b hi
      have e : i = t := by omega
      subst e
      refine ⟨b, Ev.up (g := fun k => spec_l24Averages.l0 k xs (i : Int) s (av s xs i) b (i : Int)) (Ev.const fun k => ?_)⟩
      simp only [spec_l24Averages.l0]
      rw [if_neg (by omega)]
    | succ d ih =>
      intro i b hi
      have st := stable_av g i (by omega)
      have f := st.fits g (by omega)
      obtain ⟨w, ew, hw⟩ := win_first f
      obtain ⟨tl, htl⟩ := (al_first hw xs.length (Nat.le_refl _)).2 hw.1
      obtain ⟨b', hb'⟩ := ih (i + 1) (al s xs (av s xs i) xs.length) (by omega)
      refine ⟨b', Ev.up (g := fun k => spec_l24Averages.l0 k xs (t : Int) s (av s xs i) b (i : Int)) ?_⟩
      have e0 : rd (al s xs (av s xs i) xs.length) 0 = (w : Int) := by rw [htl]; rfl
      have hm := st.len
      have mw := f.mand w hw.1
      simp only [spec_l24Averages.l0]
      refine Ev.ifPos (by omega) (Ev.bindE (specNext_ev f) ?_)
      rw [e0, w64 (x := rd (av s xs i) (w : Int) + 1) (by omega) (by omega), wnext (i := i) (n := t) (by omega) (by omega)]
      refine Ev.ifPos (by rw [htl]; simp only [List.length_cons]; omega) (Ev.ifPos (by omega) (Ev.ifPos (by have := hw.1; omega) ?_))
      have e1 : (av s xs i).set (w : Int).toNat (rd (av s xs i) (w : Int) + 1) = av s xs (i + 1) := by
        rw [av, give, ew]
      rw [e1]
      exact hb'
  obtain ⟨b, hb⟩ := step t 0 [] (by omega)
  refine ⟨b, ?_⟩
  unfold spec_l24Averages.f
  refine Ev.ifPos (by omega) (Ev.ifPos (by omega) ?_)
  exact hb
theorem implAverages_ev {s : Int} {xs : List Int} (g : GoodV s xs) {t : Nat} (ht : t ≤ 60) : ∃ b, Ev (fun k => impl_byAverages.f k xs (t : Int) s) (av s xs t, b) := by
  have hl := g.some
  have step : ∀ d i (b : List Int), i + d = t → ∃ b', Ev (fun k => impl_byAverages.l0 k xs (d : Int) s (av s xs i) b) (av s xs t, b') := by
    intro d
    induction d with
    | zero =>
      intro i b hi
      have e : i = t := by omega
      subst e
      refine ⟨b, Ev.up (g := fun k => impl_byAverages.l0 k xs ((0 : Nat) : Int) s (av s xs i) b) (Ev.const fun k => ?_)⟩
      simp only [impl_byAverages.l0]
      rw [if_neg (by omega)]
    | succ d ih =>
      intro i b hi
      have st := stable_av g i (by omega)
      have f := st.fits g (by omega)
      obtain ⟨w, ew, hw⟩ := win_first f
      obtain ⟨b', hb'⟩ := ih (i + 1) (bl s xs (av s xs i) xs.length) (by omega)
      refine ⟨b', Ev.up (g := fun k => impl_byAverages.l0 k xs ((d + 1 : Nat) : Int) s (av s xs i) b) ?_⟩
      have e0 : rd (bl s xs (av s xs i) xs.length) 0 = (w : Int) := ew
      have hm := st.len
      have mw := f.mand w hw.1
      obtain ⟨n, hn⟩ : ∃ n, xs.length = n + 1 := ⟨xs.length - 1, by omega⟩
      obtain ⟨h, tl, e, _, _⟩ := bl_first f n (by omega)
      rw [← hn] at e
      simp only [impl_byAverages.l0]
      refine Ev.ifPos (by omega) (Ev.bindE (implBest_ev f) ?_)
      rw [e0, w64 (x := rd (av s xs i) (w : Int) + 1) (by omega) (by omega), w64 (x := ((d + 1 : Nat) : Int) - 1) (by omega) (by omega)]
      refine Ev.ifPos (by rw [e]; simp only [List.length_cons]; omega) (Ev.ifPos (by omega) (Ev.ifPos (by have := hw.1; omega) ?_))
      have e1 : (av s xs i).set (w : Int).toNat (rd (av s xs i) (w : Int) + 1) = av s xs (i + 1) := by
        rw [av, give, ew]
      have e2 : ((d + 1 : Nat) : Int) - 1 = (d : Int) := by omega
      rw [e1, e2]
      exact hb'
  obtain ⟨b, hb⟩ := step t 0 [] (by omega)
  refine ⟨b, ?_⟩
  unfold impl_byAverages.f
  refine Ev.ifPos (by omega) (Ev.ifPos (by omega) ?_)
  exact hb
end Go.Proofs.Ytoklpimhcdfbbaa.PAverages

/-! ## PGain -/
/- Plain laws of the votes that a party lacks: both find the least number with which it gains a mandate. For votes, mandates and a step that the program takes. -/
namespace Go.Proofs.Ytoklpimhcdfbbaa.PGain
open Go.RowKit Go.Proofs.YtoklpimhcdfbbaaW.PrintWords Go.Proofs.Ytoklpimhcdfbbaa.X Go.Proofs.Ytoklpimhcdfbbaa.B Go.Proofs.Ytoklpimhcdfbbaa.PVotes Go.Proofs.Ytoklpimhcdfbbaa.PAverages
/-- A party's mandates with v votes. -/
def W (s : Int) (xs : List Int) (t p : Nat) (v : Int) : Int := rd (av s (xs.set p v) t) (p : Int)
theorem good_set {s : Int} {xs : List Int} (g : GoodV s xs) {p : Nat} (hp : p < xs.length) {v : Int} (h : 0 ≤ v ∧ v ≤ 1000000) : GoodV s (xs.set p v) := by
  refine ⟨g.step, by simpa using g.some, fun i hi => ?_⟩
  rw [rd_set hp]
  have := g.vote i (by simpa using hi)
  split <;> omega
theorem W_mono {s : Int} {xs : List Int} (g : GoodV s xs) {t p : Nat} (hp : p < xs.length) (ht : t ≤ 60) {v w : Int} (h0 : 0 ≤ v) (h1 : v ≤ w) (h2 : w ≤ 1000000) : W s xs t p v ≤ W s xs t p w := by
  unfold W
  refine mono (good_set g hp (by omega)) (good_set g hp (by omega)) (by simp) (by simpa using hp) ?_ ?_ ht
  · rw [rd_set hp, rd_set hp, if_pos rfl, if_pos rfl]; exact h1
  · intro q hq
    rw [rd_set hp, rd_set hp, if_neg (fun e => hq e.symm), if_neg (fun e => hq e.symm)]
theorem set_own {xs : List Int} {p : Nat} (hp : p < xs.length) : xs.set p (rd xs (p : Int)) = xs := by
  rw [rd_at hp]; simp
theorem W_own {s : Int} {xs : List Int} {t p : Nat} (hp : p < xs.length) : W s xs t p (rd xs (p : Int)) = rd (av s xs t) (p : Int) := by
  unfold W; rw [set_own hp]
theorem av_len {s : Int} {xs : List Int} (g : GoodV s xs) {t : Nat} (ht : t ≤ 60) : (av s xs t).length = xs.length := (stable_av g t ht).len
theorem specWith_ev {s : Int} {xs : List Int} (g : GoodV s xs) {t p : Nat} (hp : p < xs.length) (ht : t ≤ 60) {v : Int} (h : 0 ≤ v ∧ v ≤ 1000000) : Ev (fun k => spec_l24With.f k xs (t : Int) s (p : Int) v) (W s xs t p v) := by
  obtain ⟨b, hb⟩ := specAverages_ev (good_set g hp h) ht
  have hl := g.some
  have ha := av_len (good_set g hp h) ht
  rw [List.length_set] at ha
  unfold spec_l24With.f spec_l00Own.f
  simp only [Option.bind_some, List.nil_append, List.length_nil]
  rw [if_pos (by omega)]
  simp only [Option.bind_some, Int.toNat_natCast]
  exact Ev.ifPos (by omega) (Ev.ifPos (by omega) (Ev.bindE hb (Ev.ifPos (by dsimp only; omega) (Ev.const fun _ => rfl))))
theorem implGains_ev {s : Int} {xs : List Int} (g : GoodV s xs) {t p : Nat} (hp : p < xs.length) (ht : t ≤ 60) {x : Int} (h0 : 0 ≤ x) (h1 : rd xs (p : Int) + x ≤ 1000000) {bf : List Int} (hb : bf.length = xs.length) :
    Ev (fun k => impl_VotesToGain_1.f k x xs (p : Int) (t : Int) s bf) (decide (W s xs t p (rd xs (p : Int) + x) > rd bf (p : Int))) := by
  have hv := g.vote p hp
  obtain ⟨b, hbv⟩ := implAverages_ev (good_set g hp (v := rd xs (p : Int) + x) (by omega)) ht
  have hl := g.some
  have ha := av_len (good_set g hp (v := rd xs (p : Int) + x) (by omega)) ht
  rw [List.length_set] at ha
  unfold impl_VotesToGain_1.f impl_clone_int64.f
  simp only [Option.bind_some, List.nil_append, List.length_nil]
  rw [if_pos (by omega)]
  simp only [Option.bind_some, Int.toNat_natCast, w64 (x := rd xs (p : Int) + x) (by omega) (by omega)]
  exact Ev.ifPos (by omega) (Ev.ifPos (by omega) (Ev.bindE hbv (Ev.ifPos (by dsimp only; omega) (Ev.ifPos (by omega) (Ev.const fun _ => rfl)))))
/-- So many votes more gain a mandate, and no fewer do. -/
def Least (s : Int) (xs : List Int) (t p : Nat) (r : Int) : Prop := 1 ≤ r ∧ W s xs t p (rd xs (p : Int) + r) > rd (av s xs t) (p : Int) ∧ ∀ x, 0 ≤ x → x < r → ¬ W s xs t p (rd xs (p : Int) + x) > rd (av s xs t) (p : Int)
theorem Least.uniq {s : Int} {xs : List Int} {t p : Nat} {r r' : Int} (a : Least s xs t p r) (b : Least s xs t p r') : r = r' := by
  rcases Int.lt_trichotomy r r' with c | c | c
  · exact absurd a.2.1 (b.2.2 r (by have := a.1; omega) c)
  · exact c
  · exact absurd b.2.1 (a.2.2 r' (by have := b.1; omega) c)
theorem implLoop_ev {s : Int} {xs : List Int} (g : GoodV s xs) {t p : Nat} (hp : p < xs.length) (ht : t ≤ 60) : ∀ (d : Nat) (lo hi : Int), hi - lo ≤ d → 1 ≤ lo → lo ≤ hi → rd xs (p : Int) + hi ≤ 1000000 →
    W s xs t p (rd xs (p : Int) + hi) > rd (av s xs t) (p : Int) → (∀ x, 0 ≤ x → x < lo → ¬ W s xs t p (rd xs (p : Int) + x) > rd (av s xs t) (p : Int)) →
    ∃ r, Ev (fun k => impl_VotesToGain.l0 k lo hi xs (t : Int) s (p : Int) (av s xs t)) (r, 0) ∧ Least s xs t p r := by
  have hv := g.vote p hp
  have fin : ∀ (lo hi : Int), ¬ lo < hi → 1 ≤ lo → lo ≤ hi → W s xs t p (rd xs (p : Int) + hi) > rd (av s xs t) (p : Int) → (∀ x, 0 ≤ x → x < lo → ¬ W s xs t p (rd xs (p : Int) + x) > rd (av s xs t) (p : Int)) →
      ∃ r, Ev (fun k => impl_VotesToGain.l0 k lo hi xs (t : Int) s (p : Int) (av s xs t)) (r, 0) ∧ Least s xs t p r := by
    intro lo hi h h1 h2 hh hl
    have e : lo = hi := by omega
    subst e
    refine ⟨lo, Ev.up (g := fun k => impl_VotesToGain.l0 k lo lo xs (t : Int) s (p : Int) (av s xs t)) ?_, h1, hh, hl⟩
    simp only [impl_VotesToGain.l0]
    exact Ev.ifNeg (by omega) (Ev.const fun _ => rfl)
  intro d
  induction d with
  | zero =>
    intro lo hi hd h1 h2 h3 hh hl
    exact fin lo hi (by omega) h1 h2 hh hl
  | succ d ih =>
    intro lo hi hd h1 h2 h3 hh hl
    by_cases h : lo < hi
    · have em : wrap64 (Int.tdiv (wrap64 (lo + hi)) 2) = (lo + hi) / 2 := by
        rw [w64 (x := lo + hi) (by omega) (by omega), Int.tdiv_eq_ediv_of_nonneg (by omega), w64 (by omega) (by omega)]
      have hgn := implGains_ev g hp ht (x := (lo + hi) / 2) (by omega) (by omega) (bf := av s xs t) (av_len g ht)
      by_cases c : W s xs t p (rd xs (p : Int) + (lo + hi) / 2) > rd (av s xs t) (p : Int)
      · obtain ⟨r, hr, hr'⟩ := ih lo ((lo + hi) / 2) (by omega) h1 (by omega) (by omega) c hl
        refine ⟨r, Ev.up (g := fun k => impl_VotesToGain.l0 k lo hi xs (t : Int) s (p : Int) (av s xs t)) ?_, hr'⟩
        simp only [impl_VotesToGain.l0, em]
        exact Ev.ifPos h (Ev.bindE hgn (Ev.ifPos (decide_eq_true c) hr))
      · have hw : wrap64 ((lo + hi) / 2 + 1) = (lo + hi) / 2 + 1 := w64 (by omega) (by omega)
        obtain ⟨r, hr, hr'⟩ := ih ((lo + hi) / 2 + 1) hi (by omega) (by omega) (by omega) h3 hh (by
          intro x h0 hx q
          have := W_mono g hp ht (v := rd xs (p : Int) + x) (w := rd xs (p : Int) + (lo + hi) / 2) (by omega) (by omega) (by omega)
          omega)
        refine ⟨r, Ev.up (g := fun k => impl_VotesToGain.l0 k lo hi xs (t : Int) s (p : Int) (av s xs t)) ?_, hr'⟩
        simp only [impl_VotesToGain.l0, em, hw]
        exact Ev.ifPos h (Ev.bindE hgn (Ev.ifNeg (by simpa using c) hr))
    · exact fin lo hi h h1 h2 hh hl
theorem specLoop_ev {s : Int} {xs : List Int} (g : GoodV s xs) {t p : Nat} (hp : p < xs.length) (ht : t ≤ 60) : ∀ (d : Nat) (lo hi : Int), hi - lo ≤ d + 1 → rd xs (p : Int) ≤ lo → lo < hi → hi ≤ 1000000 →
    W s xs t p hi > rd (av s xs t) (p : Int) → ¬ W s xs t p lo > rd (av s xs t) (p : Int) →
    ∃ r, Ev (fun k => spec_VotesToGain.l0 k xs (t : Int) s (p : Int) (rd (av s xs t) (p : Int)) lo hi) (r, 0) ∧ Least s xs t p r := by
  have hv := g.vote p hp
  have fin : ∀ (lo hi : Int), hi - lo ≤ 1 → rd xs (p : Int) ≤ lo → lo < hi → hi ≤ 1000000 → W s xs t p hi > rd (av s xs t) (p : Int) → ¬ W s xs t p lo > rd (av s xs t) (p : Int) →
      ∃ r, Ev (fun k => spec_VotesToGain.l0 k xs (t : Int) s (p : Int) (rd (av s xs t) (p : Int)) lo hi) (r, 0) ∧ Least s xs t p r := by
    intro lo hi hd h1 h2 h3 hh hl
    have e1 : rd xs (p : Int) + (hi - rd xs (p : Int)) = hi := by omega
    refine ⟨hi - rd xs (p : Int), Ev.up (g := fun k => spec_VotesToGain.l0 k xs (t : Int) s (p : Int) (rd (av s xs t) (p : Int)) lo hi) ?_, by omega, by rw [e1]; exact hh, ?_⟩
    · simp only [spec_VotesToGain.l0, w64 (x := hi - lo) (by omega) (by omega), w64 (x := hi - rd xs (p : Int)) (by omega) (by omega)]
      exact Ev.ifNeg (by omega) (Ev.ifPos (by omega) (Ev.ifPos (by omega) (Ev.const fun _ => rfl)))
    · intro x h0 hx q
      have := W_mono g hp ht (v := rd xs (p : Int) + x) (w := lo) (by omega) (by omega) (by omega)
      omega
  intro d
  induction d with
  | zero =>
    intro lo hi hd h1 h2 h3 hh hl
    exact fin lo hi (by omega) h1 h2 h3 hh hl
  | succ d ih =>
    intro lo hi hd h1 h2 h3 hh hl
    by_cases h : hi - lo > 1
    · have em : wrap64 (Int.tdiv (wrap64 (lo + hi)) 2) = (lo + hi) / 2 := by
        rw [w64 (x := lo + hi) (by omega) (by omega), Int.tdiv_eq_ediv_of_nonneg (by omega), w64 (by omega) (by omega)]
      have hgn := specWith_ev g hp ht (v := (lo + hi) / 2) (by omega)
      by_cases c : W s xs t p ((lo + hi) / 2) > rd (av s xs t) (p : Int)
      · obtain ⟨r, hr, hr'⟩ := ih lo ((lo + hi) / 2) (by omega) h1 (by omega) (by omega) c hl
        refine ⟨r, Ev.up (g := fun k => spec_VotesToGain.l0 k xs (t : Int) s (p : Int) (rd (av s xs t) (p : Int)) lo hi) ?_, hr'⟩
        simp only [spec_VotesToGain.l0, em, w64 (x := hi - lo) (by omega) (by omega)]
        exact Ev.ifPos h (Ev.bindE hgn (Ev.ifPos c hr))
      · obtain ⟨r, hr, hr'⟩ := ih ((lo + hi) / 2) hi (by omega) (by omega) (by omega) h3 hh c
        refine ⟨r, Ev.up (g := fun k => spec_VotesToGain.l0 k xs (t : Int) s (p : Int) (rd (av s xs t) (p : Int)) lo hi) ?_, hr'⟩
        simp only [spec_VotesToGain.l0, em, w64 (x := hi - lo) (by omega) (by omega)]
        exact Ev.ifPos h (Ev.bindE hgn (Ev.ifNeg c hr))
    · exact fin lo hi (by omega) h1 h2 h3 hh hl
/-- Both find the same. -/
theorem gain_ev (xs : List Int) (t s p : Int) (hn : xs.length ≤ 1048576) (hp : Rdr.I64 p) : ∃ r, Ev (fun k => spec_VotesToGain.f k xs t s p) r ∧ Ev (fun k => impl_VotesToGain.f k xs t s p) r := by
  have sc := specCode_ev xs t s (by omega)
  have ic := implCode_ev xs t s (by omega)
  by_cases c : code xs t s = 0
  · obtain ⟨hok, ht, hs⟩ := code_zero c
    obtain ⟨hl, hv⟩ := okVotes_in hok
    have g : GoodV s xs := ⟨hs, hl, hv⟩
    obtain ⟨t', rfl⟩ : ∃ t' : Nat, t = (t' : Int) := ⟨t.toNat, by omega⟩
    have htn : t' ≤ 60 := by omega
    have ew : wrap64 ((xs.length : Int) - 1) = (xs.length : Int) - 1 := w64 (by omega) (by omega)
    by_cases hin : 0 ≤ p ∧ p ≤ (xs.length : Int) - 1
    · obtain ⟨p', rfl⟩ : ∃ p' : Nat, p = (p' : Int) := ⟨p.toNat, by omega⟩
      have hpl : p' < xs.length := by omega
      have hvp := hv p' hpl
      obtain ⟨bb, hbb⟩ := implAverages_ev g htn
      have sown := specWith_ev g hpl htn (v := rd xs (p' : Int)) hvp
      rw [W_own hpl] at sown
      have smax := specWith_ev g hpl htn (v := 1000000) (by omega)
      have hmono := W_mono g hpl htn (v := rd xs (p' : Int)) (w := 1000000) (by omega) (by omega) (by omega)
      rw [W_own hpl] at hmono
      have ed : wrap64 (1000000 - rd xs (p' : Int)) = 1000000 - rd xs (p' : Int) := w64 (by omega) (by omega)
      have e1 : rd xs (p' : Int) + (1000000 - rd xs (p' : Int)) = 1000000 := by omega
      have spre : ∀ r, Ev (fun k => (spec_l24With.f k xs (t' : Int) s (p' : Int) (rd xs (p' : Int))).bind fun t151 => ((spec_l24With.f k xs (t' : Int) s (p' : Int) 1000000).bind fun t152 => (if t152 = t151 then (some ((0 : Int), (3 : Int))) else (spec_VotesToGain.l0 k xs (t' : Int) s (p' : Int) t151 (rd xs (p' : Int)) 1000000)))) r → Ev (fun k => spec_VotesToGain.f k xs (t' : Int) s (p' : Int)) r := by
        intro r hr
        unfold spec_VotesToGain.f
        refine Ev.bindE sc (Ev.ifPos c ?_)
        simp only [specIn_eq, Option.bind_some, ew, decide_eq_true hin, Bool.not_true]
        refine Ev.up (g := fun k => spec_VotesToGain.j0 k xs (t' : Int) s (p' : Int) (code xs (t' : Int) s) false) ?_
        simp only [spec_VotesToGain.j0]
        refine Ev.ifNeg (by simp) (Ev.up (g := fun k => spec_VotesToGain.j1 k xs (t' : Int) s (p' : Int) (code xs (t' : Int) s)) ?_)
        simp only [spec_VotesToGain.j1]
        exact Ev.ifPos c (Ev.ifPos (by omega) (Ev.ifPos (by omega) hr))
      by_cases h3 : W s xs t' p' 1000000 = rd (av s xs t') (p' : Int)
      · refine ⟨(0, 3), spre _ (Ev.bindE sown (Ev.bindE smax (Ev.ifPos h3 (Ev.const fun _ => rfl)))), ?_⟩
        unfold impl_VotesToGain.f
        refine Ev.bindE ic (Ev.ifPos c ?_)
        simp only [impl_size_int64.f, implIn_eq, Option.bind_some, ew, ed]
        refine Ev.ifPos (decide_eq_true hin) (Ev.bindE hbb (Ev.ifPos (by omega) (Ev.ifPos (by omega) ?_)))
        refine Ev.ite (fun q => ?_) (fun q => ?_)
        · refine Ev.up (g := fun k => impl_VotesToGain.j0 k 1 (1000000 - rd xs (p' : Int)) true xs (t' : Int) s (p' : Int) (av s xs t')) (Ev.const fun k => ?_)
          simp only [impl_VotesToGain.j0]
          rw [if_pos trivial]
        · refine Ev.bindE (implGains_ev g hpl htn (x := 1000000 - rd xs (p' : Int)) (by omega) (by omega) (av_len g htn)) ?_
          rw [e1, decide_eq_false (by omega : ¬ W s xs t' p' 1000000 > rd (av s xs t') (p' : Int)), Bool.not_false]
          refine Ev.up (g := fun k => impl_VotesToGain.j0 k 1 (1000000 - rd xs (p' : Int)) true xs (t' : Int) s (p' : Int) (av s xs t')) (Ev.const fun k => ?_)
          simp only [impl_VotesToGain.j0]
          rw [if_pos trivial]
      · have hgt : W s xs t' p' 1000000 > rd (av s xs t') (p' : Int) := by omega
        have hlt : rd xs (p' : Int) < 1000000 := by
          rcases Int.lt_or_le (rd xs (p' : Int)) 1000000 with q | q
          · exact q
          · have e : rd xs (p' : Int) = 1000000 := by omega
            have := W_own (s := s) (t := t') hpl
            rw [e] at this
            omega
        have own0 : ¬ W s xs t' p' (rd xs (p' : Int)) > rd (av s xs t') (p' : Int) := by rw [W_own hpl]; omega
        obtain ⟨r, hr, hr'⟩ := specLoop_ev g hpl htn (1000000 - rd xs (p' : Int)).toNat (rd xs (p' : Int)) 1000000 (by omega) (by omega) hlt (by omega) hgt own0
        obtain ⟨r2, hr2, hr2'⟩ := implLoop_ev g hpl htn (1000000 - rd xs (p' : Int)).toNat 1 (1000000 - rd xs (p' : Int)) (by omega) (by omega) (by omega) (by omega) (by rw [e1]; exact hgt) (by
          intro x h0 h1
          have : x = 0 := by omega
          subst this
          rw [Int.add_zero]
          exact own0)
        have er := Least.uniq hr' hr2'
        subst er
        refine ⟨(r, 0), spre _ (Ev.bindE sown (Ev.bindE smax (Ev.ifNeg h3 hr))), ?_⟩
        unfold impl_VotesToGain.f
        refine Ev.bindE ic (Ev.ifPos c ?_)
        simp only [impl_size_int64.f, implIn_eq, Option.bind_some, ew, ed]
        refine Ev.ifPos (decide_eq_true hin) (Ev.bindE hbb (Ev.ifPos (by omega) (Ev.ifPos (by omega) (Ev.ifNeg (by omega) ?_))))
        refine Ev.bindE (implGains_ev g hpl htn (x := 1000000 - rd xs (p' : Int)) (by omega) (by omega) (av_len g htn)) ?_
        rw [e1, decide_eq_true hgt, Bool.not_true]
        refine Ev.up (g := fun k => impl_VotesToGain.j0 k 1 (1000000 - rd xs (p' : Int)) false xs (t' : Int) s (p' : Int) (av s xs t')) ?_
        simp only [impl_VotesToGain.j0]
        exact Ev.ifNeg (by simp) hr2
    · refine ⟨(0, 2), ?_, ?_⟩
      · unfold spec_VotesToGain.f
        refine Ev.bindE sc (Ev.ifPos c ?_)
        simp only [specIn_eq, Option.bind_some, ew, decide_eq_false hin, Bool.not_false]
        refine Ev.up (g := fun k => spec_VotesToGain.j0 k xs (t' : Int) s p (code xs (t' : Int) s) true) ?_
        simp only [spec_VotesToGain.j0]
        refine Ev.ifPos trivial (Ev.up (g := fun k => spec_VotesToGain.j1 k xs (t' : Int) s p 2) (Ev.const fun k => ?_))
        simp only [spec_VotesToGain.j1]
        rw [if_neg (by omega)]
      · unfold impl_VotesToGain.f
        refine Ev.bindE ic (Ev.ifPos c ?_)
        simp only [impl_size_int64.f, implIn_eq, Option.bind_some, ew]
        exact Ev.ifNeg (by simpa using hin) (Ev.const fun _ => rfl)
  · refine ⟨(0, code xs t s), ?_, ?_⟩
    · unfold spec_VotesToGain.f
      refine Ev.bindE sc (Ev.ifNeg c ?_)
      refine Ev.up (g := fun k => spec_VotesToGain.j0 k xs t s p (code xs t s) false) ?_
      simp only [spec_VotesToGain.j0]
      refine Ev.ifNeg (by simp) (Ev.up (g := fun k => spec_VotesToGain.j1 k xs t s p (code xs t s)) (Ev.const fun k => ?_))
      simp only [spec_VotesToGain.j1]
      rw [if_neg c]
    · unfold impl_VotesToGain.f
      exact Ev.bindE ic (Ev.ifNeg c (Ev.const fun _ => rfl))
end Go.Proofs.Ytoklpimhcdfbbaa.PGain

/-! ## PureFnExactVotesToGain -/
/- The plain law of VotesToGain: both tell the same least number of votes, or the same fault. For all rows of at most 1048576 votes (the law says nothing of longer ones). -/
namespace Go.Proofs.Ytoklpimhcdfbbaa.Pure
open Go.RowKit Go.Proofs.YtoklpimhcdfbbaaW.PrintWords Go.Proofs.Ytoklpimhcdfbbaa.X Go.Proofs.Ytoklpimhcdfbbaa.B Go.Proofs.Ytoklpimhcdfbbaa.C
theorem FnExactVotesToGain : Say.FnExactVotesToGain := by
  intro xs t s p hxs ht hs hp
  refine Ev.rounds ?_
  unfold laws_FnExactVotesToGain.f
  refine Ev.ite (fun _ => Ev.const fun _ => rfl) (fun hx => ?_)
  have hx' : szv_Int64S xs ≤ 1048576 := by unfold szv_Int64S; omega
  have tx := to_Int64S xs hx'
  have fx := fitc_Int64S xs hx'
  obtain ⟨r, h1, h2⟩ := PGain.gain_ev xs t s p (by omega) hp
  refine Ev.bindE tx (Ev.bindE h1 (Ev.bindE tx (Ev.bindE h2 (Ev.ifPos rfl ?_))))
  simp only [bne_self_eq_false]
  refine Ev.up (g := fun k => laws_FnExactVotesToGain.j0 k xs xs false) ?_
  simp only [laws_FnExactVotesToGain.j0]
  exact Ev.ifNeg (by simp) (Ev.bindE tx (Ev.bindE (eq_Int64S _ fx) (Ev.ifPos rfl (Ev.const fun _ => rfl))))
end Go.Proofs.Ytoklpimhcdfbbaa.Pure

/-! ## LawFnExactVotesToGain -/
/- FnExactVotesToGain: the law's row, out of its plain statement and the walks. -/
namespace Go.Proofs.Ytoklpimhcdfbbaa.fnExactVotesToGain
open Go.ChangeShapes Go.WideShapes Go.ChangeAt Go.RowKit Go.Proofs.Ytoklpimhcdfbbaa.X
open Go.ChangeMaps (open_string shut_string)
theorem own : ownKnob Try.prog.godebug = none := by kernel_rfl
theorem laidOut : laidOutB Try.prog = true := by kernel_rfl
open Go.Proofs.YtoklpimhcdfbbaaW.PrintWords in
theorem reader0 : Rdr.Reads Try.prog 24 (Kd.slice 2 (Kd.int .i64)) (Rdr.Lst Rdr.I64) := (Rdr.reads_slice Try.underlying24 (by kernel_rfl) (Rdr.reads_i64 Try.underlying2 (by kernel_rfl)))
set_option maxRecDepth 100000 in
theorem lifted (os : Os) (started : os.Started) (H : Type) (enc : TypeId × Value → H) :
    ReturnsInHanded {} Try.checked os 4 .any (Rows.fnExactVotesToGainSpec.pre6 enc Try.prog Try.f4 Rows.fnExactVotesToGainRow.domain false) (Rows.fnExactVotesToGainSpec.post enc Try.prog Try.f4 false true false false) := by
  refine returnsInHanded_of_change_sized (C := Try.checked) own started (by kernel_rfl) Try.func4
    (ChangeSpec.witness6 (enc := enc) (C := Try.checked) false ⟨#[], #[.slice none 0 0, .int .i64 0, .int .i64 0, .int .i64 0], []⟩ 8 (by kernel_rfl) (by kernel_rfl) (by kernel_rfl) (by kernel_rfl)) ?_
  intro W base args ds gs before hval0 hW hcnd hsz0 _
  have hval : ∀ (j : Nat) t v, Try.f4.params[j]? = some t → args[j]? = some v → Value.okWide Try.prog W .any base t v := hval0
  have hW' := hW
  obtain ⟨p, q, hA0, hV, rfl, hfz, hnd⟩ := hW
  have hA : DataW.TrodAll enc Try.prog W 0 (fun _ => true) true Try.f4.params.toList args.toList ds p := hA0
  rw [Try.params4] at hA hval
  obtain ⟨v0, vs0, d0, ds0, p0, q0, hargs, rfl, rfl, h0, r0⟩ := trodAll_cons hA
  obtain ⟨v1, vs1, d1, ds1, p1, q1, rfl, rfl, rfl, h1, r1⟩ := trodAll_cons r0
  obtain ⟨v2, vs2, d2, ds2, p2, q2, rfl, rfl, rfl, h2, r2⟩ := trodAll_cons r1
  obtain ⟨v3, vs3, d3, ds3, p3, q3, rfl, rfl, rfl, h3, r3⟩ := trodAll_cons r2
  obtain ⟨rfl, rfl, rfl⟩ := trodAll_nil r3
  obtain rfl : args = #[v0, v1, v2, v3] := by cases args; simp_all
  obtain ⟨rfl, rfl⟩ := trodVars_none hV
  have k0 := h0
  have lt0 : ∀ x ∈ p0, x.block < W.heap.size := by obtain ⟨m, hm⟩ := k0; exact DataW.trod_lt m _ _ _ hm
  obtain ⟨fuel0, hf0⟩ := h0
  obtain ⟨x0, hK0, w0⟩ := reader0.read hf0
  obtain ⟨a0, len0, cap0, rfl⟩ := okWide_slice Try.underlying24 (hval 0 24 v0 rfl rfl)
  obtain ⟨A0, c0, hcs0, hl0, hC0⟩ := hK0
  simp [Value.cells] at hcs0
  obtain ⟨rfl, rfl, rfl⟩ := hcs0
  obtain ⟨a1, rfl, rfl, rfl, w1⟩ := open_int Try.underlying2 (hval 1 2 v1 rfl rfl) h1
  have y1 : Rdr.I64 a1 := bounds_i64 w1
  obtain ⟨a2, rfl, rfl, rfl, w2⟩ := open_int Try.underlying2 (hval 2 2 v2 rfl rfl) h2
  have y2 : Rdr.I64 a2 := bounds_i64 w2
  obtain ⟨a3, rfl, rfl, rfl, w3⟩ := open_int Try.underlying2 (hval 3 2 v3 rfl rfl) h3
  have y3 : Rdr.I64 a3 := bounds_i64 w3
  clear hA0 hval0 hsz0
  obtain ⟨k, h⟩ := Pure.FnExactVotesToGain x0 a1 a2 a3 w0 y1 y2 y3
  refine (laws_FnExactVotesToGain.calls k _ _ x0 a1 a2 a3 true W hC0 hl0 ⟨rfl⟩ h).mono fun e W' ⟨he, hd⟩ => ?_
  have bel : Below W.heap.size W W' := hd
  subst he
  exact ⟨_, rfl, _, _, _, [], _, [], hW', trodAll_mk1 (shut_bool Try.underlying4 _), (trodAll_cons_mk (Below.trod laidOut (by kernel_rfl) (of_decide_eq_true (by kernel_rfl)) k0 bel lt0) (trodAll_cons_mk (shut_int Try.underlying2 w1) (trodAll_cons_mk (shut_int Try.underlying2 w2) (trodAll_cons_mk (shut_int Try.underlying2 w3) trodAll_mk0)))), rfl, bel.frame _, fun h => by cases h⟩
theorem over : Rows.fnExactVotesToGainRow.holds Try.pinned (OpenSpec.ofChange Rows.fnExactVotesToGainSpec) :=
  OpenClaim.holds_of_wide 4 Try.f4 rfl rfl rfl rfl rfl rfl rfl ⟨rfl, rfl, rfl, rfl, rfl⟩ rfl rfl rfl rfl rfl (by kernel_rfl) Try.func4 (by kernel_rfl)
    (of_decide_eq_true (by kernel_rfl)) (by unfold Func.isWrapper; first | (rw [if_pos (by decide +kernel)]; kernel_rfl) | (rw [if_neg (by decide +kernel)]; exact ⟨rfl, rfl⟩))
    (fun os started H enc _ => lifted os started H enc)
theorem proved : Rows.FnExactVotesToGainSaid := over
end Go.Proofs.Ytoklpimhcdfbbaa.fnExactVotesToGain
namespace Go.Proofs.Ytoklpimhcdfbbaa
/-- The row, under a short name, for the claim. -/
theorem fnExactVotesToGain_holds : Rows.FnExactVotesToGainSaid := fnExactVotesToGain.proved
end Go.Proofs.Ytoklpimhcdfbbaa
