/- The plain law of CanStillWin: both tell whether a motion could still be won; the meeting is left as it is. For all meetings whose motions hold at most 1048576 letters and elements together (the law says nothing of greater ones). -/
import Derived.Test.YtfgfkmjpeffjbaaZFnExactCanStillWin0
import Derived.Test.YtfgfkmjpeffjbaaZFnExactCanStillWin1
import Derived.Test.YtfgfkmjpeffjbaaZFnExactCanStillWin2
import Derived.Test.YtfgfkmjpeffjbaaWWords
import Derived.Deep.Slices
import Derived.ChangeArms
import Derived.ProofKit
import Derived.OpenShut
import Derived.Test.YtfgfkmjpeffjbaaRows
import Derived.WalkKit
import Derived.ShutString
import Derived.ChangeOld
import Derived.Below
import Derived.SizedLaws
set_option linter.unusedVariables false
set_option linter.unusedSimpArgs false

/-! ## XLawsFnExactCanStillWin -/
namespace Go.Proofs.Ytfgfkmjpeffjbaa.X
open Go.RowKit Go.Proofs.Ytfgfkmjpeffjbaa.XV Go.Proofs.YtfgfkmjpeffjbaaW.PrintWords Go.Proofs.YtfgfkmjpeffjbaaW.PrintLast Go.Proofs.YtfgfkmjpeffjbaaW.PrintMore
attribute [local go_sem] max2_int min2_int max_two min_two max_three min_three max_four min_four

/-! ### laws_FnExactCanStillWin: function 8 -/
def laws_FnExactCanStillWin.j0 : Nat → Bool → Int → List (S87) → Int → List (S60) → Option (Bool)
 | 0, _, _, _, _, _ => none
 | k + 1, x41, x271000, x271001, x283000, x283001 => if x41 = true then (some false) else ((laws_toMeeting.f k x271000 x271001).bind fun bt285 => ((laws_eqMeeting.f k x283000 x283001 bt285.1 bt285.2).bind fun t289 => (if t289 = true then (some true) else (some false))))
def laws_FnExactCanStillWin.f (k : Nat) (a0_0 : Int) (l0_1 : List (S87)) (a1 : ByteArray) : Option (Bool) := if (a1.size : Int) > 1048576 then (some true) else ((laws_szMeeting.f k a0_0 l0_1 1048576).bind fun t271 => (if t271 < 0 then (some true) else ((laws_toMeeting.f k a0_0 l0_1).bind fun bt272 => ((spec_CanStillWin.f k bt272.1 bt272.2 a1).bind fun bt276 => ((laws_toMeeting.f k a0_0 l0_1).bind fun bt278 => ((impl_CanStillWin.f k bt278.1 bt278.2 a1).bind fun bt283 => (if (bt283.1 != bt276.1) = true then (some false) else (laws_FnExactCanStillWin.j0 k (bt283.2 != bt276.2) a0_0 l0_1 bt278.1 bt278.2))))))))
theorem laws_FnExactCanStillWin.mono_l : ∀ k, (∀ y0 y1 y2 y3 y4, LeO (laws_FnExactCanStillWin.j0 k y0 y1 y2 y3 y4) (laws_FnExactCanStillWin.j0 (k + 1) y0 y1 y2 y3 y4))
 | 0 => fun _ _ _ _ _ r h => by simp [laws_FnExactCanStillWin.j0] at h
 | k + 1 => by
  have ih0 := laws_FnExactCanStillWin.mono_l k
  ·intro y0 y1 y2 y3 y4
   unfold laws_FnExactCanStillWin.j0
   repeat' first
   | (with_reducible exact ih0 _ _ _ _ _)
   | (with_reducible exact impl_CanStillWin.mono _ _ _ _)
   | (with_reducible exact laws_eqMeeting.mono _ _ _ _ _)
   | (with_reducible exact laws_szMeeting.mono _ _ _ _)
   | (with_reducible exact laws_toMeeting.mono _ _ _)
   | (with_reducible exact spec_CanStillWin.mono _ _ _ _)
   | (with_reducible exact LeO.refl _)
   | (with_reducible exact LeO.none _)
   | (with_reducible refine LeO.ite ?_ ?_)
   | (with_reducible refine LeO.bind ?_ (fun _ => ?_))
   | exact ih0 _ _ _ _ _
   | exact impl_CanStillWin.mono _ _ _ _
   | exact laws_eqMeeting.mono _ _ _ _ _
   | exact laws_szMeeting.mono _ _ _ _
   | exact laws_toMeeting.mono _ _ _
   | exact spec_CanStillWin.mono _ _ _ _
   | exact LeO.none _
   | refine LeO.ite ?_ ?_
   | refine LeO.bind ?_ (fun _ => ?_)
theorem laws_FnExactCanStillWin.mono : ∀ a0 a1 a2 k, LeO (laws_FnExactCanStillWin.f k a0 a1 a2) (laws_FnExactCanStillWin.f (k + 1) a0 a1 a2) := by
 intro a0 a1 a2 k
 have ih0 := laws_FnExactCanStillWin.mono_l k
 unfold laws_FnExactCanStillWin.f
 repeat' first
   | (with_reducible exact ih0 _ _ _ _ _)
   | (with_reducible exact impl_CanStillWin.mono _ _ _ _)
   | (with_reducible exact laws_eqMeeting.mono _ _ _ _ _)
   | (with_reducible exact laws_szMeeting.mono _ _ _ _)
   | (with_reducible exact laws_toMeeting.mono _ _ _)
   | (with_reducible exact spec_CanStillWin.mono _ _ _ _)
   | (with_reducible exact LeO.refl _)
   | (with_reducible exact LeO.none _)
   | (with_reducible refine LeO.ite ?_ ?_)
   | (with_reducible refine LeO.bind ?_ (fun _ => ?_))
   | exact ih0 _ _ _ _ _
   | exact impl_CanStillWin.mono _ _ _ _
   | exact laws_eqMeeting.mono _ _ _ _ _
   | exact laws_szMeeting.mono _ _ _ _
   | exact laws_toMeeting.mono _ _ _
   | exact spec_CanStillWin.mono _ _ _ _
   | exact LeO.none _
   | refine LeO.ite ?_ ?_
   | refine LeO.bind ?_ (fun _ => ?_)
set_option maxHeartbeats 8000000 in
set_option maxRecDepth 100000 in
theorem laws_FnExactCanStillWin.calls (k : Nat) (a0_0 : Int) (A0_1 : Option Addr) (c0_1 : Nat) (l0_1 : List (S87)) (a1 : ByteArray) (r : Bool) (w : World) (hr0_1 : Kd.C k87 w A0_1 l0_1.length l0_1) (hc0_1 : l0_1.length ≤ c0_1) (hr_ : Aside0 (r = true)) (h : laws_FnExactCanStillWin.f k a0_0 l0_1 a1 = some r) :
  Calls Try.prog 8 #[.agg #[.int .i64 a0_0, .slice A0_1 l0_1.length c0_1], .string a1] w fun e w' => e = .returned (.bool r) ∧ Below w.heap.size w w' := by
 have hu24 := Try.underlying24
 have hu29 := Try.underlying29
 have HR0_1 := Aside0.mk hr0_1
 have HC0_1 := Aside0.mk hc0_1
 clear hr0_1 hc0_1
 have HB := Aside0.mk (Below.refl w.heap.size w)
 have H : (if (a1.size : Int) > 1048576 then (some true) else ((laws_szMeeting.f k a0_0 l0_1 1048576).bind fun t271 => (if t271 < 0 then (some true) else ((laws_toMeeting.f k a0_0 l0_1).bind fun bt272 => ((spec_CanStillWin.f k bt272.1 bt272.2 a1).bind fun bt276 => ((laws_toMeeting.f k a0_0 l0_1).bind fun bt278 => ((impl_CanStillWin.f k bt278.1 bt278.2 a1).bind fun bt283 => (if (bt283.1 != bt276.1) = true then (some false) else (laws_FnExactCanStillWin.j0 k (bt283.2 != bt276.2) a0_0 l0_1 bt278.1 bt278.2))))))))) = some r := h
 clear h
 by_cases c3 : (a1.size : Int) > 1048576
 ·rw [if_pos c3] at H
  have c3b0 : decide (1048576 < (a1.size : Int)) = true := decide_eq_true c3
  have c3b1 : decide (1048576 < a1.size) = true := decide_eq_true (by omega)
  clear c3
  obtain rfl := Option.some.inj H
  go_enter Try.func8, Try.ntmps8
  go_wp2_with (first | ((with_reducible refine gate_dst (N := 2) rfl ?_); refine box_event ?hg (N := 2) ?hd (cs := #[.int .i64 a0_0, .slice A0_1 l0_1.length c0_1]) (t := 24) ?hr ?_; (case hd => rfl); (case hg => rfl); (case hr => first | (go_simp; done) | (go_simp; rfl)); intro gb270 hg w4 hbox hb; have n0_ := Aside0.mk (below_step (by repeat (first | (with_reducible first | exact HB.out | apply below_alloc | apply pw_below_drewN | apply below_drew1) | exact HB.out)) hb); have n1_ := Aside0.mk (hbox); have n2_ := Aside0.mk ((by rw [hg]; exact (below_size (by repeat (first | (with_reducible first | exact HB.out | apply below_alloc | apply pw_below_drewN | apply below_drew1) | exact HB.out))) : w.heap.size ≤ gb270)); have n3_ := Aside0.mk ((by rw [hg]; exact (below_size (by repeat (first | (with_reducible first | exact HB.out | apply below_alloc | apply pw_below_drewN | apply below_drew1) | exact HB.out))) : w.heap.size ≤ gb270)); clear HB; have HB := n0_; have BK270 := n1_; have GW270 := n2_; have GE270 := n3_; clear n0_ n1_ n2_ n3_; clear hb hbox hg))
  go_ret
  exact ⟨by first | rfl | (simp [errW_none, errW_some] <;> rfl) | (simp [*, errW_none, errW_some] <;> rfl), by repeat (first | (with_reducible first | exact HB.out | apply below_alloc | apply pw_below_drewN | apply below_drew1 | refine below_set ?_ GE270.out) | exact HB.out)⟩
 ·rw [if_neg c3] at H
  have c3b0 : decide (1048576 < (a1.size : Int)) = false := decide_eq_false c3
  have c3b1 : decide (1048576 < a1.size) = false := decide_eq_false (by omega)
  clear c3
  replace H := Option.bind_eq_some_iff.mp H
  obtain ⟨t271, A50, H⟩ := H
  replace H : (if t271 < 0 then (some true) else ((laws_toMeeting.f k a0_0 l0_1).bind fun bt272 => ((spec_CanStillWin.f k bt272.1 bt272.2 a1).bind fun bt276 => ((laws_toMeeting.f k a0_0 l0_1).bind fun bt278 => ((impl_CanStillWin.f k bt278.1 bt278.2 a1).bind fun bt283 => (if (bt283.1 != bt276.1) = true then (some false) else (laws_FnExactCanStillWin.j0 k (bt283.2 != bt276.2) a0_0 l0_1 bt278.1 bt278.2))))))) = some r := H
  have A5 := Aside0.mk A50
  clear A50
  by_cases c6 : t271 < 0
  ·rw [if_pos c6] at H
   have c6b0 : decide (t271 < 0) = true := decide_eq_true c6
   clear c6
   obtain rfl := Option.some.inj H
   go_enter Try.func8, Try.ntmps8
   go_wp2_with (first | ((with_reducible refine gate_dst (N := 2) rfl ?_); refine box_event ?hg (N := 2) ?hd (cs := #[.int .i64 a0_0, .slice A0_1 l0_1.length c0_1]) (t := 24) ?hr ?_; (case hd => rfl); (case hg => rfl); (case hr => first | (go_simp; done) | (go_simp; rfl)); intro gb270 hg w7 hbox hb; have n0_ := Aside0.mk (below_step (by repeat (first | (with_reducible first | exact HB.out | apply below_alloc | apply pw_below_drewN | apply below_drew1) | exact HB.out)) hb); have n1_ := Aside0.mk (hbox); have n2_ := Aside0.mk ((by rw [hg]; exact (below_size (by repeat (first | (with_reducible first | exact HB.out | apply below_alloc | apply pw_below_drewN | apply below_drew1) | exact HB.out))) : w.heap.size ≤ gb270)); have n3_ := Aside0.mk ((by rw [hg]; exact (below_size (by repeat (first | (with_reducible first | exact HB.out | apply below_alloc | apply pw_below_drewN | apply below_drew1) | exact HB.out))) : w.heap.size ≤ gb270)); clear HB; have HB := n0_; have BK270 := n1_; have GW270 := n2_; have GE270 := n3_; clear n0_ n1_ n2_ n3_; clear hb hbox hg; have hcz8_0 : w7.cell? ⟨gb270, 0, none⟩ = some (.int .i64 a0_0) := (blk_cell BK270.out 0).trans rfl; have hcz8_1 : w7.cell? ⟨gb270, 1, none⟩ = some (.slice A0_1 l0_1.length c0_1) := (blk_cell BK270.out 1).trans rfl; have hfz8_0 := blk_frozen BK270.out 0; have hfz8_1 := blk_frozen BK270.out 1) | ((with_reducible refine gate_callee (f := 14) rfl ?_); refine goesL_ (some 16) rfl rfl Try.func14 (by kernel_rfl) rfl #[.agg #[.int .i64 a0_0, .slice A0_1 l0_1.length c0_1], .int .i64 1048576] rfl (by (try simp only [List.map_toArray, List.map_cons, List.map_nil]); first | done | rfl | (simp only [List.length_drop, List.length_take]; rfl)) ?_; (with_reducible refine (laws_szMeeting.calls k a0_0 _ _ l0_1 1048576 t271 _ ?side1 ?side2 A5.out).mono ?_); (case side1 => repeat (first | exact (Kd.C_below HR0_1.out HB.out) | (with_reducible refine Kd.C_alloc ?_ _) | (with_reducible refine Kd.C_drewN ?_ _) | (with_reducible refine Kd.C_drew ?_))); (case side2 => exact HC0_1.out); rintro e w9 ⟨rfl, hb⟩; refine ⟨_, rfl, ?_⟩; have n0_ := Aside0.mk (blk_below (g := gb270) (o := .cells #[.int .i64 a0_0, .slice A0_1 l0_1.length c0_1] 24 (0, 0)) (by (with_reducible repeat (first | refine blk_drewN ?_ _ | refine blk_drew ?_ | refine blk_alloc ?_ _)); exact BK270.out) hb); have n1_ := Aside0.mk (below_step (by repeat (first | (with_reducible first | exact HB.out | apply below_alloc | apply pw_below_drewN | apply below_drew1 | refine below_set ?_ GE270.out) | exact HB.out)) hb); clear BK270; clear HB; have BK270 := n0_; have HB := n1_; clear n0_ n1_; (try clear hb); (try clear hb2); (try clear hk); (try clear hi)))
   go_ret
   exact ⟨by first | rfl | (simp [errW_none, errW_some] <;> rfl) | (simp [*, errW_none, errW_some] <;> rfl), by repeat (first | (with_reducible first | exact HB.out | apply below_alloc | apply pw_below_drewN | apply below_drew1 | refine below_set ?_ GE270.out) | exact HB.out)⟩
  ·rw [if_neg c6] at H
   have c6b0 : decide (t271 < 0) = false := decide_eq_false c6
   clear c6
   replace H := Option.bind_eq_some_iff.mp H
   obtain ⟨⟨t272, t273⟩, A100, H⟩ := H
   replace H : ((spec_CanStillWin.f k t272 t273 a1).bind fun bt276 => ((laws_toMeeting.f k a0_0 l0_1).bind fun bt278 => ((impl_CanStillWin.f k bt278.1 bt278.2 a1).bind fun bt283 => (if (bt283.1 != bt276.1) = true then (some false) else (laws_FnExactCanStillWin.j0 k (bt283.2 != bt276.2) a0_0 l0_1 bt278.1 bt278.2))))) = some r := H
   have A10 := Aside0.mk A100
   clear A100
   replace H := Option.bind_eq_some_iff.mp H
   obtain ⟨⟨t276, t277⟩, A110, H⟩ := H
   replace H : ((laws_toMeeting.f k a0_0 l0_1).bind fun bt278 => ((impl_CanStillWin.f k bt278.1 bt278.2 a1).bind fun bt283 => (if (bt283.1 != t276) = true then (some false) else (laws_FnExactCanStillWin.j0 k (bt283.2 != t277) a0_0 l0_1 bt278.1 bt278.2)))) = some r := H
   have A11 := Aside0.mk A110
   clear A110
   replace H := Option.bind_eq_some_iff.mp H
   obtain ⟨⟨t278, t279⟩, A120, H⟩ := H
   replace H : ((impl_CanStillWin.f k t278 t279 a1).bind fun bt283 => (if (bt283.1 != t276) = true then (some false) else (laws_FnExactCanStillWin.j0 k (bt283.2 != t277) a0_0 l0_1 t278 t279))) = some r := H
   have A12 := Aside0.mk A120
   clear A120
   replace H := Option.bind_eq_some_iff.mp H
   obtain ⟨⟨t283, t284⟩, A130, H⟩ := H
   replace H : (if (t283 != t276) = true then (some false) else (laws_FnExactCanStillWin.j0 k (t284 != t277) a0_0 l0_1 t278 t279)) = some r := H
   have A13 := Aside0.mk A130
   clear A130
   have HC14 := Aside0.mk H
   clear H
   go_enter Try.func8, Try.ntmps8
   go_upto_region 10 with (first | ((with_reducible refine gate_dst (N := 2) rfl ?_); refine box_event ?hg (N := 2) ?hd (cs := #[.int .i64 a0_0, .slice A0_1 l0_1.length c0_1]) (t := 24) ?hr ?_; (case hd => rfl); (case hg => rfl); (case hr => first | (go_simp; done) | (go_simp; rfl)); intro gb270 hg w15 hbox hb; have n0_ := Aside0.mk (below_step (by repeat (first | (with_reducible first | exact HB.out | apply below_alloc | apply pw_below_drewN | apply below_drew1) | exact HB.out)) hb); have n1_ := Aside0.mk (hbox); have n2_ := Aside0.mk ((by rw [hg]; exact (below_size (by repeat (first | (with_reducible first | exact HB.out | apply below_alloc | apply pw_below_drewN | apply below_drew1) | exact HB.out))) : w.heap.size ≤ gb270)); have n3_ := Aside0.mk ((by rw [hg]; exact (below_size (by repeat (first | (with_reducible first | exact HB.out | apply below_alloc | apply pw_below_drewN | apply below_drew1) | exact HB.out))) : w.heap.size ≤ gb270)); clear HB; have HB := n0_; have BK270 := n1_; have GW270 := n2_; have GE270 := n3_; clear n0_ n1_ n2_ n3_; clear hb hbox hg; have hcz16_0 : w15.cell? ⟨gb270, 0, none⟩ = some (.int .i64 a0_0) := (blk_cell BK270.out 0).trans rfl; have hcz16_1 : w15.cell? ⟨gb270, 1, none⟩ = some (.slice A0_1 l0_1.length c0_1) := (blk_cell BK270.out 1).trans rfl; have hfz16_0 := blk_frozen BK270.out 0; have hfz16_1 := blk_frozen BK270.out 1) | ((with_reducible refine gate_callee (f := 14) rfl ?_); refine goesL_ (some 16) rfl rfl Try.func14 (by kernel_rfl) rfl #[.agg #[.int .i64 a0_0, .slice A0_1 l0_1.length c0_1], .int .i64 1048576] rfl (by (try simp only [List.map_toArray, List.map_cons, List.map_nil]); first | done | rfl | (simp only [List.length_drop, List.length_take]; rfl)) ?_; (with_reducible refine (laws_szMeeting.calls k a0_0 _ _ l0_1 1048576 t271 _ ?side1 ?side2 A5.out).mono ?_); (case side1 => repeat (first | exact (Kd.C_below HR0_1.out HB.out) | (with_reducible refine Kd.C_alloc ?_ _) | (with_reducible refine Kd.C_drewN ?_ _) | (with_reducible refine Kd.C_drew ?_))); (case side2 => exact HC0_1.out); rintro e w17 ⟨rfl, hb⟩; refine ⟨_, rfl, ?_⟩; have n0_ := Aside0.mk (blk_below (g := gb270) (o := .cells #[.int .i64 a0_0, .slice A0_1 l0_1.length c0_1] 24 (0, 0)) (by (with_reducible repeat (first | refine blk_drewN ?_ _ | refine blk_drew ?_ | refine blk_alloc ?_ _)); exact BK270.out) hb); have n1_ := Aside0.mk (below_step (by repeat (first | (with_reducible first | exact HB.out | apply below_alloc | apply pw_below_drewN | apply below_drew1 | refine below_set ?_ GE270.out) | exact HB.out)) hb); clear BK270; clear HB; have BK270 := n0_; have HB := n1_; clear n0_ n1_; (try clear hb); (try clear hb2); (try clear hk); (try clear hi); have hcz18_0 : w17.cell? ⟨gb270, 0, none⟩ = some (.int .i64 a0_0) := (blk_cell BK270.out 0).trans rfl; have hcz18_1 : w17.cell? ⟨gb270, 1, none⟩ = some (.slice A0_1 l0_1.length c0_1) := (blk_cell BK270.out 1).trans rfl; have hfz18_0 := blk_frozen BK270.out 0; have hfz18_1 := blk_frozen BK270.out 1) | ((with_reducible refine gate_callee (f := 16) rfl ?_); refine goesL_ (some 21) rfl rfl Try.func16 (by kernel_rfl) rfl #[.agg #[.int .i64 a0_0, .slice A0_1 l0_1.length c0_1]] rfl (by (try simp only [List.map_toArray, List.map_cons, List.map_nil]); first | done | rfl | (simp only [List.length_drop, List.length_take]; rfl)) ?_; (with_reducible refine (laws_toMeeting.calls k a0_0 _ _ l0_1 t272 t273 _ ?side1 ?side2 A10.out).mono ?_); (case side1 => repeat (first | exact (Kd.C_below HR0_1.out HB.out) | (with_reducible refine Kd.C_alloc ?_ _) | (with_reducible refine Kd.C_drewN ?_ _) | (with_reducible refine Kd.C_drew ?_))); (case side2 => exact HC0_1.out); rintro e w19 ⟨v274, rfl, ho0, hb⟩; refine ⟨_, rfl, ?_⟩; have n0_ := Aside0.mk (Kd.S_lower ho0 (below_size (by repeat (first | (with_reducible first | exact HB.out | apply below_alloc | apply pw_below_drewN | apply below_drew1 | refine below_set ?_ GE270.out) | exact HB.out)))); have n1_ := Aside0.mk (blk_below (g := gb270) (o := .cells #[.int .i64 a0_0, .slice A0_1 l0_1.length c0_1] 24 (0, 0)) (by (with_reducible repeat (first | refine blk_drewN ?_ _ | refine blk_drew ?_ | refine blk_alloc ?_ _)); exact BK270.out) hb); have n2_ := Aside0.mk (below_step (by repeat (first | (with_reducible first | exact HB.out | apply below_alloc | apply pw_below_drewN | apply below_drew1 | refine below_set ?_ GE270.out) | exact HB.out)) hb); clear BK270; clear HB; have HO275 := n0_; have BK270 := n1_; have HB := n2_; clear n0_ n1_ n2_; (try clear hb); (try clear hb2); (try clear hk); (try clear hi); (try clear ho0); obtain ⟨Ao20, co20, eo20⟩ := Kd.S_slice HO275.out; subst eo20) | ((with_reducible refine gate_callee (f := 31) rfl ?_); refine goesL_ (some 23) rfl rfl Try.func31 (by kernel_rfl) rfl #[.agg #[.int .i64 t272, .slice Ao20 t273.length co20], .string a1] rfl (by (try simp only [List.map_toArray, List.map_cons, List.map_nil]); first | done | rfl | (simp only [List.length_drop, List.length_take]; rfl)) ?_; (with_reducible refine (spec_CanStillWin.calls k t272 _ _ t273 a1 t276 t277 _ ?side1 ?side2 A11.out).mono ?_); (case side1 => repeat (first | exact (Kd.S_reads' HO275.out).2.2 | (with_reducible refine Kd.C_alloc ?_ _) | (with_reducible refine Kd.C_drewN ?_ _) | (with_reducible refine Kd.C_drew ?_))); (case side2 => exact (Kd.S_reads' HO275.out).2.1); rintro e w21 ⟨rfl, hb⟩; refine ⟨_, rfl, ?_⟩; have n0_ := Aside0.mk (Kd.S_below (by (with_reducible repeat (first | apply Kd.S_alloc | apply Kd.S_drewN | apply Kd.S_drew)); exact HO275.out) hb); have n1_ := Aside0.mk (blk_below (g := gb270) (o := .cells #[.int .i64 a0_0, .slice A0_1 l0_1.length c0_1] 24 (0, 0)) (by (with_reducible repeat (first | refine blk_drewN ?_ _ | refine blk_drew ?_ | refine blk_alloc ?_ _)); exact BK270.out) hb); have n2_ := Aside0.mk (below_step (by repeat (first | (with_reducible first | exact HB.out | apply below_alloc | apply pw_below_drewN | apply below_drew1 | refine below_set ?_ GE270.out) | exact HB.out)) hb); clear HO275; clear BK270; clear HB; have HO275 := n0_; have BK270 := n1_; have HB := n2_; clear n0_ n1_ n2_; (try clear hb); (try clear hb2); (try clear hk); (try clear hi); have hcz22_0 : w21.cell? ⟨gb270, 0, none⟩ = some (.int .i64 a0_0) := (blk_cell BK270.out 0).trans rfl; have hcz22_1 : w21.cell? ⟨gb270, 1, none⟩ = some (.slice A0_1 l0_1.length c0_1) := (blk_cell BK270.out 1).trans rfl; have hfz22_0 := blk_frozen BK270.out 0; have hfz22_1 := blk_frozen BK270.out 1) | ((with_reducible refine gate_callee (f := 16) rfl ?_); refine goesL_ (some 27) rfl rfl Try.func16 (by kernel_rfl) rfl #[.agg #[.int .i64 a0_0, .slice A0_1 l0_1.length c0_1]] rfl (by (try simp only [List.map_toArray, List.map_cons, List.map_nil]); first | done | rfl | (simp only [List.length_drop, List.length_take]; rfl)) ?_; (with_reducible refine (laws_toMeeting.calls k a0_0 _ _ l0_1 t278 t279 _ ?side1 ?side2 A12.out).mono ?_); (case side1 => repeat (first | exact (Kd.C_below HR0_1.out HB.out) | (with_reducible refine Kd.C_alloc ?_ _) | (with_reducible refine Kd.C_drewN ?_ _) | (with_reducible refine Kd.C_drew ?_))); (case side2 => exact HC0_1.out); rintro e w23 ⟨v280, rfl, ho0, hb⟩; refine ⟨_, rfl, ?_⟩; have n0_ := Aside0.mk (Kd.S_elder' (by (with_reducible repeat (first | apply Kd.S_alloc | apply Kd.S_drewN | apply Kd.S_drew)); exact HO275.out) (Kd.S_base ho0) hb); have n1_ := Aside0.mk (Kd.S_lower (Kd.S_new' ho0 (Kd.S_lt (by (with_reducible repeat (first | apply Kd.S_alloc | apply Kd.S_drewN | apply Kd.S_drew)); exact HO275.out))) (below_size (by repeat (first | (with_reducible first | exact HB.out | apply below_alloc | apply pw_below_drewN | apply below_drew1 | refine below_set ?_ GE270.out) | exact HB.out)))); have n2_ := Aside0.mk (blk_below (g := gb270) (o := .cells #[.int .i64 a0_0, .slice A0_1 l0_1.length c0_1] 24 (0, 0)) (by (with_reducible repeat (first | refine blk_drewN ?_ _ | refine blk_drew ?_ | refine blk_alloc ?_ _)); exact BK270.out) hb); have n3_ := Aside0.mk (below_step (by repeat (first | (with_reducible first | exact HB.out | apply below_alloc | apply pw_below_drewN | apply below_drew1 | refine below_set ?_ GE270.out) | exact HB.out)) hb); clear HO275; clear BK270; clear HB; have HO275 := n0_; have HO281 := n1_; have BK270 := n2_; have HB := n3_; clear n0_ n1_ n2_ n3_; (try clear hb); (try clear hb2); (try clear hk); (try clear hi); (try clear ho0)) | ((with_reducible refine gate_dst (N := 8) rfl ?_); refine box_event ?hg (N := 8) ?hd (cs := #[.int .i64 0, .slice none 0 0]) (t := 29) ?hr ?_; (case hd => rfl); (case hg => rfl); (case hr => first | (go_simp; done) | (go_simp; rfl)); intro gb282 hg w24 hbox hb; have n0_ := Aside0.mk (Kd.S_below (by (with_reducible repeat (first | apply Kd.S_alloc | apply Kd.S_drewN | apply Kd.S_drew)); exact HO275.out) hb); have n1_ := Aside0.mk (Kd.S_below (by (with_reducible repeat (first | apply Kd.S_alloc | apply Kd.S_drewN | apply Kd.S_drew)); exact HO281.out) hb); have n2_ := Aside0.mk (blk_below (g := gb270) (o := .cells #[.int .i64 a0_0, .slice A0_1 l0_1.length c0_1] 24 (0, 0)) (by (with_reducible repeat (first | refine blk_drewN ?_ _ | refine blk_drew ?_ | refine blk_alloc ?_ _)); exact BK270.out) hb); have n3_ := Aside0.mk (below_step (by repeat (first | (with_reducible first | exact HB.out | apply below_alloc | apply pw_below_drewN | apply below_drew1 | refine below_set ?_ GE270.out) | exact HB.out)) hb); have n4_ := Aside0.mk (hbox); have n5_ := Aside0.mk ((by rw [hg]; exact (below_size (by repeat (first | (with_reducible first | exact HB.out | apply below_alloc | apply pw_below_drewN | apply below_drew1 | refine below_set ?_ GE270.out) | exact HB.out))) : w.heap.size ≤ gb282)); have n6_ := Aside0.mk ((by rw [hg]; exact (below_size (by repeat (first | (with_reducible first | exact HB.out | apply below_alloc | apply pw_below_drewN | apply below_drew1 | refine below_set ?_ GE270.out) | exact HB.out))) : w.heap.size ≤ gb282)); have n7_ := Aside0.mk ((by rw [hg]; exact Nat.ne_of_lt (blk_lt (g := gb270) (o := .cells #[.int .i64 a0_0, .slice A0_1 l0_1.length c0_1] 24 (0, 0)) (by (with_reducible repeat (first | refine blk_drewN ?_ _ | refine blk_drew ?_ | refine blk_alloc ?_ _)); exact BK270.out)) : gb270 ≠ gb282)); have n8_ := Aside0.mk ((by rw [hg]; exact Nat.ne_of_gt (blk_lt (g := gb270) (o := .cells #[.int .i64 a0_0, .slice A0_1 l0_1.length c0_1] 24 (0, 0)) (by (with_reducible repeat (first | refine blk_drewN ?_ _ | refine blk_drew ?_ | refine blk_alloc ?_ _)); exact BK270.out)) : gb282 ≠ gb270)); clear HO275; clear HO281; clear BK270; clear HB; have HO275 := n0_; have HO281 := n1_; have BK270 := n2_; have HB := n3_; have BK282 := n4_; have GW282 := n5_; have GE282 := n6_; have NB270_282 := n7_; have NB282_270 := n8_; clear n0_ n1_ n2_ n3_ n4_ n5_ n6_ n7_ n8_; clear hb hbox hg; have hnb25 := NB282_270.out; have hnc25 := NB270_282.out; have hcz26_0 : w24.cell? ⟨gb282, 0, none⟩ = some (.int .i64 0) := (blk_cell BK282.out 0).trans rfl; have hcz26_1 : w24.cell? ⟨gb282, 1, none⟩ = some (.slice none 0 0) := (blk_cell BK282.out 1).trans rfl; have hfz26_0 := blk_frozen BK282.out 0; have hfz26_1 := blk_frozen BK282.out 1; obtain ⟨Ao27, co27, eo27⟩ := Kd.S_slice HO281.out; subst eo27) | ((with_reducible refine gate_callee (f := 32) rfl ?_); refine goesL_ (some 31) rfl rfl Try.func32 (by kernel_rfl) rfl #[.agg #[.int .i64 t278, .slice Ao27 t279.length co27], .string a1] rfl (by (try simp only [List.map_toArray, List.map_cons, List.map_nil]); first | done | rfl | (simp only [List.length_drop, List.length_take]; rfl)) ?_; (with_reducible refine (impl_CanStillWin.calls k t278 _ _ t279 a1 t283 t284 _ ?side1 ?side2 A13.out).mono ?_); (case side1 => refine (Kd.S_reads' (e := 60) (base := w.heap.size) (ok := fun k_ => (True ∧ some k_ ≠ (.slice Ao20 t273.length co20 : Value).ownBlock)) (n := t279.length) (c := co27) ?_).2.2; exact (by (with_reducible repeat (first | apply Kd.S_alloc | apply Kd.S_drewN | apply Kd.S_drew)); exact (Kd.S_mono (Kd.S_far (p := ⟨gb282, 1, none⟩) (Kd.S_far (p := ⟨gb282, 0, none⟩) (Kd.S_types HO281.out BK282.out (by decide)) (fun _ hk => hk.2) (.int .i64 t278)) (fun _ hk => hk.2) (.slice Ao27 t279.length co27)) (fun _ h_ => h_.1)))); (case side2 => exact (Kd.S_reads' HO281.out).2.1); rintro e w28 ⟨rfl, hb⟩; refine ⟨_, rfl, ?_⟩; have n0_ := Aside0.mk (Kd.S_below (by (with_reducible repeat (first | apply Kd.S_alloc | apply Kd.S_drewN | apply Kd.S_drew)); exact (Kd.S_mono (Kd.S_far (p := ⟨gb282, 1, none⟩) (Kd.S_far (p := ⟨gb282, 0, none⟩) (Kd.S_types HO275.out BK282.out (by decide)) (fun _ hk => hk.2) (.int .i64 t278)) (fun _ hk => hk.2) (.slice Ao27 t279.length co27)) (fun _ h_ => h_.1))) hb); have n1_ := Aside0.mk (Kd.S_below (by (with_reducible repeat (first | apply Kd.S_alloc | apply Kd.S_drewN | apply Kd.S_drew)); exact (Kd.S_mono (Kd.S_far (p := ⟨gb282, 1, none⟩) (Kd.S_far (p := ⟨gb282, 0, none⟩) (Kd.S_types HO281.out BK282.out (by decide)) (fun _ hk => hk.2) (.int .i64 t278)) (fun _ hk => hk.2) (.slice Ao27 t279.length co27)) (fun _ h_ => h_.1))) hb); have n2_ := Aside0.mk (blk_below (g := gb270) (o := .cells #[.int .i64 a0_0, .slice A0_1 l0_1.length c0_1] 24 (0, 0)) (by (with_reducible repeat (first | refine blk_drewN ?_ _ | refine blk_drew ?_ | refine blk_alloc ?_ _)); refine blk_far ?_ NB270_282.out _; (with_reducible repeat (first | refine blk_drewN ?_ _ | refine blk_drew ?_ | refine blk_alloc ?_ _)); refine blk_far ?_ NB270_282.out _; (with_reducible repeat (first | refine blk_drewN ?_ _ | refine blk_drew ?_ | refine blk_alloc ?_ _)); exact BK270.out) hb); have n3_ := Aside0.mk (blk_below (g := gb282) (o := .cells #[.int .i64 t278, .slice Ao27 t279.length co27] 29 (0, 0)) (by (with_reducible repeat (first | refine blk_drewN ?_ _ | refine blk_drew ?_ | refine blk_alloc ?_ _)); refine blk_put (cs := #[.int .i64 t278, .slice none 0 0]) ?_ 1 _ rfl; (with_reducible repeat (first | refine blk_drewN ?_ _ | refine blk_drew ?_ | refine blk_alloc ?_ _)); refine blk_put (cs := #[.int .i64 0, .slice none 0 0]) ?_ 0 _ rfl; (with_reducible repeat (first | refine blk_drewN ?_ _ | refine blk_drew ?_ | refine blk_alloc ?_ _)); exact BK282.out) hb); have n4_ := Aside0.mk (below_step (by repeat (first | (with_reducible first | exact HB.out | apply below_alloc | apply pw_below_drewN | apply below_drew1 | refine below_set ?_ GE270.out | refine below_set ?_ GE282.out) | exact HB.out)) hb); clear HO275; clear HO281; clear BK270; clear BK282; clear HB; have HO275 := n0_; have HO281 := n1_; have BK270 := n2_; have BK282 := n3_; have HB := n4_; clear n0_ n1_ n2_ n3_ n4_; (try clear hb); (try clear hb2); (try clear hk); (try clear hi)))
   (try simp only [Act.put, List.setIfInBounds_toArray, List.set_cons_zero, List.set_cons_succ])
   go_cut [41] (fun v41 wc => ∃ (kq : Nat) (x41_13 : Bool), v41 = .bool x41_13 ∧ Aside0 (laws_FnExactCanStillWin.j0 kq x41_13 a0_0 l0_1 t278 t279 = some r) ∧ Aside0 (kq ≤ k) ∧ Aside0 (Kd.S k60 60 wc w.heap.size (fun _ => True) (.slice Ao27 t279.length co27) t279) ∧ Aside0 (wc.heap[gb270]? = some (.cells #[.int .i64 a0_0, (.slice A0_1 l0_1.length c0_1)] 24 (0, 0))) ∧ Aside0 (wc.heap[gb282]? = some (.cells #[.int .i64 t278, (.slice Ao27 t279.length co27)] 29 (0, 0))) ∧ Aside0 (Below w.heap.size w wc))
   case first =>
    have H := HC14.out
    clear HC14
    by_cases c29 : (t283 != t276) = true
    ·rw [if_pos c29] at H
     have c29b0 : (t283 != t276) = true := c29
     (try (have c29b1 : decide (t283 = t276) = false := by simpa using c29))
     (try (have c29b2 : (t283 == t276) = false := by simpa using c29))
     (try (have c29b3 : ¬ (t283 = t276) := by simpa using c29))
     clear c29
     (first | rw [c29b0] | (simp only [i64_w, i32_w]; rw [c29b0]) | skip)
     exact absurd (Option.some.inj H) (by rw [hr_.out]; decide)
    ·rw [if_neg c29] at H
     have c29b0 : (t283 != t276) = false := by simpa using c29
     (try (have c29b1 : decide (t283 = t276) = true := by simpa using c29))
     (try (have c29b2 : (t283 == t276) = true := by simpa using c29))
     clear c29
     (first | rw [c29b0] | (simp only [i64_w, i32_w]; rw [c29b0]) | skip)
     have H' := Aside0.mk H
     clear H
     go_wp2
     go_meet
     case rel => exact ⟨_, ((t284 != t277)), (by first | rfl | (simp; done) | (simp [*]; done)), H', ⟨by first | omega | exact Nat.le_refl _⟩, ⟨by (with_reducible repeat (first | apply Kd.S_alloc | apply Kd.S_drewN | apply Kd.S_drew)); exact Kd.S_mono HO281.out (fun _ hk => trivial)⟩, ⟨by (with_reducible repeat (first | refine blk_drewN ?_ _ | refine blk_drew ?_ | refine blk_alloc ?_ _)); exact BK270.out⟩, ⟨by (with_reducible repeat (first | refine blk_drewN ?_ _ | refine blk_drew ?_ | refine blk_alloc ?_ _)); exact BK282.out⟩, ⟨by repeat (first | (with_reducible first | exact HB.out | apply below_alloc | apply pw_below_drewN | apply below_drew1 | refine below_set ?_ GE270.out | refine below_set ?_ GE282.out) | exact HB.out)⟩⟩
   case rest =>
    clear HC14
    try clear c1
    try clear c2
    try clear p2
    try clear c3
    try clear c3b0
    try clear c3b1
    try clear c6
    try clear c6b0
    try clear c8
    try clear c14
    try clear c16
    try clear c25
    try clear c29
    try clear c29b0
    try clear c29b1
    try clear c29b2
    try clear hcz16_0
    try clear hcz16_1
    try clear hcz18_0
    try clear hcz18_1
    try clear hcz22_0
    try clear hcz22_1
    try clear hcz26_0
    try clear hcz26_1
    try clear hcz8_0
    try clear hcz8_1
    try clear hfz16_0
    try clear hfz16_1
    try clear hfz18_0
    try clear hfz18_1
    try clear hfz22_0
    try clear hfz22_1
    try clear hfz26_0
    try clear hfz26_1
    try clear hfz8_0
    try clear hfz8_1
    obtain ⟨kq, x41_13, rfl, HA, HJ13, HO_283001, BK270, BK282, HB⟩ := hcut
    cases kq with
    | zero => exact absurd HA.out (by simp [laws_FnExactCanStillWin.j0])
    | succ kj13 =>
     have H := HA.out
     clear HA
     simp only [laws_FnExactCanStillWin.j0] at H
     by_cases c30 : x41_13 = true
     ·subst c30
      have H1 : (some false) = some r := by rw [if_pos rfl] at H; exact H
      clear H
      have H := H1
      clear H1
      exact absurd (Option.some.inj H) (by rw [hr_.out]; decide)
     ·replace c30 := Bool.eq_false_iff.mpr c30
      subst c30
      have H1 : ((laws_toMeeting.f kj13 a0_0 l0_1).bind fun bt285 => ((laws_eqMeeting.f kj13 t278 t279 bt285.1 bt285.2).bind fun t289 => (if t289 = true then (some true) else (some false)))) = some r := by rw [if_neg (show ¬ (false = true) by decide)] at H; exact H
      clear H
      have H := H1
      clear H1
      replace H := Option.bind_eq_some_iff.mp H
      obtain ⟨⟨t285, t286⟩, A310, H⟩ := H
      replace H : ((laws_eqMeeting.f kj13 t278 t279 t285 t286).bind fun t289 => (if t289 = true then (some true) else (some false))) = some r := H
      have A31 := Aside0.mk A310
      clear A310
      replace H := Option.bind_eq_some_iff.mp H
      obtain ⟨t289, A320, H⟩ := H
      replace H : (if t289 = true then (some true) else (some false)) = some r := H
      have A32 := Aside0.mk A320
      clear A320
      by_cases c33 : t289 = true
      ·subst c33
       have H1 : (some true) = some r := by rw [if_pos rfl] at H; exact H
       clear H
       have H := H1
       clear H1
       obtain rfl := Option.some.inj H
       try go_wp2
       have n0_ := Aside0.mk (Kd.S_drew HO_283001.out)
       have n1_ := Aside0.mk (blk_drew BK270.out)
       have n2_ := Aside0.mk (blk_drew BK282.out)
       have n3_ := Aside0.mk (below_drew1 HB.out)
       clear HO_283001
       clear BK270
       clear BK282
       clear HB
       have HO_283001 := n0_
       have BK270 := n1_
       have BK282 := n2_
       have HB := n3_
       clear n0_ n1_ n2_ n3_
       refine start_ (n := 5) (S := fun w' => w'.cell? ⟨gb282, 0, none⟩ = some (.int .i64 t278) ∧ w'.cell? ⟨gb282, 1, none⟩ = some (.slice Ao27 t279.length co27) ∧ w'.cell? ⟨gb270, 0, none⟩ = some (.int .i64 a0_0) ∧ w'.cell? ⟨gb270, 1, none⟩ = some (.slice A0_1 l0_1.length c0_1)) (ds := []) #[false, false, false, false, false] (by kernel_rfl) rfl rfl ⟨(blk_cell BK282.out 0).trans rfl, (blk_cell BK282.out 1).trans rfl, (blk_cell BK270.out 0).trans rfl, (blk_cell BK270.out 1).trans rfl⟩ (fun hHeld => ?_)
       generalize wc.drew = w34 at HO_283001 BK270 BK282 HB hHeld ⊢
       refine take_ (i := 0) (N := some 42) (v := ?_) (a' := ?_) #[true, false, false, false, false] rfl rfl (by kernel_rfl) (fun _ _ _ h => h) (Or.inl ⟨by rfl, ?_⟩) hHeld ?_ ?_
       rotate_left
       ·rintro w' ⟨s0, s1, s2, s3⟩
        go_simp
        with_reducible rfl
       rotate_left
       ·simp only [Act.put, List.setIfInBounds_toArray, List.set_cons_zero, List.set_cons_succ, i64_w, i32_w]; rfl
       refine take_ (i := 1) (N := some 43) (v := ?_) (a' := ?_) #[true, true, false, false, false] rfl rfl (by kernel_rfl) (fun _ _ _ h => h) (Or.inl ⟨by rfl, ?_⟩) hHeld ?_ ?_
       rotate_left
       ·rintro w' ⟨s0, s1, s2, s3⟩
        go_simp
        with_reducible rfl
       rotate_left
       ·simp only [Act.put, List.setIfInBounds_toArray, List.set_cons_zero, List.set_cons_succ, i64_w, i32_w]; rfl
       refine one_ (i := 2) (N := some 44) #[true, true, true, false, false] rfl rfl (by kernel_rfl) (by decide) (fun K hK => ?_)
       refine goes_ Try.func16 (by kernel_rfl) rfl #[.agg #[.int .i64 a0_0, .slice A0_1 l0_1.length c0_1]] (by rfl) rfl rfl (by (try simp only [List.map_toArray, List.map_cons, List.map_nil]); first | done | rfl | (simp only [List.length_drop, List.length_take]; rfl)) ?_
       with_reducible refine (laws_toMeeting.calls kj13 a0_0 _ _ l0_1 t285 t286 _ ?side1 ?side2 A31.out).mono ?_
       (case side1 => repeat (first | exact (Kd.C_below HR0_1.out HB.out) | (with_reducible refine Kd.C_alloc ?_ _) | (with_reducible refine Kd.C_drewN ?_ _) | (with_reducible refine Kd.C_drew ?_)))
       (case side2 => exact HC0_1.out)
       rintro e w35 ⟨v287, rfl, ho0, hb⟩
       refine ⟨_, rfl, ?_⟩
       have n0_ := Aside0.mk (Kd.S_elder' (by (with_reducible repeat (first | apply Kd.S_alloc | apply Kd.S_drewN | apply Kd.S_drew)); exact HO_283001.out) (Kd.S_base ho0) hb)
       have n1_ := Aside0.mk (Kd.S_lower (Kd.S_new' ho0 (Kd.S_lt (by (with_reducible repeat (first | apply Kd.S_alloc | apply Kd.S_drewN | apply Kd.S_drew)); exact HO_283001.out))) (below_size (by repeat (first | (with_reducible first | exact HB.out | apply below_alloc | apply pw_below_drewN | apply below_drew1 | refine below_set ?_ GE270.out | refine below_set ?_ GE282.out) | exact HB.out))))
       have n2_ := Aside0.mk (blk_below (g := gb270) (o := .cells #[.int .i64 a0_0, .slice A0_1 l0_1.length c0_1] 24 (0, 0)) (by (with_reducible repeat (first | refine blk_drewN ?_ _ | refine blk_drew ?_ | refine blk_alloc ?_ _)); exact BK270.out) hb)
       have n3_ := Aside0.mk (blk_below (g := gb282) (o := .cells #[.int .i64 t278, .slice Ao27 t279.length co27] 29 (0, 0)) (by (with_reducible repeat (first | refine blk_drewN ?_ _ | refine blk_drew ?_ | refine blk_alloc ?_ _)); exact BK282.out) hb)
       have n4_ := Aside0.mk (below_step (by repeat (first | (with_reducible first | exact HB.out | apply below_alloc | apply pw_below_drewN | apply below_drew1 | refine below_set ?_ GE270.out | refine below_set ?_ GE282.out) | exact HB.out)) hb)
       clear HO_283001
       clear BK270
       clear BK282
       clear HB
       have HO_283001 := n0_
       have HO288 := n1_
       have BK270 := n2_
       have BK282 := n3_
       have HB := n4_
       clear n0_ n1_ n2_ n3_ n4_
       (try clear hb)
       (try clear hb2)
       (try clear hk)
       (try clear hi)
       (try clear ho0)
       obtain ⟨Ao36, co36, eo36⟩ := Kd.S_slice HO288.out
       (first | subst eo36 | (injection eo36 with f1_ f2_ f3_; have f4_ := f1_.symm; have f5_ := f3_.symm; clear f1_ f2_ f3_; subst f4_; subst f5_))
       refine hK.out _ _ ⟨(blk_cell BK282.out 0).trans rfl, (blk_cell BK282.out 1).trans rfl, (blk_cell BK270.out 0).trans rfl, (blk_cell BK270.out 1).trans rfl⟩ (fun hHeld => ?_)
       clear hK K
       refine norm_ (a' := ?_) ?_ ?_
       rotate_left
       ·show Act.put _ (some 44) _ = _
        simp only [Act.put, List.setIfInBounds_toArray, List.set_cons_zero, List.set_cons_succ, i64_w, i32_w]
        rfl
       refine one_ (i := 3) (N := some 45) #[true, true, true, true, false] rfl rfl (by kernel_rfl) (by decide) (fun K hK => ?_)
       refine goes_ Try.func18 (by kernel_rfl) rfl #[.agg #[.int .i64 t278, .slice Ao27 t279.length co27], .agg #[.int .i64 t285, .slice Ao36 t286.length co36]] (by rfl) rfl rfl (by (try simp only [List.map_toArray, List.map_cons, List.map_nil]); first | done | rfl | (simp only [List.length_drop, List.length_take]; rfl)) ?_
       with_reducible refine (laws_eqMeeting.calls kj13 t278 _ _ t279 t285 _ _ t286 true _ ?side1 ?side2 ?side3 ?side4 A32.out).mono ?_
       (case side1 => repeat (first | exact (Kd.S_reads' HO_283001.out).2.2 | (with_reducible refine Kd.C_alloc ?_ _) | (with_reducible refine Kd.C_drewN ?_ _) | (with_reducible refine Kd.C_drew ?_)))
       (case side2 => exact (Kd.S_reads' HO_283001.out).2.1)
       (case side3 => repeat (first | exact (Kd.S_reads' HO288.out).2.2 | (with_reducible refine Kd.C_alloc ?_ _) | (with_reducible refine Kd.C_drewN ?_ _) | (with_reducible refine Kd.C_drew ?_)))
       (case side4 => exact (Kd.S_reads' HO288.out).2.1)
       rintro e w37 ⟨rfl, hb⟩
       refine ⟨_, rfl, ?_⟩
       have n0_ := Aside0.mk (Kd.S_below (by (with_reducible repeat (first | apply Kd.S_alloc | apply Kd.S_drewN | apply Kd.S_drew)); exact HO_283001.out) hb)
       have n1_ := Aside0.mk (Kd.S_below (by (with_reducible repeat (first | apply Kd.S_alloc | apply Kd.S_drewN | apply Kd.S_drew)); exact HO288.out) hb)
       have n2_ := Aside0.mk (blk_below (g := gb270) (o := .cells #[.int .i64 a0_0, .slice A0_1 l0_1.length c0_1] 24 (0, 0)) (by (with_reducible repeat (first | refine blk_drewN ?_ _ | refine blk_drew ?_ | refine blk_alloc ?_ _)); exact BK270.out) hb)
       have n3_ := Aside0.mk (blk_below (g := gb282) (o := .cells #[.int .i64 t278, .slice Ao27 t279.length co27] 29 (0, 0)) (by (with_reducible repeat (first | refine blk_drewN ?_ _ | refine blk_drew ?_ | refine blk_alloc ?_ _)); exact BK282.out) hb)
       have n4_ := Aside0.mk (below_step (by repeat (first | (with_reducible first | exact HB.out | apply below_alloc | apply pw_below_drewN | apply below_drew1 | refine below_set ?_ GE270.out | refine below_set ?_ GE282.out) | exact HB.out)) hb)
       clear HO_283001
       clear HO288
       clear BK270
       clear BK282
       clear HB
       have HO_283001 := n0_
       have HO288 := n1_
       have BK270 := n2_
       have BK282 := n3_
       have HB := n4_
       clear n0_ n1_ n2_ n3_ n4_
       (try clear hb)
       (try clear hb2)
       (try clear hk)
       (try clear hi)
       refine hK.out _ _ ⟨(blk_cell BK282.out 0).trans rfl, (blk_cell BK282.out 1).trans rfl, (blk_cell BK270.out 0).trans rfl, (blk_cell BK270.out 1).trans rfl⟩ (fun hHeld => ?_)
       clear hK K
       refine norm_ (a' := ?_) ?_ ?_
       rotate_left
       ·show Act.put _ (some 45) _ = _
        simp only [Act.put, List.setIfInBounds_toArray, List.set_cons_zero, List.set_cons_succ, i64_w, i32_w]
        rfl
       refine pure_ (i := 4) (N := some 46) (v := ?_) (a' := ?_) #[true, true, true, true, true] rfl rfl (by kernel_rfl) (fun _ _ _ h => h) (Or.inl ⟨by rfl, ?_⟩) ?_ ?_
       rotate_left
       ·intro w'
        go_simp
        with_reducible rfl
       rotate_left
       ·simp only [Act.put, List.setIfInBounds_toArray, List.set_cons_zero, List.set_cons_succ, i64_w, i32_w]; rfl
       refine done_ (by kernel_rfl) ?_
       try go_wp2
       go_ret
       exact ⟨by first | rfl | (simp [errW_none, errW_some] <;> rfl) | (simp [*, errW_none, errW_some] <;> rfl), by repeat (first | (with_reducible first | exact HB.out | apply below_alloc | apply pw_below_drewN | apply below_drew1 | refine below_set ?_ GE270.out | refine below_set ?_ GE282.out) | exact HB.out)⟩
      ·replace c33 := Bool.eq_false_iff.mpr c33
       subst c33
       have H1 : (some false) = some r := by rw [if_neg (show ¬ (false = true) by decide)] at H; exact H
       clear H
       have H := H1
       clear H1
       exact absurd (Option.some.inj H) (by rw [hr_.out]; decide)

end Go.Proofs.Ytfgfkmjpeffjbaa.X

/-! ## Rdr -/
/- How an argument that reads as data is given to the printed functions: whole numbers, bools, strings, slices and structs of these, of whatever depth. No condition. -/
namespace Go.Proofs.Ytfgfkmjpeffjbaa.Rdr
open Go.ChangeShapes Go.WideShapes Go.Deep Go.Proofs.YtfgfkmjpeffjbaaW.PrintWords

def I64 (n : Int) : Prop := -9223372036854775808 ≤ n ∧ n ≤ 9223372036854775807
def Str (s : ByteArray) : Prop := s.size ≤ 9223372036854775807
def Lst {α : Type} (Wf : α → Prop) (xs : List α) : Prop := xs.length ≤ 9223372036854775807 ∧ ∀ x ∈ xs, Wf x

structure Reads (P : Program) (t : TypeId) {α : Type} (κ : Kd α) (Wf : α → Prop) : Prop where
  size : P.cellsOf t = κ.sz
  read : ∀ {H : Type} {enc : TypeId × Value → H} {W : World} {base : Nat} {spare : Nat → Bool} {held : Bool} {fuel : Nat} {cs : List Value} {x : DataW H × List MemPlace}, DataW.trod enc P W base spare held fuel t cs = some x → ∃ a, κ.K W a cs ∧ Wf a

theorem reads_i64 {P : Program} {t : TypeId} (ht : P.underlying t = some (.int .i64)) (hc : P.cellsOf t = 1) : Reads P t (Kd.int .i64) I64 := by
  refine ⟨hc, ?_⟩
  intro H enc W base spare held fuel cs x h
  obtain ⟨n, rfl, _, hw⟩ := DataW.trod_int ht h
  refine ⟨n, rfl, ?_⟩
  have hb := bounds_i64 hw
  unfold I64
  omega
def U8 (n : Int) : Prop := 0 ≤ n ∧ n ≤ 255
theorem reads_u8 {P : Program} {t : TypeId} (ht : P.underlying t = some (.int .u8)) (hc : P.cellsOf t = 1) : Reads P t (Kd.int .u8) U8 := by
  refine ⟨hc, ?_⟩
  intro H enc W base spare held fuel cs x h
  obtain ⟨n, rfl, _, hw⟩ := DataW.trod_int ht h
  exact ⟨n, rfl, bounds_u8 hw⟩
theorem reads_bool {P : Program} {t : TypeId} (ht : P.underlying t = some .bool) (hc : P.cellsOf t = 1) : Reads P t Kd.bool (fun _ => True) := by
  refine ⟨hc, ?_⟩
  intro H enc W base spare held fuel cs x h
  obtain ⟨b, rfl, _⟩ := DataW.trod_bool ht h
  exact ⟨b, rfl, trivial⟩
theorem reads_str {P : Program} {t : TypeId} (ht : P.underlying t = some .string) (hc : P.cellsOf t = 1) : Reads P t Kd.string Str := by
  refine ⟨hc, ?_⟩
  intro H enc W base spare held fuel cs x h
  obtain ⟨s, rfl, _, hs⟩ := DataW.trod_string ht h
  exact ⟨s, rfl, hs⟩

theorem choose_any {α : Type} {n : Nat} {p : Nat → α → Prop} (h : ∀ i, i < n → ∃ x, p i x) : ∃ l : List α, l.length = n ∧ ∀ (j : Nat) (x : α), l[j]? = some x → p j x := by
  induction n with
  | zero => exact ⟨[], rfl, fun j x hj => by simp at hj⟩
  | succ n ih =>
    obtain ⟨l, hl, hp⟩ := ih (fun i hi => h i (by omega))
    obtain ⟨x, hx⟩ := h n (by omega)
    refine ⟨l ++ [x], by simp [hl], fun j y hj => ?_⟩
    rcases Nat.lt_or_ge j l.length with hj' | hj'
    · rw [List.getElem?_append_left hj'] at hj
      exact hp j y hj
    · have := (List.getElem?_eq_some_iff.1 hj).1
      rw [List.length_append, List.length_singleton] at this
      have e : j = l.length := by omega
      subst e
      have e2 : x = y := by simpa using hj
      subst e2
      rw [hl]
      exact hx

theorem reads_slice {P : Program} {t e : TypeId} {α : Type} {κ : Kd α} {Wf : α → Prop} (ht : P.underlying t = some (.slice e)) (hc : P.cellsOf t = 1) (he : Reads P e κ Wf) : Reads P t (Kd.slice e κ) (Lst Wf) := by
  refine ⟨hc, ?_⟩
  intro H enc W base spare held fuel cs x h
  rcases open_slice ht h with ⟨rfl, _⟩ | ⟨a, len, cap, m, n, D, Pl, rfl, hb, hl, hm, hmm, _, hx⟩
  · exact ⟨[], ⟨none, 0, rfl, Nat.le_refl _, rfl, by simp, fun h => by simp at h⟩, by simp [Lst]⟩
  · have hlm : len ≤ m := by rw [hmm]; split <;> omega
    obtain ⟨l, hll, hp⟩ := choose_any (α := α) (n := len) (p := fun i x => Wf x ∧ ∃ c, c.length = κ.sz ∧ κ.K W x c ∧ ∀ j u, c[j]? = some u → W.cell? (a.add (i * κ.sz + j)) = some u) (by
      intro i hi
      obtain ⟨c, hcells, htr⟩ := hx i (by omega)
      obtain ⟨y, hy, hw⟩ := he.read htr
      rw [he.size] at hcells
      obtain ⟨_, hlen, hcell⟩ := World.cells?_some hcells
      refine ⟨y, hw, c, hlen, hy, fun j u hj => ?_⟩
      have hjl := (List.getElem?_eq_some_iff.1 hj).1
      rw [← Go.Deep.add_add, hcell j (by omega)]
      exact hj)
    have hml : maxLen = 9223372036854775807 := by unfold maxLen; rfl
    refine ⟨l, ⟨some a, cap, by rw [hll], by omega, rfl, by omega, fun _ => ⟨a, rfl, fun j p hj => ?_⟩⟩, by omega, fun x hx' => ?_⟩
    · obtain ⟨_, c, h1, h2, h3⟩ := hp j p hj
      exact ⟨c, h1, h2, h3⟩
    · obtain ⟨j, hj⟩ := List.getElem?_of_mem hx'
      exact (hp j x hj).1

/-! The fields of a struct, from one on. -/
structure FReads (P : Program) (fs : List Field) (off : Nat) {α : Type} (κ : Kd α) (Wf : α → Prop) : Prop where
  read : ∀ {H : Type} {enc : TypeId × Value → H} {W : World} {base : Nat} {spare : Nat → Bool} {held : Bool} {n : Nat} (cs : List Value) (ys : List (DataW H × List MemPlace)), ys.length = fs.length →
    (∀ (i : Nat) (f : Field), fs[i]? = some f → DataW.trod enc P W base spare held n f.type ((cs.drop f.offset).take (P.cellsOf f.type)) = ys[i]?) → off + κ.sz = cs.length → ∃ a, κ.K W a (cs.drop off) ∧ Wf a

theorem freads_last {P : Program} {f : Field} {α : Type} {κ : Kd α} {Wf : α → Prop} {off : Nat} (ho : f.offset = off) (h : Reads P f.type κ Wf) : FReads P [f] off κ Wf := by
  constructor
  intro H enc W base spare held n cs ys hl hf hs
  have h0 := hf 0 f rfl
  have hy : 0 < ys.length := by rw [hl]; simp
  rw [List.getElem?_eq_getElem hy, ho, h.size, List.take_of_length_le (by rw [List.length_drop]; omega)] at h0
  exact h.read h0
theorem freads_cons {P : Program} {f : Field} {fs : List Field} {α β : Type} {κ : Kd α} {κ' : Kd β} {Wf : α → Prop} {Wf' : β → Prop} {off off' : Nat} (ho : f.offset = off) (h : Reads P f.type κ Wf) (hoff : off' = off + κ.sz) (h' : FReads P fs off' κ' Wf') :
    FReads P (f :: fs) off (Kd.pair κ κ') (fun x => Wf x.1 ∧ Wf' x.2) := by
  constructor
  intro H enc W base spare held n cs ys hl hf hs
  have hs' : off + (κ.sz + κ'.sz) = cs.length := hs
  have h0 := hf 0 f rfl
  have hy : 0 < ys.length := by rw [hl]; simp
  rw [List.getElem?_eq_getElem hy, ho, h.size] at h0
  obtain ⟨a, ha, hwa⟩ := h.read h0
  obtain ⟨b, hb, hwb⟩ := h'.read (H := H) (enc := enc) (W := W) (base := base) (spare := spare) (held := held) (n := n) cs ys.tail (by rw [List.length_tail, hl]; simp) (fun i g hg => by
    rw [List.getElem?_tail]
    exact hf (i + 1) g (by simpa using hg)) (by omega)
  refine ⟨(a, b), ⟨(cs.drop off).take κ.sz, cs.drop off', ?_, ha, hb⟩, hwa, hwb⟩
  rw [hoff, ← List.drop_drop, List.take_append_drop]
theorem reads_struct {P : Program} {t : TypeId} {fs : Array Field} {α : Type} {κ : Kd α} {Wf : α → Prop} (ht : P.underlying t = some (.struct fs)) (hc : P.cellsOf t = κ.sz) (h : FReads P fs.toList 0 κ Wf) : Reads P t κ Wf := by
  refine ⟨hc, ?_⟩
  intro H enc W base spare held fuel cs x hx
  obtain ⟨ys, n, _, _, hl, hyl, hf⟩ := DataW.trod_struct ht hx
  obtain ⟨a, ha, hw⟩ := h.read (H := H) (enc := enc) (W := W) (base := base) (spare := spare) (held := held) (n := n) cs ys (by simpa using hyl) (fun i f hi => hf i f (by simpa using hi)) (by rw [hl, hc]; omega)
  exact ⟨a, ha, hw⟩
theorem reads_iso {P : Program} {t : TypeId} {α β : Type} {κ : Kd α} {Wf : α → Prop} {f : β → α} (g : α → β) (hg : ∀ a, f (g a) = a) (h : Reads P t κ Wf) : Reads P t (Kd.iso κ f) (fun x => Wf (f x)) := by
  refine ⟨h.size, ?_⟩
  intro H enc W base spare held fuel cs x hx
  obtain ⟨a, ha, hw⟩ := h.read hx
  refine ⟨g a, ?_, ?_⟩
  · show κ.K W (f (g a)) cs
    rw [hg]
    exact ha
  · show Wf (f (g a))
    rw [hg]
    exact hw

end Go.Proofs.Ytfgfkmjpeffjbaa.Rdr

/-! ## SFnExactCanStillWin -/
namespace Go.Proofs.Ytfgfkmjpeffjbaa.Say
open Go.RowKit Go.Proofs.Ytfgfkmjpeffjbaa.X
/-- The plain statement of laws_FnExactCanStillWin. -/
def FnExactCanStillWin : Prop := ∀ (a0_0 : Int) (l0_1 : List (S87)) (a1 : ByteArray), Rdr.I64 a0_0 → (Rdr.Lst (fun x : S87 => Rdr.Str x.f0 ∧ ((Rdr.Lst Rdr.I64) x.f1))) l0_1 → Rdr.Str a1 → ∃ k, laws_FnExactCanStillWin.f k a0_0 l0_1 a1 = some true
end Go.Proofs.Ytfgfkmjpeffjbaa.Say

/-! ## Base -/
/- Plain words for the plain laws: what ends with a value once there are rounds enough; loops over an index; sums that do not wrap. No condition. -/
namespace Go.Proofs.Ytfgfkmjpeffjbaa.B
open Go.RowKit Go.Proofs.YtfgfkmjpeffjbaaW.PrintWords

theorem w64 {x : Int} (h : -9223372036854775808 ≤ x) (h' : x ≤ 9223372036854775807) : wrap64 x = x := by
  unfold wrap64; omega
theorem wnext {i n : Nat} (h : i < n) (hn : (n : Int) ≤ 9223372036854775807) : wrap64 ((i : Int) + 1) = ((i + 1 : Nat) : Int) := by
  rw [w64 (by omega) (by omega)]; omega

/-- From some number of rounds on these two are the same. -/
def EvEq {α : Type} (g f : Nat → Option α) : Prop := ∃ K, ∀ k, K ≤ k → g k = f k
theorem EvEq.now {α : Type} {g f : Nat → Option α} (h : ∀ k, g k = f k) : EvEq g f := ⟨0, fun k _ => h k⟩
theorem EvEq.trans {α : Type} {g f h : Nat → Option α} (a : EvEq g f) (b : EvEq f h) : EvEq g h := by
  obtain ⟨K, hK⟩ := a
  obtain ⟨K', hK'⟩ := b
  exact ⟨K + K', fun k hk => (hK k (by omega)).trans (hK' k (by omega))⟩
theorem EvEq.bind {α β : Type} {g : Nat → Option α} {a : α} {f : Nat → α → Option β} {h : Nat → Option β} (e : Ev g a) (b : EvEq (fun k => f k a) h) : EvEq (fun k => (g k).bind (f k)) h := by
  obtain ⟨K, hK⟩ := e
  obtain ⟨K', hK'⟩ := b
  refine ⟨K + K', fun k hk => ?_⟩
  show (g k).bind (f k) = _
  rw [hK k (by omega)]
  exact hK' k (by omega)
theorem Ev.ofEq {α : Type} {g f : Nat → Option α} {r : α} (a : EvEq g f) (b : Ev f r) : Ev g r := by
  obtain ⟨K, hK⟩ := a
  obtain ⟨K', hK'⟩ := b
  exact ⟨K + K', fun k hk => (hK k (by omega)).trans (hK' k (by omega))⟩
theorem Ev.const {α : Type} {g : Nat → Option α} {r : α} (h : ∀ k, g k = some r) : Ev g r := ⟨0, fun k _ => h k⟩
theorem Ev.up {α : Type} {g : Nat → Option α} {r : α} (h : Ev (fun k => g (k + 1)) r) : Ev g r := by
  obtain ⟨K, hK⟩ := h
  refine ⟨K + 1, fun k hk => ?_⟩
  have e : g (k - 1 + 1) = some r := hK (k - 1) (by omega)
  have : k - 1 + 1 = k := by omega
  rwa [this] at e
theorem Ev.bindE {α β : Type} {g : Nat → Option α} {a : α} {f : Nat → α → Option β} {r : β} (e : Ev g a) (b : Ev (fun k => f k a) r) : Ev (fun k => (g k).bind (f k)) r := Ev.bind e b
theorem Ev.ifPos {α : Type} {c : Prop} [Decidable c] {A B : Nat → Option α} {r : α} (h : c) (e : Ev A r) : Ev (fun k => if c then A k else B k) r := by
  simpa only [if_pos h] using e
theorem Ev.ifNeg {α : Type} {c : Prop} [Decidable c] {A B : Nat → Option α} {r : α} (h : ¬ c) (e : Ev B r) : Ev (fun k => if c then A k else B k) r := by
  simpa only [if_neg h] using e
theorem Ev.uniq {α : Type} {g : Nat → Option α} {a b : α} (h : Ev g a) (h' : Ev g b) : a = b := by
  obtain ⟨K, hK⟩ := h
  obtain ⟨K', hK'⟩ := h'
  have := (hK (K + K') (by omega)).symm.trans (hK' (K + K') (by omega))
  exact Option.some.inj this

/-- A loop by its rounds: at each one it ends, or goes on to the next. F: what it comes to from there. -/
theorem scan {ρ : Type} (L : Nat → Nat → Option ρ) (n : Nat) (F : Nat → ρ) (hend : Ev (fun k => L (k + 1) n) (F n))
    (hstep : ∀ i, i < n → Ev (fun k => L (k + 1) i) (F i) ∨ (F i = F (i + 1) ∧ EvEq (fun k => L (k + 1) i) (fun k => L k (i + 1)))) : ∀ i, i ≤ n → Ev (fun k => L k i) (F i) := by
  have key : ∀ d i, i + d = n → Ev (fun k => L k i) (F i) := by
    intro d
    induction d with
    | zero =>
      intro i hi
      have e : i = n := by omega
      rw [e]
      exact Ev.up (g := fun k => L k n) hend
    | succ d ih =>
      intro i hi
      rcases hstep i (by omega) with h | ⟨h, h'⟩
      · exact Ev.up (g := fun k => L k i) h
      · rw [h]
        exact Ev.up (g := fun k => L k i) (Ev.ofEq h' (ih (i + 1) (by omega)))
  intro i hi
  exact key (n - i) i (by omega)

/-- A loop whose value at the end is known, and at each round that of the next one. -/
theorem scanI {ρ : Type} (L : Nat → Nat → Option ρ) (n : Nat) (F : Nat → ρ) (hend : Ev (fun k => L k n) (F n))
    (hstep : ∀ i, i < n → Ev (fun k => L k (i + 1)) (F (i + 1)) → Ev (fun k => L k i) (F i)) : ∀ i, i ≤ n → Ev (fun k => L k i) (F i) := by
  have key : ∀ d i, i + d = n → Ev (fun k => L k i) (F i) := by
    intro d
    induction d with
    | zero =>
      intro i hi
      have e : i = n := by omega
      rw [e]
      exact hend
    | succ d ih =>
      intro i hi
      exact hstep i (by omega) (ih (i + 1) (by omega))
  intro i hi
  exact key (n - i) i (by omega)
theorem Ev.ite {α : Type} {c : Prop} [Decidable c] {A B : Nat → Option α} {r : α} (h : c → Ev A r) (h' : ¬ c → Ev B r) : Ev (fun k => if c then A k else B k) r := by
  by_cases e : c
  · exact Ev.ifPos e (h e)
  · exact Ev.ifNeg e (h' e)

def allFrom (p : Nat → Bool) (i n : Nat) : Bool := (List.range' i (n - i)).all p
theorem allFrom_end (p : Nat → Bool) (n : Nat) : allFrom p n n = true := by simp [allFrom]
theorem allFrom_step (p : Nat → Bool) {i n : Nat} (h : i < n) : allFrom p i n = (p i && allFrom p (i + 1) n) := by
  unfold allFrom
  obtain ⟨d, hd⟩ : ∃ d, n - i = d + 1 := ⟨n - i - 1, by omega⟩
  have : n - (i + 1) = d := by omega
  rw [hd, this, List.range'_succ, List.all_cons]
theorem allFrom_iff (p : Nat → Bool) (i n : Nat) : allFrom p i n = true ↔ ∀ j, i ≤ j → j < n → p j = true := by
  unfold allFrom
  rw [List.all_eq_true]
  constructor
  · intro h j h1 h2
    exact h j (by rw [List.mem_range'_1]; omega)
  · intro h j hj
    rw [List.mem_range'_1] at hj
    exact h j (by omega) (by omega)
/-- A loop that goes on while p, and ends with false. -/
theorem allScan (L : Nat → Nat → Option Bool) (n : Nat) (p : Nat → Bool) (fin : Bool) (hend : Ev (fun k => L (k + 1) n) fin)
    (hstep : ∀ i, i < n → EvEq (fun k => L (k + 1) i) (fun k => if p i = true then L k (i + 1) else some false)) : ∀ i, i ≤ n → Ev (fun k => L k i) (allFrom p i n && fin) := by
  refine scan L n (fun i => allFrom p i n && fin) ?_ ?_
  · show Ev _ (allFrom p n n && fin)
    rw [allFrom_end, Bool.true_and]
    exact hend
  · intro i hi
    by_cases hp : p i = true
    · right
      refine ⟨by show (allFrom p i n && fin) = (allFrom p (i + 1) n && fin); rw [allFrom_step p hi, hp, Bool.true_and], ?_⟩
      have h := hstep i hi
      simpa only [if_pos hp] using h
    · left
      have h := hstep i hi
      have hp' : p i = false := by simpa using hp
      have e : (allFrom p i n && fin) = false := by rw [allFrom_step p hi, hp']; rfl
      show Ev _ (allFrom p i n && fin)
      rw [e]
      refine Ev.ofEq h (Ev.const fun k => ?_)
      rw [if_neg hp]

def firstFrom (p : Nat → Bool) (i n : Nat) : Int := match (List.range' i (n - i)).find? p with | some j => (j : Int) | none => -1
theorem firstFrom_end (p : Nat → Bool) (n : Nat) : firstFrom p n n = -1 := by simp [firstFrom]
theorem firstFrom_step (p : Nat → Bool) {i n : Nat} (h : i < n) : firstFrom p i n = if p i = true then (i : Int) else firstFrom p (i + 1) n := by
  unfold firstFrom
  obtain ⟨d, hd⟩ : ∃ d, n - i = d + 1 := ⟨n - i - 1, by omega⟩
  have : n - (i + 1) = d := by omega
  rw [hd, this, List.range'_succ, List.find?_cons]
  cases p i <;> simp
/-- A loop that ends at the first index with p, and tells -1 where there is none. -/
theorem firstScan (L : Nat → Nat → Option Int) (n : Nat) (p : Nat → Bool) (hend : Ev (fun k => L (k + 1) n) (-1))
    (hstep : ∀ i, i < n → EvEq (fun k => L (k + 1) i) (fun k => if p i = true then some (i : Int) else L k (i + 1))) : ∀ i, i ≤ n → Ev (fun k => L k i) (firstFrom p i n) := by
  refine scan L n (fun i => firstFrom p i n) ?_ ?_
  · show Ev _ (firstFrom p n n)
    rw [firstFrom_end]
    exact hend
  · intro i hi
    by_cases hp : p i = true
    · left
      show Ev _ (firstFrom p i n)
      rw [firstFrom_step p hi, if_pos hp]
      exact Ev.ofEq (hstep i hi) (Ev.const fun k => by rw [if_pos hp])
    · right
      refine ⟨by show firstFrom p i n = firstFrom p (i + 1) n; rw [firstFrom_step p hi, if_neg hp], ?_⟩
      simpa only [if_neg hp] using hstep i hi
theorem firstFrom_none (p : Nat → Bool) {n : Nat} : ∀ i, i ≤ n → (firstFrom p i n = -1 ↔ ∀ j, i ≤ j → j < n → p j = false) := by
  have key : ∀ d i, i + d = n → (firstFrom p i n = -1 ↔ ∀ j, i ≤ j → j < n → p j = false) := by
    intro d
    induction d with
    | zero =>
      intro i hi
      have e : i = n := by omega
      subst e
      rw [firstFrom_end]
      exact ⟨fun _ j h1 h2 => by omega, fun _ => rfl⟩
    | succ d ih =>
      intro i hi
      rw [firstFrom_step p (by omega)]
      by_cases hp : p i = true
      · rw [if_pos hp]
        constructor
        · intro h; omega
        · intro h
          have := h i (by omega) (by omega)
          rw [hp] at this
          cases this
      · rw [if_neg hp, ih (i + 1) (by omega)]
        constructor
        · intro h j h1 h2
          by_cases e : j = i
          · subst e; simpa using hp
          · exact h j (by omega) h2
        · intro h j h1 h2
          exact h j (by omega) h2
  intro i hi
  exact key (n - i) i (by omega)
theorem firstFrom_some (p : Nat → Bool) {n : Nat} : ∀ i, i ≤ n → firstFrom p i n ≠ -1 → ∃ j : Nat, firstFrom p i n = (j : Int) ∧ i ≤ j ∧ j < n ∧ p j = true := by
  have key : ∀ d i, i + d = n → firstFrom p i n ≠ -1 → ∃ j : Nat, firstFrom p i n = (j : Int) ∧ i ≤ j ∧ j < n ∧ p j = true := by
    intro d
    induction d with
    | zero =>
      intro i hi h
      have e : i = n := by omega
      subst e
      rw [firstFrom_end] at h
      exact absurd rfl h
    | succ d ih =>
      intro i hi h
      rw [firstFrom_step p (by omega)] at h ⊢
      by_cases hp : p i = true
      · rw [if_pos hp]
        exact ⟨i, rfl, by omega, by omega, hp⟩
      · rw [if_neg hp] at h ⊢
        obtain ⟨j, h1, h2, h3, h4⟩ := ih (i + 1) (by omega) h
        exact ⟨j, h1, by omega, h3, h4⟩
  intro i hi
  exact key (n - i) i (by omega)
theorem firstFrom_congr {p q : Nat → Bool} {n : Nat} (h : ∀ j, j < n → p j = q j) : ∀ i, i ≤ n → firstFrom p i n = firstFrom q i n := by
  have key : ∀ d i, i + d = n → firstFrom p i n = firstFrom q i n := by
    intro d
    induction d with
    | zero =>
      intro i hi
      have e : i = n := by omega
      subst e
      rw [firstFrom_end, firstFrom_end]
    | succ d ih =>
      intro i hi
      rw [firstFrom_step p (by omega), firstFrom_step q (by omega), h i (by omega), ih (i + 1) (by omega)]
  intro i hi
  exact key (n - i) i (by omega)

theorem getD_at {α : Type} {xs : List α} {i : Nat} (h : i < xs.length) (d : α) : xs.getD i d = xs[i] := by
  rw [List.getD_eq_getElem?_getD, List.getElem?_eq_getElem h]; rfl
theorem rd_at {xs : List Int} {i : Nat} (h : i < xs.length) : rd xs (i : Int) = xs[i] := by
  unfold rd; rw [Int.toNat_natCast]; exact getD_at h _
theorem rdOf_at {α : Type} {d : α} {xs : List α} {i : Nat} (h : i < xs.length) : rdOf d xs (i : Int) = xs[i] := by
  unfold rdOf; rw [Int.toNat_natCast]; exact getD_at h _
theorem allFrom_congr {p q : Nat → Bool} (h : ∀ j, p j = q j) (i n : Nat) : allFrom p i n = allFrom q i n := by
  rw [show p = q from funext h]
/-- Rows that are compared place by place. -/
theorem rows3 {L : Nat → Int → Option Bool} {n m : Nat} {c : Int → Bool} (hn : n ≤ 9223372036854775807)
    (hL : ∀ k i, L (k + 1) i = if i < (n : Int) then (if 0 ≤ i then (if i < (m : Int) then (if c i = true then some false else L k (wrap64 (i + 1))) else none) else none) else some true) :
    Ev (fun k => if (n : Int) = (m : Int) then L k 0 else some false) (decide (n = m) && allFrom (fun j => !c j) 0 n) := by
  by_cases hl : n = m
  · rw [decide_eq_true hl, Bool.true_and]
    refine Ev.ifPos (by omega) ?_
    have h := allScan (fun k i => L k (i : Int)) n (fun j => !c j) true (Ev.const fun k => by rw [hL, if_neg (by omega)]) (by
      intro i hi
      refine EvEq.now fun k => ?_
      rw [hL, if_pos (by omega), if_pos (by omega), if_pos (by omega), wnext hi (by omega)]
      cases c i <;> rfl) 0 (by omega)
    rw [Bool.and_true] at h
    exact h
  · rw [decide_eq_false hl, Bool.false_and]
    exact Ev.ifNeg (by omega) (Ev.const fun _ => rfl)
theorem rows4 {L : Nat → Int → Option Bool} {n m : Nat} {c : Int → Bool} (hn : n ≤ 9223372036854775807)
    (hL : ∀ k i, L (k + 1) i = if i < (n : Int) then (if 0 ≤ i then (if i < (n : Int) then (if i < (m : Int) then (if c i = true then some false else L k (wrap64 (i + 1))) else none) else none) else none) else some true) :
    Ev (fun k => if (n : Int) = (m : Int) then L k 0 else some false) (decide (n = m) && allFrom (fun j => !c j) 0 n) := by
  refine rows3 hn fun k i => ?_
  rw [hL]
  by_cases h : i < (n : Int)
  · rw [if_pos h, if_pos h, if_pos h]
  · rw [if_neg h, if_neg h]
/-- A row that is filled from its begin. -/
theorem fill_set {α : Type} (xs : List α) (z : α) {i n : Nat} (hi : i < n) (hl : xs.length = n) : (xs.take i ++ List.replicate (n - i) z).set i (xs[i]'(by omega)) = xs.take (i + 1) ++ List.replicate (n - (i + 1)) z := by
  have hlt : (xs.take i).length = i := by rw [List.length_take]; omega
  rw [List.set_append_right _ _ (by omega), hlt, Nat.sub_self]
  obtain ⟨d, hd⟩ : ∃ d, n - i = d + 1 := ⟨n - i - 1, by omega⟩
  have hd' : n - (i + 1) = d := by omega
  rw [hd, hd', List.replicate_succ, List.set_cons_zero, List.take_succ_eq_append_getElem (by omega), List.append_assoc]
  rfl

end Go.Proofs.Ytfgfkmjpeffjbaa.B

/-! ## PName -/
/- Plain laws of names: the program's and the reference's IsName tell the same bool of every string. No condition but that its length fits in memory. -/
namespace Go.Proofs.Ytfgfkmjpeffjbaa.PName
open Go.RowKit Go.Proofs.YtfgfkmjpeffjbaaW.PrintWords Go.Proofs.Ytfgfkmjpeffjbaa.X Go.Proofs.Ytfgfkmjpeffjbaa.B

theorem implIn_eq (a b c : Int) : impl_in.f a b c = some (decide (b ≤ a ∧ a ≤ c)) := by
  unfold impl_in.f
  by_cases h : a ≥ b <;> by_cases h' : a ≤ c <;> simp [h, h'] <;> omega
def sm (c : Int) : Bool := decide (97 ≤ c ∧ c ≤ 122)
def okc (c : Int) : Bool := sm c || (decide (48 ≤ c ∧ c ≤ 57) || decide (c = 45))
/-- What both tell. -/
def isName (s : ByteArray) : Bool := allFrom (fun j => okc (bt s j) && (j != 0 || sm (bt s 0))) 0 s.size && decide (1 ≤ (s.size : Int) ∧ (s.size : Int) ≤ 12)

theorem implName_ev (s : ByteArray) (hn : s.size ≤ 9223372036854775807) : Ev (fun k => impl_IsName.f k s) (isName s) := by
  unfold isName
  refine allScan (fun k i => impl_IsName.l0 k s (i : Int)) s.size (fun j => okc (bt s j) && (j != 0 || sm (bt s 0))) (decide (1 ≤ (s.size : Int) ∧ (s.size : Int) ≤ 12)) ?_ ?_ 0 (by omega)
  · refine Ev.const fun k => ?_
    simp only [impl_IsName.l0]
    rw [if_neg (by omega), implIn_eq]
    rfl
  · intro i hi
    refine EvEq.now fun k => ?_
    simp only [impl_IsName.l0]
    rw [if_pos (by omega), if_pos (by omega), wnext hi (by omega)]
    by_cases h0 : i = 0
    · subst h0
      by_cases a : 97 ≤ bt s 0 <;> by_cases b : bt s 0 ≤ 122 <;> by_cases c : 48 ≤ bt s 0 <;> by_cases d : bt s 0 ≤ 57 <;> by_cases e : bt s 0 = 45 <;> simp [okc, sm, a, b, c, d, e] <;> omega
    · have hi0 : ¬ ((i : Int) = 0) := by omega
      by_cases a : 97 ≤ bt s i <;> by_cases b : bt s i ≤ 122 <;> by_cases c : 48 ≤ bt s i <;> by_cases d : bt s i ≤ 57 <;> by_cases e : bt s i = 45 <;> simp [okc, sm, a, b, c, d, e, h0, hi0] <;> omega

theorem small_eq (c : Int) : spec_l01Small.f c = some (sm c) := by
  unfold spec_l01Small.f sm
  by_cases h : c ≥ 97 <;> by_cases h' : c ≤ 122 <;> simp [h, h'] <;> omega
theorem digit_eq (c : Int) : spec_l01Digit.f c = some (decide (48 ≤ c ∧ c ≤ 57)) := by
  unfold spec_l01Digit.f
  by_cases h : c ≥ 48 <;> by_cases h' : c ≤ 57 <;> simp [h, h'] <;> omega
theorem toList_nil (s : ByteArray) : s.toList = ([] : List UInt8) ↔ s.size = 0 := by
  rw [ByteArray.toList_eq]
  constructor
  · intro h
    have := data_length s
    rw [h] at this
    simpa using this.symm
  · intro h
    have := data_length s
    rw [h] at this
    exact List.eq_nil_of_length_eq_zero this
theorem specLoop_ev (s : ByteArray) (hn : s.size ≤ 9223372036854775807) : Ev (fun k => spec_IsName.l0 k s ((0 : Nat) : Int)) (allFrom (fun j => okc (bt s j)) 0 s.size) := by
  have h := allScan (fun k i => spec_IsName.l0 k s (i : Int)) s.size (fun j => okc (bt s j)) true (Ev.const fun k => by
    simp only [spec_IsName.l0]
    rw [if_neg (by omega)]) (by
    intro i hi
    refine EvEq.now fun k => ?_
    simp only [spec_IsName.l0, small_eq, digit_eq, Option.bind_some]
    rw [if_pos (by omega), if_pos (by omega), wnext hi (by omega)]
    by_cases a : sm (bt s i) = true
    · rw [if_pos a, if_pos (by simp [okc, a])]
    · rw [if_neg a]
      by_cases b : 48 ≤ bt s i ∧ bt s i ≤ 57
      · rw [if_pos (by simpa using b), if_pos (by simp [okc, b])]
      · rw [if_neg (by simpa using b)]
        by_cases c : bt s i = 45
        · rw [if_pos c, if_pos (by simp [okc, c])]
        · rw [if_neg c, if_neg (by simp only [okc]; simp [a, b, c])]) 0 (by omega)
  simpa using h
theorem specName_ev (s : ByteArray) (hn : s.size ≤ 9223372036854775807) : Ev (fun k => spec_IsName.f k s) (isName s) := by
  unfold isName
  by_cases h0 : s.size = 0
  · have e : (allFrom (fun j => okc (bt s j) && (j != 0 || sm (bt s 0))) 0 s.size && decide (1 ≤ (s.size : Int) ∧ (s.size : Int) ≤ 12)) = false := by rw [h0]; simp
    rw [e]
    refine Ev.ofEq (f := fun k => spec_IsName.j0 k s true) (EvEq.now fun k => ?_) (Ev.up (g := fun k => spec_IsName.j0 k s true) (Ev.const fun k => by simp [spec_IsName.j0]))
    unfold spec_IsName.f
    rw [if_pos ((toList_nil s).2 h0)]
  · have hl : ¬ s.toList = ([] : List UInt8) := fun h => h0 ((toList_nil s).1 h)
    by_cases h12 : (s.size : Int) > 12
    · have e : (allFrom (fun j => okc (bt s j) && (j != 0 || sm (bt s 0))) 0 s.size && decide (1 ≤ (s.size : Int) ∧ (s.size : Int) ≤ 12)) = false := by
        have : ¬ (1 ≤ (s.size : Int) ∧ (s.size : Int) ≤ 12) := by omega
        rw [decide_eq_false this, Bool.and_false]
      rw [e]
      refine Ev.ofEq (f := fun k => spec_IsName.j0 k s true) (EvEq.now fun k => ?_) (Ev.up (g := fun k => spec_IsName.j0 k s true) (Ev.const fun k => by simp [spec_IsName.j0]))
      unfold spec_IsName.f
      rw [if_neg hl, if_pos h12]
    · have hb : decide (1 ≤ (s.size : Int) ∧ (s.size : Int) ≤ 12) = true := by simp; omega
      rw [hb, Bool.and_true]
      refine Ev.ofEq (f := fun k => spec_IsName.j0 k s (!sm (bt s 0))) (EvEq.now fun k => ?_) (Ev.up (g := fun k => spec_IsName.j0 k s (!sm (bt s 0))) ?_)
      · unfold spec_IsName.f
        rw [if_neg hl, if_neg h12, if_pos (by omega), small_eq]
        rfl
      · simp only [spec_IsName.j0]
        by_cases a : sm (bt s 0) = true
        · have e : allFrom (fun j => okc (bt s j) && (j != 0 || sm (bt s 0))) 0 s.size = allFrom (fun j => okc (bt s j)) 0 s.size := by simp [a]
          rw [e]
          refine Ev.ifNeg (by simp [a]) ?_
          exact specLoop_ev s hn
        · have e : allFrom (fun j => okc (bt s j) && (j != 0 || sm (bt s 0))) 0 s.size = false := by
            rw [allFrom_step _ (by omega)]
            simp [a]
          rw [e]
          exact Ev.ifPos (by simp [a]) (Ev.const fun _ => rfl)
end Go.Proofs.Ytfgfkmjpeffjbaa.PName

/-! ## PInts -/
/- Plain laws of lists of whole numbers: copying, measuring, comparing them. No condition but the lengths that fit in memory. -/
namespace Go.Proofs.Ytfgfkmjpeffjbaa.PInts
open Go.RowKit Go.Proofs.YtfgfkmjpeffjbaaW.PrintWords Go.Proofs.Ytfgfkmjpeffjbaa.X Go.Proofs.Ytfgfkmjpeffjbaa.B

theorem toInts_ev (xs : List Int) (hn : xs.length ≤ 1048576) : Ev (fun k => laws_toInt64S.f k xs) xs := by
  have h0 : Ev (fun k => laws_toInt64S.l0 k xs (xs.take 0 ++ List.replicate (xs.length - 0) 0) ((0 : Nat) : Int)) xs := by
    refine scan (fun k i => laws_toInt64S.l0 k xs (xs.take i ++ List.replicate (xs.length - i) 0) (i : Int)) xs.length (fun _ => xs) ?_ ?_ 0 (by omega)
    · refine Ev.const fun k => ?_
      simp only [laws_toInt64S.l0]
      rw [if_neg (by omega)]
      simp
    · intro i hi
      right
      refine ⟨rfl, EvEq.now fun k => ?_⟩
      have hl : (xs.take i ++ List.replicate (xs.length - i) (0 : Int)).length = xs.length := by simp; omega
      simp only [laws_toInt64S.l0]
      rw [if_pos (by omega), if_pos (by omega), if_pos (by rw [hl]; omega), rd_at hi, Int.toNat_natCast, wnext hi (by omega), fill_set xs 0 hi rfl]
  have e : ∀ k, laws_toInt64S.f k xs = laws_toInt64S.l0 k xs (xs.take 0 ++ List.replicate (xs.length - 0) 0) ((0 : Nat) : Int) := by
    intro k
    unfold laws_toInt64S.f
    rw [if_pos (by omega), Int.toNat_natCast, if_pos (by omega)]
    simp
  exact Ev.ofEq (EvEq.now e) h0

theorem szInts_eq (xs : List Int) (left : Int) (h0 : 0 ≤ left) (h1 : left ≤ 1048576) (hx : xs.length ≤ 9223372036854775807) : laws_szInt64S.f xs left = some (if (xs.length : Int) ≤ left then left - xs.length else -1) := by
  unfold laws_szInt64S.f
  rw [w64 (by omega) (by omega)]
  by_cases h : (xs.length : Int) ≤ left
  · rw [if_neg (by omega), if_pos h]
  · rw [if_pos (by omega), if_neg h]

/-- Comparing two lists tells whether they are equal. -/
theorem eqInts_ev (a b : List Int) (hn : a.length ≤ 9223372036854775806) : Ev (fun k => laws_eqInt64S.f k a b) (decide (a = b)) := by
  by_cases hl : a.length = b.length
  · have h0 := allScan (fun k i => laws_eqInt64S.l0 k a b (i : Int)) a.length (fun j => decide (a.getD j 0 = b.getD j 0)) true (Ev.const fun k => by
      simp only [laws_eqInt64S.l0]
      rw [if_neg (by omega)]) (by
      intro i hi
      refine EvEq.now fun k => ?_
      simp only [laws_eqInt64S.l0]
      rw [if_pos (by omega), if_pos (by omega), if_pos (by omega), rd_at hi, rd_at (by omega), wnext hi (by omega), getD_at hi, getD_at (xs := b) (by omega)]
      simp) 0 (by omega)
    have e : (allFrom (fun j => decide (a.getD j 0 = b.getD j 0)) 0 a.length && true) = decide (a = b) := by
      rw [Bool.and_true, Bool.eq_iff_iff, allFrom_iff, decide_eq_true_iff]
      constructor
      · intro h
        refine List.ext_getElem hl fun j h1 h2 => ?_
        have := h j (by omega) h1
        rw [decide_eq_true_iff, getD_at h1, getD_at h2] at this
        exact this
      · rintro rfl j _ _
        simp
    rw [e] at h0
    refine Ev.ofEq (EvEq.now fun k => ?_) h0
    unfold laws_eqInt64S.f
    rw [if_pos (by omega)]
    rfl
  · have : ¬ a = b := fun h => hl (by rw [h])
    rw [decide_eq_false this]
    refine Ev.const fun k => ?_
    unfold laws_eqInt64S.f
    rw [if_neg (by omega)]
theorem eqInts_self (a : List Int) (hn : a.length ≤ 9223372036854775806) : Ev (fun k => laws_eqInt64S.f k a a) true := by
  simpa using eqInts_ev a a hn
end Go.Proofs.Ytfgfkmjpeffjbaa.PInts

/-! ## PMeeting -/
/- Plain laws of meetings: copying, measuring, comparing them; finding a motion; both ValidMeeting. No condition but the lengths that fit in memory. -/
namespace Go.Proofs.Ytfgfkmjpeffjbaa.PMeeting
open Go.RowKit Go.Proofs.YtfgfkmjpeffjbaaW.PrintWords Go.Proofs.Ytfgfkmjpeffjbaa.X Go.Proofs.Ytfgfkmjpeffjbaa.B Go.Proofs.Ytfgfkmjpeffjbaa.PName Go.Proofs.Ytfgfkmjpeffjbaa.PInts

abbrev L := S87
abbrev M := S60
def conv (x : L) : M := ⟨x.f0, x.f1⟩
theorem rdL {xs : List L} {i : Nat} (h : i < xs.length) : rd_T87 xs (i : Int) = xs[i] := by
  unfold rd_T87; rw [Int.toNat_natCast]; exact getD_at h _
theorem rdM {xs : List M} {i : Nat} (h : i < xs.length) : rd_T60 xs (i : Int) = xs[i] := by
  unfold rd_T60; rw [Int.toNat_natCast]; exact getD_at h _

/-- How many letters and elements motions have. -/
def bulk (xs : List L) : Int := (xs.map fun x => (x.f0.size : Int) + x.f1.length).sum
theorem bulk_nonneg (xs : List L) : 0 ≤ bulk xs := by
  induction xs with
  | nil => simp [bulk]
  | cons x xs ih => simp only [bulk, List.map_cons, List.sum_cons] at ih ⊢; omega
theorem bulk_drop (xs : List L) {i : Nat} (h : i < xs.length) : bulk (xs.drop i) = (xs[i].f0.size : Int) + xs[i].f1.length + bulk (xs.drop (i + 1)) := by
  rw [List.drop_eq_getElem_cons h]
  simp only [bulk, List.map_cons, List.sum_cons]
theorem bulk_mem (xs : List L) : ∀ x ∈ xs, (x.f0.size : Int) + x.f1.length ≤ bulk xs := by
  induction xs with
  | nil => intro x h; cases h
  | cons y xs ih =>
    intro x h
    have := bulk_nonneg xs
    simp only [bulk, List.map_cons, List.sum_cons] at this ⊢
    rcases List.mem_cons.1 h with rfl | h
    · omega
    · have := ih x h
      simp only [bulk] at this
      omega

def WfL (x : L) : Prop := x.f0.size ≤ 9223372036854775807 ∧ x.f1.length ≤ 9223372036854775807
theorem szMotion_eq (x : L) (left : Int) (h0 : 0 ≤ left) (h1 : left ≤ 1048576) (hx : WfL x) : laws_szMotion.f x.f0 x.f1 left = some (if (x.f0.size : Int) + x.f1.length ≤ left then left - (x.f0.size + x.f1.length) else -1) := by
  obtain ⟨ha, hb⟩ := hx
  unfold laws_szMotion.f
  rw [w64 (by omega) (by omega)]
  by_cases h : (left - (x.f0.size : Int)) < 0
  · rw [if_pos h, if_neg (by omega)]
  · rw [if_neg h, szInts_eq x.f1 _ (by omega) (by omega) hb, Option.bind_some]
    by_cases h2 : (x.f1.length : Int) ≤ left - x.f0.size
    · rw [if_pos h2, if_neg (by omega), if_pos (by omega)]
      congr 1; omega
    · rw [if_neg h2, if_pos (by omega), if_neg (by omega)]
theorem szMotionS_ev (xs : List L) (left : Int) (h0 : 0 ≤ left) (h1 : left ≤ 1048576) (hx : xs.length ≤ 9223372036854775807) (hw : ∀ x ∈ xs, WfL x) :
    Ev (fun k => laws_szMotionS.f k xs left) (if (xs.length : Int) + bulk xs ≤ left then left - (xs.length + bulk xs) else -1) := by
  have hb := bulk_nonneg xs
  by_cases hl : (left - (xs.length : Int)) < 0
  · refine Ev.const fun k => ?_
    unfold laws_szMotionS.f
    rw [w64 (by omega) (by omega), if_pos hl, if_neg (by omega)]
  · have key : ∀ d i (l : Int), i + d = xs.length → 0 ≤ l → l ≤ 1048576 → Ev (fun k => laws_szMotionS.l0 k xs l (i : Int)) (if bulk (xs.drop i) ≤ l then l - bulk (xs.drop i) else -1) := by
      intro d
      induction d with
      | zero =>
        intro i l hi hl0 hl1
        have e : i = xs.length := by omega
        subst e
        refine Ev.up (g := fun k => laws_szMotionS.l0 k xs l (xs.length : Int)) (Ev.const fun k => ?_)
        simp only [laws_szMotionS.l0]
        rw [if_neg (by omega)]
        have : bulk (xs.drop xs.length) = 0 := by simp [bulk]
        rw [this, if_pos hl0]
        congr 1; omega
      | succ d ih =>
        intro i l hi hl0 hl1
        have hil : i < xs.length := by omega
        have hbd := bulk_drop xs hil
        have hbn := bulk_nonneg (xs.drop (i + 1))
        refine Ev.up (g := fun k => laws_szMotionS.l0 k xs l (i : Int)) ?_
        by_cases hx' : (xs[i].f0.size : Int) + xs[i].f1.length ≤ l
        · have h' := ih (i + 1) (l - (xs[i].f0.size + xs[i].f1.length)) (by omega) (by omega) (by omega)
          have e : (if bulk (xs.drop i) ≤ l then l - bulk (xs.drop i) else -1) = (if bulk (xs.drop (i + 1)) ≤ l - (xs[i].f0.size + xs[i].f1.length) then l - (xs[i].f0.size + xs[i].f1.length) - bulk (xs.drop (i + 1)) else -1) := by
            by_cases hh : bulk (xs.drop i) ≤ l
            · rw [if_pos hh, if_pos (by omega)]; omega
            · rw [if_neg hh, if_neg (by omega)]
          rw [e]
          refine Ev.ofEq (EvEq.now fun k => ?_) h'
          simp only [laws_szMotionS.l0]
          rw [if_pos (by omega), if_pos (by omega), rdL hil, szMotion_eq _ _ hl0 hl1 (hw _ (List.getElem_mem hil)), if_pos hx', Option.bind_some, if_neg (by omega), wnext hil (by omega)]
        · rw [if_neg (by omega)]
          refine Ev.const fun k => ?_
          simp only [laws_szMotionS.l0]
          rw [if_pos (by omega), if_pos (by omega), rdL hil, szMotion_eq _ _ hl0 hl1 (hw _ (List.getElem_mem hil)), if_neg hx', Option.bind_some, if_pos (by omega)]
    have h' := key xs.length 0 (left - xs.length) (by omega) (by omega) (by omega)
    rw [List.drop_zero] at h'
    have e : (if (xs.length : Int) + bulk xs ≤ left then left - (xs.length + bulk xs) else -1) = (if bulk xs ≤ left - xs.length then left - xs.length - bulk xs else -1) := by
      by_cases hh : (xs.length : Int) + bulk xs ≤ left
      · rw [if_pos hh, if_pos (by omega)]; omega
      · rw [if_neg hh, if_neg (by omega)]
    rw [e]
    refine Ev.ofEq (EvEq.now fun k => ?_) h'
    unfold laws_szMotionS.f
    rw [w64 (by omega) (by omega), if_neg hl]
    rfl
theorem szMeeting_ev (s : Int) (xs : List L) (left : Int) (h0 : 0 ≤ left) (h1 : left ≤ 1048576) (hx : xs.length ≤ 9223372036854775807) (hw : ∀ x ∈ xs, WfL x) :
    Ev (fun k => laws_szMeeting.f k s xs left) (if (xs.length : Int) + bulk xs ≤ left then left - (xs.length + bulk xs) else -1) := by
  unfold laws_szMeeting.f
  refine Ev.bindE (szMotionS_ev xs left h0 h1 hx hw) ?_
  by_cases h : (xs.length : Int) + bulk xs ≤ left
  · simp only [if_pos h]
    exact Ev.ifNeg (by omega) (Ev.const fun _ => rfl)
  · simp only [if_neg h]
    exact Ev.ifPos (by omega) (Ev.const fun _ => rfl)

theorem toMotionS_ev (xs : List L) (hn : xs.length ≤ 1048576) (hw : ∀ x ∈ xs, x.f1.length ≤ 1048576) : Ev (fun k => laws_toMotionS.f k xs) (xs.map conv) := by
  have h0 : Ev (fun k => laws_toMotionS.l0 k xs ((xs.map conv).take 0 ++ List.replicate (xs.length - 0) z60) ((0 : Nat) : Int)) (xs.map conv) := by
    refine scan (fun k i => laws_toMotionS.l0 k xs ((xs.map conv).take i ++ List.replicate (xs.length - i) z60) (i : Int)) xs.length (fun _ => xs.map conv) ?_ ?_ 0 (by omega)
    · refine Ev.const fun k => ?_
      simp only [laws_toMotionS.l0]
      rw [if_neg (by omega)]
      simp [List.take_of_length_le]
    · intro i hi
      right
      refine ⟨rfl, ?_⟩
      have hl : ((xs.map conv).take i ++ List.replicate (xs.length - i) z60).length = xs.length := by simp; omega
      refine EvEq.trans (EvEq.now (f := fun k => (laws_toMotion.f k xs[i].f0 xs[i].f1).bind fun bt => laws_toMotionS.l0 k xs ((((xs.map conv).take i ++ List.replicate (xs.length - i) z60)).set i (⟨bt.1, bt.2⟩ : M)) ((i + 1 : Nat) : Int)) fun k => ?_) ?_
      · simp only [laws_toMotionS.l0]
        rw [if_pos (by omega), if_pos (by omega), rdL hi, wnext hi (by omega)]
        congr 1
        funext bt
        rw [if_pos (by rw [hl]; omega), Int.toNat_natCast]
      · have tm : Ev (fun k => laws_toMotion.f k xs[i].f0 xs[i].f1) (xs[i].f0, xs[i].f1) := Ev.bindE (toInts_ev _ (hw _ (List.getElem_mem hi))) (Ev.const fun _ => rfl)
        refine EvEq.bind tm (EvEq.now fun k => ?_)
        have hs := fill_set (xs.map conv) z60 (i := i) (n := xs.length) hi (by simp)
        rw [← hs]
        simp [conv]
  have e : ∀ k, laws_toMotionS.f k xs = laws_toMotionS.l0 k xs ((xs.map conv).take 0 ++ List.replicate (xs.length - 0) z60) ((0 : Nat) : Int) := by
    intro k
    unfold laws_toMotionS.f
    rw [if_pos (by omega), Int.toNat_natCast, if_pos (by omega)]
    simp
  exact Ev.ofEq (EvEq.now e) h0
theorem toMeeting_ev (s : Int) (xs : List L) (hn : xs.length ≤ 1048576) (hw : ∀ x ∈ xs, x.f1.length ≤ 1048576) : Ev (fun k => laws_toMeeting.f k s xs) (s, xs.map conv) :=
  Ev.bindE (toMotionS_ev xs hn hw) (Ev.const fun _ => rfl)

theorem eqMotionS_self (xs : List M) (hn : xs.length ≤ 1048576) (hw : ∀ x ∈ xs, x.f1.length ≤ 1048576) : Ev (fun k => laws_eqMotionS.f k xs xs) true := by
  have h0 : Ev (fun k => laws_eqMotionS.l0 k xs xs ((0 : Nat) : Int)) true := by
    refine scan (fun k i => laws_eqMotionS.l0 k xs xs (i : Int)) xs.length (fun _ => true) ?_ ?_ 0 (by omega)
    · refine Ev.const fun k => ?_
      simp only [laws_eqMotionS.l0]
      rw [if_neg (by omega)]
    · intro i hi
      right
      refine ⟨rfl, ?_⟩
      have em : Ev (fun k => laws_eqMotion.f k xs[i].f0 xs[i].f1 xs[i].f0 xs[i].f1) true := by
        unfold laws_eqMotion.f
        refine Ev.ifPos rfl (Ev.bindE (eqInts_self _ (by have := hw _ (List.getElem_mem hi); omega)) ?_)
        exact Ev.const fun k => by simp
      refine EvEq.trans (EvEq.now (f := fun k => (laws_eqMotion.f k xs[i].f0 xs[i].f1 xs[i].f0 xs[i].f1).bind fun t => if t = true then laws_eqMotionS.l0 k xs xs ((i + 1 : Nat) : Int) else some false) fun k => ?_) (EvEq.bind em (EvEq.now fun k => by simp))
      simp only [laws_eqMotionS.l0]
      rw [if_pos (by omega), if_pos (by omega), if_pos (by omega), rdM hi, wnext hi (by omega)]
  refine Ev.ofEq (EvEq.now fun k => ?_) h0
  unfold laws_eqMotionS.f
  rw [if_pos rfl]
  rfl
theorem eqMeeting_self (s : Int) (xs : List M) (hn : xs.length ≤ 1048576) (hw : ∀ x ∈ xs, x.f1.length ≤ 1048576) : Ev (fun k => laws_eqMeeting.f k s xs s xs) true := by
  unfold laws_eqMeeting.f
  refine Ev.ifPos rfl (Ev.bindE (eqMotionS_self xs hn hw) ?_)
  exact Ev.const fun k => by simp

/-! Finding a motion; what is valid. -/
def named (xs : List M) (nm : ByteArray) (j : Nat) : Bool := decide ((xs.getD j z60).f0.toList = nm.toList)
def find (xs : List M) (nm : ByteArray) : Int := firstFrom (named xs nm) 0 xs.length
theorem specFind_ev (xs : List M) (nm : ByteArray) (hn : xs.length ≤ 1048576) : Ev (fun k => spec_l25Find.f k xs nm) (find xs nm) :=
  firstScan (fun k i => spec_l25Find.l0 k xs nm (i : Int)) xs.length (named xs nm) (Ev.const fun k => by
    simp only [spec_l25Find.l0]
    rw [if_neg (by omega)]) (by
    intro i hi
    refine EvEq.now fun k => ?_
    have hnm : named xs nm i = decide (xs[i].f0.toList = nm.toList) := by unfold named; rw [getD_at hi]
    simp only [spec_l25Find.l0, hnm]
    rw [if_pos (by omega), if_pos (by omega), rdM hi, wnext hi (by omega)]
    simp only [decide_eq_true_eq]) 0 (by omega)
theorem implFind_ev (xs : List M) (nm : ByteArray) (hn : xs.length ≤ 1048576) : Ev (fun k => impl_motionAt.f k xs nm) (find xs nm) :=
  firstScan (fun k i => impl_motionAt.l0 k nm xs (xs.length : Int) (i : Int)) xs.length (named xs nm) (Ev.const fun k => by
    simp only [impl_motionAt.l0]
    rw [if_neg (by omega)]) (by
    intro i hi
    refine EvEq.now fun k => ?_
    have hnm : named xs nm i = decide (xs[i].f0.toList = nm.toList) := by unfold named; rw [getD_at hi]
    simp only [impl_motionAt.l0, hnm]
    rw [if_pos (by omega), if_pos (by omega), if_pos (by omega), rdM hi, wnext hi (by omega)]
    simp only [decide_eq_true_eq]) 0 (by omega)

theorem specIn_eq (a b c : Int) : spec_l00In.f a b c = some (decide (b ≤ a ∧ a ≤ c)) := by
  unfold spec_l00In.f
  by_cases h : a ≥ b <;> by_cases h' : a ≤ c <;> simp [h, h'] <;> omega
def votesOk (v : List Int) : Bool := allFrom (fun j => decide (0 ≤ v.getD j 0 ∧ v.getD j 0 ≤ 3)) 0 v.length
theorem specVotes_ev (v : List Int) (s : Int) (hn : v.length ≤ 1048576) : Ev (fun k => spec_l25Votes.f k v s) (votesOk v && ((v.length : Int) == s)) :=
  allScan (fun k i => spec_l25Votes.l0 k v s (i : Int)) v.length (fun j => decide (0 ≤ v.getD j 0 ∧ v.getD j 0 ≤ 3)) ((v.length : Int) == s) (Ev.const fun k => by
    simp only [spec_l25Votes.l0]
    rw [if_neg (by omega)]) (by
    intro i hi
    refine EvEq.now fun k => ?_
    simp only [spec_l25Votes.l0, specIn_eq, Option.bind_some]
    rw [if_pos (by omega), if_pos (by omega), rd_at hi, wnext hi (by omega), getD_at hi]) 0 (by omega)
theorem implVotes_ev (v : List Int) (hn : v.length ≤ 1048576) : Ev (fun k => impl_all_int64__impl_ValidMeeting_1.f k v) (votesOk v) := by
  have h := allScan (fun k i => impl_all_int64__impl_ValidMeeting_1.l0 k v (v.length : Int) (i : Int)) v.length (fun j => decide (0 ≤ v.getD j 0 ∧ v.getD j 0 ≤ 3)) true (Ev.const fun k => by
    simp only [impl_all_int64__impl_ValidMeeting_1.l0]
    rw [if_neg (by omega)]) (by
    intro i hi
    refine EvEq.now fun k => ?_
    simp only [impl_all_int64__impl_ValidMeeting_1.l0, impl_ValidMeeting_1.f, implIn_eq, Option.bind_some]
    rw [if_pos (by omega), if_pos (by omega), if_pos (by omega), rd_at hi, wnext hi (by omega), getD_at hi]) 0 (by omega)
  rw [Bool.and_true] at h
  exact h
/-- What both ask of motion i. -/
def okMotion (s : Int) (xs : List M) (i : Nat) : Bool :=
  isName (xs.getD i z60).f0 && (decide (find (xs.take i) (xs.getD i z60).f0 < 0) && (((xs.getD i z60).f1.length : Int) == s && votesOk (xs.getD i z60).f1))
def okMeeting (s : Int) (xs : List M) : Bool := allFrom (okMotion s xs) 0 xs.length && (decide (1 ≤ s ∧ s ≤ 30) && decide ((xs.length : Int) ≤ 20))
def Small (xs : List M) : Prop := xs.length ≤ 1048576 ∧ ∀ x ∈ xs, x.f0.size ≤ 1048576 ∧ x.f1.length ≤ 1048576
theorem specOk_ev (s : Int) (xs : List M) (h : Small xs) : Ev (fun k => spec_l25Ok_ro.f k s xs) (okMeeting s xs) := by
  obtain ⟨hn, hx⟩ := h
  refine allScan (fun k i => spec_l25Ok_ro.l0 k (i : Int) s xs) xs.length (okMotion s xs) (decide (1 ≤ s ∧ s ≤ 30) && decide ((xs.length : Int) ≤ 20)) ?_ ?_ 0 (by omega)
  · refine Ev.const fun k => ?_
    simp only [spec_l25Ok_ro.l0, specIn_eq, Option.bind_some]
    rw [if_neg (by omega)]
    by_cases hs : 1 ≤ s ∧ s ≤ 30
    · rw [decide_eq_true hs, if_pos rfl, Bool.true_and]
    · rw [decide_eq_false hs, if_neg (by simp), Bool.false_and]
  · intro i hi
    obtain ⟨h1, h2⟩ := hx _ (List.getElem_mem hi)
    have hr := EvEq.now (g := fun k => spec_l25Ok_ro.l0 (k + 1) (i : Int) s xs) (f := fun k => (spec_IsName.f k xs[i].f0).bind fun t => if t = true then (spec_l25Votes.f k xs[i].f1 s).bind fun t => if t = true then (spec_l25Find.f k (xs.take i) xs[i].f0).bind fun t => if t ≥ 0 then some false else spec_l25Ok_ro.l0 k ((i + 1 : Nat) : Int) s xs else some false else some false) fun k => by
      simp only [spec_l25Ok_ro.l0]
      rw [if_pos (by omega), if_pos (by omega), if_pos (by omega), rdM hi, wnext hi (by omega), Int.toNat_natCast]
    refine hr.trans ?_
    refine EvEq.bind (specName_ev _ (by omega)) ?_
    by_cases a : isName xs[i].f0 = true
    · rw [a]
      simp only [if_true]
      refine EvEq.bind (specVotes_ev _ s (by omega)) ?_
      by_cases b : (votesOk xs[i].f1 && ((xs[i].f1.length : Int) == s)) = true
      · rw [b]
        simp only [if_true]
        refine EvEq.bind (specFind_ev _ _ (by rw [List.length_take]; omega)) (EvEq.now fun k => ?_)
        simp only [Bool.and_eq_true] at b
        by_cases c : find (xs.take i) xs[i].f0 ≥ 0
        · rw [if_pos c, if_neg]
          simp only [okMotion, getD_at hi, a, b.1, b.2, decide_eq_false (show ¬ find (xs.take i) xs[i].f0 < 0 by omega)]
          decide
        · rw [if_neg c, if_pos]
          simp only [okMotion, getD_at hi, a, b.1, b.2, decide_eq_true (show find (xs.take i) xs[i].f0 < 0 by omega)]
          decide
      · refine EvEq.now fun k => ?_
        rw [if_neg b, if_neg]
        intro hc
        simp only [okMotion, getD_at hi, Bool.and_eq_true] at hc
        exact b (by simp only [Bool.and_eq_true]; exact ⟨hc.2.2.2, hc.2.2.1⟩)
    · refine EvEq.now fun k => ?_
      rw [if_neg a, if_neg]
      intro hc
      simp only [okMotion, getD_at hi, Bool.and_eq_true] at hc
      exact a hc.1
theorem implOk_ev (s : Int) (xs : List M) (h : Small xs) : Ev (fun k => impl_ValidMeeting.f k s xs) (okMeeting s xs) := by
  obtain ⟨hn, hx⟩ := h
  refine allScan (fun k i => impl_ValidMeeting.l0 k xs (xs.length : Int) (i : Int) s xs) xs.length (okMotion s xs) (decide (1 ≤ s ∧ s ≤ 30) && decide ((xs.length : Int) ≤ 20)) ?_ ?_ 0 (by omega)
  · refine Ev.const fun k => ?_
    simp only [impl_ValidMeeting.l0, implIn_eq, Option.bind_some]
    rw [if_neg (by omega)]
    by_cases hs : 1 ≤ s ∧ s ≤ 30
    · rw [decide_eq_true hs, if_pos rfl, Bool.true_and]
    · rw [decide_eq_false hs, if_neg (by simp), Bool.false_and]
  · intro i hi
    obtain ⟨h1, h2⟩ := hx _ (List.getElem_mem hi)
    have hr := EvEq.now (g := fun k => impl_ValidMeeting.l0 (k + 1) xs (xs.length : Int) (i : Int) s xs) (f := fun k => (impl_IsName.f k xs[i].f0).bind fun t => if t = true then (impl_motionAt.f k (xs.take i) xs[i].f0).bind fun t => if t ≥ 0 then some false else (if (xs[i].f1.length : Int) = s then (impl_all_int64__impl_ValidMeeting_1.f k xs[i].f1).bind fun t => if t = true then impl_ValidMeeting.l0 k xs (xs.length : Int) ((i + 1 : Nat) : Int) s xs else some false else some false) else some false) fun k => by
      simp only [impl_ValidMeeting.l0, impl_size_int64.f, Option.bind_some]
      rw [if_pos (by omega), if_pos (by omega), if_pos (by omega), if_pos (by omega), rdM hi, wnext hi (by omega), Int.toNat_natCast]
    refine hr.trans ?_
    refine EvEq.bind (implName_ev _ (by omega)) ?_
    by_cases a : isName xs[i].f0 = true
    · rw [a]
      simp only [if_true]
      refine EvEq.bind (implFind_ev _ _ (by rw [List.length_take]; omega)) ?_
      by_cases c : find (xs.take i) xs[i].f0 ≥ 0
      · refine EvEq.now fun k => ?_
        rw [if_pos c, if_neg]
        intro hc
        simp only [okMotion, getD_at hi, Bool.and_eq_true, decide_eq_true_eq] at hc
        omega
      · simp only [if_neg c]
        by_cases b : (xs[i].f1.length : Int) = s
        · simp only [if_pos b]
          refine EvEq.bind (implVotes_ev _ (by omega)) (EvEq.now fun k => ?_)
          have e : okMotion s xs i = votesOk xs[i].f1 := by
            simp only [okMotion, getD_at hi, a, decide_eq_true (show find (xs.take i) xs[i].f0 < 0 by omega), b, beq_self_eq_true, Bool.true_and]
          rw [e]
        · refine EvEq.now fun k => ?_
          rw [if_neg b, if_neg]
          intro hc
          simp only [okMotion, getD_at hi, Bool.and_eq_true, beq_iff_eq] at hc
          exact b hc.2.2.1
    · refine EvEq.now fun k => ?_
      rw [if_neg a, if_neg]
      intro hc
      simp only [okMotion, getD_at hi, Bool.and_eq_true] at hc
      exact a hc.1
theorem small_conv {xs : List L} {left : Int} (hl : left ≤ 1048576) (h : (xs.length : Int) + bulk xs ≤ left) : Small (xs.map conv) ∧ xs.length ≤ 1048576 ∧ (∀ x ∈ xs, x.f1.length ≤ 1048576) ∧ ∀ x ∈ xs.map conv, x.f1.length ≤ 1048576 := by
  have hb := bulk_nonneg xs
  have hm := bulk_mem xs
  have h1 : ∀ x ∈ xs.map conv, x.f0.size ≤ 1048576 ∧ x.f1.length ≤ 1048576 := by
    intro x hx
    obtain ⟨y, hy, rfl⟩ := List.mem_map.1 hx
    have := hm y hy
    simp only [conv]
    omega
  exact ⟨⟨by simp; omega, h1⟩, by omega, fun x hx => by have := hm x hx; omega, fun x hx => (h1 x hx).2⟩
end Go.Proofs.Ytfgfkmjpeffjbaa.PMeeting

/-! ## PCount -/
/- Plain laws of votes on a motion: finding it, counting its votes, what becomes of it: the program and the reference alike. No condition but the lengths that fit in memory. -/
namespace Go.Proofs.Ytfgfkmjpeffjbaa.PCount
open Go.RowKit Go.Proofs.YtfgfkmjpeffjbaaW.PrintWords Go.Proofs.Ytfgfkmjpeffjbaa.X Go.Proofs.Ytfgfkmjpeffjbaa.B Go.Proofs.Ytfgfkmjpeffjbaa.PName Go.Proofs.Ytfgfkmjpeffjbaa.PMeeting

/-- A valid meeting's motions have a vote for each seat, and each vote is one. -/
theorem okMeeting_in {s : Int} {xs : List M} (h : okMeeting s xs = true) : (1 ≤ s ∧ s ≤ 30) ∧ xs.length ≤ 20 ∧ ∀ (i : Nat) (hi : i < xs.length), ((xs[i].f1.length : Int) = s) ∧ votesOk xs[i].f1 = true := by
  simp only [okMeeting, Bool.and_eq_true, decide_eq_true_eq] at h
  refine ⟨h.2.1, by omega, fun i hi => ?_⟩
  have := (allFrom_iff _ _ _).1 h.1 i (by omega) hi
  simp only [okMotion, getD_at hi, Bool.and_eq_true, beq_iff_eq] at this
  exact ⟨this.2.2.1, this.2.2.2⟩
theorem votesOk_at {v : List Int} (h : votesOk v = true) {i : Nat} (hi : i < v.length) : 0 ≤ v[i] ∧ v[i] ≤ 3 := by
  have := (allFrom_iff _ _ _).1 h i (by omega) hi
  simpa only [getD_at hi, decide_eq_true_eq] using this

/-- How many of the first i votes are x. -/
def cn (v : List Int) (i : Nat) (x : Int) : Int := ((v.take i).count x : Nat)
def ct (v : List Int) (x : Int) : Int := cn v v.length x
theorem cn_zero (v : List Int) (x : Int) : cn v 0 x = 0 := by simp [cn]
theorem cn_le (v : List Int) (i : Nat) (x : Int) : 0 ≤ cn v i x ∧ cn v i x ≤ i := by
  have h1 := List.count_le_length (a := x) (l := v.take i)
  have h2 : (v.take i).length ≤ i := by rw [List.length_take]; omega
  unfold cn
  omega
theorem cn_succ (v : List Int) {i : Nat} (hi : i < v.length) (x : Int) : cn v (i + 1) x = if v[i] = x then cn v i x + 1 else cn v i x := by
  unfold cn
  rw [List.take_succ_eq_append_getElem hi, List.count_append, List.count_singleton]
  by_cases h : v[i] = x
  · rw [if_pos h, if_pos (by simpa using h)]; omega
  · rw [if_neg h, if_neg (by simpa using h)]; omega
theorem implCount_ev (v : List Int) (hn : v.length ≤ 1048576) (hv : votesOk v = true) : Ev (fun k => impl_count.f k v) (ct v 0, ct v 1, ct v 2, ct v 3) := by
  have h := scanI (fun k i => impl_count.l0 k v (v.length : Int) (i : Int) (cn v i 0) (cn v i 1) (cn v i 2) (cn v i 3)) v.length (fun _ => (ct v 0, ct v 1, ct v 2, ct v 3)) (Ev.up (g := fun k => impl_count.l0 k v (v.length : Int) (v.length : Int) (cn v v.length 0) (cn v v.length 1) (cn v v.length 2) (cn v v.length 3)) (Ev.const fun k => by
      simp only [impl_count.l0]
      rw [if_neg (by omega)]
      rfl)) (by
    intro i hi ih
    have h0 := cn_le v i 0
    have h1 := cn_le v i 1
    have h2 := cn_le v i 2
    have h3 := cn_le v i 3
    have hr := votesOk_at hv hi
    simp only [cn_succ v hi] at ih
    refine Ev.up (g := fun k => impl_count.l0 k v (v.length : Int) (i : Int) (cn v i 0) (cn v i 1) (cn v i 2) (cn v i 3)) ?_
    simp only [impl_count.l0, rd_at hi, wnext hi (by omega : (v.length : Int) ≤ _), w64 (x := cn v i 0 + 1) (by omega) (by omega), w64 (x := cn v i 1 + 1) (by omega) (by omega), w64 (x := cn v i 2 + 1) (by omega) (by omega), w64 (x := cn v i 3 + 1) (by omega) (by omega)]
    refine Ev.ifPos (by omega) (Ev.ifPos (by omega) (Ev.ifPos (by omega) (Ev.ite (fun e => ?_) (fun e0 => Ev.ite (fun e => ?_) (fun e1 => Ev.ite (fun e => ?_) (fun e2 => Ev.ite (fun e => ?_) (fun e3 => ?_)))))))
    · simpa [e] using ih
    · simpa [e] using ih
    · simpa [e] using ih
    · simpa [e] using ih
    · omega) 0 (by omega)
  simp only [cn_zero] at h
  exact h
theorem specCounts_ev (v : List Int) (hn : v.length ≤ 1048576) (hv : votesOk v = true) : Ev (fun k => spec_l25Counts.f k v) [ct v 0, ct v 1, ct v 2, ct v 3] := by
  unfold spec_l25Counts.f
  refine Ev.ifPos (by omega) ?_
  have h := scanI (fun k i => spec_l25Counts.l0 k v [cn v i 0, cn v i 1, cn v i 2, cn v i 3] (i : Int)) v.length (fun _ => [ct v 0, ct v 1, ct v 2, ct v 3]) (Ev.up (g := fun k => spec_l25Counts.l0 k v [cn v v.length 0, cn v v.length 1, cn v v.length 2, cn v v.length 3] (v.length : Int)) (Ev.const fun k => by
      simp only [spec_l25Counts.l0]
      rw [if_neg (by omega)]
      rfl)) (by
    intro i hi ih
    have h0 := cn_le v i 0
    have h1 := cn_le v i 1
    have h2 := cn_le v i 2
    have h3 := cn_le v i 3
    have hr := votesOk_at hv hi
    simp only [cn_succ v hi] at ih
    refine Ev.up (g := fun k => spec_l25Counts.l0 k v [cn v i 0, cn v i 1, cn v i 2, cn v i 3] (i : Int)) ?_
    simp only [spec_l25Counts.l0, rd_at hi, wnext hi (by omega : (v.length : Int) ≤ _)]
    refine Ev.ifPos (by omega) (Ev.ifPos (by omega) (Ev.ifPos (by omega) (Ev.ifPos (by simp; omega) ?_)))
    have hc : v[i] = 0 ∨ v[i] = 1 ∨ v[i] = 2 ∨ v[i] = 3 := by omega
    have r0 : rd [cn v i 0, cn v i 1, cn v i 2, cn v i 3] 0 = cn v i 0 := rfl
    have r1 : rd [cn v i 0, cn v i 1, cn v i 2, cn v i 3] 1 = cn v i 1 := rfl
    have r2 : rd [cn v i 0, cn v i 1, cn v i 2, cn v i 3] 2 = cn v i 2 := rfl
    have r3 : rd [cn v i 0, cn v i 1, cn v i 2, cn v i 3] 3 = cn v i 3 := rfl
    rcases hc with e | e | e | e
    · rw [e] at ih ⊢
      simp only [r0, w64 (x := cn v i 0 + 1) (by omega) (by omega)]
      simpa using ih
    · rw [e] at ih ⊢
      simp only [r1, w64 (x := cn v i 1 + 1) (by omega) (by omega)]
      simpa using ih
    · rw [e] at ih ⊢
      simp only [r2, w64 (x := cn v i 2 + 1) (by omega) (by omega)]
      simpa using ih
    · rw [e] at ih ⊢
      simp only [r3, w64 (x := cn v i 3 + 1) (by omega) (by omega)]
      simpa using ih) 0 (by omega)
  simp only [cn_zero] at h
  exact h
theorem rd4 (a b c d : Int) : rd [a, b, c, d] 0 = a ∧ rd [a, b, c, d] 1 = b ∧ rd [a, b, c, d] 2 = c ∧ rd [a, b, c, d] 3 = d := ⟨rfl, rfl, rfl, rfl⟩

/-- The motion that a name names: its index; or a code. -/
def codeOf (s : Int) (xs : List M) (nm : ByteArray) : Int := if okMeeting s xs = true then (if find xs nm < 0 then 3 else 0) else 1
theorem specCode_ev (s : Int) (xs : List M) (nm : ByteArray) (hs : Small xs) : Ev (fun k => spec_l25Code_ro.f k s xs nm) (if codeOf s xs nm = 0 then find xs nm else 0, codeOf s xs nm) := by
  unfold spec_l25Code_ro.f codeOf
  refine Ev.bindE (specOk_ev s xs hs) (Ev.ite (fun h => ?_) (fun h => ?_))
  · simp only [if_pos h]
    refine Ev.bindE (specFind_ev xs nm hs.1) (Ev.ite (fun h' => ?_) (fun h' => ?_))
    · simp only [if_pos h']; exact Ev.const fun _ => rfl
    · simp only [if_neg h']; exact Ev.const fun _ => rfl
  · simp only [if_neg h]; exact Ev.const fun _ => rfl
/-- Where a motion is found: its place. -/
theorem find_at {s : Int} {xs : List M} {nm : ByteArray} (h : codeOf s xs nm = 0) : okMeeting s xs = true ∧ ∃ j : Nat, find xs nm = (j : Int) ∧ j < xs.length := by
  unfold codeOf at h
  by_cases ho : okMeeting s xs = true
  · rw [if_pos ho] at h
    refine ⟨ho, ?_⟩
    by_cases hf : find xs nm < 0
    · rw [if_pos hf] at h; omega
    · obtain ⟨j, h1, _, h2, _⟩ := firstFrom_some (named xs nm) (n := xs.length) 0 (by omega) (by unfold find at hf; omega)
      exact ⟨j, h1, h2⟩
  · rw [if_neg ho] at h; omega
def motOf (s : Int) (xs : List M) (nm : ByteArray) : M := if codeOf s xs nm = 0 then xs.getD (find xs nm).toNat z60 else z60
theorem implFindM_ev (s : Int) (xs : List M) (nm : ByteArray) (hs : Small xs) : Ev (fun k => impl_find.f k s xs nm) ((motOf s xs nm).f0, (motOf s xs nm).f1, codeOf s xs nm) := by
  unfold impl_find.f
  refine Ev.bindE (implFind_ev xs nm hs.1) (Ev.bindE (implOk_ev s xs hs) (Ev.ite (fun h => Ev.ite (fun h' => ?_) (fun h' => ?_)) (fun h => ?_)))
  · have hc : codeOf s xs nm = 3 := by unfold codeOf; rw [if_pos h, if_pos h']
    unfold motOf
    rw [hc, if_neg (by omega)]
    exact Ev.const fun _ => rfl
  · have hc : codeOf s xs nm = 0 := by unfold codeOf; rw [if_pos h, if_neg h']
    obtain ⟨_, j, hj, hl⟩ := find_at hc
    unfold motOf
    rw [hc, if_pos rfl, hj]
    refine Ev.ifPos (by omega) (Ev.ifPos (by omega) (Ev.const fun k => ?_))
    rw [rdM hl, Int.toNat_natCast, getD_at hl]
  · have hc : codeOf s xs nm = 1 := by unfold codeOf; rw [if_neg h]
    unfold motOf
    rw [hc, if_neg (by omega)]
    exact Ev.const fun _ => rfl
/-- The votes of the motion that is found. -/
theorem motOf_in {s : Int} {xs : List M} {nm : ByteArray} (h : codeOf s xs nm = 0) : ∃ (j : Nat) (hj : j < xs.length), find xs nm = (j : Int) ∧ motOf s xs nm = xs[j] ∧ okMeeting s xs = true ∧ (xs[j].f1.length : Int) = s ∧ votesOk xs[j].f1 = true ∧ xs[j].f1.length ≤ 30 := by
  obtain ⟨ho, j, hj, hl⟩ := find_at h
  obtain ⟨⟨h1, h2⟩, _, h4⟩ := okMeeting_in ho
  have := h4 j hl
  refine ⟨j, hl, hj, ?_, ho, this.1, this.2, by omega⟩
  unfold motOf
  rw [if_pos h, hj, Int.toNat_natCast, getD_at hl]
end Go.Proofs.Ytfgfkmjpeffjbaa.PCount

/-! ## PureFnExactCanStillWin -/
/- The plain law of CanStillWin: both tell whether a motion could still be won; the meeting is left as it is. For all meetings whose motions hold at most 1048576 letters and elements together (the law says nothing of greater ones). -/
namespace Go.Proofs.Ytfgfkmjpeffjbaa.Pure
open Go.RowKit Go.Proofs.YtfgfkmjpeffjbaaW.PrintWords Go.Proofs.Ytfgfkmjpeffjbaa.X Go.Proofs.Ytfgfkmjpeffjbaa.B Go.Proofs.Ytfgfkmjpeffjbaa.PName Go.Proofs.Ytfgfkmjpeffjbaa.PMeeting Go.Proofs.Ytfgfkmjpeffjbaa.PCount
def told (s : Int) (xs : List M) (nm : ByteArray) : Bool × Int := if codeOf s xs nm = 0 then (decide (ct (motOf s xs nm).f1 1 + ct (motOf s xs nm).f1 0 > ct (motOf s xs nm).f1 2), 0) else (false, codeOf s xs nm)
theorem specTold_ev (s : Int) (xs : List M) (nm : ByteArray) (hs : Small xs) : Ev (fun k => spec_CanStillWin.f k s xs nm) (told s xs nm) := by
  unfold spec_CanStillWin.f told
  refine Ev.bindE (specCode_ev s xs nm hs) ?_
  by_cases h : codeOf s xs nm = 0
  · obtain ⟨j, hj, hf, hm, _, hl, hv, hn⟩ := motOf_in h
    simp only [if_pos h, hf, hm]
    refine Ev.ifPos (by omega) (Ev.ifPos (by omega) ?_)
    simp only [rdM hj]
    obtain ⟨r0, r1, r2, _⟩ := rd4 (ct xs[j].f1 0) (ct xs[j].f1 1) (ct xs[j].f1 2) (ct xs[j].f1 3)
    have h0 := cn_le xs[j].f1 xs[j].f1.length 0
    have h1 := cn_le xs[j].f1 xs[j].f1.length 1
    refine Ev.bindE (specCounts_ev _ (by omega) hv) ?_
    simp only [r0, r1, r2, w64 (x := ct xs[j].f1 1 + ct xs[j].f1 0) (by unfold ct; omega) (by unfold ct; omega)]
    exact Ev.ifPos (by simp) (Ev.ifPos (by simp) (Ev.ifPos (by simp) (Ev.const fun _ => rfl)))
  · simp only [if_neg h]
    exact Ev.const fun _ => rfl
theorem implTold_ev (s : Int) (xs : List M) (nm : ByteArray) (hs : Small xs) : Ev (fun k => impl_CanStillWin.f k s xs nm) (told s xs nm) := by
  unfold impl_CanStillWin.f told
  refine Ev.bindE (implFindM_ev s xs nm hs) ?_
  by_cases h : codeOf s xs nm = 0
  · obtain ⟨j, hj, hf, hm, _, hl, hv, hn⟩ := motOf_in h
    simp only [if_pos h, hm]
    have h0 := cn_le xs[j].f1 xs[j].f1.length 0
    have h1 := cn_le xs[j].f1 xs[j].f1.length 1
    refine Ev.bindE (implCount_ev _ (by omega) hv) (Ev.const fun k => ?_)
    simp only [w64 (x := ct xs[j].f1 1 + ct xs[j].f1 0) (by unfold ct; omega) (by unfold ct; omega)]
  · simp only [if_neg h]
    exact Ev.const fun _ => rfl
theorem FnExactCanStillWin : Say.FnExactCanStillWin := by
  intro s xs nm hs hx hnm
  have hw : ∀ x ∈ xs, WfL x := fun x h => ⟨(hx.2 x h).1, (hx.2 x h).2.1⟩
  have hbk := bulk_nonneg xs
  refine Ev.rounds ?_
  unfold laws_FnExactCanStillWin.f
  refine Ev.ite (fun _ => Ev.const fun _ => rfl) (fun _ => Ev.bindE (szMeeting_ev s xs 1048576 (by omega) (by omega) hx.1 hw) ?_)
  by_cases h : (xs.length : Int) + bulk xs ≤ 1048576
  · simp only [if_pos h]
    refine Ev.ifNeg (by omega) ?_
    obtain ⟨h1, h2, h3, h4⟩ := small_conv (by omega) h
    have tm := toMeeting_ev s xs h2 h3
    refine Ev.bindE tm (Ev.bindE (specTold_ev s (xs.map conv) nm h1) (Ev.bindE tm (Ev.bindE (implTold_ev s (xs.map conv) nm h1) (Ev.ifNeg (by simp) ?_))))
    have eq := eqMeeting_self s (xs.map conv) h1.1 h4
    simp only [bne_self_eq_false]
    refine Ev.up (g := fun k => laws_FnExactCanStillWin.j0 k false s xs s (xs.map conv)) ?_
    simp only [laws_FnExactCanStillWin.j0]
    exact Ev.ifNeg (by simp) (Ev.bindE tm (Ev.bindE eq (Ev.ifPos rfl (Ev.const fun _ => rfl))))
  · simp only [if_neg h]
    exact Ev.ifPos (by omega) (Ev.const fun _ => rfl)
end Go.Proofs.Ytfgfkmjpeffjbaa.Pure

/-! ## LawFnExactCanStillWin -/
/- FnExactCanStillWin: the law's row, out of its plain statement and the walks. -/
namespace Go.Proofs.Ytfgfkmjpeffjbaa.fnExactCanStillWin
open Go.ChangeShapes Go.WideShapes Go.ChangeAt Go.RowKit Go.Proofs.Ytfgfkmjpeffjbaa.X
open Go.ChangeMaps (open_string shut_string)
theorem own : ownKnob Try.prog.godebug = none := by kernel_rfl
theorem laidOut : laidOutB Try.prog = true := by kernel_rfl
open Go.Proofs.YtfgfkmjpeffjbaaW.PrintWords in
theorem reader0 : Rdr.Reads Try.prog 24 k24 (fun x : S24 => Rdr.I64 x.f0 ∧ ((Rdr.Lst (fun x : S87 => Rdr.Str x.f0 ∧ ((Rdr.Lst Rdr.I64) x.f1))) x.f1)) := (show Rdr.Reads Try.prog 24 k24 _ from Rdr.reads_iso (f := fun x : S24 => (x.f0, x.f1)) (fun a => ⟨a.1, a.2⟩) (fun _ => rfl) (Rdr.reads_struct Try.underlying24 (by kernel_rfl) (Rdr.freads_cons rfl (Rdr.reads_i64 Try.underlying2 (by kernel_rfl)) rfl (Rdr.freads_last rfl (Rdr.reads_slice Try.underlying22 (by kernel_rfl) (show Rdr.Reads Try.prog 87 k87 _ from Rdr.reads_iso (f := fun x : S87 => (x.f0, x.f1)) (fun a => ⟨a.1, a.2⟩) (fun _ => rfl) (Rdr.reads_struct Try.underlying87 (by kernel_rfl) (Rdr.freads_cons rfl (Rdr.reads_str Try.underlying9 (by kernel_rfl)) rfl (Rdr.freads_last rfl (Rdr.reads_slice Try.underlying37 (by kernel_rfl) (Rdr.reads_i64 Try.underlying2 (by kernel_rfl))))))))))))
set_option maxRecDepth 100000 in
theorem lifted (os : Os) (started : os.Started) (H : Type) (enc : TypeId × Value → H) :
    ReturnsInHanded {} Try.checked os 8 .any (Rows.fnExactCanStillWinSpec.pre6 enc Try.prog Try.f8 Rows.fnExactCanStillWinRow.domain false) (Rows.fnExactCanStillWinSpec.post enc Try.prog Try.f8 false true false false) := by
  refine returnsInHanded_of_change_sized (C := Try.checked) own started (by kernel_rfl) Try.func8
    (ChangeSpec.witness6 (enc := enc) (C := Try.checked) false ⟨#[], #[.agg #[(.int .i64 0), (.slice none 0 0)], .string ⟨#[]⟩], []⟩ 8 (by kernel_rfl) (by kernel_rfl) (by kernel_rfl) (by kernel_rfl)) ?_
  intro W base args ds gs before hval0 hW hcnd hsz0 _
  have hval : ∀ (j : Nat) t v, Try.f8.params[j]? = some t → args[j]? = some v → Value.okWide Try.prog W .any base t v := hval0
  have hW' := hW
  obtain ⟨p, q, hA0, hV, rfl, hfz, hnd⟩ := hW
  have hA : DataW.TrodAll enc Try.prog W 0 (fun _ => true) true Try.f8.params.toList args.toList ds p := hA0
  rw [Try.params8] at hA hval
  obtain ⟨v0, vs0, d0, ds0, p0, q0, hargs, rfl, rfl, h0, r0⟩ := trodAll_cons hA
  obtain ⟨v1, vs1, d1, ds1, p1, q1, rfl, rfl, rfl, h1, r1⟩ := trodAll_cons r0
  obtain ⟨rfl, rfl, rfl⟩ := trodAll_nil r1
  obtain rfl : args = #[v0, v1] := by cases args; simp_all
  obtain ⟨rfl, rfl⟩ := trodVars_none hV
  have k0 := h0
  have lt0 : ∀ x ∈ p0, x.block < W.heap.size := by obtain ⟨m, hm⟩ := k0; exact DataW.trod_lt m _ _ _ hm
  obtain ⟨fuel0, hf0⟩ := h0
  obtain ⟨x0, hK0, w0⟩ := reader0.read hf0
  obtain ⟨cs0, rfl, hsz0⟩ := okWide_struct Try.underlying24 (hval 0 24 v0 rfl rfl)
  obtain ⟨A0_1, c0_1, hcs0, hl0_1, hC0_1⟩ := k24_open hK0
  obtain rfl : cs0 = #[.int .i64 x0.f0, .slice A0_1 x0.f1.length c0_1] := by cases cs0; simpa [Value.cells] using hcs0
  obtain ⟨a1, rfl, rfl, rfl, y1⟩ := open_string Try.underlying9 (hval 1 9 v1 rfl rfl) h1
  have w1 : Rdr.Str a1 := y1
  clear hA0 hval0 hsz0
  obtain ⟨k, h⟩ := Pure.FnExactCanStillWin (x0.f0) (x0.f1) a1 w0.1 w0.2 w1
  refine (laws_FnExactCanStillWin.calls k (x0.f0) _ _ (x0.f1) a1 true W hC0_1 hl0_1 ⟨rfl⟩ h).mono fun e W' ⟨he, hd⟩ => ?_
  have bel : Below W.heap.size W W' := hd
  subst he
  exact ⟨_, rfl, _, _, _, [], _, [], hW', trodAll_mk1 (shut_bool Try.underlying4 _), (trodAll_cons_mk (Below.trod laidOut (by kernel_rfl) (of_decide_eq_true (by kernel_rfl)) k0 bel lt0) (trodAll_cons_mk (shut_string Try.underlying9 y1) trodAll_mk0)), rfl, bel.frame _, fun h => by cases h⟩
theorem over : Rows.fnExactCanStillWinRow.holds Try.pinned (OpenSpec.ofChange Rows.fnExactCanStillWinSpec) :=
  OpenClaim.holds_of_wide 8 Try.f8 rfl rfl rfl rfl rfl rfl rfl ⟨rfl, rfl, rfl, rfl, rfl⟩ rfl rfl rfl rfl rfl (by kernel_rfl) Try.func8 (by kernel_rfl)
    (of_decide_eq_true (by kernel_rfl)) (by unfold Func.isWrapper; first | (rw [if_pos (by decide +kernel)]; kernel_rfl) | (rw [if_neg (by decide +kernel)]; exact ⟨rfl, rfl⟩))
    (fun os started H enc _ => lifted os started H enc)
theorem proved : Rows.FnExactCanStillWinSaid := over
end Go.Proofs.Ytfgfkmjpeffjbaa.fnExactCanStillWin
namespace Go.Proofs.Ytfgfkmjpeffjbaa
/-- The row, under a short name, for the claim. -/
theorem fnExactCanStillWin_holds : Rows.FnExactCanStillWinSaid := fnExactCanStillWin.proved
end Go.Proofs.Ytfgfkmjpeffjbaa
