/- A part of the proof of FnExactSameDesk: walks of Go functions and plain laws that it uses. No condition of its own. -/
import Derived.Test.YtndclpkcbiaekaaZFnExactSameDesk0
import Derived.Test.YtndclpkcbiaekaaZFnExactSameDesk1
import Derived.Test.YtndclpkcbiaekaaZFnExactSameDesk2
import Derived.Test.YtndclpkcbiaekaaWWords
import Derived.Deep.Slices
import Derived.ChangeArms
import Derived.ProofKit
import Derived.OpenShut
set_option linter.unusedVariables false
set_option linter.unusedSimpArgs false

/-! ## XLawsFnExactSameDesk -/
namespace Go.Proofs.Ytndclpkcbiaekaa.X
open Go.RowKit Go.Proofs.Ytndclpkcbiaekaa.XV Go.Proofs.YtndclpkcbiaekaaW.PrintWords Go.Proofs.YtndclpkcbiaekaaW.PrintLast Go.Proofs.YtndclpkcbiaekaaW.PrintMore
attribute [local go_sem] max2_int min2_int max_two min_two max_three min_three max_four min_four

/-! ### laws_FnExactSameDesk: function 4 -/
def laws_FnExactSameDesk.f (k : Nat) (l0_0 : List Int) (l0_1 : List Int) (l0_2 : List (S102)) (l0_3 : List (S104)) (a0_4 : ByteArray) (l1_0 : List Int) (l1_1 : List Int) (l1_2 : List (S102)) (l1_3 : List (S104)) (a1_4 : ByteArray) : Option (Bool) := (laws_szDesk.f l0_0 l0_1 l0_2 l0_3 a0_4 1048576).bind fun t334 => (if t334 < 0 then (some true) else ((laws_szDesk.f l1_0 l1_1 l1_2 l1_3 a1_4 t334).bind fun t335 => (if t335 < 0 then (some true) else ((laws_toDesk.f k l0_0 l0_1 l0_2 l0_3 a0_4).bind fun bt336 => ((laws_toDesk.f k l1_0 l1_1 l1_2 l1_3 a1_4).bind fun bt349 => ((spec_SameDesk.f k bt336.1 bt336.2.1 bt336.2.2.1 bt336.2.2.2.1 bt336.2.2.2.2 bt349.1 bt349.2.1 bt349.2.2.1 bt349.2.2.2.1 bt349.2.2.2.2).bind fun t362 => ((laws_toDesk.f k l0_0 l0_1 l0_2 l0_3 a0_4).bind fun bt363 => ((laws_toDesk.f k l1_0 l1_1 l1_2 l1_3 a1_4).bind fun bt377 => ((impl_SameDesk.f k bt363.1 bt363.2.1 bt363.2.2.1 bt363.2.2.2.1 bt363.2.2.2.2 bt377.1 bt377.2.1 bt377.2.2.1 bt377.2.2.2.1 bt377.2.2.2.2).bind fun t391 => (if (t391 != t362) = true then (some false) else ((laws_toDesk.f k l0_0 l0_1 l0_2 l0_3 a0_4).bind fun bt392 => ((laws_eqDesk.f k bt363.1 bt363.2.1 bt363.2.2.1 bt363.2.2.2.1 bt363.2.2.2.2 bt392.1 bt392.2.1 bt392.2.2.1 bt392.2.2.2.1 bt392.2.2.2.2).bind fun t405 => (if t405 = true then ((laws_toDesk.f k l1_0 l1_1 l1_2 l1_3 a1_4).bind fun bt406 => ((laws_eqDesk.f k bt377.1 bt377.2.1 bt377.2.2.1 bt377.2.2.2.1 bt377.2.2.2.2 bt406.1 bt406.2.1 bt406.2.2.1 bt406.2.2.2.1 bt406.2.2.2.2).bind fun t419 => (if t419 = true then (some true) else (some false)))) else (some false))))))))))))))
theorem laws_FnExactSameDesk.mono : ∀ a0 a1 a2 a3 a4 a5 a6 a7 a8 a9 k, LeO (laws_FnExactSameDesk.f k a0 a1 a2 a3 a4 a5 a6 a7 a8 a9) (laws_FnExactSameDesk.f (k + 1) a0 a1 a2 a3 a4 a5 a6 a7 a8 a9) := by
 intro a0 a1 a2 a3 a4 a5 a6 a7 a8 a9 k
 unfold laws_FnExactSameDesk.f
 repeat' first
   | (with_reducible exact impl_SameDesk.mono _ _ _ _ _ _ _ _ _ _ _)
   | (with_reducible exact laws_eqDesk.mono _ _ _ _ _ _ _ _ _ _ _)
   | (with_reducible exact laws_toDesk.mono _ _ _ _ _ _)
   | (with_reducible exact spec_SameDesk.mono _ _ _ _ _ _ _ _ _ _ _)
   | (with_reducible exact LeO.refl _)
   | (with_reducible exact LeO.none _)
   | (with_reducible refine LeO.ite ?_ ?_)
   | (with_reducible refine LeO.bind ?_ (fun _ => ?_))
   | exact impl_SameDesk.mono _ _ _ _ _ _ _ _ _ _ _
   | exact laws_eqDesk.mono _ _ _ _ _ _ _ _ _ _ _
   | exact laws_toDesk.mono _ _ _ _ _ _
   | exact spec_SameDesk.mono _ _ _ _ _ _ _ _ _ _ _
   | exact LeO.none _
   | refine LeO.ite ?_ ?_
   | refine LeO.bind ?_ (fun _ => ?_)
set_option maxHeartbeats 8000000 in
set_option maxRecDepth 100000 in
theorem laws_FnExactSameDesk.calls (k : Nat) (A0_0 : Option Addr) (c0_0 : Nat) (l0_0 : List Int) (A0_1 : Option Addr) (c0_1 : Nat) (l0_1 : List Int) (A0_2 : Option Addr) (c0_2 : Nat) (l0_2 : List (S102)) (A0_3 : Option Addr) (c0_3 : Nat) (l0_3 : List (S104)) (a0_4 : ByteArray) (A1_0 : Option Addr) (c1_0 : Nat) (l1_0 : List Int) (A1_1 : Option Addr) (c1_1 : Nat) (l1_1 : List Int) (A1_2 : Option Addr) (c1_2 : Nat) (l1_2 : List (S102)) (A1_3 : Option Addr) (c1_3 : Nat) (l1_3 : List (S104)) (a1_4 : ByteArray) (r : Bool) (w : World) (hr0_0 : Kd.C (Kd.int .i64) w A0_0 l0_0.length l0_0) (hc0_0 : l0_0.length ≤ c0_0) (hr0_1 : Kd.C (Kd.int .i64) w A0_1 l0_1.length l0_1) (hc0_1 : l0_1.length ≤ c0_1) (hr0_2 : Kd.C k102 w A0_2 l0_2.length l0_2) (hc0_2 : l0_2.length ≤ c0_2) (hr0_3 : Kd.C k104 w A0_3 l0_3.length l0_3) (hc0_3 : l0_3.length ≤ c0_3) (hr1_0 : Kd.C (Kd.int .i64) w A1_0 l1_0.length l1_0) (hc1_0 : l1_0.length ≤ c1_0) (hr1_1 : Kd.C (Kd.int .i64) w A1_1 l1_1.length l1_1) (hc1_1 : l1_1.length ≤ c1_1) (hr1_2 : Kd.C k102 w A1_2 l1_2.length l1_2) (hc1_2 : l1_2.length ≤ c1_2) (hr1_3 : Kd.C k104 w A1_3 l1_3.length l1_3) (hc1_3 : l1_3.length ≤ c1_3) (hr_ : Aside0 (r = true)) (h : laws_FnExactSameDesk.f k l0_0 l0_1 l0_2 l0_3 a0_4 l1_0 l1_1 l1_2 l1_3 a1_4 = some r) :
  Calls Try.prog 4 #[.agg #[.slice A0_0 l0_0.length c0_0, .slice A0_1 l0_1.length c0_1, .slice A0_2 l0_2.length c0_2, .slice A0_3 l0_3.length c0_3, .string a0_4], .agg #[.slice A1_0 l1_0.length c1_0, .slice A1_1 l1_1.length c1_1, .slice A1_2 l1_2.length c1_2, .slice A1_3 l1_3.length c1_3, .string a1_4]] w fun e w' => e = .returned (.bool r) ∧ Below w.heap.size w w' := by
 have hu37 := Try.underlying37
 have hu28 := Try.underlying28
 have HR0_0 := Aside0.mk hr0_0
 have HC0_0 := Aside0.mk hc0_0
 clear hr0_0 hc0_0
 have HR0_1 := Aside0.mk hr0_1
 have HC0_1 := Aside0.mk hc0_1
 clear hr0_1 hc0_1
 have HR0_2 := Aside0.mk hr0_2
 have HC0_2 := Aside0.mk hc0_2
 clear hr0_2 hc0_2
 have HR0_3 := Aside0.mk hr0_3
 have HC0_3 := Aside0.mk hc0_3
 clear hr0_3 hc0_3
 have HR1_0 := Aside0.mk hr1_0
 have HC1_0 := Aside0.mk hc1_0
 clear hr1_0 hc1_0
 have HR1_1 := Aside0.mk hr1_1
 have HC1_1 := Aside0.mk hc1_1
 clear hr1_1 hc1_1
 have HR1_2 := Aside0.mk hr1_2
 have HC1_2 := Aside0.mk hc1_2
 clear hr1_2 hc1_2
 have HR1_3 := Aside0.mk hr1_3
 have HC1_3 := Aside0.mk hc1_3
 clear hr1_3 hc1_3
 have HB := Aside0.mk (Below.refl w.heap.size w)
 have H : ((laws_szDesk.f l0_0 l0_1 l0_2 l0_3 a0_4 1048576).bind fun t334 => (if t334 < 0 then (some true) else ((laws_szDesk.f l1_0 l1_1 l1_2 l1_3 a1_4 t334).bind fun t335 => (if t335 < 0 then (some true) else ((laws_toDesk.f k l0_0 l0_1 l0_2 l0_3 a0_4).bind fun bt336 => ((laws_toDesk.f k l1_0 l1_1 l1_2 l1_3 a1_4).bind fun bt349 => ((spec_SameDesk.f k bt336.1 bt336.2.1 bt336.2.2.1 bt336.2.2.2.1 bt336.2.2.2.2 bt349.1 bt349.2.1 bt349.2.2.1 bt349.2.2.2.1 bt349.2.2.2.2).bind fun t362 => ((laws_toDesk.f k l0_0 l0_1 l0_2 l0_3 a0_4).bind fun bt363 => ((laws_toDesk.f k l1_0 l1_1 l1_2 l1_3 a1_4).bind fun bt377 => ((impl_SameDesk.f k bt363.1 bt363.2.1 bt363.2.2.1 bt363.2.2.2.1 bt363.2.2.2.2 bt377.1 bt377.2.1 bt377.2.2.1 bt377.2.2.2.1 bt377.2.2.2.2).bind fun t391 => (if (t391 != t362) = true then (some false) else ((laws_toDesk.f k l0_0 l0_1 l0_2 l0_3 a0_4).bind fun bt392 => ((laws_eqDesk.f k bt363.1 bt363.2.1 bt363.2.2.1 bt363.2.2.2.1 bt363.2.2.2.2 bt392.1 bt392.2.1 bt392.2.2.1 bt392.2.2.2.1 bt392.2.2.2.2).bind fun t405 => (if t405 = true then ((laws_toDesk.f k l1_0 l1_1 l1_2 l1_3 a1_4).bind fun bt406 => ((laws_eqDesk.f k bt377.1 bt377.2.1 bt377.2.2.1 bt377.2.2.2.1 bt377.2.2.2.2 bt406.1 bt406.2.1 bt406.2.2.1 bt406.2.2.2.1 bt406.2.2.2.2).bind fun t419 => (if t419 = true then (some true) else (some false)))) else (some false))))))))))))))) = some r := h
 clear h
 replace H := Option.bind_eq_some_iff.mp H
 obtain ⟨t334, A30, H⟩ := H
 replace H : (if t334 < 0 then (some true) else ((laws_szDesk.f l1_0 l1_1 l1_2 l1_3 a1_4 t334).bind fun t335 => (if t335 < 0 then (some true) else ((laws_toDesk.f k l0_0 l0_1 l0_2 l0_3 a0_4).bind fun bt336 => ((laws_toDesk.f k l1_0 l1_1 l1_2 l1_3 a1_4).bind fun bt349 => ((spec_SameDesk.f k bt336.1 bt336.2.1 bt336.2.2.1 bt336.2.2.2.1 bt336.2.2.2.2 bt349.1 bt349.2.1 bt349.2.2.1 bt349.2.2.2.1 bt349.2.2.2.2).bind fun t362 => ((laws_toDesk.f k l0_0 l0_1 l0_2 l0_3 a0_4).bind fun bt363 => ((laws_toDesk.f k l1_0 l1_1 l1_2 l1_3 a1_4).bind fun bt377 => ((impl_SameDesk.f k bt363.1 bt363.2.1 bt363.2.2.1 bt363.2.2.2.1 bt363.2.2.2.2 bt377.1 bt377.2.1 bt377.2.2.1 bt377.2.2.2.1 bt377.2.2.2.2).bind fun t391 => (if (t391 != t362) = true then (some false) else ((laws_toDesk.f k l0_0 l0_1 l0_2 l0_3 a0_4).bind fun bt392 => ((laws_eqDesk.f k bt363.1 bt363.2.1 bt363.2.2.1 bt363.2.2.2.1 bt363.2.2.2.2 bt392.1 bt392.2.1 bt392.2.2.1 bt392.2.2.2.1 bt392.2.2.2.2).bind fun t405 => (if t405 = true then ((laws_toDesk.f k l1_0 l1_1 l1_2 l1_3 a1_4).bind fun bt406 => ((laws_eqDesk.f k bt377.1 bt377.2.1 bt377.2.2.1 bt377.2.2.2.1 bt377.2.2.2.2 bt406.1 bt406.2.1 bt406.2.2.1 bt406.2.2.2.1 bt406.2.2.2.2).bind fun t419 => (if t419 = true then (some true) else (some false)))) else (some false)))))))))))))) = some r := H
 have A3 := Aside0.mk A30
 clear A30
 by_cases c4 : t334 < 0
 ·rw [if_pos c4] at H
  have c4b0 : decide (t334 < 0) = true := decide_eq_true c4
  clear c4
  obtain rfl := Option.some.inj H
  go_enter Try.func4, Try.ntmps4
  go_wp2_with (first | ((with_reducible refine gate_dst (N := 2) rfl ?_); refine box_event ?hg (N := 2) ?hd (cs := #[.slice A0_0 l0_0.length c0_0, .slice A0_1 l0_1.length c0_1, .slice A0_2 l0_2.length c0_2, .slice A0_3 l0_3.length c0_3, .string a0_4]) (t := 37) ?hr ?_; (case hd => rfl); (case hg => rfl); (case hr => first | (go_simp; done) | (go_simp; rfl)); intro gb332 hg w5 hbox hb; have n0_ := Aside0.mk (below_step (by repeat (first | (with_reducible first | exact HB.out | apply below_alloc | apply pw_below_drewN | apply below_drew1) | exact HB.out)) hb); have n1_ := Aside0.mk (hbox); have n2_ := Aside0.mk ((by rw [hg]; exact (below_size (by repeat (first | (with_reducible first | exact HB.out | apply below_alloc | apply pw_below_drewN | apply below_drew1) | exact HB.out))) : w.heap.size ≤ gb332)); have n3_ := Aside0.mk ((by rw [hg]; exact (below_size (by repeat (first | (with_reducible first | exact HB.out | apply below_alloc | apply pw_below_drewN | apply below_drew1) | exact HB.out))) : w.heap.size ≤ gb332)); clear HB; have HB := n0_; have BK332 := n1_; have GW332 := n2_; have GE332 := n3_; clear n0_ n1_ n2_ n3_; clear hb hbox hg) | ((with_reducible refine gate_dst (N := 3) rfl ?_); refine box_event ?hg (N := 3) ?hd (cs := #[.slice A1_0 l1_0.length c1_0, .slice A1_1 l1_1.length c1_1, .slice A1_2 l1_2.length c1_2, .slice A1_3 l1_3.length c1_3, .string a1_4]) (t := 37) ?hr ?_; (case hd => rfl); (case hg => rfl); (case hr => first | (go_simp; done) | (go_simp; rfl)); intro gb333 hg w6 hbox hb; have n0_ := Aside0.mk (blk_below (g := gb332) (o := .cells #[.slice A0_0 l0_0.length c0_0, .slice A0_1 l0_1.length c0_1, .slice A0_2 l0_2.length c0_2, .slice A0_3 l0_3.length c0_3, .string a0_4] 37 (0, 0)) (by (with_reducible repeat (first | refine blk_drewN ?_ _ | refine blk_drew ?_ | refine blk_alloc ?_ _)); exact BK332.out) hb); have n1_ := Aside0.mk (below_step (by repeat (first | (with_reducible first | exact HB.out | apply below_alloc | apply pw_below_drewN | apply below_drew1 | refine below_set ?_ GE332.out) | exact HB.out)) hb); have n2_ := Aside0.mk (hbox); have n3_ := Aside0.mk ((by rw [hg]; exact (below_size (by repeat (first | (with_reducible first | exact HB.out | apply below_alloc | apply pw_below_drewN | apply below_drew1 | refine below_set ?_ GE332.out) | exact HB.out))) : w.heap.size ≤ gb333)); have n4_ := Aside0.mk ((by rw [hg]; exact (below_size (by repeat (first | (with_reducible first | exact HB.out | apply below_alloc | apply pw_below_drewN | apply below_drew1 | refine below_set ?_ GE332.out) | exact HB.out))) : w.heap.size ≤ gb333)); have n5_ := Aside0.mk ((by rw [hg]; exact Nat.ne_of_lt (blk_lt (g := gb332) (o := .cells #[.slice A0_0 l0_0.length c0_0, .slice A0_1 l0_1.length c0_1, .slice A0_2 l0_2.length c0_2, .slice A0_3 l0_3.length c0_3, .string a0_4] 37 (0, 0)) (by (with_reducible repeat (first | refine blk_drewN ?_ _ | refine blk_drew ?_ | refine blk_alloc ?_ _)); exact BK332.out)) : gb332 ≠ gb333)); have n6_ := Aside0.mk ((by rw [hg]; exact Nat.ne_of_gt (blk_lt (g := gb332) (o := .cells #[.slice A0_0 l0_0.length c0_0, .slice A0_1 l0_1.length c0_1, .slice A0_2 l0_2.length c0_2, .slice A0_3 l0_3.length c0_3, .string a0_4] 37 (0, 0)) (by (with_reducible repeat (first | refine blk_drewN ?_ _ | refine blk_drew ?_ | refine blk_alloc ?_ _)); exact BK332.out)) : gb333 ≠ gb332)); clear BK332; clear HB; have BK332 := n0_; have HB := n1_; have BK333 := n2_; have GW333 := n3_; have GE333 := n4_; have NB332_333 := n5_; have NB333_332 := n6_; clear n0_ n1_ n2_ n3_ n4_ n5_ n6_; clear hb hbox hg; have hnb7 := NB332_333.out; have hnc7 := NB333_332.out; have hcz8_0 : w6.cell? ⟨gb332, 0, none⟩ = some (.slice A0_0 l0_0.length c0_0) := (blk_cell BK332.out 0).trans rfl; have hcz8_1 : w6.cell? ⟨gb332, 1, none⟩ = some (.slice A0_1 l0_1.length c0_1) := (blk_cell BK332.out 1).trans rfl; have hcz8_2 : w6.cell? ⟨gb332, 2, none⟩ = some (.slice A0_2 l0_2.length c0_2) := (blk_cell BK332.out 2).trans rfl; have hcz8_3 : w6.cell? ⟨gb332, 3, none⟩ = some (.slice A0_3 l0_3.length c0_3) := (blk_cell BK332.out 3).trans rfl; have hcz8_4 : w6.cell? ⟨gb332, 4, none⟩ = some (.string a0_4) := (blk_cell BK332.out 4).trans rfl; have hfz8_0 := blk_frozen BK332.out 0; have hfz8_1 := blk_frozen BK332.out 1; have hfz8_2 := blk_frozen BK332.out 2; have hfz8_3 := blk_frozen BK332.out 3; have hfz8_4 := blk_frozen BK332.out 4) | ((with_reducible refine gate_callee (f := 11) rfl ?_); refine goesL_ (some 12) rfl rfl Try.func11 (by kernel_rfl) rfl #[.agg #[.slice A0_0 l0_0.length c0_0, .slice A0_1 l0_1.length c0_1, .slice A0_2 l0_2.length c0_2, .slice A0_3 l0_3.length c0_3, .string a0_4], .int .i64 1048576] rfl (by (try simp only [List.map_toArray, List.map_cons, List.map_nil]); first | done | rfl | (simp only [List.length_drop, List.length_take]; rfl)) ?_; (with_reducible refine (laws_szDesk.calls _ _ l0_0 _ _ l0_1 _ _ l0_2 _ _ l0_3 a0_4 1048576 t334 _ ?side1 ?side2 ?side3 ?side4 ?side5 ?side6 ?side7 ?side8 A3.out).mono ?_); (case side1 => repeat (first | exact (Kd.C_below HR0_0.out HB.out) | (with_reducible refine Kd.C_alloc ?_ _) | (with_reducible refine Kd.C_drewN ?_ _) | (with_reducible refine Kd.C_drew ?_))); (case side2 => exact HC0_0.out); (case side3 => repeat (first | exact (Kd.C_below HR0_1.out HB.out) | (with_reducible refine Kd.C_alloc ?_ _) | (with_reducible refine Kd.C_drewN ?_ _) | (with_reducible refine Kd.C_drew ?_))); (case side4 => exact HC0_1.out); (case side5 => repeat (first | exact (Kd.C_below HR0_2.out HB.out) | (with_reducible refine Kd.C_alloc ?_ _) | (with_reducible refine Kd.C_drewN ?_ _) | (with_reducible refine Kd.C_drew ?_))); (case side6 => exact HC0_2.out); (case side7 => repeat (first | exact (Kd.C_below HR0_3.out HB.out) | (with_reducible refine Kd.C_alloc ?_ _) | (with_reducible refine Kd.C_drewN ?_ _) | (with_reducible refine Kd.C_drew ?_))); (case side8 => exact HC0_3.out); rintro e w9 ⟨rfl, hb⟩; refine ⟨_, rfl, ?_⟩; have n0_ := Aside0.mk (blk_below (g := gb332) (o := .cells #[.slice A0_0 l0_0.length c0_0, .slice A0_1 l0_1.length c0_1, .slice A0_2 l0_2.length c0_2, .slice A0_3 l0_3.length c0_3, .string a0_4] 37 (0, 0)) (by (with_reducible repeat (first | refine blk_drewN ?_ _ | refine blk_drew ?_ | refine blk_alloc ?_ _)); exact BK332.out) hb); have n1_ := Aside0.mk (blk_below (g := gb333) (o := .cells #[.slice A1_0 l1_0.length c1_0, .slice A1_1 l1_1.length c1_1, .slice A1_2 l1_2.length c1_2, .slice A1_3 l1_3.length c1_3, .string a1_4] 37 (0, 0)) (by (with_reducible repeat (first | refine blk_drewN ?_ _ | refine blk_drew ?_ | refine blk_alloc ?_ _)); exact BK333.out) hb); have n2_ := Aside0.mk (below_step (by repeat (first | (with_reducible first | exact HB.out | apply below_alloc | apply pw_below_drewN | apply below_drew1 | refine below_set ?_ GE332.out | refine below_set ?_ GE333.out) | exact HB.out)) hb); clear BK332; clear BK333; clear HB; have BK332 := n0_; have BK333 := n1_; have HB := n2_; clear n0_ n1_ n2_; (try clear hb); (try clear hb2); (try clear hk); (try clear hi)))
  go_ret
  exact ⟨by first | rfl | (simp [errW_none, errW_some] <;> rfl) | (simp [*, errW_none, errW_some] <;> rfl), by repeat (first | (with_reducible first | exact HB.out | apply below_alloc | apply pw_below_drewN | apply below_drew1 | refine below_set ?_ GE332.out | refine below_set ?_ GE333.out) | exact HB.out)⟩
 ·rw [if_neg c4] at H
  have c4b0 : decide (t334 < 0) = false := decide_eq_false c4
  clear c4
  replace H := Option.bind_eq_some_iff.mp H
  obtain ⟨t335, A100, H⟩ := H
  replace H : (if t335 < 0 then (some true) else ((laws_toDesk.f k l0_0 l0_1 l0_2 l0_3 a0_4).bind fun bt336 => ((laws_toDesk.f k l1_0 l1_1 l1_2 l1_3 a1_4).bind fun bt349 => ((spec_SameDesk.f k bt336.1 bt336.2.1 bt336.2.2.1 bt336.2.2.2.1 bt336.2.2.2.2 bt349.1 bt349.2.1 bt349.2.2.1 bt349.2.2.2.1 bt349.2.2.2.2).bind fun t362 => ((laws_toDesk.f k l0_0 l0_1 l0_2 l0_3 a0_4).bind fun bt363 => ((laws_toDesk.f k l1_0 l1_1 l1_2 l1_3 a1_4).bind fun bt377 => ((impl_SameDesk.f k bt363.1 bt363.2.1 bt363.2.2.1 bt363.2.2.2.1 bt363.2.2.2.2 bt377.1 bt377.2.1 bt377.2.2.1 bt377.2.2.2.1 bt377.2.2.2.2).bind fun t391 => (if (t391 != t362) = true then (some false) else ((laws_toDesk.f k l0_0 l0_1 l0_2 l0_3 a0_4).bind fun bt392 => ((laws_eqDesk.f k bt363.1 bt363.2.1 bt363.2.2.1 bt363.2.2.2.1 bt363.2.2.2.2 bt392.1 bt392.2.1 bt392.2.2.1 bt392.2.2.2.1 bt392.2.2.2.2).bind fun t405 => (if t405 = true then ((laws_toDesk.f k l1_0 l1_1 l1_2 l1_3 a1_4).bind fun bt406 => ((laws_eqDesk.f k bt377.1 bt377.2.1 bt377.2.2.1 bt377.2.2.2.1 bt377.2.2.2.2 bt406.1 bt406.2.1 bt406.2.2.1 bt406.2.2.2.1 bt406.2.2.2.2).bind fun t419 => (if t419 = true then (some true) else (some false)))) else (some false)))))))))))) = some r := H
  have A10 := Aside0.mk A100
  clear A100
  by_cases c11 : t335 < 0
  ·rw [if_pos c11] at H
   have c11b0 : decide (t335 < 0) = true := decide_eq_true c11
   clear c11
   obtain rfl := Option.some.inj H
   go_enter Try.func4, Try.ntmps4
   go_wp2_with (first | ((with_reducible refine gate_dst (N := 2) rfl ?_); refine box_event ?hg (N := 2) ?hd (cs := #[.slice A0_0 l0_0.length c0_0, .slice A0_1 l0_1.length c0_1, .slice A0_2 l0_2.length c0_2, .slice A0_3 l0_3.length c0_3, .string a0_4]) (t := 37) ?hr ?_; (case hd => rfl); (case hg => rfl); (case hr => first | (go_simp; done) | (go_simp; rfl)); intro gb332 hg w12 hbox hb; have n0_ := Aside0.mk (below_step (by repeat (first | (with_reducible first | exact HB.out | apply below_alloc | apply pw_below_drewN | apply below_drew1) | exact HB.out)) hb); have n1_ := Aside0.mk (hbox); have n2_ := Aside0.mk ((by rw [hg]; exact (below_size (by repeat (first | (with_reducible first | exact HB.out | apply below_alloc | apply pw_below_drewN | apply below_drew1) | exact HB.out))) : w.heap.size ≤ gb332)); have n3_ := Aside0.mk ((by rw [hg]; exact (below_size (by repeat (first | (with_reducible first | exact HB.out | apply below_alloc | apply pw_below_drewN | apply below_drew1) | exact HB.out))) : w.heap.size ≤ gb332)); clear HB; have HB := n0_; have BK332 := n1_; have GW332 := n2_; have GE332 := n3_; clear n0_ n1_ n2_ n3_; clear hb hbox hg) | ((with_reducible refine gate_dst (N := 3) rfl ?_); refine box_event ?hg (N := 3) ?hd (cs := #[.slice A1_0 l1_0.length c1_0, .slice A1_1 l1_1.length c1_1, .slice A1_2 l1_2.length c1_2, .slice A1_3 l1_3.length c1_3, .string a1_4]) (t := 37) ?hr ?_; (case hd => rfl); (case hg => rfl); (case hr => first | (go_simp; done) | (go_simp; rfl)); intro gb333 hg w13 hbox hb; have n0_ := Aside0.mk (blk_below (g := gb332) (o := .cells #[.slice A0_0 l0_0.length c0_0, .slice A0_1 l0_1.length c0_1, .slice A0_2 l0_2.length c0_2, .slice A0_3 l0_3.length c0_3, .string a0_4] 37 (0, 0)) (by (with_reducible repeat (first | refine blk_drewN ?_ _ | refine blk_drew ?_ | refine blk_alloc ?_ _)); exact BK332.out) hb); have n1_ := Aside0.mk (below_step (by repeat (first | (with_reducible first | exact HB.out | apply below_alloc | apply pw_below_drewN | apply below_drew1 | refine below_set ?_ GE332.out) | exact HB.out)) hb); have n2_ := Aside0.mk (hbox); have n3_ := Aside0.mk ((by rw [hg]; exact (below_size (by repeat (first | (with_reducible first | exact HB.out | apply below_alloc | apply pw_below_drewN | apply below_drew1 | refine below_set ?_ GE332.out) | exact HB.out))) : w.heap.size ≤ gb333)); have n4_ := Aside0.mk ((by rw [hg]; exact (below_size (by repeat (first | (with_reducible first | exact HB.out | apply below_alloc | apply pw_below_drewN | apply below_drew1 | refine below_set ?_ GE332.out) | exact HB.out))) : w.heap.size ≤ gb333)); have n5_ := Aside0.mk ((by rw [hg]; exact Nat.ne_of_lt (blk_lt (g := gb332) (o := .cells #[.slice A0_0 l0_0.length c0_0, .slice A0_1 l0_1.length c0_1, .slice A0_2 l0_2.length c0_2, .slice A0_3 l0_3.length c0_3, .string a0_4] 37 (0, 0)) (by (with_reducible repeat (first | refine blk_drewN ?_ _ | refine blk_drew ?_ | refine blk_alloc ?_ _)); exact BK332.out)) : gb332 ≠ gb333)); have n6_ := Aside0.mk ((by rw [hg]; exact Nat.ne_of_gt (blk_lt (g := gb332) (o := .cells #[.slice A0_0 l0_0.length c0_0, .slice A0_1 l0_1.length c0_1, .slice A0_2 l0_2.length c0_2, .slice A0_3 l0_3.length c0_3, .string a0_4] 37 (0, 0)) (by (with_reducible repeat (first | refine blk_drewN ?_ _ | refine blk_drew ?_ | refine blk_alloc ?_ _)); exact BK332.out)) : gb333 ≠ gb332)); clear BK332; clear HB; have BK332 := n0_; have HB := n1_; have BK333 := n2_; have GW333 := n3_; have GE333 := n4_; have NB332_333 := n5_; have NB333_332 := n6_; clear n0_ n1_ n2_ n3_ n4_ n5_ n6_; clear hb hbox hg; have hnb14 := NB332_333.out; have hnc14 := NB333_332.out; have hcz15_0 : w13.cell? ⟨gb332, 0, none⟩ = some (.slice A0_0 l0_0.length c0_0) := (blk_cell BK332.out 0).trans rfl; have hcz15_1 : w13.cell? ⟨gb332, 1, none⟩ = some (.slice A0_1 l0_1.length c0_1) := (blk_cell BK332.out 1).trans rfl; have hcz15_2 : w13.cell? ⟨gb332, 2, none⟩ = some (.slice A0_2 l0_2.length c0_2) := (blk_cell BK332.out 2).trans rfl; have hcz15_3 : w13.cell? ⟨gb332, 3, none⟩ = some (.slice A0_3 l0_3.length c0_3) := (blk_cell BK332.out 3).trans rfl; have hcz15_4 : w13.cell? ⟨gb332, 4, none⟩ = some (.string a0_4) := (blk_cell BK332.out 4).trans rfl; have hfz15_0 := blk_frozen BK332.out 0; have hfz15_1 := blk_frozen BK332.out 1; have hfz15_2 := blk_frozen BK332.out 2; have hfz15_3 := blk_frozen BK332.out 3; have hfz15_4 := blk_frozen BK332.out 4) | ((with_reducible refine gate_callee (f := 11) rfl ?_); refine goesL_ (some 12) rfl rfl Try.func11 (by kernel_rfl) rfl #[.agg #[.slice A0_0 l0_0.length c0_0, .slice A0_1 l0_1.length c0_1, .slice A0_2 l0_2.length c0_2, .slice A0_3 l0_3.length c0_3, .string a0_4], .int .i64 1048576] rfl (by (try simp only [List.map_toArray, List.map_cons, List.map_nil]); first | done | rfl | (simp only [List.length_drop, List.length_take]; rfl)) ?_; (with_reducible refine (laws_szDesk.calls _ _ l0_0 _ _ l0_1 _ _ l0_2 _ _ l0_3 a0_4 1048576 t334 _ ?side1 ?side2 ?side3 ?side4 ?side5 ?side6 ?side7 ?side8 A3.out).mono ?_); (case side1 => repeat (first | exact (Kd.C_below HR0_0.out HB.out) | (with_reducible refine Kd.C_alloc ?_ _) | (with_reducible refine Kd.C_drewN ?_ _) | (with_reducible refine Kd.C_drew ?_))); (case side2 => exact HC0_0.out); (case side3 => repeat (first | exact (Kd.C_below HR0_1.out HB.out) | (with_reducible refine Kd.C_alloc ?_ _) | (with_reducible refine Kd.C_drewN ?_ _) | (with_reducible refine Kd.C_drew ?_))); (case side4 => exact HC0_1.out); (case side5 => repeat (first | exact (Kd.C_below HR0_2.out HB.out) | (with_reducible refine Kd.C_alloc ?_ _) | (with_reducible refine Kd.C_drewN ?_ _) | (with_reducible refine Kd.C_drew ?_))); (case side6 => exact HC0_2.out); (case side7 => repeat (first | exact (Kd.C_below HR0_3.out HB.out) | (with_reducible refine Kd.C_alloc ?_ _) | (with_reducible refine Kd.C_drewN ?_ _) | (with_reducible refine Kd.C_drew ?_))); (case side8 => exact HC0_3.out); rintro e w16 ⟨rfl, hb⟩; refine ⟨_, rfl, ?_⟩; have n0_ := Aside0.mk (blk_below (g := gb332) (o := .cells #[.slice A0_0 l0_0.length c0_0, .slice A0_1 l0_1.length c0_1, .slice A0_2 l0_2.length c0_2, .slice A0_3 l0_3.length c0_3, .string a0_4] 37 (0, 0)) (by (with_reducible repeat (first | refine blk_drewN ?_ _ | refine blk_drew ?_ | refine blk_alloc ?_ _)); exact BK332.out) hb); have n1_ := Aside0.mk (blk_below (g := gb333) (o := .cells #[.slice A1_0 l1_0.length c1_0, .slice A1_1 l1_1.length c1_1, .slice A1_2 l1_2.length c1_2, .slice A1_3 l1_3.length c1_3, .string a1_4] 37 (0, 0)) (by (with_reducible repeat (first | refine blk_drewN ?_ _ | refine blk_drew ?_ | refine blk_alloc ?_ _)); exact BK333.out) hb); have n2_ := Aside0.mk (below_step (by repeat (first | (with_reducible first | exact HB.out | apply below_alloc | apply pw_below_drewN | apply below_drew1 | refine below_set ?_ GE332.out | refine below_set ?_ GE333.out) | exact HB.out)) hb); clear BK332; clear BK333; clear HB; have BK332 := n0_; have BK333 := n1_; have HB := n2_; clear n0_ n1_ n2_; (try clear hb); (try clear hb2); (try clear hk); (try clear hi); have hcz17_0 : w16.cell? ⟨gb333, 0, none⟩ = some (.slice A1_0 l1_0.length c1_0) := (blk_cell BK333.out 0).trans rfl; have hcz17_1 : w16.cell? ⟨gb333, 1, none⟩ = some (.slice A1_1 l1_1.length c1_1) := (blk_cell BK333.out 1).trans rfl; have hcz17_2 : w16.cell? ⟨gb333, 2, none⟩ = some (.slice A1_2 l1_2.length c1_2) := (blk_cell BK333.out 2).trans rfl; have hcz17_3 : w16.cell? ⟨gb333, 3, none⟩ = some (.slice A1_3 l1_3.length c1_3) := (blk_cell BK333.out 3).trans rfl; have hcz17_4 : w16.cell? ⟨gb333, 4, none⟩ = some (.string a1_4) := (blk_cell BK333.out 4).trans rfl; have hfz17_0 := blk_frozen BK333.out 0; have hfz17_1 := blk_frozen BK333.out 1; have hfz17_2 := blk_frozen BK333.out 2; have hfz17_3 := blk_frozen BK333.out 3; have hfz17_4 := blk_frozen BK333.out 4) | ((with_reducible refine gate_callee (f := 11) rfl ?_); refine goesL_ (some 17) rfl rfl Try.func11 (by kernel_rfl) rfl #[.agg #[.slice A1_0 l1_0.length c1_0, .slice A1_1 l1_1.length c1_1, .slice A1_2 l1_2.length c1_2, .slice A1_3 l1_3.length c1_3, .string a1_4], .int .i64 t334] rfl (by (try simp only [List.map_toArray, List.map_cons, List.map_nil]); first | done | rfl | (simp only [List.length_drop, List.length_take]; rfl)) ?_; (with_reducible refine (laws_szDesk.calls _ _ l1_0 _ _ l1_1 _ _ l1_2 _ _ l1_3 a1_4 t334 t335 _ ?side1 ?side2 ?side3 ?side4 ?side5 ?side6 ?side7 ?side8 A10.out).mono ?_); (case side1 => repeat (first | exact (Kd.C_below HR1_0.out HB.out) | (with_reducible refine Kd.C_alloc ?_ _) | (with_reducible refine Kd.C_drewN ?_ _) | (with_reducible refine Kd.C_drew ?_))); (case side2 => exact HC1_0.out); (case side3 => repeat (first | exact (Kd.C_below HR1_1.out HB.out) | (with_reducible refine Kd.C_alloc ?_ _) | (with_reducible refine Kd.C_drewN ?_ _) | (with_reducible refine Kd.C_drew ?_))); (case side4 => exact HC1_1.out); (case side5 => repeat (first | exact (Kd.C_below HR1_2.out HB.out) | (with_reducible refine Kd.C_alloc ?_ _) | (with_reducible refine Kd.C_drewN ?_ _) | (with_reducible refine Kd.C_drew ?_))); (case side6 => exact HC1_2.out); (case side7 => repeat (first | exact (Kd.C_below HR1_3.out HB.out) | (with_reducible refine Kd.C_alloc ?_ _) | (with_reducible refine Kd.C_drewN ?_ _) | (with_reducible refine Kd.C_drew ?_))); (case side8 => exact HC1_3.out); rintro e w18 ⟨rfl, hb⟩; refine ⟨_, rfl, ?_⟩; have n0_ := Aside0.mk (blk_below (g := gb332) (o := .cells #[.slice A0_0 l0_0.length c0_0, .slice A0_1 l0_1.length c0_1, .slice A0_2 l0_2.length c0_2, .slice A0_3 l0_3.length c0_3, .string a0_4] 37 (0, 0)) (by (with_reducible repeat (first | refine blk_drewN ?_ _ | refine blk_drew ?_ | refine blk_alloc ?_ _)); exact BK332.out) hb); have n1_ := Aside0.mk (blk_below (g := gb333) (o := .cells #[.slice A1_0 l1_0.length c1_0, .slice A1_1 l1_1.length c1_1, .slice A1_2 l1_2.length c1_2, .slice A1_3 l1_3.length c1_3, .string a1_4] 37 (0, 0)) (by (with_reducible repeat (first | refine blk_drewN ?_ _ | refine blk_drew ?_ | refine blk_alloc ?_ _)); exact BK333.out) hb); have n2_ := Aside0.mk (below_step (by repeat (first | (with_reducible first | exact HB.out | apply below_alloc | apply pw_below_drewN | apply below_drew1 | refine below_set ?_ GE332.out | refine below_set ?_ GE333.out) | exact HB.out)) hb); clear BK332; clear BK333; clear HB; have BK332 := n0_; have BK333 := n1_; have HB := n2_; clear n0_ n1_ n2_; (try clear hb); (try clear hb2); (try clear hk); (try clear hi)))
   go_ret
   exact ⟨by first | rfl | (simp [errW_none, errW_some] <;> rfl) | (simp [*, errW_none, errW_some] <;> rfl), by repeat (first | (with_reducible first | exact HB.out | apply below_alloc | apply pw_below_drewN | apply below_drew1 | refine below_set ?_ GE332.out | refine below_set ?_ GE333.out) | exact HB.out)⟩
  ·rw [if_neg c11] at H
   have c11b0 : decide (t335 < 0) = false := decide_eq_false c11
   clear c11
   replace H := Option.bind_eq_some_iff.mp H
   obtain ⟨⟨t336, t339, t342, t345, t348⟩, A190, H⟩ := H
   replace H : ((laws_toDesk.f k l1_0 l1_1 l1_2 l1_3 a1_4).bind fun bt349 => ((spec_SameDesk.f k t336 t339 t342 t345 t348 bt349.1 bt349.2.1 bt349.2.2.1 bt349.2.2.2.1 bt349.2.2.2.2).bind fun t362 => ((laws_toDesk.f k l0_0 l0_1 l0_2 l0_3 a0_4).bind fun bt363 => ((laws_toDesk.f k l1_0 l1_1 l1_2 l1_3 a1_4).bind fun bt377 => ((impl_SameDesk.f k bt363.1 bt363.2.1 bt363.2.2.1 bt363.2.2.2.1 bt363.2.2.2.2 bt377.1 bt377.2.1 bt377.2.2.1 bt377.2.2.2.1 bt377.2.2.2.2).bind fun t391 => (if (t391 != t362) = true then (some false) else ((laws_toDesk.f k l0_0 l0_1 l0_2 l0_3 a0_4).bind fun bt392 => ((laws_eqDesk.f k bt363.1 bt363.2.1 bt363.2.2.1 bt363.2.2.2.1 bt363.2.2.2.2 bt392.1 bt392.2.1 bt392.2.2.1 bt392.2.2.2.1 bt392.2.2.2.2).bind fun t405 => (if t405 = true then ((laws_toDesk.f k l1_0 l1_1 l1_2 l1_3 a1_4).bind fun bt406 => ((laws_eqDesk.f k bt377.1 bt377.2.1 bt377.2.2.1 bt377.2.2.2.1 bt377.2.2.2.2 bt406.1 bt406.2.1 bt406.2.2.1 bt406.2.2.2.1 bt406.2.2.2.2).bind fun t419 => (if t419 = true then (some true) else (some false)))) else (some false)))))))))) = some r := H
   have A19 := Aside0.mk A190
   clear A190
   replace H := Option.bind_eq_some_iff.mp H
   obtain ⟨⟨t349, t352, t355, t358, t361⟩, A200, H⟩ := H
   replace H : ((spec_SameDesk.f k t336 t339 t342 t345 t348 t349 t352 t355 t358 t361).bind fun t362 => ((laws_toDesk.f k l0_0 l0_1 l0_2 l0_3 a0_4).bind fun bt363 => ((laws_toDesk.f k l1_0 l1_1 l1_2 l1_3 a1_4).bind fun bt377 => ((impl_SameDesk.f k bt363.1 bt363.2.1 bt363.2.2.1 bt363.2.2.2.1 bt363.2.2.2.2 bt377.1 bt377.2.1 bt377.2.2.1 bt377.2.2.2.1 bt377.2.2.2.2).bind fun t391 => (if (t391 != t362) = true then (some false) else ((laws_toDesk.f k l0_0 l0_1 l0_2 l0_3 a0_4).bind fun bt392 => ((laws_eqDesk.f k bt363.1 bt363.2.1 bt363.2.2.1 bt363.2.2.2.1 bt363.2.2.2.2 bt392.1 bt392.2.1 bt392.2.2.1 bt392.2.2.2.1 bt392.2.2.2.2).bind fun t405 => (if t405 = true then ((laws_toDesk.f k l1_0 l1_1 l1_2 l1_3 a1_4).bind fun bt406 => ((laws_eqDesk.f k bt377.1 bt377.2.1 bt377.2.2.1 bt377.2.2.2.1 bt377.2.2.2.2 bt406.1 bt406.2.1 bt406.2.2.1 bt406.2.2.2.1 bt406.2.2.2.2).bind fun t419 => (if t419 = true then (some true) else (some false)))) else (some false))))))))) = some r := H
   have A20 := Aside0.mk A200
   clear A200
   replace H := Option.bind_eq_some_iff.mp H
   obtain ⟨t362, A210, H⟩ := H
   replace H : ((laws_toDesk.f k l0_0 l0_1 l0_2 l0_3 a0_4).bind fun bt363 => ((laws_toDesk.f k l1_0 l1_1 l1_2 l1_3 a1_4).bind fun bt377 => ((impl_SameDesk.f k bt363.1 bt363.2.1 bt363.2.2.1 bt363.2.2.2.1 bt363.2.2.2.2 bt377.1 bt377.2.1 bt377.2.2.1 bt377.2.2.2.1 bt377.2.2.2.2).bind fun t391 => (if (t391 != t362) = true then (some false) else ((laws_toDesk.f k l0_0 l0_1 l0_2 l0_3 a0_4).bind fun bt392 => ((laws_eqDesk.f k bt363.1 bt363.2.1 bt363.2.2.1 bt363.2.2.2.1 bt363.2.2.2.2 bt392.1 bt392.2.1 bt392.2.2.1 bt392.2.2.2.1 bt392.2.2.2.2).bind fun t405 => (if t405 = true then ((laws_toDesk.f k l1_0 l1_1 l1_2 l1_3 a1_4).bind fun bt406 => ((laws_eqDesk.f k bt377.1 bt377.2.1 bt377.2.2.1 bt377.2.2.2.1 bt377.2.2.2.2 bt406.1 bt406.2.1 bt406.2.2.1 bt406.2.2.2.1 bt406.2.2.2.2).bind fun t419 => (if t419 = true then (some true) else (some false)))) else (some false)))))))) = some r := H
   have A21 := Aside0.mk A210
   clear A210
   replace H := Option.bind_eq_some_iff.mp H
   obtain ⟨⟨t363, t366, t369, t372, t375⟩, A220, H⟩ := H
   replace H : ((laws_toDesk.f k l1_0 l1_1 l1_2 l1_3 a1_4).bind fun bt377 => ((impl_SameDesk.f k t363 t366 t369 t372 t375 bt377.1 bt377.2.1 bt377.2.2.1 bt377.2.2.2.1 bt377.2.2.2.2).bind fun t391 => (if (t391 != t362) = true then (some false) else ((laws_toDesk.f k l0_0 l0_1 l0_2 l0_3 a0_4).bind fun bt392 => ((laws_eqDesk.f k t363 t366 t369 t372 t375 bt392.1 bt392.2.1 bt392.2.2.1 bt392.2.2.2.1 bt392.2.2.2.2).bind fun t405 => (if t405 = true then ((laws_toDesk.f k l1_0 l1_1 l1_2 l1_3 a1_4).bind fun bt406 => ((laws_eqDesk.f k bt377.1 bt377.2.1 bt377.2.2.1 bt377.2.2.2.1 bt377.2.2.2.2 bt406.1 bt406.2.1 bt406.2.2.1 bt406.2.2.2.1 bt406.2.2.2.2).bind fun t419 => (if t419 = true then (some true) else (some false)))) else (some false))))))) = some r := H
   have A22 := Aside0.mk A220
   clear A220
   replace H := Option.bind_eq_some_iff.mp H
   obtain ⟨⟨t377, t380, t383, t386, t389⟩, A230, H⟩ := H
   replace H : ((impl_SameDesk.f k t363 t366 t369 t372 t375 t377 t380 t383 t386 t389).bind fun t391 => (if (t391 != t362) = true then (some false) else ((laws_toDesk.f k l0_0 l0_1 l0_2 l0_3 a0_4).bind fun bt392 => ((laws_eqDesk.f k t363 t366 t369 t372 t375 bt392.1 bt392.2.1 bt392.2.2.1 bt392.2.2.2.1 bt392.2.2.2.2).bind fun t405 => (if t405 = true then ((laws_toDesk.f k l1_0 l1_1 l1_2 l1_3 a1_4).bind fun bt406 => ((laws_eqDesk.f k t377 t380 t383 t386 t389 bt406.1 bt406.2.1 bt406.2.2.1 bt406.2.2.2.1 bt406.2.2.2.2).bind fun t419 => (if t419 = true then (some true) else (some false)))) else (some false)))))) = some r := H
   have A23 := Aside0.mk A230
   clear A230
   replace H := Option.bind_eq_some_iff.mp H
   obtain ⟨t391, A240, H⟩ := H
   replace H : (if (t391 != t362) = true then (some false) else ((laws_toDesk.f k l0_0 l0_1 l0_2 l0_3 a0_4).bind fun bt392 => ((laws_eqDesk.f k t363 t366 t369 t372 t375 bt392.1 bt392.2.1 bt392.2.2.1 bt392.2.2.2.1 bt392.2.2.2.2).bind fun t405 => (if t405 = true then ((laws_toDesk.f k l1_0 l1_1 l1_2 l1_3 a1_4).bind fun bt406 => ((laws_eqDesk.f k t377 t380 t383 t386 t389 bt406.1 bt406.2.1 bt406.2.2.1 bt406.2.2.2.1 bt406.2.2.2.2).bind fun t419 => (if t419 = true then (some true) else (some false)))) else (some false))))) = some r := H
   have A24 := Aside0.mk A240
   clear A240
   by_cases c25 : (t391 != t362) = true
   ·rw [if_pos c25] at H
    have c25b0 : (t391 != t362) = true := c25
    (try (have c25b1 : decide (t391 = t362) = false := by simpa using c25))
    (try (have c25b2 : (t391 == t362) = false := by simpa using c25))
    (try (have c25b3 : ¬ (t391 = t362) := by simpa using c25))
    clear c25
    exact absurd (Option.some.inj H) (by rw [hr_.out]; decide)
   ·rw [if_neg c25] at H
    have c25b0 : (t391 != t362) = false := by simpa using c25
    (try (have c25b1 : decide (t391 = t362) = true := by simpa using c25))
    (try (have c25b2 : (t391 == t362) = true := by simpa using c25))
    clear c25
    replace H := Option.bind_eq_some_iff.mp H
    obtain ⟨⟨t392, t395, t398, t401, t404⟩, A260, H⟩ := H
    replace H : ((laws_eqDesk.f k t363 t366 t369 t372 t375 t392 t395 t398 t401 t404).bind fun t405 => (if t405 = true then ((laws_toDesk.f k l1_0 l1_1 l1_2 l1_3 a1_4).bind fun bt406 => ((laws_eqDesk.f k t377 t380 t383 t386 t389 bt406.1 bt406.2.1 bt406.2.2.1 bt406.2.2.2.1 bt406.2.2.2.2).bind fun t419 => (if t419 = true then (some true) else (some false)))) else (some false))) = some r := H
    have A26 := Aside0.mk A260
    clear A260
    replace H := Option.bind_eq_some_iff.mp H
    obtain ⟨t405, A270, H⟩ := H
    replace H : (if t405 = true then ((laws_toDesk.f k l1_0 l1_1 l1_2 l1_3 a1_4).bind fun bt406 => ((laws_eqDesk.f k t377 t380 t383 t386 t389 bt406.1 bt406.2.1 bt406.2.2.1 bt406.2.2.2.1 bt406.2.2.2.2).bind fun t419 => (if t419 = true then (some true) else (some false)))) else (some false)) = some r := H
    have A27 := Aside0.mk A270
    clear A270
    by_cases c28 : t405 = true
    ·subst c28
     have H1 : ((laws_toDesk.f k l1_0 l1_1 l1_2 l1_3 a1_4).bind fun bt406 => ((laws_eqDesk.f k t377 t380 t383 t386 t389 bt406.1 bt406.2.1 bt406.2.2.1 bt406.2.2.2.1 bt406.2.2.2.2).bind fun t419 => (if t419 = true then (some true) else (some false)))) = some r := by rw [if_pos rfl] at H; exact H
     clear H
     have H := H1
     clear H1
     replace H := Option.bind_eq_some_iff.mp H
     obtain ⟨⟨t406, t409, t412, t415, t418⟩, A290, H⟩ := H
     replace H : ((laws_eqDesk.f k t377 t380 t383 t386 t389 t406 t409 t412 t415 t418).bind fun t419 => (if t419 = true then (some true) else (some false))) = some r := H
     have A29 := Aside0.mk A290
     clear A290
     replace H := Option.bind_eq_some_iff.mp H
     obtain ⟨t419, A300, H⟩ := H
     replace H : (if t419 = true then (some true) else (some false)) = some r := H
     have A30 := Aside0.mk A300
     clear A300
     by_cases c31 : t419 = true
     ·subst c31
      have H1 : (some true) = some r := by rw [if_pos rfl] at H; exact H
      clear H
      have H := H1
      clear H1
      obtain rfl := Option.some.inj H
      go_enter Try.func4, Try.ntmps4
      try go_wp2_with (first | ((with_reducible refine gate_dst (N := 2) rfl ?_); refine box_event ?hg (N := 2) ?hd (cs := #[.slice A0_0 l0_0.length c0_0, .slice A0_1 l0_1.length c0_1, .slice A0_2 l0_2.length c0_2, .slice A0_3 l0_3.length c0_3, .string a0_4]) (t := 37) ?hr ?_; (case hd => rfl); (case hg => rfl); (case hr => first | (go_simp; done) | (go_simp; rfl)); intro gb332 hg w32 hbox hb; have n0_ := Aside0.mk (below_step (by repeat (first | (with_reducible first | exact HB.out | apply below_alloc | apply pw_below_drewN | apply below_drew1) | exact HB.out)) hb); have n1_ := Aside0.mk (hbox); have n2_ := Aside0.mk ((by rw [hg]; exact (below_size (by repeat (first | (with_reducible first | exact HB.out | apply below_alloc | apply pw_below_drewN | apply below_drew1) | exact HB.out))) : w.heap.size ≤ gb332)); have n3_ := Aside0.mk ((by rw [hg]; exact (below_size (by repeat (first | (with_reducible first | exact HB.out | apply below_alloc | apply pw_below_drewN | apply below_drew1) | exact HB.out))) : w.heap.size ≤ gb332)); clear HB; have HB := n0_; have BK332 := n1_; have GW332 := n2_; have GE332 := n3_; clear n0_ n1_ n2_ n3_; clear hb hbox hg) | ((with_reducible refine gate_dst (N := 3) rfl ?_); refine box_event ?hg (N := 3) ?hd (cs := #[.slice A1_0 l1_0.length c1_0, .slice A1_1 l1_1.length c1_1, .slice A1_2 l1_2.length c1_2, .slice A1_3 l1_3.length c1_3, .string a1_4]) (t := 37) ?hr ?_; (case hd => rfl); (case hg => rfl); (case hr => first | (go_simp; done) | (go_simp; rfl)); intro gb333 hg w33 hbox hb; have n0_ := Aside0.mk (blk_below (g := gb332) (o := .cells #[.slice A0_0 l0_0.length c0_0, .slice A0_1 l0_1.length c0_1, .slice A0_2 l0_2.length c0_2, .slice A0_3 l0_3.length c0_3, .string a0_4] 37 (0, 0)) (by (with_reducible repeat (first | refine blk_drewN ?_ _ | refine blk_drew ?_ | refine blk_alloc ?_ _)); exact BK332.out) hb); have n1_ := Aside0.mk (below_step (by repeat (first | (with_reducible first | exact HB.out | apply below_alloc | apply pw_below_drewN | apply below_drew1 | refine below_set ?_ GE332.out) | exact HB.out)) hb); have n2_ := Aside0.mk (hbox); have n3_ := Aside0.mk ((by rw [hg]; exact (below_size (by repeat (first | (with_reducible first | exact HB.out | apply below_alloc | apply pw_below_drewN | apply below_drew1 | refine below_set ?_ GE332.out) | exact HB.out))) : w.heap.size ≤ gb333)); have n4_ := Aside0.mk ((by rw [hg]; exact (below_size (by repeat (first | (with_reducible first | exact HB.out | apply below_alloc | apply pw_below_drewN | apply below_drew1 | refine below_set ?_ GE332.out) | exact HB.out))) : w.heap.size ≤ gb333)); have n5_ := Aside0.mk ((by rw [hg]; exact Nat.ne_of_lt (blk_lt (g := gb332) (o := .cells #[.slice A0_0 l0_0.length c0_0, .slice A0_1 l0_1.length c0_1, .slice A0_2 l0_2.length c0_2, .slice A0_3 l0_3.length c0_3, .string a0_4] 37 (0, 0)) (by (with_reducible repeat (first | refine blk_drewN ?_ _ | refine blk_drew ?_ | refine blk_alloc ?_ _)); exact BK332.out)) : gb332 ≠ gb333)); have n6_ := Aside0.mk ((by rw [hg]; exact Nat.ne_of_gt (blk_lt (g := gb332) (o := .cells #[.slice A0_0 l0_0.length c0_0, .slice A0_1 l0_1.length c0_1, .slice A0_2 l0_2.length c0_2, .slice A0_3 l0_3.length c0_3, .string a0_4] 37 (0, 0)) (by (with_reducible repeat (first | refine blk_drewN ?_ _ | refine blk_drew ?_ | refine blk_alloc ?_ _)); exact BK332.out)) : gb333 ≠ gb332)); clear BK332; clear HB; have BK332 := n0_; have HB := n1_; have BK333 := n2_; have GW333 := n3_; have GE333 := n4_; have NB332_333 := n5_; have NB333_332 := n6_; clear n0_ n1_ n2_ n3_ n4_ n5_ n6_; clear hb hbox hg; have hnb34 := NB332_333.out; have hnc34 := NB333_332.out; have hcz35_0 : w33.cell? ⟨gb332, 0, none⟩ = some (.slice A0_0 l0_0.length c0_0) := (blk_cell BK332.out 0).trans rfl; have hcz35_1 : w33.cell? ⟨gb332, 1, none⟩ = some (.slice A0_1 l0_1.length c0_1) := (blk_cell BK332.out 1).trans rfl; have hcz35_2 : w33.cell? ⟨gb332, 2, none⟩ = some (.slice A0_2 l0_2.length c0_2) := (blk_cell BK332.out 2).trans rfl; have hcz35_3 : w33.cell? ⟨gb332, 3, none⟩ = some (.slice A0_3 l0_3.length c0_3) := (blk_cell BK332.out 3).trans rfl; have hcz35_4 : w33.cell? ⟨gb332, 4, none⟩ = some (.string a0_4) := (blk_cell BK332.out 4).trans rfl; have hfz35_0 := blk_frozen BK332.out 0; have hfz35_1 := blk_frozen BK332.out 1; have hfz35_2 := blk_frozen BK332.out 2; have hfz35_3 := blk_frozen BK332.out 3; have hfz35_4 := blk_frozen BK332.out 4) | ((with_reducible refine gate_callee (f := 11) rfl ?_); refine goesL_ (some 12) rfl rfl Try.func11 (by kernel_rfl) rfl #[.agg #[.slice A0_0 l0_0.length c0_0, .slice A0_1 l0_1.length c0_1, .slice A0_2 l0_2.length c0_2, .slice A0_3 l0_3.length c0_3, .string a0_4], .int .i64 1048576] rfl (by (try simp only [List.map_toArray, List.map_cons, List.map_nil]); first | done | rfl | (simp only [List.length_drop, List.length_take]; rfl)) ?_; (with_reducible refine (laws_szDesk.calls _ _ l0_0 _ _ l0_1 _ _ l0_2 _ _ l0_3 a0_4 1048576 t334 _ ?side1 ?side2 ?side3 ?side4 ?side5 ?side6 ?side7 ?side8 A3.out).mono ?_); (case side1 => repeat (first | exact (Kd.C_below HR0_0.out HB.out) | (with_reducible refine Kd.C_alloc ?_ _) | (with_reducible refine Kd.C_drewN ?_ _) | (with_reducible refine Kd.C_drew ?_))); (case side2 => exact HC0_0.out); (case side3 => repeat (first | exact (Kd.C_below HR0_1.out HB.out) | (with_reducible refine Kd.C_alloc ?_ _) | (with_reducible refine Kd.C_drewN ?_ _) | (with_reducible refine Kd.C_drew ?_))); (case side4 => exact HC0_1.out); (case side5 => repeat (first | exact (Kd.C_below HR0_2.out HB.out) | (with_reducible refine Kd.C_alloc ?_ _) | (with_reducible refine Kd.C_drewN ?_ _) | (with_reducible refine Kd.C_drew ?_))); (case side6 => exact HC0_2.out); (case side7 => repeat (first | exact (Kd.C_below HR0_3.out HB.out) | (with_reducible refine Kd.C_alloc ?_ _) | (with_reducible refine Kd.C_drewN ?_ _) | (with_reducible refine Kd.C_drew ?_))); (case side8 => exact HC0_3.out); rintro e w36 ⟨rfl, hb⟩; refine ⟨_, rfl, ?_⟩; have n0_ := Aside0.mk (blk_below (g := gb332) (o := .cells #[.slice A0_0 l0_0.length c0_0, .slice A0_1 l0_1.length c0_1, .slice A0_2 l0_2.length c0_2, .slice A0_3 l0_3.length c0_3, .string a0_4] 37 (0, 0)) (by (with_reducible repeat (first | refine blk_drewN ?_ _ | refine blk_drew ?_ | refine blk_alloc ?_ _)); exact BK332.out) hb); have n1_ := Aside0.mk (blk_below (g := gb333) (o := .cells #[.slice A1_0 l1_0.length c1_0, .slice A1_1 l1_1.length c1_1, .slice A1_2 l1_2.length c1_2, .slice A1_3 l1_3.length c1_3, .string a1_4] 37 (0, 0)) (by (with_reducible repeat (first | refine blk_drewN ?_ _ | refine blk_drew ?_ | refine blk_alloc ?_ _)); exact BK333.out) hb); have n2_ := Aside0.mk (below_step (by repeat (first | (with_reducible first | exact HB.out | apply below_alloc | apply pw_below_drewN | apply below_drew1 | refine below_set ?_ GE332.out | refine below_set ?_ GE333.out) | exact HB.out)) hb); clear BK332; clear BK333; clear HB; have BK332 := n0_; have BK333 := n1_; have HB := n2_; clear n0_ n1_ n2_; (try clear hb); (try clear hb2); (try clear hk); (try clear hi); have hcz37_0 : w36.cell? ⟨gb333, 0, none⟩ = some (.slice A1_0 l1_0.length c1_0) := (blk_cell BK333.out 0).trans rfl; have hcz37_1 : w36.cell? ⟨gb333, 1, none⟩ = some (.slice A1_1 l1_1.length c1_1) := (blk_cell BK333.out 1).trans rfl; have hcz37_2 : w36.cell? ⟨gb333, 2, none⟩ = some (.slice A1_2 l1_2.length c1_2) := (blk_cell BK333.out 2).trans rfl; have hcz37_3 : w36.cell? ⟨gb333, 3, none⟩ = some (.slice A1_3 l1_3.length c1_3) := (blk_cell BK333.out 3).trans rfl; have hcz37_4 : w36.cell? ⟨gb333, 4, none⟩ = some (.string a1_4) := (blk_cell BK333.out 4).trans rfl; have hfz37_0 := blk_frozen BK333.out 0; have hfz37_1 := blk_frozen BK333.out 1; have hfz37_2 := blk_frozen BK333.out 2; have hfz37_3 := blk_frozen BK333.out 3; have hfz37_4 := blk_frozen BK333.out 4) | ((with_reducible refine gate_callee (f := 11) rfl ?_); refine goesL_ (some 17) rfl rfl Try.func11 (by kernel_rfl) rfl #[.agg #[.slice A1_0 l1_0.length c1_0, .slice A1_1 l1_1.length c1_1, .slice A1_2 l1_2.length c1_2, .slice A1_3 l1_3.length c1_3, .string a1_4], .int .i64 t334] rfl (by (try simp only [List.map_toArray, List.map_cons, List.map_nil]); first | done | rfl | (simp only [List.length_drop, List.length_take]; rfl)) ?_; (with_reducible refine (laws_szDesk.calls _ _ l1_0 _ _ l1_1 _ _ l1_2 _ _ l1_3 a1_4 t334 t335 _ ?side1 ?side2 ?side3 ?side4 ?side5 ?side6 ?side7 ?side8 A10.out).mono ?_); (case side1 => repeat (first | exact (Kd.C_below HR1_0.out HB.out) | (with_reducible refine Kd.C_alloc ?_ _) | (with_reducible refine Kd.C_drewN ?_ _) | (with_reducible refine Kd.C_drew ?_))); (case side2 => exact HC1_0.out); (case side3 => repeat (first | exact (Kd.C_below HR1_1.out HB.out) | (with_reducible refine Kd.C_alloc ?_ _) | (with_reducible refine Kd.C_drewN ?_ _) | (with_reducible refine Kd.C_drew ?_))); (case side4 => exact HC1_1.out); (case side5 => repeat (first | exact (Kd.C_below HR1_2.out HB.out) | (with_reducible refine Kd.C_alloc ?_ _) | (with_reducible refine Kd.C_drewN ?_ _) | (with_reducible refine Kd.C_drew ?_))); (case side6 => exact HC1_2.out); (case side7 => repeat (first | exact (Kd.C_below HR1_3.out HB.out) | (with_reducible refine Kd.C_alloc ?_ _) | (with_reducible refine Kd.C_drewN ?_ _) | (with_reducible refine Kd.C_drew ?_))); (case side8 => exact HC1_3.out); rintro e w38 ⟨rfl, hb⟩; refine ⟨_, rfl, ?_⟩; have n0_ := Aside0.mk (blk_below (g := gb332) (o := .cells #[.slice A0_0 l0_0.length c0_0, .slice A0_1 l0_1.length c0_1, .slice A0_2 l0_2.length c0_2, .slice A0_3 l0_3.length c0_3, .string a0_4] 37 (0, 0)) (by (with_reducible repeat (first | refine blk_drewN ?_ _ | refine blk_drew ?_ | refine blk_alloc ?_ _)); exact BK332.out) hb); have n1_ := Aside0.mk (blk_below (g := gb333) (o := .cells #[.slice A1_0 l1_0.length c1_0, .slice A1_1 l1_1.length c1_1, .slice A1_2 l1_2.length c1_2, .slice A1_3 l1_3.length c1_3, .string a1_4] 37 (0, 0)) (by (with_reducible repeat (first | refine blk_drewN ?_ _ | refine blk_drew ?_ | refine blk_alloc ?_ _)); exact BK333.out) hb); have n2_ := Aside0.mk (below_step (by repeat (first | (with_reducible first | exact HB.out | apply below_alloc | apply pw_below_drewN | apply below_drew1 | refine below_set ?_ GE332.out | refine below_set ?_ GE333.out) | exact HB.out)) hb); clear BK332; clear BK333; clear HB; have BK332 := n0_; have BK333 := n1_; have HB := n2_; clear n0_ n1_ n2_; (try clear hb); (try clear hb2); (try clear hk); (try clear hi)))
      have n0_ := Aside0.mk (blk_drew BK332.out)
      have n1_ := Aside0.mk (blk_drew BK333.out)
      have n2_ := Aside0.mk (below_drew1 HB.out)
      clear BK332
      clear BK333
      clear HB
      have BK332 := n0_
      have BK333 := n1_
      have HB := n2_
      clear n0_ n1_ n2_
      refine start_ (n := 6) (S := fun w' => w'.cell? ⟨gb332, 0, none⟩ = some (.slice A0_0 l0_0.length c0_0) ∧ w'.cell? ⟨gb332, 1, none⟩ = some (.slice A0_1 l0_1.length c0_1) ∧ w'.cell? ⟨gb332, 2, none⟩ = some (.slice A0_2 l0_2.length c0_2) ∧ w'.cell? ⟨gb332, 3, none⟩ = some (.slice A0_3 l0_3.length c0_3) ∧ w'.cell? ⟨gb332, 4, none⟩ = some (.string a0_4) ∧ w'.cell? ⟨gb333, 0, none⟩ = some (.slice A1_0 l1_0.length c1_0) ∧ w'.cell? ⟨gb333, 1, none⟩ = some (.slice A1_1 l1_1.length c1_1) ∧ w'.cell? ⟨gb333, 2, none⟩ = some (.slice A1_2 l1_2.length c1_2) ∧ w'.cell? ⟨gb333, 3, none⟩ = some (.slice A1_3 l1_3.length c1_3) ∧ w'.cell? ⟨gb333, 4, none⟩ = some (.string a1_4)) (ds := []) #[false, false, false, false, false, false] (by kernel_rfl) rfl rfl ⟨(blk_cell BK332.out 0).trans rfl, (blk_cell BK332.out 1).trans rfl, (blk_cell BK332.out 2).trans rfl, (blk_cell BK332.out 3).trans rfl, (blk_cell BK332.out 4).trans rfl, (blk_cell BK333.out 0).trans rfl, (blk_cell BK333.out 1).trans rfl, (blk_cell BK333.out 2).trans rfl, (blk_cell BK333.out 3).trans rfl, (blk_cell BK333.out 4).trans rfl⟩ (fun hHeld => ?_)
      generalize w38.drew = w39 at BK332 BK333 HB hHeld ⊢
      refine take_ (i := 0) (N := some 20) (v := ?_) (a' := ?_) #[true, false, false, false, false, false] rfl rfl (by kernel_rfl) (fun _ _ _ h => h) (Or.inl ⟨by rfl, ?_⟩) hHeld ?_ ?_
      rotate_left
      ·rintro w' ⟨s0, s1, s2, s3, s4, s5, s6, s7, s8, s9⟩
       go_simp
       with_reducible rfl
      rotate_left
      ·simp only [Act.put, List.setIfInBounds_toArray, List.set_cons_zero, List.set_cons_succ, i64_w, i32_w]; rfl
      refine take_ (i := 2) (N := some 22) (v := ?_) (a' := ?_) #[true, false, true, false, false, false] rfl rfl (by kernel_rfl) (fun _ _ _ h => h) (Or.inl ⟨by rfl, ?_⟩) hHeld ?_ ?_
      rotate_left
      ·rintro w' ⟨s0, s1, s2, s3, s4, s5, s6, s7, s8, s9⟩
       go_simp
       with_reducible rfl
      rotate_left
      ·simp only [Act.put, List.setIfInBounds_toArray, List.set_cons_zero, List.set_cons_succ, i64_w, i32_w]; rfl
      refine one_ (i := 1) (N := some 21) #[true, true, true, false, false, false] rfl rfl (by kernel_rfl) (by decide) (fun K hK => ?_)
      refine goes_ Try.func13 (by kernel_rfl) rfl #[.agg #[.slice A0_0 l0_0.length c0_0, .slice A0_1 l0_1.length c0_1, .slice A0_2 l0_2.length c0_2, .slice A0_3 l0_3.length c0_3, .string a0_4]] (by rfl) rfl rfl (by (try simp only [List.map_toArray, List.map_cons, List.map_nil]); first | done | rfl | (simp only [List.length_drop, List.length_take]; rfl)) ?_
      with_reducible refine (laws_toDesk.calls k _ _ l0_0 _ _ l0_1 _ _ l0_2 _ _ l0_3 a0_4 t336 t339 t342 t345 t348 _ ?side1 ?side2 ?side3 ?side4 ?side5 ?side6 ?side7 ?side8 A19.out).mono ?_
      (case side1 => repeat (first | exact (Kd.C_below HR0_0.out HB.out) | (with_reducible refine Kd.C_alloc ?_ _) | (with_reducible refine Kd.C_drewN ?_ _) | (with_reducible refine Kd.C_drew ?_)))
      (case side2 => exact HC0_0.out)
      (case side3 => repeat (first | exact (Kd.C_below HR0_1.out HB.out) | (with_reducible refine Kd.C_alloc ?_ _) | (with_reducible refine Kd.C_drewN ?_ _) | (with_reducible refine Kd.C_drew ?_)))
      (case side4 => exact HC0_1.out)
      (case side5 => repeat (first | exact (Kd.C_below HR0_2.out HB.out) | (with_reducible refine Kd.C_alloc ?_ _) | (with_reducible refine Kd.C_drewN ?_ _) | (with_reducible refine Kd.C_drew ?_)))
      (case side6 => exact HC0_2.out)
      (case side7 => repeat (first | exact (Kd.C_below HR0_3.out HB.out) | (with_reducible refine Kd.C_alloc ?_ _) | (with_reducible refine Kd.C_drewN ?_ _) | (with_reducible refine Kd.C_drew ?_)))
      (case side8 => exact HC0_3.out)
      rintro e w40 ⟨v337, v340, v343, v346, rfl, ho0, ho1, ho2, ho3, hb⟩
      refine ⟨_, rfl, ?_⟩
      have n0_ := Aside0.mk (Kd.R_lower ho0 (below_size (by repeat (first | (with_reducible first | exact HB.out | apply below_alloc | apply pw_below_drewN | apply below_drew1 | refine below_set ?_ GE332.out | refine below_set ?_ GE333.out) | exact HB.out))))
      have n1_ := Aside0.mk (Kd.R_lower ho1 (below_size (by repeat (first | (with_reducible first | exact HB.out | apply below_alloc | apply pw_below_drewN | apply below_drew1 | refine below_set ?_ GE332.out | refine below_set ?_ GE333.out) | exact HB.out))))
      have n2_ := Aside0.mk (Kd.R_lower ho2 (below_size (by repeat (first | (with_reducible first | exact HB.out | apply below_alloc | apply pw_below_drewN | apply below_drew1 | refine below_set ?_ GE332.out | refine below_set ?_ GE333.out) | exact HB.out))))
      have n3_ := Aside0.mk (Kd.R_lower ho3 (below_size (by repeat (first | (with_reducible first | exact HB.out | apply below_alloc | apply pw_below_drewN | apply below_drew1 | refine below_set ?_ GE332.out | refine below_set ?_ GE333.out) | exact HB.out))))
      have n4_ := Aside0.mk (blk_below (g := gb332) (o := .cells #[.slice A0_0 l0_0.length c0_0, .slice A0_1 l0_1.length c0_1, .slice A0_2 l0_2.length c0_2, .slice A0_3 l0_3.length c0_3, .string a0_4] 37 (0, 0)) (by (with_reducible repeat (first | refine blk_drewN ?_ _ | refine blk_drew ?_ | refine blk_alloc ?_ _)); exact BK332.out) hb)
      have n5_ := Aside0.mk (blk_below (g := gb333) (o := .cells #[.slice A1_0 l1_0.length c1_0, .slice A1_1 l1_1.length c1_1, .slice A1_2 l1_2.length c1_2, .slice A1_3 l1_3.length c1_3, .string a1_4] 37 (0, 0)) (by (with_reducible repeat (first | refine blk_drewN ?_ _ | refine blk_drew ?_ | refine blk_alloc ?_ _)); exact BK333.out) hb)
      have n6_ := Aside0.mk (below_step (by repeat (first | (with_reducible first | exact HB.out | apply below_alloc | apply pw_below_drewN | apply below_drew1 | refine below_set ?_ GE332.out | refine below_set ?_ GE333.out) | exact HB.out)) hb)
      clear BK332
      clear BK333
      clear HB
      have HO338 := n0_
      have HO341 := n1_
      have HO344 := n2_
      have HO347 := n3_
      have BK332 := n4_
      have BK333 := n5_
      have HB := n6_
      clear n0_ n1_ n2_ n3_ n4_ n5_ n6_
      (try clear hb)
      (try clear hb2)
      (try clear hk)
      (try clear hi)
      (try clear ho0)
      (try clear ho1)
      (try clear ho2)
      (try clear ho3)
      refine hK.out _ _ ⟨(blk_cell BK332.out 0).trans rfl, (blk_cell BK332.out 1).trans rfl, (blk_cell BK332.out 2).trans rfl, (blk_cell BK332.out 3).trans rfl, (blk_cell BK332.out 4).trans rfl, (blk_cell BK333.out 0).trans rfl, (blk_cell BK333.out 1).trans rfl, (blk_cell BK333.out 2).trans rfl, (blk_cell BK333.out 3).trans rfl, (blk_cell BK333.out 4).trans rfl⟩ (fun hHeld => ?_)
      clear hK K
      refine norm_ (a' := ?_) ?_ ?_
      rotate_left
      ·show Act.put _ (some 21) _ = _
       simp only [Act.put, List.setIfInBounds_toArray, List.set_cons_zero, List.set_cons_succ, i64_w, i32_w]
       rfl
      refine one_ (i := 3) (N := some 23) #[true, true, true, true, false, false] rfl rfl (by kernel_rfl) (by decide) (fun K hK => ?_)
      refine goes_ Try.func13 (by kernel_rfl) rfl #[.agg #[.slice A1_0 l1_0.length c1_0, .slice A1_1 l1_1.length c1_1, .slice A1_2 l1_2.length c1_2, .slice A1_3 l1_3.length c1_3, .string a1_4]] (by rfl) rfl rfl (by (try simp only [List.map_toArray, List.map_cons, List.map_nil]); first | done | rfl | (simp only [List.length_drop, List.length_take]; rfl)) ?_
      with_reducible refine (laws_toDesk.calls k _ _ l1_0 _ _ l1_1 _ _ l1_2 _ _ l1_3 a1_4 t349 t352 t355 t358 t361 _ ?side1 ?side2 ?side3 ?side4 ?side5 ?side6 ?side7 ?side8 A20.out).mono ?_
      (case side1 => repeat (first | exact (Kd.C_below HR1_0.out HB.out) | (with_reducible refine Kd.C_alloc ?_ _) | (with_reducible refine Kd.C_drewN ?_ _) | (with_reducible refine Kd.C_drew ?_)))
      (case side2 => exact HC1_0.out)
      (case side3 => repeat (first | exact (Kd.C_below HR1_1.out HB.out) | (with_reducible refine Kd.C_alloc ?_ _) | (with_reducible refine Kd.C_drewN ?_ _) | (with_reducible refine Kd.C_drew ?_)))
      (case side4 => exact HC1_1.out)
      (case side5 => repeat (first | exact (Kd.C_below HR1_2.out HB.out) | (with_reducible refine Kd.C_alloc ?_ _) | (with_reducible refine Kd.C_drewN ?_ _) | (with_reducible refine Kd.C_drew ?_)))
      (case side6 => exact HC1_2.out)
      (case side7 => repeat (first | exact (Kd.C_below HR1_3.out HB.out) | (with_reducible refine Kd.C_alloc ?_ _) | (with_reducible refine Kd.C_drewN ?_ _) | (with_reducible refine Kd.C_drew ?_)))
      (case side8 => exact HC1_3.out)
      rintro e w41 ⟨v350, v353, v356, v359, rfl, ho0, ho1, ho2, ho3, hb⟩
      refine ⟨_, rfl, ?_⟩
      have n0_ := Aside0.mk (Kd.R_mono (Kd.R_told (Kd.R_told (Kd.R_old (by (with_reducible repeat (first | apply Kd.R_alloc | apply Kd.R_drewN | apply Kd.R_drew)); exact HO338.out) hb) (Kd.R_base ho0)) (Kd.R_base ho1)) (fun _ h_ => h_.1))
      have n1_ := Aside0.mk (Kd.R_mono (Kd.R_told (Kd.R_told (Kd.R_old (by (with_reducible repeat (first | apply Kd.R_alloc | apply Kd.R_drewN | apply Kd.R_drew)); exact HO341.out) hb) (Kd.R_base ho0)) (Kd.R_base ho1)) (fun _ h_ => h_.1))
      have n2_ := Aside0.mk (Kd.R_elder' (by (with_reducible repeat (first | apply Kd.R_alloc | apply Kd.R_drewN | apply Kd.R_drew)); exact HO344.out) (Kd.R_base ho2) hb)
      have n3_ := Aside0.mk (Kd.R_elder' (by (with_reducible repeat (first | apply Kd.R_alloc | apply Kd.R_drewN | apply Kd.R_drew)); exact HO347.out) (Kd.R_base ho3) hb)
      have n4_ := Aside0.mk (Kd.R_lower (Kd.R_new' (Kd.R_new' ho0 (Kd.R_lt (by (with_reducible repeat (first | apply Kd.R_alloc | apply Kd.R_drewN | apply Kd.R_drew)); exact HO338.out))) (Kd.R_lt (by (with_reducible repeat (first | apply Kd.R_alloc | apply Kd.R_drewN | apply Kd.R_drew)); exact HO341.out))) (below_size (by repeat (first | (with_reducible first | exact HB.out | apply below_alloc | apply pw_below_drewN | apply below_drew1 | refine below_set ?_ GE332.out | refine below_set ?_ GE333.out) | exact HB.out))))
      have n5_ := Aside0.mk (Kd.R_lower (Kd.R_new' (Kd.R_new' ho1 (Kd.R_lt (by (with_reducible repeat (first | apply Kd.R_alloc | apply Kd.R_drewN | apply Kd.R_drew)); exact HO338.out))) (Kd.R_lt (by (with_reducible repeat (first | apply Kd.R_alloc | apply Kd.R_drewN | apply Kd.R_drew)); exact HO341.out))) (below_size (by repeat (first | (with_reducible first | exact HB.out | apply below_alloc | apply pw_below_drewN | apply below_drew1 | refine below_set ?_ GE332.out | refine below_set ?_ GE333.out) | exact HB.out))))
      have n6_ := Aside0.mk (Kd.R_lower (Kd.R_new' ho2 (Kd.R_lt (by (with_reducible repeat (first | apply Kd.R_alloc | apply Kd.R_drewN | apply Kd.R_drew)); exact HO344.out))) (below_size (by repeat (first | (with_reducible first | exact HB.out | apply below_alloc | apply pw_below_drewN | apply below_drew1 | refine below_set ?_ GE332.out | refine below_set ?_ GE333.out) | exact HB.out))))
      have n7_ := Aside0.mk (Kd.R_lower (Kd.R_new' ho3 (Kd.R_lt (by (with_reducible repeat (first | apply Kd.R_alloc | apply Kd.R_drewN | apply Kd.R_drew)); exact HO347.out))) (below_size (by repeat (first | (with_reducible first | exact HB.out | apply below_alloc | apply pw_below_drewN | apply below_drew1 | refine below_set ?_ GE332.out | refine below_set ?_ GE333.out) | exact HB.out))))
      have n8_ := Aside0.mk (blk_below (g := gb332) (o := .cells #[.slice A0_0 l0_0.length c0_0, .slice A0_1 l0_1.length c0_1, .slice A0_2 l0_2.length c0_2, .slice A0_3 l0_3.length c0_3, .string a0_4] 37 (0, 0)) (by (with_reducible repeat (first | refine blk_drewN ?_ _ | refine blk_drew ?_ | refine blk_alloc ?_ _)); exact BK332.out) hb)
      have n9_ := Aside0.mk (blk_below (g := gb333) (o := .cells #[.slice A1_0 l1_0.length c1_0, .slice A1_1 l1_1.length c1_1, .slice A1_2 l1_2.length c1_2, .slice A1_3 l1_3.length c1_3, .string a1_4] 37 (0, 0)) (by (with_reducible repeat (first | refine blk_drewN ?_ _ | refine blk_drew ?_ | refine blk_alloc ?_ _)); exact BK333.out) hb)
      have n10_ := Aside0.mk (below_step (by repeat (first | (with_reducible first | exact HB.out | apply below_alloc | apply pw_below_drewN | apply below_drew1 | refine below_set ?_ GE332.out | refine below_set ?_ GE333.out) | exact HB.out)) hb)
      clear HO338
      clear HO341
      clear HO344
      clear HO347
      clear BK332
      clear BK333
      clear HB
      have HO338 := n0_
      have HO341 := n1_
      have HO344 := n2_
      have HO347 := n3_
      have HO351 := n4_
      have HO354 := n5_
      have HO357 := n6_
      have HO360 := n7_
      have BK332 := n8_
      have BK333 := n9_
      have HB := n10_
      clear n0_ n1_ n2_ n3_ n4_ n5_ n6_ n7_ n8_ n9_ n10_
      (try clear hb)
      (try clear hb2)
      (try clear hk)
      (try clear hi)
      (try clear ho0)
      (try clear ho1)
      (try clear ho2)
      (try clear ho3)
      obtain ⟨Ao42, co42, eo42⟩ := Kd.R_slice HO338.out
      (first | subst eo42 | (injection eo42 with f1_ f2_ f3_; have f4_ := f1_.symm; have f5_ := f3_.symm; clear f1_ f2_ f3_; subst f4_; subst f5_))
      obtain ⟨Ao43, co43, eo43⟩ := Kd.R_slice HO341.out
      (first | subst eo43 | (injection eo43 with f1_ f2_ f3_; have f4_ := f1_.symm; have f5_ := f3_.symm; clear f1_ f2_ f3_; subst f4_; subst f5_))
      obtain ⟨Ao44, co44, eo44⟩ := Kd.R_slice HO344.out
      (first | subst eo44 | (injection eo44 with f1_ f2_ f3_; have f4_ := f1_.symm; have f5_ := f3_.symm; clear f1_ f2_ f3_; subst f4_; subst f5_))
      obtain ⟨Ao45, co45, eo45⟩ := Kd.R_slice HO347.out
      (first | subst eo45 | (injection eo45 with f1_ f2_ f3_; have f4_ := f1_.symm; have f5_ := f3_.symm; clear f1_ f2_ f3_; subst f4_; subst f5_))
      obtain ⟨Ao46, co46, eo46⟩ := Kd.R_slice HO351.out
      (first | subst eo46 | (injection eo46 with f1_ f2_ f3_; have f4_ := f1_.symm; have f5_ := f3_.symm; clear f1_ f2_ f3_; subst f4_; subst f5_))
      obtain ⟨Ao47, co47, eo47⟩ := Kd.R_slice HO354.out
      (first | subst eo47 | (injection eo47 with f1_ f2_ f3_; have f4_ := f1_.symm; have f5_ := f3_.symm; clear f1_ f2_ f3_; subst f4_; subst f5_))
      obtain ⟨Ao48, co48, eo48⟩ := Kd.R_slice HO357.out
      (first | subst eo48 | (injection eo48 with f1_ f2_ f3_; have f4_ := f1_.symm; have f5_ := f3_.symm; clear f1_ f2_ f3_; subst f4_; subst f5_))
      obtain ⟨Ao49, co49, eo49⟩ := Kd.R_slice HO360.out
      (first | subst eo49 | (injection eo49 with f1_ f2_ f3_; have f4_ := f1_.symm; have f5_ := f3_.symm; clear f1_ f2_ f3_; subst f4_; subst f5_))
      refine hK.out _ _ ⟨(blk_cell BK332.out 0).trans rfl, (blk_cell BK332.out 1).trans rfl, (blk_cell BK332.out 2).trans rfl, (blk_cell BK332.out 3).trans rfl, (blk_cell BK332.out 4).trans rfl, (blk_cell BK333.out 0).trans rfl, (blk_cell BK333.out 1).trans rfl, (blk_cell BK333.out 2).trans rfl, (blk_cell BK333.out 3).trans rfl, (blk_cell BK333.out 4).trans rfl⟩ (fun hHeld => ?_)
      clear hK K
      refine norm_ (a' := ?_) ?_ ?_
      rotate_left
      ·show Act.put _ (some 23) _ = _
       simp only [Act.put, List.setIfInBounds_toArray, List.set_cons_zero, List.set_cons_succ, i64_w, i32_w]
       rfl
      refine one_ (i := 4) (N := some 24) #[true, true, true, true, true, false] rfl rfl (by kernel_rfl) (by decide) (fun K hK => ?_)
      refine goes_ Try.func12 (by kernel_rfl) rfl #[.agg #[.slice Ao42 t336.length co42, .slice Ao43 t339.length co43, .slice Ao44 t342.length co44, .slice Ao45 t345.length co45, .string t348], .agg #[.slice Ao46 t349.length co46, .slice Ao47 t352.length co47, .slice Ao48 t355.length co48, .slice Ao49 t358.length co49, .string t361]] (by rfl) rfl rfl (by (try simp only [List.map_toArray, List.map_cons, List.map_nil]); first | done | rfl | (simp only [List.length_drop, List.length_take]; rfl)) ?_
      with_reducible refine (spec_SameDesk.calls k _ _ t336 _ _ t339 _ _ t342 _ _ t345 t348 _ _ t349 _ _ t352 _ _ t355 _ _ t358 t361 t362 _ ?side1 ?side2 ?side3 ?side4 ?side5 ?side6 ?side7 ?side8 ?side9 ?side10 ?side11 ?side12 ?side13 ?side14 ?side15 ?side16 A21.out).mono ?_
      (case side1 => repeat (first | exact (Kd.R_reads' HO338.out).2.2 | (with_reducible refine Kd.C_alloc ?_ _) | (with_reducible refine Kd.C_drewN ?_ _) | (with_reducible refine Kd.C_drew ?_)))
      (case side2 => exact (Kd.R_reads' HO338.out).2.1)
      (case side3 => repeat (first | exact (Kd.R_reads' HO341.out).2.2 | (with_reducible refine Kd.C_alloc ?_ _) | (with_reducible refine Kd.C_drewN ?_ _) | (with_reducible refine Kd.C_drew ?_)))
      (case side4 => exact (Kd.R_reads' HO341.out).2.1)
      (case side5 => repeat (first | exact (Kd.R_reads' HO344.out).2.2 | (with_reducible refine Kd.C_alloc ?_ _) | (with_reducible refine Kd.C_drewN ?_ _) | (with_reducible refine Kd.C_drew ?_)))
      (case side6 => exact (Kd.R_reads' HO344.out).2.1)
      (case side7 => repeat (first | exact (Kd.R_reads' HO347.out).2.2 | (with_reducible refine Kd.C_alloc ?_ _) | (with_reducible refine Kd.C_drewN ?_ _) | (with_reducible refine Kd.C_drew ?_)))
      (case side8 => exact (Kd.R_reads' HO347.out).2.1)
      (case side9 => repeat (first | exact (Kd.R_reads' HO351.out).2.2 | (with_reducible refine Kd.C_alloc ?_ _) | (with_reducible refine Kd.C_drewN ?_ _) | (with_reducible refine Kd.C_drew ?_)))
      (case side10 => exact (Kd.R_reads' HO351.out).2.1)
      (case side11 => repeat (first | exact (Kd.R_reads' HO354.out).2.2 | (with_reducible refine Kd.C_alloc ?_ _) | (with_reducible refine Kd.C_drewN ?_ _) | (with_reducible refine Kd.C_drew ?_)))
      (case side12 => exact (Kd.R_reads' HO354.out).2.1)
      (case side13 => repeat (first | exact (Kd.R_reads' HO357.out).2.2 | (with_reducible refine Kd.C_alloc ?_ _) | (with_reducible refine Kd.C_drewN ?_ _) | (with_reducible refine Kd.C_drew ?_)))
      (case side14 => exact (Kd.R_reads' HO357.out).2.1)
      (case side15 => repeat (first | exact (Kd.R_reads' HO360.out).2.2 | (with_reducible refine Kd.C_alloc ?_ _) | (with_reducible refine Kd.C_drewN ?_ _) | (with_reducible refine Kd.C_drew ?_)))
      (case side16 => exact (Kd.R_reads' HO360.out).2.1)
      rintro e w50 ⟨rfl, hb⟩
      refine ⟨_, rfl, ?_⟩
      have n0_ := Aside0.mk (Kd.R_below (by (with_reducible repeat (first | apply Kd.R_alloc | apply Kd.R_drewN | apply Kd.R_drew)); exact HO338.out) hb)
      have n1_ := Aside0.mk (Kd.R_below (by (with_reducible repeat (first | apply Kd.R_alloc | apply Kd.R_drewN | apply Kd.R_drew)); exact HO341.out) hb)
      have n2_ := Aside0.mk (Kd.R_below (by (with_reducible repeat (first | apply Kd.R_alloc | apply Kd.R_drewN | apply Kd.R_drew)); exact HO344.out) hb)
      have n3_ := Aside0.mk (Kd.R_below (by (with_reducible repeat (first | apply Kd.R_alloc | apply Kd.R_drewN | apply Kd.R_drew)); exact HO347.out) hb)
      have n4_ := Aside0.mk (Kd.R_below (by (with_reducible repeat (first | apply Kd.R_alloc | apply Kd.R_drewN | apply Kd.R_drew)); exact HO351.out) hb)
      have n5_ := Aside0.mk (Kd.R_below (by (with_reducible repeat (first | apply Kd.R_alloc | apply Kd.R_drewN | apply Kd.R_drew)); exact HO354.out) hb)
      have n6_ := Aside0.mk (Kd.R_below (by (with_reducible repeat (first | apply Kd.R_alloc | apply Kd.R_drewN | apply Kd.R_drew)); exact HO357.out) hb)
      have n7_ := Aside0.mk (Kd.R_below (by (with_reducible repeat (first | apply Kd.R_alloc | apply Kd.R_drewN | apply Kd.R_drew)); exact HO360.out) hb)
      have n8_ := Aside0.mk (blk_below (g := gb332) (o := .cells #[.slice A0_0 l0_0.length c0_0, .slice A0_1 l0_1.length c0_1, .slice A0_2 l0_2.length c0_2, .slice A0_3 l0_3.length c0_3, .string a0_4] 37 (0, 0)) (by (with_reducible repeat (first | refine blk_drewN ?_ _ | refine blk_drew ?_ | refine blk_alloc ?_ _)); exact BK332.out) hb)
      have n9_ := Aside0.mk (blk_below (g := gb333) (o := .cells #[.slice A1_0 l1_0.length c1_0, .slice A1_1 l1_1.length c1_1, .slice A1_2 l1_2.length c1_2, .slice A1_3 l1_3.length c1_3, .string a1_4] 37 (0, 0)) (by (with_reducible repeat (first | refine blk_drewN ?_ _ | refine blk_drew ?_ | refine blk_alloc ?_ _)); exact BK333.out) hb)
      have n10_ := Aside0.mk (below_step (by repeat (first | (with_reducible first | exact HB.out | apply below_alloc | apply pw_below_drewN | apply below_drew1 | refine below_set ?_ GE332.out | refine below_set ?_ GE333.out) | exact HB.out)) hb)
      clear HO338
      clear HO341
      clear HO344
      clear HO347
      clear HO351
      clear HO354
      clear HO357
      clear HO360
      clear BK332
      clear BK333
      clear HB
      have HO338 := n0_
      have HO341 := n1_
      have HO344 := n2_
      have HO347 := n3_
      have HO351 := n4_
      have HO354 := n5_
      have HO357 := n6_
      have HO360 := n7_
      have BK332 := n8_
      have BK333 := n9_
      have HB := n10_
      clear n0_ n1_ n2_ n3_ n4_ n5_ n6_ n7_ n8_ n9_ n10_
      (try clear hb)
      (try clear hb2)
      (try clear hk)
      (try clear hi)
      refine hK.out _ _ ⟨(blk_cell BK332.out 0).trans rfl, (blk_cell BK332.out 1).trans rfl, (blk_cell BK332.out 2).trans rfl, (blk_cell BK332.out 3).trans rfl, (blk_cell BK332.out 4).trans rfl, (blk_cell BK333.out 0).trans rfl, (blk_cell BK333.out 1).trans rfl, (blk_cell BK333.out 2).trans rfl, (blk_cell BK333.out 3).trans rfl, (blk_cell BK333.out 4).trans rfl⟩ (fun hHeld => ?_)
      clear hK K
      refine norm_ (a' := ?_) ?_ ?_
      rotate_left
      ·show Act.put _ (some 24) _ = _
       simp only [Act.put, List.setIfInBounds_toArray, List.set_cons_zero, List.set_cons_succ, i64_w, i32_w]
       rfl
      refine pure_ (i := 5) (N := some 6) (v := ?_) (a' := ?_) #[true, true, true, true, true, true] rfl rfl (by kernel_rfl) (fun _ _ _ h => h) (Or.inl ⟨by rfl, ?_⟩) ?_ ?_
      rotate_left
      ·intro w'
       go_simp
       with_reducible rfl
      rotate_left
      ·simp only [Act.put, List.setIfInBounds_toArray, List.set_cons_zero, List.set_cons_succ, i64_w, i32_w]; rfl
      refine done_ (by kernel_rfl) ?_
      have hcz51_0 : w50.cell? ⟨gb332, 0, none⟩ = some (.slice A0_0 l0_0.length c0_0) := (blk_cell BK332.out 0).trans rfl
      have hcz51_1 : w50.cell? ⟨gb332, 1, none⟩ = some (.slice A0_1 l0_1.length c0_1) := (blk_cell BK332.out 1).trans rfl
      have hcz51_2 : w50.cell? ⟨gb332, 2, none⟩ = some (.slice A0_2 l0_2.length c0_2) := (blk_cell BK332.out 2).trans rfl
      have hcz51_3 : w50.cell? ⟨gb332, 3, none⟩ = some (.slice A0_3 l0_3.length c0_3) := (blk_cell BK332.out 3).trans rfl
      have hcz51_4 : w50.cell? ⟨gb332, 4, none⟩ = some (.string a0_4) := (blk_cell BK332.out 4).trans rfl
      have hfz51_0 := blk_frozen BK332.out 0
      have hfz51_1 := blk_frozen BK332.out 1
      have hfz51_2 := blk_frozen BK332.out 2
      have hfz51_3 := blk_frozen BK332.out 3
      have hfz51_4 := blk_frozen BK332.out 4
      try go_wp2_with (first | ((with_reducible refine gate_callee (f := 13) rfl ?_); refine goesL_ (some 26) rfl rfl Try.func13 (by kernel_rfl) rfl #[.agg #[.slice A0_0 l0_0.length c0_0, .slice A0_1 l0_1.length c0_1, .slice A0_2 l0_2.length c0_2, .slice A0_3 l0_3.length c0_3, .string a0_4]] rfl (by (try simp only [List.map_toArray, List.map_cons, List.map_nil]); first | done | rfl | (simp only [List.length_drop, List.length_take]; rfl)) ?_; (with_reducible refine (laws_toDesk.calls k _ _ l0_0 _ _ l0_1 _ _ l0_2 _ _ l0_3 a0_4 t363 t366 t369 t372 t375 _ ?side1 ?side2 ?side3 ?side4 ?side5 ?side6 ?side7 ?side8 A22.out).mono ?_); (case side1 => repeat (first | exact (Kd.C_below HR0_0.out HB.out) | (with_reducible refine Kd.C_alloc ?_ _) | (with_reducible refine Kd.C_drewN ?_ _) | (with_reducible refine Kd.C_drew ?_))); (case side2 => exact HC0_0.out); (case side3 => repeat (first | exact (Kd.C_below HR0_1.out HB.out) | (with_reducible refine Kd.C_alloc ?_ _) | (with_reducible refine Kd.C_drewN ?_ _) | (with_reducible refine Kd.C_drew ?_))); (case side4 => exact HC0_1.out); (case side5 => repeat (first | exact (Kd.C_below HR0_2.out HB.out) | (with_reducible refine Kd.C_alloc ?_ _) | (with_reducible refine Kd.C_drewN ?_ _) | (with_reducible refine Kd.C_drew ?_))); (case side6 => exact HC0_2.out); (case side7 => repeat (first | exact (Kd.C_below HR0_3.out HB.out) | (with_reducible refine Kd.C_alloc ?_ _) | (with_reducible refine Kd.C_drewN ?_ _) | (with_reducible refine Kd.C_drew ?_))); (case side8 => exact HC0_3.out); rintro e w52 ⟨v364, v367, v370, v373, rfl, ho0, ho1, ho2, ho3, hb⟩; refine ⟨_, rfl, ?_⟩; have n0_ := Aside0.mk (Kd.R_mono (Kd.R_told (Kd.R_told (Kd.R_old (by (with_reducible repeat (first | apply Kd.R_alloc | apply Kd.R_drewN | apply Kd.R_drew)); exact HO338.out) hb) (Kd.R_base ho0)) (Kd.R_base ho1)) (fun _ h_ => h_.1)); have n1_ := Aside0.mk (Kd.R_mono (Kd.R_told (Kd.R_told (Kd.R_old (by (with_reducible repeat (first | apply Kd.R_alloc | apply Kd.R_drewN | apply Kd.R_drew)); exact HO341.out) hb) (Kd.R_base ho0)) (Kd.R_base ho1)) (fun _ h_ => h_.1)); have n2_ := Aside0.mk (Kd.R_elder' (by (with_reducible repeat (first | apply Kd.R_alloc | apply Kd.R_drewN | apply Kd.R_drew)); exact HO344.out) (Kd.R_base ho2) hb); have n3_ := Aside0.mk (Kd.R_elder' (by (with_reducible repeat (first | apply Kd.R_alloc | apply Kd.R_drewN | apply Kd.R_drew)); exact HO347.out) (Kd.R_base ho3) hb); have n4_ := Aside0.mk (Kd.R_mono (Kd.R_told (Kd.R_told (Kd.R_old (by (with_reducible repeat (first | apply Kd.R_alloc | apply Kd.R_drewN | apply Kd.R_drew)); exact HO351.out) hb) (Kd.R_base ho0)) (Kd.R_base ho1)) (fun _ h_ => h_.1)); have n5_ := Aside0.mk (Kd.R_mono (Kd.R_told (Kd.R_told (Kd.R_old (by (with_reducible repeat (first | apply Kd.R_alloc | apply Kd.R_drewN | apply Kd.R_drew)); exact HO354.out) hb) (Kd.R_base ho0)) (Kd.R_base ho1)) (fun _ h_ => h_.1)); have n6_ := Aside0.mk (Kd.R_elder' (by (with_reducible repeat (first | apply Kd.R_alloc | apply Kd.R_drewN | apply Kd.R_drew)); exact HO357.out) (Kd.R_base ho2) hb); have n7_ := Aside0.mk (Kd.R_elder' (by (with_reducible repeat (first | apply Kd.R_alloc | apply Kd.R_drewN | apply Kd.R_drew)); exact HO360.out) (Kd.R_base ho3) hb); have n8_ := Aside0.mk (Kd.R_lower (Kd.R_new' (Kd.R_new' (Kd.R_new' (Kd.R_new' ho0 (Kd.R_lt (by (with_reducible repeat (first | apply Kd.R_alloc | apply Kd.R_drewN | apply Kd.R_drew)); exact HO338.out))) (Kd.R_lt (by (with_reducible repeat (first | apply Kd.R_alloc | apply Kd.R_drewN | apply Kd.R_drew)); exact HO341.out))) (Kd.R_lt (by (with_reducible repeat (first | apply Kd.R_alloc | apply Kd.R_drewN | apply Kd.R_drew)); exact HO351.out))) (Kd.R_lt (by (with_reducible repeat (first | apply Kd.R_alloc | apply Kd.R_drewN | apply Kd.R_drew)); exact HO354.out))) (below_size (by repeat (first | (with_reducible first | exact HB.out | apply below_alloc | apply pw_below_drewN | apply below_drew1 | refine below_set ?_ GE332.out | refine below_set ?_ GE333.out) | exact HB.out)))); have n9_ := Aside0.mk (Kd.R_lower (Kd.R_new' (Kd.R_new' (Kd.R_new' (Kd.R_new' ho1 (Kd.R_lt (by (with_reducible repeat (first | apply Kd.R_alloc | apply Kd.R_drewN | apply Kd.R_drew)); exact HO338.out))) (Kd.R_lt (by (with_reducible repeat (first | apply Kd.R_alloc | apply Kd.R_drewN | apply Kd.R_drew)); exact HO341.out))) (Kd.R_lt (by (with_reducible repeat (first | apply Kd.R_alloc | apply Kd.R_drewN | apply Kd.R_drew)); exact HO351.out))) (Kd.R_lt (by (with_reducible repeat (first | apply Kd.R_alloc | apply Kd.R_drewN | apply Kd.R_drew)); exact HO354.out))) (below_size (by repeat (first | (with_reducible first | exact HB.out | apply below_alloc | apply pw_below_drewN | apply below_drew1 | refine below_set ?_ GE332.out | refine below_set ?_ GE333.out) | exact HB.out)))); have n10_ := Aside0.mk (Kd.R_lower (Kd.R_new' (Kd.R_new' ho2 (Kd.R_lt (by (with_reducible repeat (first | apply Kd.R_alloc | apply Kd.R_drewN | apply Kd.R_drew)); exact HO344.out))) (Kd.R_lt (by (with_reducible repeat (first | apply Kd.R_alloc | apply Kd.R_drewN | apply Kd.R_drew)); exact HO357.out))) (below_size (by repeat (first | (with_reducible first | exact HB.out | apply below_alloc | apply pw_below_drewN | apply below_drew1 | refine below_set ?_ GE332.out | refine below_set ?_ GE333.out) | exact HB.out)))); have n11_ := Aside0.mk (Kd.R_lower (Kd.R_new' (Kd.R_new' ho3 (Kd.R_lt (by (with_reducible repeat (first | apply Kd.R_alloc | apply Kd.R_drewN | apply Kd.R_drew)); exact HO347.out))) (Kd.R_lt (by (with_reducible repeat (first | apply Kd.R_alloc | apply Kd.R_drewN | apply Kd.R_drew)); exact HO360.out))) (below_size (by repeat (first | (with_reducible first | exact HB.out | apply below_alloc | apply pw_below_drewN | apply below_drew1 | refine below_set ?_ GE332.out | refine below_set ?_ GE333.out) | exact HB.out)))); have n12_ := Aside0.mk (blk_below (g := gb332) (o := .cells #[.slice A0_0 l0_0.length c0_0, .slice A0_1 l0_1.length c0_1, .slice A0_2 l0_2.length c0_2, .slice A0_3 l0_3.length c0_3, .string a0_4] 37 (0, 0)) (by (with_reducible repeat (first | refine blk_drewN ?_ _ | refine blk_drew ?_ | refine blk_alloc ?_ _)); exact BK332.out) hb); have n13_ := Aside0.mk (blk_below (g := gb333) (o := .cells #[.slice A1_0 l1_0.length c1_0, .slice A1_1 l1_1.length c1_1, .slice A1_2 l1_2.length c1_2, .slice A1_3 l1_3.length c1_3, .string a1_4] 37 (0, 0)) (by (with_reducible repeat (first | refine blk_drewN ?_ _ | refine blk_drew ?_ | refine blk_alloc ?_ _)); exact BK333.out) hb); have n14_ := Aside0.mk (below_step (by repeat (first | (with_reducible first | exact HB.out | apply below_alloc | apply pw_below_drewN | apply below_drew1 | refine below_set ?_ GE332.out | refine below_set ?_ GE333.out) | exact HB.out)) hb); clear HO338; clear HO341; clear HO344; clear HO347; clear HO351; clear HO354; clear HO357; clear HO360; clear BK332; clear BK333; clear HB; have HO338 := n0_; have HO341 := n1_; have HO344 := n2_; have HO347 := n3_; have HO351 := n4_; have HO354 := n5_; have HO357 := n6_; have HO360 := n7_; have HO365 := n8_; have HO368 := n9_; have HO371 := n10_; have HO374 := n11_; have BK332 := n12_; have BK333 := n13_; have HB := n14_; clear n0_ n1_ n2_ n3_ n4_ n5_ n6_ n7_ n8_ n9_ n10_ n11_ n12_ n13_ n14_; (try clear hb); (try clear hb2); (try clear hk); (try clear hi); (try clear ho0); (try clear ho1); (try clear ho2); (try clear ho3)) | ((with_reducible refine gate_dst (N := 7) rfl ?_); refine box_event ?hg (N := 7) ?hd (cs := #[.slice none 0 0, .slice none 0 0, .slice none 0 0, .slice none 0 0, .string (⟨#[]⟩ : ByteArray)]) (t := 28) ?hr ?_; (case hd => rfl); (case hg => rfl); (case hr => first | (go_simp; done) | (go_simp; rfl)); intro gb376 hg w53 hbox hb; have n0_ := Aside0.mk (Kd.R_below (by (with_reducible repeat (first | apply Kd.R_alloc | apply Kd.R_drewN | apply Kd.R_drew)); exact HO338.out) hb); have n1_ := Aside0.mk (Kd.R_below (by (with_reducible repeat (first | apply Kd.R_alloc | apply Kd.R_drewN | apply Kd.R_drew)); exact HO341.out) hb); have n2_ := Aside0.mk (Kd.R_below (by (with_reducible repeat (first | apply Kd.R_alloc | apply Kd.R_drewN | apply Kd.R_drew)); exact HO344.out) hb); have n3_ := Aside0.mk (Kd.R_below (by (with_reducible repeat (first | apply Kd.R_alloc | apply Kd.R_drewN | apply Kd.R_drew)); exact HO347.out) hb); have n4_ := Aside0.mk (Kd.R_below (by (with_reducible repeat (first | apply Kd.R_alloc | apply Kd.R_drewN | apply Kd.R_drew)); exact HO351.out) hb); have n5_ := Aside0.mk (Kd.R_below (by (with_reducible repeat (first | apply Kd.R_alloc | apply Kd.R_drewN | apply Kd.R_drew)); exact HO354.out) hb); have n6_ := Aside0.mk (Kd.R_below (by (with_reducible repeat (first | apply Kd.R_alloc | apply Kd.R_drewN | apply Kd.R_drew)); exact HO357.out) hb); have n7_ := Aside0.mk (Kd.R_below (by (with_reducible repeat (first | apply Kd.R_alloc | apply Kd.R_drewN | apply Kd.R_drew)); exact HO360.out) hb); have n8_ := Aside0.mk (Kd.R_below (by (with_reducible repeat (first | apply Kd.R_alloc | apply Kd.R_drewN | apply Kd.R_drew)); exact HO365.out) hb); have n9_ := Aside0.mk (Kd.R_below (by (with_reducible repeat (first | apply Kd.R_alloc | apply Kd.R_drewN | apply Kd.R_drew)); exact HO368.out) hb); have n10_ := Aside0.mk (Kd.R_below (by (with_reducible repeat (first | apply Kd.R_alloc | apply Kd.R_drewN | apply Kd.R_drew)); exact HO371.out) hb); have n11_ := Aside0.mk (Kd.R_below (by (with_reducible repeat (first | apply Kd.R_alloc | apply Kd.R_drewN | apply Kd.R_drew)); exact HO374.out) hb); have n12_ := Aside0.mk (blk_below (g := gb332) (o := .cells #[.slice A0_0 l0_0.length c0_0, .slice A0_1 l0_1.length c0_1, .slice A0_2 l0_2.length c0_2, .slice A0_3 l0_3.length c0_3, .string a0_4] 37 (0, 0)) (by (with_reducible repeat (first | refine blk_drewN ?_ _ | refine blk_drew ?_ | refine blk_alloc ?_ _)); exact BK332.out) hb); have n13_ := Aside0.mk (blk_below (g := gb333) (o := .cells #[.slice A1_0 l1_0.length c1_0, .slice A1_1 l1_1.length c1_1, .slice A1_2 l1_2.length c1_2, .slice A1_3 l1_3.length c1_3, .string a1_4] 37 (0, 0)) (by (with_reducible repeat (first | refine blk_drewN ?_ _ | refine blk_drew ?_ | refine blk_alloc ?_ _)); exact BK333.out) hb); have n14_ := Aside0.mk (below_step (by repeat (first | (with_reducible first | exact HB.out | apply below_alloc | apply pw_below_drewN | apply below_drew1 | refine below_set ?_ GE332.out | refine below_set ?_ GE333.out) | exact HB.out)) hb); have n15_ := Aside0.mk (hbox); have n16_ := Aside0.mk ((by rw [hg]; exact (below_size (by repeat (first | (with_reducible first | exact HB.out | apply below_alloc | apply pw_below_drewN | apply below_drew1 | refine below_set ?_ GE332.out | refine below_set ?_ GE333.out) | exact HB.out))) : w.heap.size ≤ gb376)); have n17_ := Aside0.mk ((by rw [hg]; exact (below_size (by repeat (first | (with_reducible first | exact HB.out | apply below_alloc | apply pw_below_drewN | apply below_drew1 | refine below_set ?_ GE332.out | refine below_set ?_ GE333.out) | exact HB.out))) : w.heap.size ≤ gb376)); have n18_ := Aside0.mk ((by rw [hg]; exact Nat.ne_of_lt (blk_lt (g := gb332) (o := .cells #[.slice A0_0 l0_0.length c0_0, .slice A0_1 l0_1.length c0_1, .slice A0_2 l0_2.length c0_2, .slice A0_3 l0_3.length c0_3, .string a0_4] 37 (0, 0)) (by (with_reducible repeat (first | refine blk_drewN ?_ _ | refine blk_drew ?_ | refine blk_alloc ?_ _)); exact BK332.out)) : gb332 ≠ gb376)); have n19_ := Aside0.mk ((by rw [hg]; exact Nat.ne_of_gt (blk_lt (g := gb332) (o := .cells #[.slice A0_0 l0_0.length c0_0, .slice A0_1 l0_1.length c0_1, .slice A0_2 l0_2.length c0_2, .slice A0_3 l0_3.length c0_3, .string a0_4] 37 (0, 0)) (by (with_reducible repeat (first | refine blk_drewN ?_ _ | refine blk_drew ?_ | refine blk_alloc ?_ _)); exact BK332.out)) : gb376 ≠ gb332)); have n20_ := Aside0.mk ((by rw [hg]; exact Nat.ne_of_lt (blk_lt (g := gb333) (o := .cells #[.slice A1_0 l1_0.length c1_0, .slice A1_1 l1_1.length c1_1, .slice A1_2 l1_2.length c1_2, .slice A1_3 l1_3.length c1_3, .string a1_4] 37 (0, 0)) (by (with_reducible repeat (first | refine blk_drewN ?_ _ | refine blk_drew ?_ | refine blk_alloc ?_ _)); exact BK333.out)) : gb333 ≠ gb376)); have n21_ := Aside0.mk ((by rw [hg]; exact Nat.ne_of_gt (blk_lt (g := gb333) (o := .cells #[.slice A1_0 l1_0.length c1_0, .slice A1_1 l1_1.length c1_1, .slice A1_2 l1_2.length c1_2, .slice A1_3 l1_3.length c1_3, .string a1_4] 37 (0, 0)) (by (with_reducible repeat (first | refine blk_drewN ?_ _ | refine blk_drew ?_ | refine blk_alloc ?_ _)); exact BK333.out)) : gb376 ≠ gb333)); clear HO338; clear HO341; clear HO344; clear HO347; clear HO351; clear HO354; clear HO357; clear HO360; clear HO365; clear HO368; clear HO371; clear HO374; clear BK332; clear BK333; clear HB; have HO338 := n0_; have HO341 := n1_; have HO344 := n2_; have HO347 := n3_; have HO351 := n4_; have HO354 := n5_; have HO357 := n6_; have HO360 := n7_; have HO365 := n8_; have HO368 := n9_; have HO371 := n10_; have HO374 := n11_; have BK332 := n12_; have BK333 := n13_; have HB := n14_; have BK376 := n15_; have GW376 := n16_; have GE376 := n17_; have NB332_376 := n18_; have NB376_332 := n19_; have NB333_376 := n20_; have NB376_333 := n21_; clear n0_ n1_ n2_ n3_ n4_ n5_ n6_ n7_ n8_ n9_ n10_ n11_ n12_ n13_ n14_ n15_ n16_ n17_ n18_ n19_ n20_ n21_; clear hb hbox hg; obtain ⟨Ao54, co54, eo54⟩ := Kd.R_slice HO365.out; subst eo54; have hnb55 := NB376_332.out; have hnc55 := NB332_376.out; have hnb56 := NB376_333.out; have hnc56 := NB333_376.out; have hcz57_0 : w53.cell? ⟨gb376, 0, none⟩ = some (.slice none 0 0) := (blk_cell BK376.out 0).trans rfl; have hcz57_1 : w53.cell? ⟨gb376, 1, none⟩ = some (.slice none 0 0) := (blk_cell BK376.out 1).trans rfl; have hcz57_2 : w53.cell? ⟨gb376, 2, none⟩ = some (.slice none 0 0) := (blk_cell BK376.out 2).trans rfl; have hcz57_3 : w53.cell? ⟨gb376, 3, none⟩ = some (.slice none 0 0) := (blk_cell BK376.out 3).trans rfl; have hcz57_4 : w53.cell? ⟨gb376, 4, none⟩ = some (.string (⟨#[]⟩ : ByteArray)) := (blk_cell BK376.out 4).trans rfl; have hfz57_0 := blk_frozen BK376.out 0; have hfz57_1 := blk_frozen BK376.out 1; have hfz57_2 := blk_frozen BK376.out 2; have hfz57_3 := blk_frozen BK376.out 3; have hfz57_4 := blk_frozen BK376.out 4; obtain ⟨Ao58, co58, eo58⟩ := Kd.R_slice HO368.out; subst eo58; obtain ⟨Ao59, co59, eo59⟩ := Kd.R_slice HO371.out; subst eo59; obtain ⟨Ao60, co60, eo60⟩ := Kd.R_slice HO374.out; subst eo60; have hcz61_0 : w53.cell? ⟨gb333, 0, none⟩ = some (.slice A1_0 l1_0.length c1_0) := (blk_cell BK333.out 0).trans rfl; have hcz61_1 : w53.cell? ⟨gb333, 1, none⟩ = some (.slice A1_1 l1_1.length c1_1) := (blk_cell BK333.out 1).trans rfl; have hcz61_2 : w53.cell? ⟨gb333, 2, none⟩ = some (.slice A1_2 l1_2.length c1_2) := (blk_cell BK333.out 2).trans rfl; have hcz61_3 : w53.cell? ⟨gb333, 3, none⟩ = some (.slice A1_3 l1_3.length c1_3) := (blk_cell BK333.out 3).trans rfl; have hcz61_4 : w53.cell? ⟨gb333, 4, none⟩ = some (.string a1_4) := (blk_cell BK333.out 4).trans rfl; have hfz61_0 := blk_frozen BK333.out 0; have hfz61_1 := blk_frozen BK333.out 1; have hfz61_2 := blk_frozen BK333.out 2; have hfz61_3 := blk_frozen BK333.out 3; have hfz61_4 := blk_frozen BK333.out 4) | ((with_reducible refine gate_callee (f := 13) rfl ?_); refine goesL_ (some 28) rfl rfl Try.func13 (by kernel_rfl) rfl #[.agg #[.slice A1_0 l1_0.length c1_0, .slice A1_1 l1_1.length c1_1, .slice A1_2 l1_2.length c1_2, .slice A1_3 l1_3.length c1_3, .string a1_4]] rfl (by (try simp only [List.map_toArray, List.map_cons, List.map_nil]); first | done | rfl | (simp only [List.length_drop, List.length_take]; rfl)) ?_; (with_reducible refine (laws_toDesk.calls k _ _ l1_0 _ _ l1_1 _ _ l1_2 _ _ l1_3 a1_4 t377 t380 t383 t386 t389 _ ?side1 ?side2 ?side3 ?side4 ?side5 ?side6 ?side7 ?side8 A23.out).mono ?_); (case side1 => exact Kd.C_below HR1_0.out (by repeat (first | (with_reducible first | exact HB.out | apply below_alloc | apply pw_below_drewN | apply below_drew1 | refine below_set ?_ GE332.out | refine below_set ?_ GE333.out | refine below_set ?_ GE376.out) | exact HB.out))); (case side2 => exact HC1_0.out); (case side3 => exact Kd.C_below HR1_1.out (by repeat (first | (with_reducible first | exact HB.out | apply below_alloc | apply pw_below_drewN | apply below_drew1 | refine below_set ?_ GE332.out | refine below_set ?_ GE333.out | refine below_set ?_ GE376.out) | exact HB.out))); (case side4 => exact HC1_1.out); (case side5 => exact Kd.C_below HR1_2.out (by repeat (first | (with_reducible first | exact HB.out | apply below_alloc | apply pw_below_drewN | apply below_drew1 | refine below_set ?_ GE332.out | refine below_set ?_ GE333.out | refine below_set ?_ GE376.out) | exact HB.out))); (case side6 => exact HC1_2.out); (case side7 => exact Kd.C_below HR1_3.out (by repeat (first | (with_reducible first | exact HB.out | apply below_alloc | apply pw_below_drewN | apply below_drew1 | refine below_set ?_ GE332.out | refine below_set ?_ GE333.out | refine below_set ?_ GE376.out) | exact HB.out))); (case side8 => exact HC1_3.out); rintro e w62 ⟨v378, v381, v384, v387, rfl, ho0, ho1, ho2, ho3, hb⟩; refine ⟨_, rfl, ?_⟩; have n0_ := Aside0.mk (Kd.R_mono (Kd.R_told (Kd.R_told (Kd.R_old (by (with_reducible repeat (first | apply Kd.R_alloc | apply Kd.R_drewN | apply Kd.R_drew)); exact (Kd.R_mono (Kd.R_far (p := ⟨gb376, 4, none⟩) (Kd.R_far (p := ⟨gb376, 3, none⟩) (Kd.R_far (p := ⟨gb376, 2, none⟩) (Kd.R_far (p := ⟨gb376, 1, none⟩) (Kd.R_far (p := ⟨gb376, 0, none⟩) (Kd.R_types HO338.out BK376.out (by decide)) (fun _ hk => hk.2) (.slice Ao54 t363.length co54)) (fun _ hk => hk.2) (.slice Ao58 t366.length co58)) (fun _ hk => hk.2) (.slice Ao59 t369.length co59)) (fun _ hk => hk.2) (.slice Ao60 t372.length co60)) (fun _ hk => hk.2) (.string t375)) (fun _ h_ => h_.1))) hb) (Kd.R_base ho0)) (Kd.R_base ho1)) (fun _ h_ => h_.1)); have n1_ := Aside0.mk (Kd.R_mono (Kd.R_told (Kd.R_told (Kd.R_old (by (with_reducible repeat (first | apply Kd.R_alloc | apply Kd.R_drewN | apply Kd.R_drew)); exact (Kd.R_mono (Kd.R_far (p := ⟨gb376, 4, none⟩) (Kd.R_far (p := ⟨gb376, 3, none⟩) (Kd.R_far (p := ⟨gb376, 2, none⟩) (Kd.R_far (p := ⟨gb376, 1, none⟩) (Kd.R_far (p := ⟨gb376, 0, none⟩) (Kd.R_types HO341.out BK376.out (by decide)) (fun _ hk => hk.2) (.slice Ao54 t363.length co54)) (fun _ hk => hk.2) (.slice Ao58 t366.length co58)) (fun _ hk => hk.2) (.slice Ao59 t369.length co59)) (fun _ hk => hk.2) (.slice Ao60 t372.length co60)) (fun _ hk => hk.2) (.string t375)) (fun _ h_ => h_.1))) hb) (Kd.R_base ho0)) (Kd.R_base ho1)) (fun _ h_ => h_.1)); have n2_ := Aside0.mk (Kd.R_elder' (by (with_reducible repeat (first | apply Kd.R_alloc | apply Kd.R_drewN | apply Kd.R_drew)); exact (Kd.R_mono (Kd.R_far (p := ⟨gb376, 4, none⟩) (Kd.R_far (p := ⟨gb376, 3, none⟩) (Kd.R_far (p := ⟨gb376, 2, none⟩) (Kd.R_far (p := ⟨gb376, 1, none⟩) (Kd.R_far (p := ⟨gb376, 0, none⟩) (Kd.R_types HO344.out BK376.out (by decide)) (fun _ hk => hk.2) (.slice Ao54 t363.length co54)) (fun _ hk => hk.2) (.slice Ao58 t366.length co58)) (fun _ hk => hk.2) (.slice Ao59 t369.length co59)) (fun _ hk => hk.2) (.slice Ao60 t372.length co60)) (fun _ hk => hk.2) (.string t375)) (fun _ h_ => h_.1))) (Kd.R_base ho2) hb); have n3_ := Aside0.mk (Kd.R_elder' (by (with_reducible repeat (first | apply Kd.R_alloc | apply Kd.R_drewN | apply Kd.R_drew)); exact (Kd.R_mono (Kd.R_far (p := ⟨gb376, 4, none⟩) (Kd.R_far (p := ⟨gb376, 3, none⟩) (Kd.R_far (p := ⟨gb376, 2, none⟩) (Kd.R_far (p := ⟨gb376, 1, none⟩) (Kd.R_far (p := ⟨gb376, 0, none⟩) (Kd.R_types HO347.out BK376.out (by decide)) (fun _ hk => hk.2) (.slice Ao54 t363.length co54)) (fun _ hk => hk.2) (.slice Ao58 t366.length co58)) (fun _ hk => hk.2) (.slice Ao59 t369.length co59)) (fun _ hk => hk.2) (.slice Ao60 t372.length co60)) (fun _ hk => hk.2) (.string t375)) (fun _ h_ => h_.1))) (Kd.R_base ho3) hb); have n4_ := Aside0.mk (Kd.R_mono (Kd.R_told (Kd.R_told (Kd.R_old (by (with_reducible repeat (first | apply Kd.R_alloc | apply Kd.R_drewN | apply Kd.R_drew)); exact (Kd.R_mono (Kd.R_far (p := ⟨gb376, 4, none⟩) (Kd.R_far (p := ⟨gb376, 3, none⟩) (Kd.R_far (p := ⟨gb376, 2, none⟩) (Kd.R_far (p := ⟨gb376, 1, none⟩) (Kd.R_far (p := ⟨gb376, 0, none⟩) (Kd.R_types HO351.out BK376.out (by decide)) (fun _ hk => hk.2) (.slice Ao54 t363.length co54)) (fun _ hk => hk.2) (.slice Ao58 t366.length co58)) (fun _ hk => hk.2) (.slice Ao59 t369.length co59)) (fun _ hk => hk.2) (.slice Ao60 t372.length co60)) (fun _ hk => hk.2) (.string t375)) (fun _ h_ => h_.1))) hb) (Kd.R_base ho0)) (Kd.R_base ho1)) (fun _ h_ => h_.1)); have n5_ := Aside0.mk (Kd.R_mono (Kd.R_told (Kd.R_told (Kd.R_old (by (with_reducible repeat (first | apply Kd.R_alloc | apply Kd.R_drewN | apply Kd.R_drew)); exact (Kd.R_mono (Kd.R_far (p := ⟨gb376, 4, none⟩) (Kd.R_far (p := ⟨gb376, 3, none⟩) (Kd.R_far (p := ⟨gb376, 2, none⟩) (Kd.R_far (p := ⟨gb376, 1, none⟩) (Kd.R_far (p := ⟨gb376, 0, none⟩) (Kd.R_types HO354.out BK376.out (by decide)) (fun _ hk => hk.2) (.slice Ao54 t363.length co54)) (fun _ hk => hk.2) (.slice Ao58 t366.length co58)) (fun _ hk => hk.2) (.slice Ao59 t369.length co59)) (fun _ hk => hk.2) (.slice Ao60 t372.length co60)) (fun _ hk => hk.2) (.string t375)) (fun _ h_ => h_.1))) hb) (Kd.R_base ho0)) (Kd.R_base ho1)) (fun _ h_ => h_.1)); have n6_ := Aside0.mk (Kd.R_elder' (by (with_reducible repeat (first | apply Kd.R_alloc | apply Kd.R_drewN | apply Kd.R_drew)); exact (Kd.R_mono (Kd.R_far (p := ⟨gb376, 4, none⟩) (Kd.R_far (p := ⟨gb376, 3, none⟩) (Kd.R_far (p := ⟨gb376, 2, none⟩) (Kd.R_far (p := ⟨gb376, 1, none⟩) (Kd.R_far (p := ⟨gb376, 0, none⟩) (Kd.R_types HO357.out BK376.out (by decide)) (fun _ hk => hk.2) (.slice Ao54 t363.length co54)) (fun _ hk => hk.2) (.slice Ao58 t366.length co58)) (fun _ hk => hk.2) (.slice Ao59 t369.length co59)) (fun _ hk => hk.2) (.slice Ao60 t372.length co60)) (fun _ hk => hk.2) (.string t375)) (fun _ h_ => h_.1))) (Kd.R_base ho2) hb); have n7_ := Aside0.mk (Kd.R_elder' (by (with_reducible repeat (first | apply Kd.R_alloc | apply Kd.R_drewN | apply Kd.R_drew)); exact (Kd.R_mono (Kd.R_far (p := ⟨gb376, 4, none⟩) (Kd.R_far (p := ⟨gb376, 3, none⟩) (Kd.R_far (p := ⟨gb376, 2, none⟩) (Kd.R_far (p := ⟨gb376, 1, none⟩) (Kd.R_far (p := ⟨gb376, 0, none⟩) (Kd.R_types HO360.out BK376.out (by decide)) (fun _ hk => hk.2) (.slice Ao54 t363.length co54)) (fun _ hk => hk.2) (.slice Ao58 t366.length co58)) (fun _ hk => hk.2) (.slice Ao59 t369.length co59)) (fun _ hk => hk.2) (.slice Ao60 t372.length co60)) (fun _ hk => hk.2) (.string t375)) (fun _ h_ => h_.1))) (Kd.R_base ho3) hb); have n8_ := Aside0.mk (Kd.R_mono (Kd.R_told (Kd.R_told (Kd.R_old (by (with_reducible repeat (first | apply Kd.R_alloc | apply Kd.R_drewN | apply Kd.R_drew)); exact (Kd.R_mono (Kd.R_far (p := ⟨gb376, 4, none⟩) (Kd.R_far (p := ⟨gb376, 3, none⟩) (Kd.R_far (p := ⟨gb376, 2, none⟩) (Kd.R_far (p := ⟨gb376, 1, none⟩) (Kd.R_far (p := ⟨gb376, 0, none⟩) (Kd.R_types HO365.out BK376.out (by decide)) (fun _ hk => hk.2) (.slice Ao54 t363.length co54)) (fun _ hk => hk.2) (.slice Ao58 t366.length co58)) (fun _ hk => hk.2) (.slice Ao59 t369.length co59)) (fun _ hk => hk.2) (.slice Ao60 t372.length co60)) (fun _ hk => hk.2) (.string t375)) (fun _ h_ => h_.1))) hb) (Kd.R_base ho0)) (Kd.R_base ho1)) (fun _ h_ => h_.1)); have n9_ := Aside0.mk (Kd.R_mono (Kd.R_told (Kd.R_told (Kd.R_old (by (with_reducible repeat (first | apply Kd.R_alloc | apply Kd.R_drewN | apply Kd.R_drew)); exact (Kd.R_mono (Kd.R_far (p := ⟨gb376, 4, none⟩) (Kd.R_far (p := ⟨gb376, 3, none⟩) (Kd.R_far (p := ⟨gb376, 2, none⟩) (Kd.R_far (p := ⟨gb376, 1, none⟩) (Kd.R_far (p := ⟨gb376, 0, none⟩) (Kd.R_types HO368.out BK376.out (by decide)) (fun _ hk => hk.2) (.slice Ao54 t363.length co54)) (fun _ hk => hk.2) (.slice Ao58 t366.length co58)) (fun _ hk => hk.2) (.slice Ao59 t369.length co59)) (fun _ hk => hk.2) (.slice Ao60 t372.length co60)) (fun _ hk => hk.2) (.string t375)) (fun _ h_ => h_.1))) hb) (Kd.R_base ho0)) (Kd.R_base ho1)) (fun _ h_ => h_.1)); have n10_ := Aside0.mk (Kd.R_elder' (by (with_reducible repeat (first | apply Kd.R_alloc | apply Kd.R_drewN | apply Kd.R_drew)); exact (Kd.R_mono (Kd.R_far (p := ⟨gb376, 4, none⟩) (Kd.R_far (p := ⟨gb376, 3, none⟩) (Kd.R_far (p := ⟨gb376, 2, none⟩) (Kd.R_far (p := ⟨gb376, 1, none⟩) (Kd.R_far (p := ⟨gb376, 0, none⟩) (Kd.R_types HO371.out BK376.out (by decide)) (fun _ hk => hk.2) (.slice Ao54 t363.length co54)) (fun _ hk => hk.2) (.slice Ao58 t366.length co58)) (fun _ hk => hk.2) (.slice Ao59 t369.length co59)) (fun _ hk => hk.2) (.slice Ao60 t372.length co60)) (fun _ hk => hk.2) (.string t375)) (fun _ h_ => h_.1))) (Kd.R_base ho2) hb); have n11_ := Aside0.mk (Kd.R_elder' (by (with_reducible repeat (first | apply Kd.R_alloc | apply Kd.R_drewN | apply Kd.R_drew)); exact (Kd.R_mono (Kd.R_far (p := ⟨gb376, 4, none⟩) (Kd.R_far (p := ⟨gb376, 3, none⟩) (Kd.R_far (p := ⟨gb376, 2, none⟩) (Kd.R_far (p := ⟨gb376, 1, none⟩) (Kd.R_far (p := ⟨gb376, 0, none⟩) (Kd.R_types HO374.out BK376.out (by decide)) (fun _ hk => hk.2) (.slice Ao54 t363.length co54)) (fun _ hk => hk.2) (.slice Ao58 t366.length co58)) (fun _ hk => hk.2) (.slice Ao59 t369.length co59)) (fun _ hk => hk.2) (.slice Ao60 t372.length co60)) (fun _ hk => hk.2) (.string t375)) (fun _ h_ => h_.1))) (Kd.R_base ho3) hb); have n12_ := Aside0.mk (Kd.R_lower (Kd.R_new' (Kd.R_new' (Kd.R_new' (Kd.R_new' (Kd.R_new' (Kd.R_new' ho0 (Kd.R_lt (by (with_reducible repeat (first | apply Kd.R_alloc | apply Kd.R_drewN | apply Kd.R_drew)); exact (Kd.R_mono (Kd.R_far (p := ⟨gb376, 4, none⟩) (Kd.R_far (p := ⟨gb376, 3, none⟩) (Kd.R_far (p := ⟨gb376, 2, none⟩) (Kd.R_far (p := ⟨gb376, 1, none⟩) (Kd.R_far (p := ⟨gb376, 0, none⟩) (Kd.R_types HO338.out BK376.out (by decide)) (fun _ hk => hk.2) (.slice Ao54 t363.length co54)) (fun _ hk => hk.2) (.slice Ao58 t366.length co58)) (fun _ hk => hk.2) (.slice Ao59 t369.length co59)) (fun _ hk => hk.2) (.slice Ao60 t372.length co60)) (fun _ hk => hk.2) (.string t375)) (fun _ h_ => h_.1))))) (Kd.R_lt (by (with_reducible repeat (first | apply Kd.R_alloc | apply Kd.R_drewN | apply Kd.R_drew)); exact (Kd.R_mono (Kd.R_far (p := ⟨gb376, 4, none⟩) (Kd.R_far (p := ⟨gb376, 3, none⟩) (Kd.R_far (p := ⟨gb376, 2, none⟩) (Kd.R_far (p := ⟨gb376, 1, none⟩) (Kd.R_far (p := ⟨gb376, 0, none⟩) (Kd.R_types HO341.out BK376.out (by decide)) (fun _ hk => hk.2) (.slice Ao54 t363.length co54)) (fun _ hk => hk.2) (.slice Ao58 t366.length co58)) (fun _ hk => hk.2) (.slice Ao59 t369.length co59)) (fun _ hk => hk.2) (.slice Ao60 t372.length co60)) (fun _ hk => hk.2) (.string t375)) (fun _ h_ => h_.1))))) (Kd.R_lt (by (with_reducible repeat (first | apply Kd.R_alloc | apply Kd.R_drewN | apply Kd.R_drew)); exact (Kd.R_mono (Kd.R_far (p := ⟨gb376, 4, none⟩) (Kd.R_far (p := ⟨gb376, 3, none⟩) (Kd.R_far (p := ⟨gb376, 2, none⟩) (Kd.R_far (p := ⟨gb376, 1, none⟩) (Kd.R_far (p := ⟨gb376, 0, none⟩) (Kd.R_types HO351.out BK376.out (by decide)) (fun _ hk => hk.2) (.slice Ao54 t363.length co54)) (fun _ hk => hk.2) (.slice Ao58 t366.length co58)) (fun _ hk => hk.2) (.slice Ao59 t369.length co59)) (fun _ hk => hk.2) (.slice Ao60 t372.length co60)) (fun _ hk => hk.2) (.string t375)) (fun _ h_ => h_.1))))) (Kd.R_lt (by (with_reducible repeat (first | apply Kd.R_alloc | apply Kd.R_drewN | apply Kd.R_drew)); exact (Kd.R_mono (Kd.R_far (p := ⟨gb376, 4, none⟩) (Kd.R_far (p := ⟨gb376, 3, none⟩) (Kd.R_far (p := ⟨gb376, 2, none⟩) (Kd.R_far (p := ⟨gb376, 1, none⟩) (Kd.R_far (p := ⟨gb376, 0, none⟩) (Kd.R_types HO354.out BK376.out (by decide)) (fun _ hk => hk.2) (.slice Ao54 t363.length co54)) (fun _ hk => hk.2) (.slice Ao58 t366.length co58)) (fun _ hk => hk.2) (.slice Ao59 t369.length co59)) (fun _ hk => hk.2) (.slice Ao60 t372.length co60)) (fun _ hk => hk.2) (.string t375)) (fun _ h_ => h_.1))))) (Kd.R_lt (by (with_reducible repeat (first | apply Kd.R_alloc | apply Kd.R_drewN | apply Kd.R_drew)); exact (Kd.R_mono (Kd.R_far (p := ⟨gb376, 4, none⟩) (Kd.R_far (p := ⟨gb376, 3, none⟩) (Kd.R_far (p := ⟨gb376, 2, none⟩) (Kd.R_far (p := ⟨gb376, 1, none⟩) (Kd.R_far (p := ⟨gb376, 0, none⟩) (Kd.R_types HO365.out BK376.out (by decide)) (fun _ hk => hk.2) (.slice Ao54 t363.length co54)) (fun _ hk => hk.2) (.slice Ao58 t366.length co58)) (fun _ hk => hk.2) (.slice Ao59 t369.length co59)) (fun _ hk => hk.2) (.slice Ao60 t372.length co60)) (fun _ hk => hk.2) (.string t375)) (fun _ h_ => h_.1))))) (Kd.R_lt (by (with_reducible repeat (first | apply Kd.R_alloc | apply Kd.R_drewN | apply Kd.R_drew)); exact (Kd.R_mono (Kd.R_far (p := ⟨gb376, 4, none⟩) (Kd.R_far (p := ⟨gb376, 3, none⟩) (Kd.R_far (p := ⟨gb376, 2, none⟩) (Kd.R_far (p := ⟨gb376, 1, none⟩) (Kd.R_far (p := ⟨gb376, 0, none⟩) (Kd.R_types HO368.out BK376.out (by decide)) (fun _ hk => hk.2) (.slice Ao54 t363.length co54)) (fun _ hk => hk.2) (.slice Ao58 t366.length co58)) (fun _ hk => hk.2) (.slice Ao59 t369.length co59)) (fun _ hk => hk.2) (.slice Ao60 t372.length co60)) (fun _ hk => hk.2) (.string t375)) (fun _ h_ => h_.1))))) (below_size (by repeat (first | (with_reducible first | exact HB.out | apply below_alloc | apply pw_below_drewN | apply below_drew1 | refine below_set ?_ GE332.out | refine below_set ?_ GE333.out | refine below_set ?_ GE376.out) | exact HB.out)))); have n13_ := Aside0.mk (Kd.R_lower (Kd.R_new' (Kd.R_new' (Kd.R_new' (Kd.R_new' (Kd.R_new' (Kd.R_new' ho1 (Kd.R_lt (by (with_reducible repeat (first | apply Kd.R_alloc | apply Kd.R_drewN | apply Kd.R_drew)); exact (Kd.R_mono (Kd.R_far (p := ⟨gb376, 4, none⟩) (Kd.R_far (p := ⟨gb376, 3, none⟩) (Kd.R_far (p := ⟨gb376, 2, none⟩) (Kd.R_far (p := ⟨gb376, 1, none⟩) (Kd.R_far (p := ⟨gb376, 0, none⟩) (Kd.R_types HO338.out BK376.out (by decide)) (fun _ hk => hk.2) (.slice Ao54 t363.length co54)) (fun _ hk => hk.2) (.slice Ao58 t366.length co58)) (fun _ hk => hk.2) (.slice Ao59 t369.length co59)) (fun _ hk => hk.2) (.slice Ao60 t372.length co60)) (fun _ hk => hk.2) (.string t375)) (fun _ h_ => h_.1))))) (Kd.R_lt (by (with_reducible repeat (first | apply Kd.R_alloc | apply Kd.R_drewN | apply Kd.R_drew)); exact (Kd.R_mono (Kd.R_far (p := ⟨gb376, 4, none⟩) (Kd.R_far (p := ⟨gb376, 3, none⟩) (Kd.R_far (p := ⟨gb376, 2, none⟩) (Kd.R_far (p := ⟨gb376, 1, none⟩) (Kd.R_far (p := ⟨gb376, 0, none⟩) (Kd.R_types HO341.out BK376.out (by decide)) (fun _ hk => hk.2) (.slice Ao54 t363.length co54)) (fun _ hk => hk.2) (.slice Ao58 t366.length co58)) (fun _ hk => hk.2) (.slice Ao59 t369.length co59)) (fun _ hk => hk.2) (.slice Ao60 t372.length co60)) (fun _ hk => hk.2) (.string t375)) (fun _ h_ => h_.1))))) (Kd.R_lt (by (with_reducible repeat (first | apply Kd.R_alloc | apply Kd.R_drewN | apply Kd.R_drew)); exact (Kd.R_mono (Kd.R_far (p := ⟨gb376, 4, none⟩) (Kd.R_far (p := ⟨gb376, 3, none⟩) (Kd.R_far (p := ⟨gb376, 2, none⟩) (Kd.R_far (p := ⟨gb376, 1, none⟩) (Kd.R_far (p := ⟨gb376, 0, none⟩) (Kd.R_types HO351.out BK376.out (by decide)) (fun _ hk => hk.2) (.slice Ao54 t363.length co54)) (fun _ hk => hk.2) (.slice Ao58 t366.length co58)) (fun _ hk => hk.2) (.slice Ao59 t369.length co59)) (fun _ hk => hk.2) (.slice Ao60 t372.length co60)) (fun _ hk => hk.2) (.string t375)) (fun _ h_ => h_.1))))) (Kd.R_lt (by (with_reducible repeat (first | apply Kd.R_alloc | apply Kd.R_drewN | apply Kd.R_drew)); exact (Kd.R_mono (Kd.R_far (p := ⟨gb376, 4, none⟩) (Kd.R_far (p := ⟨gb376, 3, none⟩) (Kd.R_far (p := ⟨gb376, 2, none⟩) (Kd.R_far (p := ⟨gb376, 1, none⟩) (Kd.R_far (p := ⟨gb376, 0, none⟩) (Kd.R_types HO354.out BK376.out (by decide)) (fun _ hk => hk.2) (.slice Ao54 t363.length co54)) (fun _ hk => hk.2) (.slice Ao58 t366.length co58)) (fun _ hk => hk.2) (.slice Ao59 t369.length co59)) (fun _ hk => hk.2) (.slice Ao60 t372.length co60)) (fun _ hk => hk.2) (.string t375)) (fun _ h_ => h_.1))))) (Kd.R_lt (by (with_reducible repeat (first | apply Kd.R_alloc | apply Kd.R_drewN | apply Kd.R_drew)); exact (Kd.R_mono (Kd.R_far (p := ⟨gb376, 4, none⟩) (Kd.R_far (p := ⟨gb376, 3, none⟩) (Kd.R_far (p := ⟨gb376, 2, none⟩) (Kd.R_far (p := ⟨gb376, 1, none⟩) (Kd.R_far (p := ⟨gb376, 0, none⟩) (Kd.R_types HO365.out BK376.out (by decide)) (fun _ hk => hk.2) (.slice Ao54 t363.length co54)) (fun _ hk => hk.2) (.slice Ao58 t366.length co58)) (fun _ hk => hk.2) (.slice Ao59 t369.length co59)) (fun _ hk => hk.2) (.slice Ao60 t372.length co60)) (fun _ hk => hk.2) (.string t375)) (fun _ h_ => h_.1))))) (Kd.R_lt (by (with_reducible repeat (first | apply Kd.R_alloc | apply Kd.R_drewN | apply Kd.R_drew)); exact (Kd.R_mono (Kd.R_far (p := ⟨gb376, 4, none⟩) (Kd.R_far (p := ⟨gb376, 3, none⟩) (Kd.R_far (p := ⟨gb376, 2, none⟩) (Kd.R_far (p := ⟨gb376, 1, none⟩) (Kd.R_far (p := ⟨gb376, 0, none⟩) (Kd.R_types HO368.out BK376.out (by decide)) (fun _ hk => hk.2) (.slice Ao54 t363.length co54)) (fun _ hk => hk.2) (.slice Ao58 t366.length co58)) (fun _ hk => hk.2) (.slice Ao59 t369.length co59)) (fun _ hk => hk.2) (.slice Ao60 t372.length co60)) (fun _ hk => hk.2) (.string t375)) (fun _ h_ => h_.1))))) (below_size (by repeat (first | (with_reducible first | exact HB.out | apply below_alloc | apply pw_below_drewN | apply below_drew1 | refine below_set ?_ GE332.out | refine below_set ?_ GE333.out | refine below_set ?_ GE376.out) | exact HB.out)))); have n14_ := Aside0.mk (Kd.R_lower (Kd.R_new' (Kd.R_new' (Kd.R_new' ho2 (Kd.R_lt (by (with_reducible repeat (first | apply Kd.R_alloc | apply Kd.R_drewN | apply Kd.R_drew)); exact (Kd.R_mono (Kd.R_far (p := ⟨gb376, 4, none⟩) (Kd.R_far (p := ⟨gb376, 3, none⟩) (Kd.R_far (p := ⟨gb376, 2, none⟩) (Kd.R_far (p := ⟨gb376, 1, none⟩) (Kd.R_far (p := ⟨gb376, 0, none⟩) (Kd.R_types HO344.out BK376.out (by decide)) (fun _ hk => hk.2) (.slice Ao54 t363.length co54)) (fun _ hk => hk.2) (.slice Ao58 t366.length co58)) (fun _ hk => hk.2) (.slice Ao59 t369.length co59)) (fun _ hk => hk.2) (.slice Ao60 t372.length co60)) (fun _ hk => hk.2) (.string t375)) (fun _ h_ => h_.1))))) (Kd.R_lt (by (with_reducible repeat (first | apply Kd.R_alloc | apply Kd.R_drewN | apply Kd.R_drew)); exact (Kd.R_mono (Kd.R_far (p := ⟨gb376, 4, none⟩) (Kd.R_far (p := ⟨gb376, 3, none⟩) (Kd.R_far (p := ⟨gb376, 2, none⟩) (Kd.R_far (p := ⟨gb376, 1, none⟩) (Kd.R_far (p := ⟨gb376, 0, none⟩) (Kd.R_types HO357.out BK376.out (by decide)) (fun _ hk => hk.2) (.slice Ao54 t363.length co54)) (fun _ hk => hk.2) (.slice Ao58 t366.length co58)) (fun _ hk => hk.2) (.slice Ao59 t369.length co59)) (fun _ hk => hk.2) (.slice Ao60 t372.length co60)) (fun _ hk => hk.2) (.string t375)) (fun _ h_ => h_.1))))) (Kd.R_lt (by (with_reducible repeat (first | apply Kd.R_alloc | apply Kd.R_drewN | apply Kd.R_drew)); exact (Kd.R_mono (Kd.R_far (p := ⟨gb376, 4, none⟩) (Kd.R_far (p := ⟨gb376, 3, none⟩) (Kd.R_far (p := ⟨gb376, 2, none⟩) (Kd.R_far (p := ⟨gb376, 1, none⟩) (Kd.R_far (p := ⟨gb376, 0, none⟩) (Kd.R_types HO371.out BK376.out (by decide)) (fun _ hk => hk.2) (.slice Ao54 t363.length co54)) (fun _ hk => hk.2) (.slice Ao58 t366.length co58)) (fun _ hk => hk.2) (.slice Ao59 t369.length co59)) (fun _ hk => hk.2) (.slice Ao60 t372.length co60)) (fun _ hk => hk.2) (.string t375)) (fun _ h_ => h_.1))))) (below_size (by repeat (first | (with_reducible first | exact HB.out | apply below_alloc | apply pw_below_drewN | apply below_drew1 | refine below_set ?_ GE332.out | refine below_set ?_ GE333.out | refine below_set ?_ GE376.out) | exact HB.out)))); have n15_ := Aside0.mk (Kd.R_lower (Kd.R_new' (Kd.R_new' (Kd.R_new' ho3 (Kd.R_lt (by (with_reducible repeat (first | apply Kd.R_alloc | apply Kd.R_drewN | apply Kd.R_drew)); exact (Kd.R_mono (Kd.R_far (p := ⟨gb376, 4, none⟩) (Kd.R_far (p := ⟨gb376, 3, none⟩) (Kd.R_far (p := ⟨gb376, 2, none⟩) (Kd.R_far (p := ⟨gb376, 1, none⟩) (Kd.R_far (p := ⟨gb376, 0, none⟩) (Kd.R_types HO347.out BK376.out (by decide)) (fun _ hk => hk.2) (.slice Ao54 t363.length co54)) (fun _ hk => hk.2) (.slice Ao58 t366.length co58)) (fun _ hk => hk.2) (.slice Ao59 t369.length co59)) (fun _ hk => hk.2) (.slice Ao60 t372.length co60)) (fun _ hk => hk.2) (.string t375)) (fun _ h_ => h_.1))))) (Kd.R_lt (by (with_reducible repeat (first | apply Kd.R_alloc | apply Kd.R_drewN | apply Kd.R_drew)); exact (Kd.R_mono (Kd.R_far (p := ⟨gb376, 4, none⟩) (Kd.R_far (p := ⟨gb376, 3, none⟩) (Kd.R_far (p := ⟨gb376, 2, none⟩) (Kd.R_far (p := ⟨gb376, 1, none⟩) (Kd.R_far (p := ⟨gb376, 0, none⟩) (Kd.R_types HO360.out BK376.out (by decide)) (fun _ hk => hk.2) (.slice Ao54 t363.length co54)) (fun _ hk => hk.2) (.slice Ao58 t366.length co58)) (fun _ hk => hk.2) (.slice Ao59 t369.length co59)) (fun _ hk => hk.2) (.slice Ao60 t372.length co60)) (fun _ hk => hk.2) (.string t375)) (fun _ h_ => h_.1))))) (Kd.R_lt (by (with_reducible repeat (first | apply Kd.R_alloc | apply Kd.R_drewN | apply Kd.R_drew)); exact (Kd.R_mono (Kd.R_far (p := ⟨gb376, 4, none⟩) (Kd.R_far (p := ⟨gb376, 3, none⟩) (Kd.R_far (p := ⟨gb376, 2, none⟩) (Kd.R_far (p := ⟨gb376, 1, none⟩) (Kd.R_far (p := ⟨gb376, 0, none⟩) (Kd.R_types HO374.out BK376.out (by decide)) (fun _ hk => hk.2) (.slice Ao54 t363.length co54)) (fun _ hk => hk.2) (.slice Ao58 t366.length co58)) (fun _ hk => hk.2) (.slice Ao59 t369.length co59)) (fun _ hk => hk.2) (.slice Ao60 t372.length co60)) (fun _ hk => hk.2) (.string t375)) (fun _ h_ => h_.1))))) (below_size (by repeat (first | (with_reducible first | exact HB.out | apply below_alloc | apply pw_below_drewN | apply below_drew1 | refine below_set ?_ GE332.out | refine below_set ?_ GE333.out | refine below_set ?_ GE376.out) | exact HB.out)))); have n16_ := Aside0.mk (blk_below (g := gb332) (o := .cells #[.slice A0_0 l0_0.length c0_0, .slice A0_1 l0_1.length c0_1, .slice A0_2 l0_2.length c0_2, .slice A0_3 l0_3.length c0_3, .string a0_4] 37 (0, 0)) (by (with_reducible repeat (first | refine blk_drewN ?_ _ | refine blk_drew ?_ | refine blk_alloc ?_ _)); refine blk_far ?_ NB332_376.out _; (with_reducible repeat (first | refine blk_drewN ?_ _ | refine blk_drew ?_ | refine blk_alloc ?_ _)); refine blk_far ?_ NB332_376.out _; (with_reducible repeat (first | refine blk_drewN ?_ _ | refine blk_drew ?_ | refine blk_alloc ?_ _)); refine blk_far ?_ NB332_376.out _; (with_reducible repeat (first | refine blk_drewN ?_ _ | refine blk_drew ?_ | refine blk_alloc ?_ _)); refine blk_far ?_ NB332_376.out _; (with_reducible repeat (first | refine blk_drewN ?_ _ | refine blk_drew ?_ | refine blk_alloc ?_ _)); refine blk_far ?_ NB332_376.out _; (with_reducible repeat (first | refine blk_drewN ?_ _ | refine blk_drew ?_ | refine blk_alloc ?_ _)); exact BK332.out) hb); have n17_ := Aside0.mk (blk_below (g := gb333) (o := .cells #[.slice A1_0 l1_0.length c1_0, .slice A1_1 l1_1.length c1_1, .slice A1_2 l1_2.length c1_2, .slice A1_3 l1_3.length c1_3, .string a1_4] 37 (0, 0)) (by (with_reducible repeat (first | refine blk_drewN ?_ _ | refine blk_drew ?_ | refine blk_alloc ?_ _)); refine blk_far ?_ NB333_376.out _; (with_reducible repeat (first | refine blk_drewN ?_ _ | refine blk_drew ?_ | refine blk_alloc ?_ _)); refine blk_far ?_ NB333_376.out _; (with_reducible repeat (first | refine blk_drewN ?_ _ | refine blk_drew ?_ | refine blk_alloc ?_ _)); refine blk_far ?_ NB333_376.out _; (with_reducible repeat (first | refine blk_drewN ?_ _ | refine blk_drew ?_ | refine blk_alloc ?_ _)); refine blk_far ?_ NB333_376.out _; (with_reducible repeat (first | refine blk_drewN ?_ _ | refine blk_drew ?_ | refine blk_alloc ?_ _)); refine blk_far ?_ NB333_376.out _; (with_reducible repeat (first | refine blk_drewN ?_ _ | refine blk_drew ?_ | refine blk_alloc ?_ _)); exact BK333.out) hb); have n18_ := Aside0.mk (blk_below (g := gb376) (o := .cells #[.slice Ao54 t363.length co54, .slice Ao58 t366.length co58, .slice Ao59 t369.length co59, .slice Ao60 t372.length co60, .string t375] 28 (0, 0)) (by (with_reducible repeat (first | refine blk_drewN ?_ _ | refine blk_drew ?_ | refine blk_alloc ?_ _)); refine blk_put (cs := #[.slice Ao54 t363.length co54, .slice Ao58 t366.length co58, .slice Ao59 t369.length co59, .slice Ao60 t372.length co60, .string (⟨#[]⟩ : ByteArray)]) ?_ 4 _ rfl; (with_reducible repeat (first | refine blk_drewN ?_ _ | refine blk_drew ?_ | refine blk_alloc ?_ _)); refine blk_put (cs := #[.slice Ao54 t363.length co54, .slice Ao58 t366.length co58, .slice Ao59 t369.length co59, .slice none 0 0, .string (⟨#[]⟩ : ByteArray)]) ?_ 3 _ rfl; (with_reducible repeat (first | refine blk_drewN ?_ _ | refine blk_drew ?_ | refine blk_alloc ?_ _)); refine blk_put (cs := #[.slice Ao54 t363.length co54, .slice Ao58 t366.length co58, .slice none 0 0, .slice none 0 0, .string (⟨#[]⟩ : ByteArray)]) ?_ 2 _ rfl; (with_reducible repeat (first | refine blk_drewN ?_ _ | refine blk_drew ?_ | refine blk_alloc ?_ _)); refine blk_put (cs := #[.slice Ao54 t363.length co54, .slice none 0 0, .slice none 0 0, .slice none 0 0, .string (⟨#[]⟩ : ByteArray)]) ?_ 1 _ rfl; (with_reducible repeat (first | refine blk_drewN ?_ _ | refine blk_drew ?_ | refine blk_alloc ?_ _)); refine blk_put (cs := #[.slice none 0 0, .slice none 0 0, .slice none 0 0, .slice none 0 0, .string (⟨#[]⟩ : ByteArray)]) ?_ 0 _ rfl; (with_reducible repeat (first | refine blk_drewN ?_ _ | refine blk_drew ?_ | refine blk_alloc ?_ _)); exact BK376.out) hb); have n19_ := Aside0.mk (below_step (by repeat (first | (with_reducible first | exact HB.out | apply below_alloc | apply pw_below_drewN | apply below_drew1 | refine below_set ?_ GE332.out | refine below_set ?_ GE333.out | refine below_set ?_ GE376.out) | exact HB.out)) hb); clear HO338; clear HO341; clear HO344; clear HO347; clear HO351; clear HO354; clear HO357; clear HO360; clear HO365; clear HO368; clear HO371; clear HO374; clear BK332; clear BK333; clear BK376; clear HB; have HO338 := n0_; have HO341 := n1_; have HO344 := n2_; have HO347 := n3_; have HO351 := n4_; have HO354 := n5_; have HO357 := n6_; have HO360 := n7_; have HO365 := n8_; have HO368 := n9_; have HO371 := n10_; have HO374 := n11_; have HO379 := n12_; have HO382 := n13_; have HO385 := n14_; have HO388 := n15_; have BK332 := n16_; have BK333 := n17_; have BK376 := n18_; have HB := n19_; clear n0_ n1_ n2_ n3_ n4_ n5_ n6_ n7_ n8_ n9_ n10_ n11_ n12_ n13_ n14_ n15_ n16_ n17_ n18_ n19_; (try clear hb); (try clear hb2); (try clear hk); (try clear hi); (try clear ho0); (try clear ho1); (try clear ho2); (try clear ho3)) | ((with_reducible refine gate_dst (N := 8) rfl ?_); refine box_event ?hg (N := 8) ?hd (cs := #[.slice none 0 0, .slice none 0 0, .slice none 0 0, .slice none 0 0, .string (⟨#[]⟩ : ByteArray)]) (t := 28) ?hr ?_; (case hd => rfl); (case hg => rfl); (case hr => first | (go_simp; done) | (go_simp; rfl)); intro gb390 hg w63 hbox hb; have n0_ := Aside0.mk (Kd.R_below (by (with_reducible repeat (first | apply Kd.R_alloc | apply Kd.R_drewN | apply Kd.R_drew)); exact HO338.out) hb); have n1_ := Aside0.mk (Kd.R_below (by (with_reducible repeat (first | apply Kd.R_alloc | apply Kd.R_drewN | apply Kd.R_drew)); exact HO341.out) hb); have n2_ := Aside0.mk (Kd.R_below (by (with_reducible repeat (first | apply Kd.R_alloc | apply Kd.R_drewN | apply Kd.R_drew)); exact HO344.out) hb); have n3_ := Aside0.mk (Kd.R_below (by (with_reducible repeat (first | apply Kd.R_alloc | apply Kd.R_drewN | apply Kd.R_drew)); exact HO347.out) hb); have n4_ := Aside0.mk (Kd.R_below (by (with_reducible repeat (first | apply Kd.R_alloc | apply Kd.R_drewN | apply Kd.R_drew)); exact HO351.out) hb); have n5_ := Aside0.mk (Kd.R_below (by (with_reducible repeat (first | apply Kd.R_alloc | apply Kd.R_drewN | apply Kd.R_drew)); exact HO354.out) hb); have n6_ := Aside0.mk (Kd.R_below (by (with_reducible repeat (first | apply Kd.R_alloc | apply Kd.R_drewN | apply Kd.R_drew)); exact HO357.out) hb); have n7_ := Aside0.mk (Kd.R_below (by (with_reducible repeat (first | apply Kd.R_alloc | apply Kd.R_drewN | apply Kd.R_drew)); exact HO360.out) hb); have n8_ := Aside0.mk (Kd.R_below (by (with_reducible repeat (first | apply Kd.R_alloc | apply Kd.R_drewN | apply Kd.R_drew)); exact HO365.out) hb); have n9_ := Aside0.mk (Kd.R_below (by (with_reducible repeat (first | apply Kd.R_alloc | apply Kd.R_drewN | apply Kd.R_drew)); exact HO368.out) hb); have n10_ := Aside0.mk (Kd.R_below (by (with_reducible repeat (first | apply Kd.R_alloc | apply Kd.R_drewN | apply Kd.R_drew)); exact HO371.out) hb); have n11_ := Aside0.mk (Kd.R_below (by (with_reducible repeat (first | apply Kd.R_alloc | apply Kd.R_drewN | apply Kd.R_drew)); exact HO374.out) hb); have n12_ := Aside0.mk (Kd.R_below (by (with_reducible repeat (first | apply Kd.R_alloc | apply Kd.R_drewN | apply Kd.R_drew)); exact HO379.out) hb); have n13_ := Aside0.mk (Kd.R_below (by (with_reducible repeat (first | apply Kd.R_alloc | apply Kd.R_drewN | apply Kd.R_drew)); exact HO382.out) hb); have n14_ := Aside0.mk (Kd.R_below (by (with_reducible repeat (first | apply Kd.R_alloc | apply Kd.R_drewN | apply Kd.R_drew)); exact HO385.out) hb); have n15_ := Aside0.mk (Kd.R_below (by (with_reducible repeat (first | apply Kd.R_alloc | apply Kd.R_drewN | apply Kd.R_drew)); exact HO388.out) hb); have n16_ := Aside0.mk (blk_below (g := gb332) (o := .cells #[.slice A0_0 l0_0.length c0_0, .slice A0_1 l0_1.length c0_1, .slice A0_2 l0_2.length c0_2, .slice A0_3 l0_3.length c0_3, .string a0_4] 37 (0, 0)) (by (with_reducible repeat (first | refine blk_drewN ?_ _ | refine blk_drew ?_ | refine blk_alloc ?_ _)); exact BK332.out) hb); have n17_ := Aside0.mk (blk_below (g := gb333) (o := .cells #[.slice A1_0 l1_0.length c1_0, .slice A1_1 l1_1.length c1_1, .slice A1_2 l1_2.length c1_2, .slice A1_3 l1_3.length c1_3, .string a1_4] 37 (0, 0)) (by (with_reducible repeat (first | refine blk_drewN ?_ _ | refine blk_drew ?_ | refine blk_alloc ?_ _)); exact BK333.out) hb); have n18_ := Aside0.mk (blk_below (g := gb376) (o := .cells #[.slice Ao54 t363.length co54, .slice Ao58 t366.length co58, .slice Ao59 t369.length co59, .slice Ao60 t372.length co60, .string t375] 28 (0, 0)) (by (with_reducible repeat (first | refine blk_drewN ?_ _ | refine blk_drew ?_ | refine blk_alloc ?_ _)); exact BK376.out) hb); have n19_ := Aside0.mk (below_step (by repeat (first | (with_reducible first | exact HB.out | apply below_alloc | apply pw_below_drewN | apply below_drew1 | refine below_set ?_ GE332.out | refine below_set ?_ GE333.out | refine below_set ?_ GE376.out) | exact HB.out)) hb); have n20_ := Aside0.mk (hbox); have n21_ := Aside0.mk ((by rw [hg]; exact (below_size (by repeat (first | (with_reducible first | exact HB.out | apply below_alloc | apply pw_below_drewN | apply below_drew1 | refine below_set ?_ GE332.out | refine below_set ?_ GE333.out | refine below_set ?_ GE376.out) | exact HB.out))) : w.heap.size ≤ gb390)); have n22_ := Aside0.mk ((by rw [hg]; exact (below_size (by repeat (first | (with_reducible first | exact HB.out | apply below_alloc | apply pw_below_drewN | apply below_drew1 | refine below_set ?_ GE332.out | refine below_set ?_ GE333.out | refine below_set ?_ GE376.out) | exact HB.out))) : w.heap.size ≤ gb390)); have n23_ := Aside0.mk ((by rw [hg]; exact Nat.ne_of_lt (blk_lt (g := gb332) (o := .cells #[.slice A0_0 l0_0.length c0_0, .slice A0_1 l0_1.length c0_1, .slice A0_2 l0_2.length c0_2, .slice A0_3 l0_3.length c0_3, .string a0_4] 37 (0, 0)) (by (with_reducible repeat (first | refine blk_drewN ?_ _ | refine blk_drew ?_ | refine blk_alloc ?_ _)); exact BK332.out)) : gb332 ≠ gb390)); have n24_ := Aside0.mk ((by rw [hg]; exact Nat.ne_of_gt (blk_lt (g := gb332) (o := .cells #[.slice A0_0 l0_0.length c0_0, .slice A0_1 l0_1.length c0_1, .slice A0_2 l0_2.length c0_2, .slice A0_3 l0_3.length c0_3, .string a0_4] 37 (0, 0)) (by (with_reducible repeat (first | refine blk_drewN ?_ _ | refine blk_drew ?_ | refine blk_alloc ?_ _)); exact BK332.out)) : gb390 ≠ gb332)); have n25_ := Aside0.mk ((by rw [hg]; exact Nat.ne_of_lt (blk_lt (g := gb333) (o := .cells #[.slice A1_0 l1_0.length c1_0, .slice A1_1 l1_1.length c1_1, .slice A1_2 l1_2.length c1_2, .slice A1_3 l1_3.length c1_3, .string a1_4] 37 (0, 0)) (by (with_reducible repeat (first | refine blk_drewN ?_ _ | refine blk_drew ?_ | refine blk_alloc ?_ _)); exact BK333.out)) : gb333 ≠ gb390)); have n26_ := Aside0.mk ((by rw [hg]; exact Nat.ne_of_gt (blk_lt (g := gb333) (o := .cells #[.slice A1_0 l1_0.length c1_0, .slice A1_1 l1_1.length c1_1, .slice A1_2 l1_2.length c1_2, .slice A1_3 l1_3.length c1_3, .string a1_4] 37 (0, 0)) (by (with_reducible repeat (first | refine blk_drewN ?_ _ | refine blk_drew ?_ | refine blk_alloc ?_ _)); exact BK333.out)) : gb390 ≠ gb333)); have n27_ := Aside0.mk ((by rw [hg]; exact Nat.ne_of_lt (blk_lt (g := gb376) (o := .cells #[.slice Ao54 t363.length co54, .slice Ao58 t366.length co58, .slice Ao59 t369.length co59, .slice Ao60 t372.length co60, .string t375] 28 (0, 0)) (by (with_reducible repeat (first | refine blk_drewN ?_ _ | refine blk_drew ?_ | refine blk_alloc ?_ _)); exact BK376.out)) : gb376 ≠ gb390)); have n28_ := Aside0.mk ((by rw [hg]; exact Nat.ne_of_gt (blk_lt (g := gb376) (o := .cells #[.slice Ao54 t363.length co54, .slice Ao58 t366.length co58, .slice Ao59 t369.length co59, .slice Ao60 t372.length co60, .string t375] 28 (0, 0)) (by (with_reducible repeat (first | refine blk_drewN ?_ _ | refine blk_drew ?_ | refine blk_alloc ?_ _)); exact BK376.out)) : gb390 ≠ gb376)); clear HO338; clear HO341; clear HO344; clear HO347; clear HO351; clear HO354; clear HO357; clear HO360; clear HO365; clear HO368; clear HO371; clear HO374; clear HO379; clear HO382; clear HO385; clear HO388; clear BK332; clear BK333; clear BK376; clear HB; have HO338 := n0_; have HO341 := n1_; have HO344 := n2_; have HO347 := n3_; have HO351 := n4_; have HO354 := n5_; have HO357 := n6_; have HO360 := n7_; have HO365 := n8_; have HO368 := n9_; have HO371 := n10_; have HO374 := n11_; have HO379 := n12_; have HO382 := n13_; have HO385 := n14_; have HO388 := n15_; have BK332 := n16_; have BK333 := n17_; have BK376 := n18_; have HB := n19_; have BK390 := n20_; have GW390 := n21_; have GE390 := n22_; have NB332_390 := n23_; have NB390_332 := n24_; have NB333_390 := n25_; have NB390_333 := n26_; have NB376_390 := n27_; have NB390_376 := n28_; clear n0_ n1_ n2_ n3_ n4_ n5_ n6_ n7_ n8_ n9_ n10_ n11_ n12_ n13_ n14_ n15_ n16_ n17_ n18_ n19_ n20_ n21_ n22_ n23_ n24_ n25_ n26_ n27_ n28_; clear hb hbox hg; obtain ⟨Ao64, co64, eo64⟩ := Kd.R_slice HO379.out; subst eo64; have hnb65 := NB390_332.out; have hnc65 := NB332_390.out; have hnb66 := NB390_333.out; have hnc66 := NB333_390.out; have hnb67 := NB390_376.out; have hnc67 := NB376_390.out; have hcz68_0 : w63.cell? ⟨gb390, 0, none⟩ = some (.slice none 0 0) := (blk_cell BK390.out 0).trans rfl; have hcz68_1 : w63.cell? ⟨gb390, 1, none⟩ = some (.slice none 0 0) := (blk_cell BK390.out 1).trans rfl; have hcz68_2 : w63.cell? ⟨gb390, 2, none⟩ = some (.slice none 0 0) := (blk_cell BK390.out 2).trans rfl; have hcz68_3 : w63.cell? ⟨gb390, 3, none⟩ = some (.slice none 0 0) := (blk_cell BK390.out 3).trans rfl; have hcz68_4 : w63.cell? ⟨gb390, 4, none⟩ = some (.string (⟨#[]⟩ : ByteArray)) := (blk_cell BK390.out 4).trans rfl; have hfz68_0 := blk_frozen BK390.out 0; have hfz68_1 := blk_frozen BK390.out 1; have hfz68_2 := blk_frozen BK390.out 2; have hfz68_3 := blk_frozen BK390.out 3; have hfz68_4 := blk_frozen BK390.out 4; obtain ⟨Ao69, co69, eo69⟩ := Kd.R_slice HO382.out; subst eo69; obtain ⟨Ao70, co70, eo70⟩ := Kd.R_slice HO385.out; subst eo70; obtain ⟨Ao71, co71, eo71⟩ := Kd.R_slice HO388.out; subst eo71; have hcz72_0 : w63.cell? ⟨gb376, 0, none⟩ = some (.slice Ao54 t363.length co54) := (blk_cell BK376.out 0).trans rfl; have hcz72_1 : w63.cell? ⟨gb376, 1, none⟩ = some (.slice Ao58 t366.length co58) := (blk_cell BK376.out 1).trans rfl; have hcz72_2 : w63.cell? ⟨gb376, 2, none⟩ = some (.slice Ao59 t369.length co59) := (blk_cell BK376.out 2).trans rfl; have hcz72_3 : w63.cell? ⟨gb376, 3, none⟩ = some (.slice Ao60 t372.length co60) := (blk_cell BK376.out 3).trans rfl; have hcz72_4 : w63.cell? ⟨gb376, 4, none⟩ = some (.string t375) := (blk_cell BK376.out 4).trans rfl; have hfz72_0 := blk_frozen BK376.out 0; have hfz72_1 := blk_frozen BK376.out 1; have hfz72_2 := blk_frozen BK376.out 2; have hfz72_3 := blk_frozen BK376.out 3; have hfz72_4 := blk_frozen BK376.out 4) | ((with_reducible refine gate_callee (f := 14) rfl ?_); refine goesL_ (some 31) rfl rfl Try.func14 (by kernel_rfl) rfl #[.agg #[.slice Ao54 t363.length co54, .slice Ao58 t366.length co58, .slice Ao59 t369.length co59, .slice Ao60 t372.length co60, .string t375], .agg #[.slice Ao64 t377.length co64, .slice Ao69 t380.length co69, .slice Ao70 t383.length co70, .slice Ao71 t386.length co71, .string t389]] rfl (by (try simp only [List.map_toArray, List.map_cons, List.map_nil]); first | done | rfl | (simp only [List.length_drop, List.length_take]; rfl)) ?_; (with_reducible refine (impl_SameDesk.calls k _ _ t363 _ _ t366 _ _ t369 _ _ t372 t375 _ _ t377 _ _ t380 _ _ t383 _ _ t386 t389 t391 _ ?side1 ?side2 ?side3 ?side4 ?side5 ?side6 ?side7 ?side8 ?side9 ?side10 ?side11 ?side12 ?side13 ?side14 ?side15 ?side16 A24.out).mono ?_); (case side1 => refine (Kd.R_reads' (e := 2) (base := w.heap.size) (ok := fun k_ => ((((((some k_ ≠ (.slice Ao58 t366.length co58 : Value).ownBlock ∧ some k_ ≠ (.slice Ao42 t336.length co42 : Value).ownBlock) ∧ some k_ ≠ (.slice Ao43 t339.length co43 : Value).ownBlock) ∧ some k_ ≠ (.slice Ao46 t349.length co46 : Value).ownBlock) ∧ some k_ ≠ (.slice Ao47 t352.length co47 : Value).ownBlock) ∧ some k_ ≠ (.slice Ao64 t377.length co64 : Value).ownBlock) ∧ some k_ ≠ (.slice Ao69 t380.length co69 : Value).ownBlock)) (n := t363.length) (c := co54) ?_).2.2; exact (by (with_reducible repeat (first | apply Kd.R_alloc | apply Kd.R_drewN | apply Kd.R_drew)); exact (Kd.R_mono (Kd.R_far (p := ⟨gb390, 4, none⟩) (Kd.R_far (p := ⟨gb390, 3, none⟩) (Kd.R_far (p := ⟨gb390, 2, none⟩) (Kd.R_far (p := ⟨gb390, 1, none⟩) (Kd.R_far (p := ⟨gb390, 0, none⟩) (Kd.R_types HO365.out BK390.out (by decide)) (fun _ hk => hk.2) (.slice Ao64 t377.length co64)) (fun _ hk => hk.2) (.slice Ao69 t380.length co69)) (fun _ hk => hk.2) (.slice Ao70 t383.length co70)) (fun _ hk => hk.2) (.slice Ao71 t386.length co71)) (fun _ hk => hk.2) (.string t389)) (fun _ h_ => h_.1)))); (case side2 => exact (Kd.R_reads' HO365.out).2.1); (case side3 => refine (Kd.R_reads' (e := 2) (base := w.heap.size) (ok := fun k_ => ((((((some k_ ≠ (.slice Ao54 t363.length co54 : Value).ownBlock ∧ some k_ ≠ (.slice Ao42 t336.length co42 : Value).ownBlock) ∧ some k_ ≠ (.slice Ao43 t339.length co43 : Value).ownBlock) ∧ some k_ ≠ (.slice Ao46 t349.length co46 : Value).ownBlock) ∧ some k_ ≠ (.slice Ao47 t352.length co47 : Value).ownBlock) ∧ some k_ ≠ (.slice Ao64 t377.length co64 : Value).ownBlock) ∧ some k_ ≠ (.slice Ao69 t380.length co69 : Value).ownBlock)) (n := t366.length) (c := co58) ?_).2.2; exact (by (with_reducible repeat (first | apply Kd.R_alloc | apply Kd.R_drewN | apply Kd.R_drew)); exact (Kd.R_mono (Kd.R_far (p := ⟨gb390, 4, none⟩) (Kd.R_far (p := ⟨gb390, 3, none⟩) (Kd.R_far (p := ⟨gb390, 2, none⟩) (Kd.R_far (p := ⟨gb390, 1, none⟩) (Kd.R_far (p := ⟨gb390, 0, none⟩) (Kd.R_types HO368.out BK390.out (by decide)) (fun _ hk => hk.2) (.slice Ao64 t377.length co64)) (fun _ hk => hk.2) (.slice Ao69 t380.length co69)) (fun _ hk => hk.2) (.slice Ao70 t383.length co70)) (fun _ hk => hk.2) (.slice Ao71 t386.length co71)) (fun _ hk => hk.2) (.string t389)) (fun _ h_ => h_.1)))); (case side4 => exact (Kd.R_reads' HO368.out).2.1); (case side5 => refine (Kd.R_reads' (e := 64) (base := w.heap.size) (ok := fun k_ => (((True ∧ some k_ ≠ (.slice Ao44 t342.length co44 : Value).ownBlock) ∧ some k_ ≠ (.slice Ao48 t355.length co48 : Value).ownBlock) ∧ some k_ ≠ (.slice Ao70 t383.length co70 : Value).ownBlock)) (n := t369.length) (c := co59) ?_).2.2; exact (by (with_reducible repeat (first | apply Kd.R_alloc | apply Kd.R_drewN | apply Kd.R_drew)); exact (Kd.R_mono (Kd.R_far (p := ⟨gb390, 4, none⟩) (Kd.R_far (p := ⟨gb390, 3, none⟩) (Kd.R_far (p := ⟨gb390, 2, none⟩) (Kd.R_far (p := ⟨gb390, 1, none⟩) (Kd.R_far (p := ⟨gb390, 0, none⟩) (Kd.R_types HO371.out BK390.out (by decide)) (fun _ hk => hk.2) (.slice Ao64 t377.length co64)) (fun _ hk => hk.2) (.slice Ao69 t380.length co69)) (fun _ hk => hk.2) (.slice Ao70 t383.length co70)) (fun _ hk => hk.2) (.slice Ao71 t386.length co71)) (fun _ hk => hk.2) (.string t389)) (fun _ h_ => h_.1)))); (case side6 => exact (Kd.R_reads' HO371.out).2.1); (case side7 => refine (Kd.R_reads' (e := 99) (base := w.heap.size) (ok := fun k_ => (((True ∧ some k_ ≠ (.slice Ao45 t345.length co45 : Value).ownBlock) ∧ some k_ ≠ (.slice Ao49 t358.length co49 : Value).ownBlock) ∧ some k_ ≠ (.slice Ao71 t386.length co71 : Value).ownBlock)) (n := t372.length) (c := co60) ?_).2.2; exact (by (with_reducible repeat (first | apply Kd.R_alloc | apply Kd.R_drewN | apply Kd.R_drew)); exact (Kd.R_mono (Kd.R_far (p := ⟨gb390, 4, none⟩) (Kd.R_far (p := ⟨gb390, 3, none⟩) (Kd.R_far (p := ⟨gb390, 2, none⟩) (Kd.R_far (p := ⟨gb390, 1, none⟩) (Kd.R_far (p := ⟨gb390, 0, none⟩) (Kd.R_types HO374.out BK390.out (by decide)) (fun _ hk => hk.2) (.slice Ao64 t377.length co64)) (fun _ hk => hk.2) (.slice Ao69 t380.length co69)) (fun _ hk => hk.2) (.slice Ao70 t383.length co70)) (fun _ hk => hk.2) (.slice Ao71 t386.length co71)) (fun _ hk => hk.2) (.string t389)) (fun _ h_ => h_.1)))); (case side8 => exact (Kd.R_reads' HO374.out).2.1); (case side9 => refine (Kd.R_reads' (e := 2) (base := w.heap.size) (ok := fun k_ => ((((((some k_ ≠ (.slice Ao69 t380.length co69 : Value).ownBlock ∧ some k_ ≠ (.slice Ao42 t336.length co42 : Value).ownBlock) ∧ some k_ ≠ (.slice Ao43 t339.length co43 : Value).ownBlock) ∧ some k_ ≠ (.slice Ao46 t349.length co46 : Value).ownBlock) ∧ some k_ ≠ (.slice Ao47 t352.length co47 : Value).ownBlock) ∧ some k_ ≠ (.slice Ao54 t363.length co54 : Value).ownBlock) ∧ some k_ ≠ (.slice Ao58 t366.length co58 : Value).ownBlock)) (n := t377.length) (c := co64) ?_).2.2; exact (by (with_reducible repeat (first | apply Kd.R_alloc | apply Kd.R_drewN | apply Kd.R_drew)); exact (Kd.R_mono (Kd.R_far (p := ⟨gb390, 4, none⟩) (Kd.R_far (p := ⟨gb390, 3, none⟩) (Kd.R_far (p := ⟨gb390, 2, none⟩) (Kd.R_far (p := ⟨gb390, 1, none⟩) (Kd.R_far (p := ⟨gb390, 0, none⟩) (Kd.R_types HO379.out BK390.out (by decide)) (fun _ hk => hk.2) (.slice Ao64 t377.length co64)) (fun _ hk => hk.2) (.slice Ao69 t380.length co69)) (fun _ hk => hk.2) (.slice Ao70 t383.length co70)) (fun _ hk => hk.2) (.slice Ao71 t386.length co71)) (fun _ hk => hk.2) (.string t389)) (fun _ h_ => h_.1)))); (case side10 => exact (Kd.R_reads' HO379.out).2.1); (case side11 => refine (Kd.R_reads' (e := 2) (base := w.heap.size) (ok := fun k_ => ((((((some k_ ≠ (.slice Ao64 t377.length co64 : Value).ownBlock ∧ some k_ ≠ (.slice Ao42 t336.length co42 : Value).ownBlock) ∧ some k_ ≠ (.slice Ao43 t339.length co43 : Value).ownBlock) ∧ some k_ ≠ (.slice Ao46 t349.length co46 : Value).ownBlock) ∧ some k_ ≠ (.slice Ao47 t352.length co47 : Value).ownBlock) ∧ some k_ ≠ (.slice Ao54 t363.length co54 : Value).ownBlock) ∧ some k_ ≠ (.slice Ao58 t366.length co58 : Value).ownBlock)) (n := t380.length) (c := co69) ?_).2.2; exact (by (with_reducible repeat (first | apply Kd.R_alloc | apply Kd.R_drewN | apply Kd.R_drew)); exact (Kd.R_mono (Kd.R_far (p := ⟨gb390, 4, none⟩) (Kd.R_far (p := ⟨gb390, 3, none⟩) (Kd.R_far (p := ⟨gb390, 2, none⟩) (Kd.R_far (p := ⟨gb390, 1, none⟩) (Kd.R_far (p := ⟨gb390, 0, none⟩) (Kd.R_types HO382.out BK390.out (by decide)) (fun _ hk => hk.2) (.slice Ao64 t377.length co64)) (fun _ hk => hk.2) (.slice Ao69 t380.length co69)) (fun _ hk => hk.2) (.slice Ao70 t383.length co70)) (fun _ hk => hk.2) (.slice Ao71 t386.length co71)) (fun _ hk => hk.2) (.string t389)) (fun _ h_ => h_.1)))); (case side12 => exact (Kd.R_reads' HO382.out).2.1); (case side13 => refine (Kd.R_reads' (e := 64) (base := w.heap.size) (ok := fun k_ => (((True ∧ some k_ ≠ (.slice Ao44 t342.length co44 : Value).ownBlock) ∧ some k_ ≠ (.slice Ao48 t355.length co48 : Value).ownBlock) ∧ some k_ ≠ (.slice Ao59 t369.length co59 : Value).ownBlock)) (n := t383.length) (c := co70) ?_).2.2; exact (by (with_reducible repeat (first | apply Kd.R_alloc | apply Kd.R_drewN | apply Kd.R_drew)); exact (Kd.R_mono (Kd.R_far (p := ⟨gb390, 4, none⟩) (Kd.R_far (p := ⟨gb390, 3, none⟩) (Kd.R_far (p := ⟨gb390, 2, none⟩) (Kd.R_far (p := ⟨gb390, 1, none⟩) (Kd.R_far (p := ⟨gb390, 0, none⟩) (Kd.R_types HO385.out BK390.out (by decide)) (fun _ hk => hk.2) (.slice Ao64 t377.length co64)) (fun _ hk => hk.2) (.slice Ao69 t380.length co69)) (fun _ hk => hk.2) (.slice Ao70 t383.length co70)) (fun _ hk => hk.2) (.slice Ao71 t386.length co71)) (fun _ hk => hk.2) (.string t389)) (fun _ h_ => h_.1)))); (case side14 => exact (Kd.R_reads' HO385.out).2.1); (case side15 => refine (Kd.R_reads' (e := 99) (base := w.heap.size) (ok := fun k_ => (((True ∧ some k_ ≠ (.slice Ao45 t345.length co45 : Value).ownBlock) ∧ some k_ ≠ (.slice Ao49 t358.length co49 : Value).ownBlock) ∧ some k_ ≠ (.slice Ao60 t372.length co60 : Value).ownBlock)) (n := t386.length) (c := co71) ?_).2.2; exact (by (with_reducible repeat (first | apply Kd.R_alloc | apply Kd.R_drewN | apply Kd.R_drew)); exact (Kd.R_mono (Kd.R_far (p := ⟨gb390, 4, none⟩) (Kd.R_far (p := ⟨gb390, 3, none⟩) (Kd.R_far (p := ⟨gb390, 2, none⟩) (Kd.R_far (p := ⟨gb390, 1, none⟩) (Kd.R_far (p := ⟨gb390, 0, none⟩) (Kd.R_types HO388.out BK390.out (by decide)) (fun _ hk => hk.2) (.slice Ao64 t377.length co64)) (fun _ hk => hk.2) (.slice Ao69 t380.length co69)) (fun _ hk => hk.2) (.slice Ao70 t383.length co70)) (fun _ hk => hk.2) (.slice Ao71 t386.length co71)) (fun _ hk => hk.2) (.string t389)) (fun _ h_ => h_.1)))); (case side16 => exact (Kd.R_reads' HO388.out).2.1); rintro e w73 ⟨rfl, hb⟩; refine ⟨_, rfl, ?_⟩; have n0_ := Aside0.mk (Kd.R_below (by (with_reducible repeat (first | apply Kd.R_alloc | apply Kd.R_drewN | apply Kd.R_drew)); exact (Kd.R_mono (Kd.R_far (p := ⟨gb390, 4, none⟩) (Kd.R_far (p := ⟨gb390, 3, none⟩) (Kd.R_far (p := ⟨gb390, 2, none⟩) (Kd.R_far (p := ⟨gb390, 1, none⟩) (Kd.R_far (p := ⟨gb390, 0, none⟩) (Kd.R_types HO338.out BK390.out (by decide)) (fun _ hk => hk.2) (.slice Ao64 t377.length co64)) (fun _ hk => hk.2) (.slice Ao69 t380.length co69)) (fun _ hk => hk.2) (.slice Ao70 t383.length co70)) (fun _ hk => hk.2) (.slice Ao71 t386.length co71)) (fun _ hk => hk.2) (.string t389)) (fun _ h_ => h_.1))) hb); have n1_ := Aside0.mk (Kd.R_below (by (with_reducible repeat (first | apply Kd.R_alloc | apply Kd.R_drewN | apply Kd.R_drew)); exact (Kd.R_mono (Kd.R_far (p := ⟨gb390, 4, none⟩) (Kd.R_far (p := ⟨gb390, 3, none⟩) (Kd.R_far (p := ⟨gb390, 2, none⟩) (Kd.R_far (p := ⟨gb390, 1, none⟩) (Kd.R_far (p := ⟨gb390, 0, none⟩) (Kd.R_types HO341.out BK390.out (by decide)) (fun _ hk => hk.2) (.slice Ao64 t377.length co64)) (fun _ hk => hk.2) (.slice Ao69 t380.length co69)) (fun _ hk => hk.2) (.slice Ao70 t383.length co70)) (fun _ hk => hk.2) (.slice Ao71 t386.length co71)) (fun _ hk => hk.2) (.string t389)) (fun _ h_ => h_.1))) hb); have n2_ := Aside0.mk (Kd.R_below (by (with_reducible repeat (first | apply Kd.R_alloc | apply Kd.R_drewN | apply Kd.R_drew)); exact (Kd.R_mono (Kd.R_far (p := ⟨gb390, 4, none⟩) (Kd.R_far (p := ⟨gb390, 3, none⟩) (Kd.R_far (p := ⟨gb390, 2, none⟩) (Kd.R_far (p := ⟨gb390, 1, none⟩) (Kd.R_far (p := ⟨gb390, 0, none⟩) (Kd.R_types HO344.out BK390.out (by decide)) (fun _ hk => hk.2) (.slice Ao64 t377.length co64)) (fun _ hk => hk.2) (.slice Ao69 t380.length co69)) (fun _ hk => hk.2) (.slice Ao70 t383.length co70)) (fun _ hk => hk.2) (.slice Ao71 t386.length co71)) (fun _ hk => hk.2) (.string t389)) (fun _ h_ => h_.1))) hb); have n3_ := Aside0.mk (Kd.R_below (by (with_reducible repeat (first | apply Kd.R_alloc | apply Kd.R_drewN | apply Kd.R_drew)); exact (Kd.R_mono (Kd.R_far (p := ⟨gb390, 4, none⟩) (Kd.R_far (p := ⟨gb390, 3, none⟩) (Kd.R_far (p := ⟨gb390, 2, none⟩) (Kd.R_far (p := ⟨gb390, 1, none⟩) (Kd.R_far (p := ⟨gb390, 0, none⟩) (Kd.R_types HO347.out BK390.out (by decide)) (fun _ hk => hk.2) (.slice Ao64 t377.length co64)) (fun _ hk => hk.2) (.slice Ao69 t380.length co69)) (fun _ hk => hk.2) (.slice Ao70 t383.length co70)) (fun _ hk => hk.2) (.slice Ao71 t386.length co71)) (fun _ hk => hk.2) (.string t389)) (fun _ h_ => h_.1))) hb); have n4_ := Aside0.mk (Kd.R_below (by (with_reducible repeat (first | apply Kd.R_alloc | apply Kd.R_drewN | apply Kd.R_drew)); exact (Kd.R_mono (Kd.R_far (p := ⟨gb390, 4, none⟩) (Kd.R_far (p := ⟨gb390, 3, none⟩) (Kd.R_far (p := ⟨gb390, 2, none⟩) (Kd.R_far (p := ⟨gb390, 1, none⟩) (Kd.R_far (p := ⟨gb390, 0, none⟩) (Kd.R_types HO351.out BK390.out (by decide)) (fun _ hk => hk.2) (.slice Ao64 t377.length co64)) (fun _ hk => hk.2) (.slice Ao69 t380.length co69)) (fun _ hk => hk.2) (.slice Ao70 t383.length co70)) (fun _ hk => hk.2) (.slice Ao71 t386.length co71)) (fun _ hk => hk.2) (.string t389)) (fun _ h_ => h_.1))) hb); have n5_ := Aside0.mk (Kd.R_below (by (with_reducible repeat (first | apply Kd.R_alloc | apply Kd.R_drewN | apply Kd.R_drew)); exact (Kd.R_mono (Kd.R_far (p := ⟨gb390, 4, none⟩) (Kd.R_far (p := ⟨gb390, 3, none⟩) (Kd.R_far (p := ⟨gb390, 2, none⟩) (Kd.R_far (p := ⟨gb390, 1, none⟩) (Kd.R_far (p := ⟨gb390, 0, none⟩) (Kd.R_types HO354.out BK390.out (by decide)) (fun _ hk => hk.2) (.slice Ao64 t377.length co64)) (fun _ hk => hk.2) (.slice Ao69 t380.length co69)) (fun _ hk => hk.2) (.slice Ao70 t383.length co70)) (fun _ hk => hk.2) (.slice Ao71 t386.length co71)) (fun _ hk => hk.2) (.string t389)) (fun _ h_ => h_.1))) hb); have n6_ := Aside0.mk (Kd.R_below (by (with_reducible repeat (first | apply Kd.R_alloc | apply Kd.R_drewN | apply Kd.R_drew)); exact (Kd.R_mono (Kd.R_far (p := ⟨gb390, 4, none⟩) (Kd.R_far (p := ⟨gb390, 3, none⟩) (Kd.R_far (p := ⟨gb390, 2, none⟩) (Kd.R_far (p := ⟨gb390, 1, none⟩) (Kd.R_far (p := ⟨gb390, 0, none⟩) (Kd.R_types HO357.out BK390.out (by decide)) (fun _ hk => hk.2) (.slice Ao64 t377.length co64)) (fun _ hk => hk.2) (.slice Ao69 t380.length co69)) (fun _ hk => hk.2) (.slice Ao70 t383.length co70)) (fun _ hk => hk.2) (.slice Ao71 t386.length co71)) (fun _ hk => hk.2) (.string t389)) (fun _ h_ => h_.1))) hb); have n7_ := Aside0.mk (Kd.R_below (by (with_reducible repeat (first | apply Kd.R_alloc | apply Kd.R_drewN | apply Kd.R_drew)); exact (Kd.R_mono (Kd.R_far (p := ⟨gb390, 4, none⟩) (Kd.R_far (p := ⟨gb390, 3, none⟩) (Kd.R_far (p := ⟨gb390, 2, none⟩) (Kd.R_far (p := ⟨gb390, 1, none⟩) (Kd.R_far (p := ⟨gb390, 0, none⟩) (Kd.R_types HO360.out BK390.out (by decide)) (fun _ hk => hk.2) (.slice Ao64 t377.length co64)) (fun _ hk => hk.2) (.slice Ao69 t380.length co69)) (fun _ hk => hk.2) (.slice Ao70 t383.length co70)) (fun _ hk => hk.2) (.slice Ao71 t386.length co71)) (fun _ hk => hk.2) (.string t389)) (fun _ h_ => h_.1))) hb); have n8_ := Aside0.mk (Kd.R_below (by (with_reducible repeat (first | apply Kd.R_alloc | apply Kd.R_drewN | apply Kd.R_drew)); exact (Kd.R_mono (Kd.R_far (p := ⟨gb390, 4, none⟩) (Kd.R_far (p := ⟨gb390, 3, none⟩) (Kd.R_far (p := ⟨gb390, 2, none⟩) (Kd.R_far (p := ⟨gb390, 1, none⟩) (Kd.R_far (p := ⟨gb390, 0, none⟩) (Kd.R_types HO365.out BK390.out (by decide)) (fun _ hk => hk.2) (.slice Ao64 t377.length co64)) (fun _ hk => hk.2) (.slice Ao69 t380.length co69)) (fun _ hk => hk.2) (.slice Ao70 t383.length co70)) (fun _ hk => hk.2) (.slice Ao71 t386.length co71)) (fun _ hk => hk.2) (.string t389)) (fun _ h_ => h_.1))) hb); have n9_ := Aside0.mk (Kd.R_below (by (with_reducible repeat (first | apply Kd.R_alloc | apply Kd.R_drewN | apply Kd.R_drew)); exact (Kd.R_mono (Kd.R_far (p := ⟨gb390, 4, none⟩) (Kd.R_far (p := ⟨gb390, 3, none⟩) (Kd.R_far (p := ⟨gb390, 2, none⟩) (Kd.R_far (p := ⟨gb390, 1, none⟩) (Kd.R_far (p := ⟨gb390, 0, none⟩) (Kd.R_types HO368.out BK390.out (by decide)) (fun _ hk => hk.2) (.slice Ao64 t377.length co64)) (fun _ hk => hk.2) (.slice Ao69 t380.length co69)) (fun _ hk => hk.2) (.slice Ao70 t383.length co70)) (fun _ hk => hk.2) (.slice Ao71 t386.length co71)) (fun _ hk => hk.2) (.string t389)) (fun _ h_ => h_.1))) hb); have n10_ := Aside0.mk (Kd.R_below (by (with_reducible repeat (first | apply Kd.R_alloc | apply Kd.R_drewN | apply Kd.R_drew)); exact (Kd.R_mono (Kd.R_far (p := ⟨gb390, 4, none⟩) (Kd.R_far (p := ⟨gb390, 3, none⟩) (Kd.R_far (p := ⟨gb390, 2, none⟩) (Kd.R_far (p := ⟨gb390, 1, none⟩) (Kd.R_far (p := ⟨gb390, 0, none⟩) (Kd.R_types HO371.out BK390.out (by decide)) (fun _ hk => hk.2) (.slice Ao64 t377.length co64)) (fun _ hk => hk.2) (.slice Ao69 t380.length co69)) (fun _ hk => hk.2) (.slice Ao70 t383.length co70)) (fun _ hk => hk.2) (.slice Ao71 t386.length co71)) (fun _ hk => hk.2) (.string t389)) (fun _ h_ => h_.1))) hb); have n11_ := Aside0.mk (Kd.R_below (by (with_reducible repeat (first | apply Kd.R_alloc | apply Kd.R_drewN | apply Kd.R_drew)); exact (Kd.R_mono (Kd.R_far (p := ⟨gb390, 4, none⟩) (Kd.R_far (p := ⟨gb390, 3, none⟩) (Kd.R_far (p := ⟨gb390, 2, none⟩) (Kd.R_far (p := ⟨gb390, 1, none⟩) (Kd.R_far (p := ⟨gb390, 0, none⟩) (Kd.R_types HO374.out BK390.out (by decide)) (fun _ hk => hk.2) (.slice Ao64 t377.length co64)) (fun _ hk => hk.2) (.slice Ao69 t380.length co69)) (fun _ hk => hk.2) (.slice Ao70 t383.length co70)) (fun _ hk => hk.2) (.slice Ao71 t386.length co71)) (fun _ hk => hk.2) (.string t389)) (fun _ h_ => h_.1))) hb); have n12_ := Aside0.mk (Kd.R_below (by (with_reducible repeat (first | apply Kd.R_alloc | apply Kd.R_drewN | apply Kd.R_drew)); exact (Kd.R_mono (Kd.R_far (p := ⟨gb390, 4, none⟩) (Kd.R_far (p := ⟨gb390, 3, none⟩) (Kd.R_far (p := ⟨gb390, 2, none⟩) (Kd.R_far (p := ⟨gb390, 1, none⟩) (Kd.R_far (p := ⟨gb390, 0, none⟩) (Kd.R_types HO379.out BK390.out (by decide)) (fun _ hk => hk.2) (.slice Ao64 t377.length co64)) (fun _ hk => hk.2) (.slice Ao69 t380.length co69)) (fun _ hk => hk.2) (.slice Ao70 t383.length co70)) (fun _ hk => hk.2) (.slice Ao71 t386.length co71)) (fun _ hk => hk.2) (.string t389)) (fun _ h_ => h_.1))) hb); have n13_ := Aside0.mk (Kd.R_below (by (with_reducible repeat (first | apply Kd.R_alloc | apply Kd.R_drewN | apply Kd.R_drew)); exact (Kd.R_mono (Kd.R_far (p := ⟨gb390, 4, none⟩) (Kd.R_far (p := ⟨gb390, 3, none⟩) (Kd.R_far (p := ⟨gb390, 2, none⟩) (Kd.R_far (p := ⟨gb390, 1, none⟩) (Kd.R_far (p := ⟨gb390, 0, none⟩) (Kd.R_types HO382.out BK390.out (by decide)) (fun _ hk => hk.2) (.slice Ao64 t377.length co64)) (fun _ hk => hk.2) (.slice Ao69 t380.length co69)) (fun _ hk => hk.2) (.slice Ao70 t383.length co70)) (fun _ hk => hk.2) (.slice Ao71 t386.length co71)) (fun _ hk => hk.2) (.string t389)) (fun _ h_ => h_.1))) hb); have n14_ := Aside0.mk (Kd.R_below (by (with_reducible repeat (first | apply Kd.R_alloc | apply Kd.R_drewN | apply Kd.R_drew)); exact (Kd.R_mono (Kd.R_far (p := ⟨gb390, 4, none⟩) (Kd.R_far (p := ⟨gb390, 3, none⟩) (Kd.R_far (p := ⟨gb390, 2, none⟩) (Kd.R_far (p := ⟨gb390, 1, none⟩) (Kd.R_far (p := ⟨gb390, 0, none⟩) (Kd.R_types HO385.out BK390.out (by decide)) (fun _ hk => hk.2) (.slice Ao64 t377.length co64)) (fun _ hk => hk.2) (.slice Ao69 t380.length co69)) (fun _ hk => hk.2) (.slice Ao70 t383.length co70)) (fun _ hk => hk.2) (.slice Ao71 t386.length co71)) (fun _ hk => hk.2) (.string t389)) (fun _ h_ => h_.1))) hb); have n15_ := Aside0.mk (Kd.R_below (by (with_reducible repeat (first | apply Kd.R_alloc | apply Kd.R_drewN | apply Kd.R_drew)); exact (Kd.R_mono (Kd.R_far (p := ⟨gb390, 4, none⟩) (Kd.R_far (p := ⟨gb390, 3, none⟩) (Kd.R_far (p := ⟨gb390, 2, none⟩) (Kd.R_far (p := ⟨gb390, 1, none⟩) (Kd.R_far (p := ⟨gb390, 0, none⟩) (Kd.R_types HO388.out BK390.out (by decide)) (fun _ hk => hk.2) (.slice Ao64 t377.length co64)) (fun _ hk => hk.2) (.slice Ao69 t380.length co69)) (fun _ hk => hk.2) (.slice Ao70 t383.length co70)) (fun _ hk => hk.2) (.slice Ao71 t386.length co71)) (fun _ hk => hk.2) (.string t389)) (fun _ h_ => h_.1))) hb); have n16_ := Aside0.mk (blk_below (g := gb332) (o := .cells #[.slice A0_0 l0_0.length c0_0, .slice A0_1 l0_1.length c0_1, .slice A0_2 l0_2.length c0_2, .slice A0_3 l0_3.length c0_3, .string a0_4] 37 (0, 0)) (by (with_reducible repeat (first | refine blk_drewN ?_ _ | refine blk_drew ?_ | refine blk_alloc ?_ _)); refine blk_far ?_ NB332_390.out _; (with_reducible repeat (first | refine blk_drewN ?_ _ | refine blk_drew ?_ | refine blk_alloc ?_ _)); refine blk_far ?_ NB332_390.out _; (with_reducible repeat (first | refine blk_drewN ?_ _ | refine blk_drew ?_ | refine blk_alloc ?_ _)); refine blk_far ?_ NB332_390.out _; (with_reducible repeat (first | refine blk_drewN ?_ _ | refine blk_drew ?_ | refine blk_alloc ?_ _)); refine blk_far ?_ NB332_390.out _; (with_reducible repeat (first | refine blk_drewN ?_ _ | refine blk_drew ?_ | refine blk_alloc ?_ _)); refine blk_far ?_ NB332_390.out _; (with_reducible repeat (first | refine blk_drewN ?_ _ | refine blk_drew ?_ | refine blk_alloc ?_ _)); exact BK332.out) hb); have n17_ := Aside0.mk (blk_below (g := gb333) (o := .cells #[.slice A1_0 l1_0.length c1_0, .slice A1_1 l1_1.length c1_1, .slice A1_2 l1_2.length c1_2, .slice A1_3 l1_3.length c1_3, .string a1_4] 37 (0, 0)) (by (with_reducible repeat (first | refine blk_drewN ?_ _ | refine blk_drew ?_ | refine blk_alloc ?_ _)); refine blk_far ?_ NB333_390.out _; (with_reducible repeat (first | refine blk_drewN ?_ _ | refine blk_drew ?_ | refine blk_alloc ?_ _)); refine blk_far ?_ NB333_390.out _; (with_reducible repeat (first | refine blk_drewN ?_ _ | refine blk_drew ?_ | refine blk_alloc ?_ _)); refine blk_far ?_ NB333_390.out _; (with_reducible repeat (first | refine blk_drewN ?_ _ | refine blk_drew ?_ | refine blk_alloc ?_ _)); refine blk_far ?_ NB333_390.out _; (with_reducible repeat (first | refine blk_drewN ?_ _ | refine blk_drew ?_ | refine blk_alloc ?_ _)); refine blk_far ?_ NB333_390.out _; (with_reducible repeat (first | refine blk_drewN ?_ _ | refine blk_drew ?_ | refine blk_alloc ?_ _)); exact BK333.out) hb); have n18_ := Aside0.mk (blk_below (g := gb376) (o := .cells #[.slice Ao54 t363.length co54, .slice Ao58 t366.length co58, .slice Ao59 t369.length co59, .slice Ao60 t372.length co60, .string t375] 28 (0, 0)) (by (with_reducible repeat (first | refine blk_drewN ?_ _ | refine blk_drew ?_ | refine blk_alloc ?_ _)); refine blk_far ?_ NB376_390.out _; (with_reducible repeat (first | refine blk_drewN ?_ _ | refine blk_drew ?_ | refine blk_alloc ?_ _)); refine blk_far ?_ NB376_390.out _; (with_reducible repeat (first | refine blk_drewN ?_ _ | refine blk_drew ?_ | refine blk_alloc ?_ _)); refine blk_far ?_ NB376_390.out _; (with_reducible repeat (first | refine blk_drewN ?_ _ | refine blk_drew ?_ | refine blk_alloc ?_ _)); refine blk_far ?_ NB376_390.out _; (with_reducible repeat (first | refine blk_drewN ?_ _ | refine blk_drew ?_ | refine blk_alloc ?_ _)); refine blk_far ?_ NB376_390.out _; (with_reducible repeat (first | refine blk_drewN ?_ _ | refine blk_drew ?_ | refine blk_alloc ?_ _)); exact BK376.out) hb); have n19_ := Aside0.mk (blk_below (g := gb390) (o := .cells #[.slice Ao64 t377.length co64, .slice Ao69 t380.length co69, .slice Ao70 t383.length co70, .slice Ao71 t386.length co71, .string t389] 28 (0, 0)) (by (with_reducible repeat (first | refine blk_drewN ?_ _ | refine blk_drew ?_ | refine blk_alloc ?_ _)); refine blk_put (cs := #[.slice Ao64 t377.length co64, .slice Ao69 t380.length co69, .slice Ao70 t383.length co70, .slice Ao71 t386.length co71, .string (⟨#[]⟩ : ByteArray)]) ?_ 4 _ rfl; (with_reducible repeat (first | refine blk_drewN ?_ _ | refine blk_drew ?_ | refine blk_alloc ?_ _)); refine blk_put (cs := #[.slice Ao64 t377.length co64, .slice Ao69 t380.length co69, .slice Ao70 t383.length co70, .slice none 0 0, .string (⟨#[]⟩ : ByteArray)]) ?_ 3 _ rfl; (with_reducible repeat (first | refine blk_drewN ?_ _ | refine blk_drew ?_ | refine blk_alloc ?_ _)); refine blk_put (cs := #[.slice Ao64 t377.length co64, .slice Ao69 t380.length co69, .slice none 0 0, .slice none 0 0, .string (⟨#[]⟩ : ByteArray)]) ?_ 2 _ rfl; (with_reducible repeat (first | refine blk_drewN ?_ _ | refine blk_drew ?_ | refine blk_alloc ?_ _)); refine blk_put (cs := #[.slice Ao64 t377.length co64, .slice none 0 0, .slice none 0 0, .slice none 0 0, .string (⟨#[]⟩ : ByteArray)]) ?_ 1 _ rfl; (with_reducible repeat (first | refine blk_drewN ?_ _ | refine blk_drew ?_ | refine blk_alloc ?_ _)); refine blk_put (cs := #[.slice none 0 0, .slice none 0 0, .slice none 0 0, .slice none 0 0, .string (⟨#[]⟩ : ByteArray)]) ?_ 0 _ rfl; (with_reducible repeat (first | refine blk_drewN ?_ _ | refine blk_drew ?_ | refine blk_alloc ?_ _)); exact BK390.out) hb); have n20_ := Aside0.mk (below_step (by repeat (first | (with_reducible first | exact HB.out | apply below_alloc | apply pw_below_drewN | apply below_drew1 | refine below_set ?_ GE332.out | refine below_set ?_ GE333.out | refine below_set ?_ GE376.out | refine below_set ?_ GE390.out) | exact HB.out)) hb); clear HO338; clear HO341; clear HO344; clear HO347; clear HO351; clear HO354; clear HO357; clear HO360; clear HO365; clear HO368; clear HO371; clear HO374; clear HO379; clear HO382; clear HO385; clear HO388; clear BK332; clear BK333; clear BK376; clear BK390; clear HB; have HO338 := n0_; have HO341 := n1_; have HO344 := n2_; have HO347 := n3_; have HO351 := n4_; have HO354 := n5_; have HO357 := n6_; have HO360 := n7_; have HO365 := n8_; have HO368 := n9_; have HO371 := n10_; have HO374 := n11_; have HO379 := n12_; have HO382 := n13_; have HO385 := n14_; have HO388 := n15_; have BK332 := n16_; have BK333 := n17_; have BK376 := n18_; have BK390 := n19_; have HB := n20_; clear n0_ n1_ n2_ n3_ n4_ n5_ n6_ n7_ n8_ n9_ n10_ n11_ n12_ n13_ n14_ n15_ n16_ n17_ n18_ n19_ n20_; (try clear hb); (try clear hb2); (try clear hk); (try clear hi)))
      have n0_ := Aside0.mk (Kd.R_drew HO338.out)
      have n1_ := Aside0.mk (Kd.R_drew HO341.out)
      have n2_ := Aside0.mk (Kd.R_drew HO344.out)
      have n3_ := Aside0.mk (Kd.R_drew HO347.out)
      have n4_ := Aside0.mk (Kd.R_drew HO351.out)
      have n5_ := Aside0.mk (Kd.R_drew HO354.out)
      have n6_ := Aside0.mk (Kd.R_drew HO357.out)
      have n7_ := Aside0.mk (Kd.R_drew HO360.out)
      have n8_ := Aside0.mk (Kd.R_drew HO365.out)
      have n9_ := Aside0.mk (Kd.R_drew HO368.out)
      have n10_ := Aside0.mk (Kd.R_drew HO371.out)
      have n11_ := Aside0.mk (Kd.R_drew HO374.out)
      have n12_ := Aside0.mk (Kd.R_drew HO379.out)
      have n13_ := Aside0.mk (Kd.R_drew HO382.out)
      have n14_ := Aside0.mk (Kd.R_drew HO385.out)
      have n15_ := Aside0.mk (Kd.R_drew HO388.out)
      have n16_ := Aside0.mk (blk_drew BK332.out)
      have n17_ := Aside0.mk (blk_drew BK333.out)
      have n18_ := Aside0.mk (blk_drew BK376.out)
      have n19_ := Aside0.mk (blk_drew BK390.out)
      have n20_ := Aside0.mk (below_drew1 HB.out)
      clear HO338
      clear HO341
      clear HO344
      clear HO347
      clear HO351
      clear HO354
      clear HO357
      clear HO360
      clear HO365
      clear HO368
      clear HO371
      clear HO374
      clear HO379
      clear HO382
      clear HO385
      clear HO388
      clear BK332
      clear BK333
      clear BK376
      clear BK390
      clear HB
      have HO338 := n0_
      have HO341 := n1_
      have HO344 := n2_
      have HO347 := n3_
      have HO351 := n4_
      have HO354 := n5_
      have HO357 := n6_
      have HO360 := n7_
      have HO365 := n8_
      have HO368 := n9_
      have HO371 := n10_
      have HO374 := n11_
      have HO379 := n12_
      have HO382 := n13_
      have HO385 := n14_
      have HO388 := n15_
      have BK332 := n16_
      have BK333 := n17_
      have BK376 := n18_
      have BK390 := n19_
      have HB := n20_
      clear n0_ n1_ n2_ n3_ n4_ n5_ n6_ n7_ n8_ n9_ n10_ n11_ n12_ n13_ n14_ n15_ n16_ n17_ n18_ n19_ n20_
      refine start_ (n := 5) (S := fun w' => w'.cell? ⟨gb376, 0, none⟩ = some (.slice Ao54 t363.length co54) ∧ w'.cell? ⟨gb376, 1, none⟩ = some (.slice Ao58 t366.length co58) ∧ w'.cell? ⟨gb376, 2, none⟩ = some (.slice Ao59 t369.length co59) ∧ w'.cell? ⟨gb376, 3, none⟩ = some (.slice Ao60 t372.length co60) ∧ w'.cell? ⟨gb376, 4, none⟩ = some (.string t375) ∧ w'.cell? ⟨gb332, 0, none⟩ = some (.slice A0_0 l0_0.length c0_0) ∧ w'.cell? ⟨gb332, 1, none⟩ = some (.slice A0_1 l0_1.length c0_1) ∧ w'.cell? ⟨gb332, 2, none⟩ = some (.slice A0_2 l0_2.length c0_2) ∧ w'.cell? ⟨gb332, 3, none⟩ = some (.slice A0_3 l0_3.length c0_3) ∧ w'.cell? ⟨gb332, 4, none⟩ = some (.string a0_4)) (ds := []) #[false, false, false, false, false] (by kernel_rfl) rfl rfl ⟨(blk_cell BK376.out 0).trans rfl, (blk_cell BK376.out 1).trans rfl, (blk_cell BK376.out 2).trans rfl, (blk_cell BK376.out 3).trans rfl, (blk_cell BK376.out 4).trans rfl, (blk_cell BK332.out 0).trans rfl, (blk_cell BK332.out 1).trans rfl, (blk_cell BK332.out 2).trans rfl, (blk_cell BK332.out 3).trans rfl, (blk_cell BK332.out 4).trans rfl⟩ (fun hHeld => ?_)
      generalize w73.drew = w74 at HO338 HO341 HO344 HO347 HO351 HO354 HO357 HO360 HO365 HO368 HO371 HO374 HO379 HO382 HO385 HO388 BK332 BK333 BK376 BK390 HB hHeld ⊢
      refine take_ (i := 0) (N := some 35) (v := ?_) (a' := ?_) #[true, false, false, false, false] rfl rfl (by kernel_rfl) (fun _ _ _ h => h) (Or.inl ⟨by rfl, ?_⟩) hHeld ?_ ?_
      rotate_left
      ·rintro w' ⟨s0, s1, s2, s3, s4, s5, s6, s7, s8, s9⟩
       go_simp
       with_reducible rfl
      rotate_left
      ·simp only [Act.put, List.setIfInBounds_toArray, List.set_cons_zero, List.set_cons_succ, i64_w, i32_w]; rfl
      refine take_ (i := 1) (N := some 36) (v := ?_) (a' := ?_) #[true, true, false, false, false] rfl rfl (by kernel_rfl) (fun _ _ _ h => h) (Or.inl ⟨by rfl, ?_⟩) hHeld ?_ ?_
      rotate_left
      ·rintro w' ⟨s0, s1, s2, s3, s4, s5, s6, s7, s8, s9⟩
       go_simp
       with_reducible rfl
      rotate_left
      ·simp only [Act.put, List.setIfInBounds_toArray, List.set_cons_zero, List.set_cons_succ, i64_w, i32_w]; rfl
      refine one_ (i := 2) (N := some 37) #[true, true, true, false, false] rfl rfl (by kernel_rfl) (by decide) (fun K hK => ?_)
      refine goes_ Try.func13 (by kernel_rfl) rfl #[.agg #[.slice A0_0 l0_0.length c0_0, .slice A0_1 l0_1.length c0_1, .slice A0_2 l0_2.length c0_2, .slice A0_3 l0_3.length c0_3, .string a0_4]] (by rfl) rfl rfl (by (try simp only [List.map_toArray, List.map_cons, List.map_nil]); first | done | rfl | (simp only [List.length_drop, List.length_take]; rfl)) ?_
      with_reducible refine (laws_toDesk.calls k _ _ l0_0 _ _ l0_1 _ _ l0_2 _ _ l0_3 a0_4 t392 t395 t398 t401 t404 _ ?side1 ?side2 ?side3 ?side4 ?side5 ?side6 ?side7 ?side8 A26.out).mono ?_
      (case side1 => repeat (first | exact (Kd.C_below HR0_0.out HB.out) | (with_reducible refine Kd.C_alloc ?_ _) | (with_reducible refine Kd.C_drewN ?_ _) | (with_reducible refine Kd.C_drew ?_)))
      (case side2 => exact HC0_0.out)
      (case side3 => repeat (first | exact (Kd.C_below HR0_1.out HB.out) | (with_reducible refine Kd.C_alloc ?_ _) | (with_reducible refine Kd.C_drewN ?_ _) | (with_reducible refine Kd.C_drew ?_)))
      (case side4 => exact HC0_1.out)
      (case side5 => repeat (first | exact (Kd.C_below HR0_2.out HB.out) | (with_reducible refine Kd.C_alloc ?_ _) | (with_reducible refine Kd.C_drewN ?_ _) | (with_reducible refine Kd.C_drew ?_)))
      (case side6 => exact HC0_2.out)
      (case side7 => repeat (first | exact (Kd.C_below HR0_3.out HB.out) | (with_reducible refine Kd.C_alloc ?_ _) | (with_reducible refine Kd.C_drewN ?_ _) | (with_reducible refine Kd.C_drew ?_)))
      (case side8 => exact HC0_3.out)
      rintro e w75 ⟨v393, v396, v399, v402, rfl, ho0, ho1, ho2, ho3, hb⟩
      refine ⟨_, rfl, ?_⟩
      have n0_ := Aside0.mk (Kd.R_mono (Kd.R_told (Kd.R_told (Kd.R_old (by (with_reducible repeat (first | apply Kd.R_alloc | apply Kd.R_drewN | apply Kd.R_drew)); exact HO338.out) hb) (Kd.R_base ho0)) (Kd.R_base ho1)) (fun _ h_ => h_.1))
      have n1_ := Aside0.mk (Kd.R_mono (Kd.R_told (Kd.R_told (Kd.R_old (by (with_reducible repeat (first | apply Kd.R_alloc | apply Kd.R_drewN | apply Kd.R_drew)); exact HO341.out) hb) (Kd.R_base ho0)) (Kd.R_base ho1)) (fun _ h_ => h_.1))
      have n2_ := Aside0.mk (Kd.R_elder' (by (with_reducible repeat (first | apply Kd.R_alloc | apply Kd.R_drewN | apply Kd.R_drew)); exact HO344.out) (Kd.R_base ho2) hb)
      have n3_ := Aside0.mk (Kd.R_elder' (by (with_reducible repeat (first | apply Kd.R_alloc | apply Kd.R_drewN | apply Kd.R_drew)); exact HO347.out) (Kd.R_base ho3) hb)
      have n4_ := Aside0.mk (Kd.R_mono (Kd.R_told (Kd.R_told (Kd.R_old (by (with_reducible repeat (first | apply Kd.R_alloc | apply Kd.R_drewN | apply Kd.R_drew)); exact HO351.out) hb) (Kd.R_base ho0)) (Kd.R_base ho1)) (fun _ h_ => h_.1))
      have n5_ := Aside0.mk (Kd.R_mono (Kd.R_told (Kd.R_told (Kd.R_old (by (with_reducible repeat (first | apply Kd.R_alloc | apply Kd.R_drewN | apply Kd.R_drew)); exact HO354.out) hb) (Kd.R_base ho0)) (Kd.R_base ho1)) (fun _ h_ => h_.1))
      have n6_ := Aside0.mk (Kd.R_elder' (by (with_reducible repeat (first | apply Kd.R_alloc | apply Kd.R_drewN | apply Kd.R_drew)); exact HO357.out) (Kd.R_base ho2) hb)
      have n7_ := Aside0.mk (Kd.R_elder' (by (with_reducible repeat (first | apply Kd.R_alloc | apply Kd.R_drewN | apply Kd.R_drew)); exact HO360.out) (Kd.R_base ho3) hb)
      have n8_ := Aside0.mk (Kd.R_mono (Kd.R_told (Kd.R_told (Kd.R_old (by (with_reducible repeat (first | apply Kd.R_alloc | apply Kd.R_drewN | apply Kd.R_drew)); exact HO365.out) hb) (Kd.R_base ho0)) (Kd.R_base ho1)) (fun _ h_ => h_.1))
      have n9_ := Aside0.mk (Kd.R_mono (Kd.R_told (Kd.R_told (Kd.R_old (by (with_reducible repeat (first | apply Kd.R_alloc | apply Kd.R_drewN | apply Kd.R_drew)); exact HO368.out) hb) (Kd.R_base ho0)) (Kd.R_base ho1)) (fun _ h_ => h_.1))
      have n10_ := Aside0.mk (Kd.R_elder' (by (with_reducible repeat (first | apply Kd.R_alloc | apply Kd.R_drewN | apply Kd.R_drew)); exact HO371.out) (Kd.R_base ho2) hb)
      have n11_ := Aside0.mk (Kd.R_elder' (by (with_reducible repeat (first | apply Kd.R_alloc | apply Kd.R_drewN | apply Kd.R_drew)); exact HO374.out) (Kd.R_base ho3) hb)
      have n12_ := Aside0.mk (Kd.R_mono (Kd.R_told (Kd.R_told (Kd.R_old (by (with_reducible repeat (first | apply Kd.R_alloc | apply Kd.R_drewN | apply Kd.R_drew)); exact HO379.out) hb) (Kd.R_base ho0)) (Kd.R_base ho1)) (fun _ h_ => h_.1))
      have n13_ := Aside0.mk (Kd.R_mono (Kd.R_told (Kd.R_told (Kd.R_old (by (with_reducible repeat (first | apply Kd.R_alloc | apply Kd.R_drewN | apply Kd.R_drew)); exact HO382.out) hb) (Kd.R_base ho0)) (Kd.R_base ho1)) (fun _ h_ => h_.1))
      have n14_ := Aside0.mk (Kd.R_elder' (by (with_reducible repeat (first | apply Kd.R_alloc | apply Kd.R_drewN | apply Kd.R_drew)); exact HO385.out) (Kd.R_base ho2) hb)
      have n15_ := Aside0.mk (Kd.R_elder' (by (with_reducible repeat (first | apply Kd.R_alloc | apply Kd.R_drewN | apply Kd.R_drew)); exact HO388.out) (Kd.R_base ho3) hb)
      have n16_ := Aside0.mk (Kd.R_lower (Kd.R_new' (Kd.R_new' (Kd.R_new' (Kd.R_new' (Kd.R_new' (Kd.R_new' (Kd.R_new' (Kd.R_new' ho0 (Kd.R_lt (by (with_reducible repeat (first | apply Kd.R_alloc | apply Kd.R_drewN | apply Kd.R_drew)); exact HO338.out))) (Kd.R_lt (by (with_reducible repeat (first | apply Kd.R_alloc | apply Kd.R_drewN | apply Kd.R_drew)); exact HO341.out))) (Kd.R_lt (by (with_reducible repeat (first | apply Kd.R_alloc | apply Kd.R_drewN | apply Kd.R_drew)); exact HO351.out))) (Kd.R_lt (by (with_reducible repeat (first | apply Kd.R_alloc | apply Kd.R_drewN | apply Kd.R_drew)); exact HO354.out))) (Kd.R_lt (by (with_reducible repeat (first | apply Kd.R_alloc | apply Kd.R_drewN | apply Kd.R_drew)); exact HO365.out))) (Kd.R_lt (by (with_reducible repeat (first | apply Kd.R_alloc | apply Kd.R_drewN | apply Kd.R_drew)); exact HO368.out))) (Kd.R_lt (by (with_reducible repeat (first | apply Kd.R_alloc | apply Kd.R_drewN | apply Kd.R_drew)); exact HO379.out))) (Kd.R_lt (by (with_reducible repeat (first | apply Kd.R_alloc | apply Kd.R_drewN | apply Kd.R_drew)); exact HO382.out))) (below_size (by repeat (first | (with_reducible first | exact HB.out | apply below_alloc | apply pw_below_drewN | apply below_drew1 | refine below_set ?_ GE332.out | refine below_set ?_ GE333.out | refine below_set ?_ GE376.out | refine below_set ?_ GE390.out) | exact HB.out))))
      have n17_ := Aside0.mk (Kd.R_lower (Kd.R_new' (Kd.R_new' (Kd.R_new' (Kd.R_new' (Kd.R_new' (Kd.R_new' (Kd.R_new' (Kd.R_new' ho1 (Kd.R_lt (by (with_reducible repeat (first | apply Kd.R_alloc | apply Kd.R_drewN | apply Kd.R_drew)); exact HO338.out))) (Kd.R_lt (by (with_reducible repeat (first | apply Kd.R_alloc | apply Kd.R_drewN | apply Kd.R_drew)); exact HO341.out))) (Kd.R_lt (by (with_reducible repeat (first | apply Kd.R_alloc | apply Kd.R_drewN | apply Kd.R_drew)); exact HO351.out))) (Kd.R_lt (by (with_reducible repeat (first | apply Kd.R_alloc | apply Kd.R_drewN | apply Kd.R_drew)); exact HO354.out))) (Kd.R_lt (by (with_reducible repeat (first | apply Kd.R_alloc | apply Kd.R_drewN | apply Kd.R_drew)); exact HO365.out))) (Kd.R_lt (by (with_reducible repeat (first | apply Kd.R_alloc | apply Kd.R_drewN | apply Kd.R_drew)); exact HO368.out))) (Kd.R_lt (by (with_reducible repeat (first | apply Kd.R_alloc | apply Kd.R_drewN | apply Kd.R_drew)); exact HO379.out))) (Kd.R_lt (by (with_reducible repeat (first | apply Kd.R_alloc | apply Kd.R_drewN | apply Kd.R_drew)); exact HO382.out))) (below_size (by repeat (first | (with_reducible first | exact HB.out | apply below_alloc | apply pw_below_drewN | apply below_drew1 | refine below_set ?_ GE332.out | refine below_set ?_ GE333.out | refine below_set ?_ GE376.out | refine below_set ?_ GE390.out) | exact HB.out))))
      have n18_ := Aside0.mk (Kd.R_lower (Kd.R_new' (Kd.R_new' (Kd.R_new' (Kd.R_new' ho2 (Kd.R_lt (by (with_reducible repeat (first | apply Kd.R_alloc | apply Kd.R_drewN | apply Kd.R_drew)); exact HO344.out))) (Kd.R_lt (by (with_reducible repeat (first | apply Kd.R_alloc | apply Kd.R_drewN | apply Kd.R_drew)); exact HO357.out))) (Kd.R_lt (by (with_reducible repeat (first | apply Kd.R_alloc | apply Kd.R_drewN | apply Kd.R_drew)); exact HO371.out))) (Kd.R_lt (by (with_reducible repeat (first | apply Kd.R_alloc | apply Kd.R_drewN | apply Kd.R_drew)); exact HO385.out))) (below_size (by repeat (first | (with_reducible first | exact HB.out | apply below_alloc | apply pw_below_drewN | apply below_drew1 | refine below_set ?_ GE332.out | refine below_set ?_ GE333.out | refine below_set ?_ GE376.out | refine below_set ?_ GE390.out) | exact HB.out))))
      have n19_ := Aside0.mk (Kd.R_lower (Kd.R_new' (Kd.R_new' (Kd.R_new' (Kd.R_new' ho3 (Kd.R_lt (by (with_reducible repeat (first | apply Kd.R_alloc | apply Kd.R_drewN | apply Kd.R_drew)); exact HO347.out))) (Kd.R_lt (by (with_reducible repeat (first | apply Kd.R_alloc | apply Kd.R_drewN | apply Kd.R_drew)); exact HO360.out))) (Kd.R_lt (by (with_reducible repeat (first | apply Kd.R_alloc | apply Kd.R_drewN | apply Kd.R_drew)); exact HO374.out))) (Kd.R_lt (by (with_reducible repeat (first | apply Kd.R_alloc | apply Kd.R_drewN | apply Kd.R_drew)); exact HO388.out))) (below_size (by repeat (first | (with_reducible first | exact HB.out | apply below_alloc | apply pw_below_drewN | apply below_drew1 | refine below_set ?_ GE332.out | refine below_set ?_ GE333.out | refine below_set ?_ GE376.out | refine below_set ?_ GE390.out) | exact HB.out))))
      have n20_ := Aside0.mk (blk_below (g := gb332) (o := .cells #[.slice A0_0 l0_0.length c0_0, .slice A0_1 l0_1.length c0_1, .slice A0_2 l0_2.length c0_2, .slice A0_3 l0_3.length c0_3, .string a0_4] 37 (0, 0)) (by (with_reducible repeat (first | refine blk_drewN ?_ _ | refine blk_drew ?_ | refine blk_alloc ?_ _)); exact BK332.out) hb)
      have n21_ := Aside0.mk (blk_below (g := gb333) (o := .cells #[.slice A1_0 l1_0.length c1_0, .slice A1_1 l1_1.length c1_1, .slice A1_2 l1_2.length c1_2, .slice A1_3 l1_3.length c1_3, .string a1_4] 37 (0, 0)) (by (with_reducible repeat (first | refine blk_drewN ?_ _ | refine blk_drew ?_ | refine blk_alloc ?_ _)); exact BK333.out) hb)
      have n22_ := Aside0.mk (blk_below (g := gb376) (o := .cells #[.slice Ao54 t363.length co54, .slice Ao58 t366.length co58, .slice Ao59 t369.length co59, .slice Ao60 t372.length co60, .string t375] 28 (0, 0)) (by (with_reducible repeat (first | refine blk_drewN ?_ _ | refine blk_drew ?_ | refine blk_alloc ?_ _)); exact BK376.out) hb)
      have n23_ := Aside0.mk (blk_below (g := gb390) (o := .cells #[.slice Ao64 t377.length co64, .slice Ao69 t380.length co69, .slice Ao70 t383.length co70, .slice Ao71 t386.length co71, .string t389] 28 (0, 0)) (by (with_reducible repeat (first | refine blk_drewN ?_ _ | refine blk_drew ?_ | refine blk_alloc ?_ _)); exact BK390.out) hb)
      have n24_ := Aside0.mk (below_step (by repeat (first | (with_reducible first | exact HB.out | apply below_alloc | apply pw_below_drewN | apply below_drew1 | refine below_set ?_ GE332.out | refine below_set ?_ GE333.out | refine below_set ?_ GE376.out | refine below_set ?_ GE390.out) | exact HB.out)) hb)
      clear HO338
      clear HO341
      clear HO344
      clear HO347
      clear HO351
      clear HO354
      clear HO357
      clear HO360
      clear HO365
      clear HO368
      clear HO371
      clear HO374
      clear HO379
      clear HO382
      clear HO385
      clear HO388
      clear BK332
      clear BK333
      clear BK376
      clear BK390
      clear HB
      have HO338 := n0_
      have HO341 := n1_
      have HO344 := n2_
      have HO347 := n3_
      have HO351 := n4_
      have HO354 := n5_
      have HO357 := n6_
      have HO360 := n7_
      have HO365 := n8_
      have HO368 := n9_
      have HO371 := n10_
      have HO374 := n11_
      have HO379 := n12_
      have HO382 := n13_
      have HO385 := n14_
      have HO388 := n15_
      have HO394 := n16_
      have HO397 := n17_
      have HO400 := n18_
      have HO403 := n19_
      have BK332 := n20_
      have BK333 := n21_
      have BK376 := n22_
      have BK390 := n23_
      have HB := n24_
      clear n0_ n1_ n2_ n3_ n4_ n5_ n6_ n7_ n8_ n9_ n10_ n11_ n12_ n13_ n14_ n15_ n16_ n17_ n18_ n19_ n20_ n21_ n22_ n23_ n24_
      (try clear hb)
      (try clear hb2)
      (try clear hk)
      (try clear hi)
      (try clear ho0)
      (try clear ho1)
      (try clear ho2)
      (try clear ho3)
      obtain ⟨Ao76, co76, eo76⟩ := Kd.R_slice HO394.out
      (first | subst eo76 | (injection eo76 with f1_ f2_ f3_; have f4_ := f1_.symm; have f5_ := f3_.symm; clear f1_ f2_ f3_; subst f4_; subst f5_))
      obtain ⟨Ao77, co77, eo77⟩ := Kd.R_slice HO397.out
      (first | subst eo77 | (injection eo77 with f1_ f2_ f3_; have f4_ := f1_.symm; have f5_ := f3_.symm; clear f1_ f2_ f3_; subst f4_; subst f5_))
      obtain ⟨Ao78, co78, eo78⟩ := Kd.R_slice HO400.out
      (first | subst eo78 | (injection eo78 with f1_ f2_ f3_; have f4_ := f1_.symm; have f5_ := f3_.symm; clear f1_ f2_ f3_; subst f4_; subst f5_))
      obtain ⟨Ao79, co79, eo79⟩ := Kd.R_slice HO403.out
      (first | subst eo79 | (injection eo79 with f1_ f2_ f3_; have f4_ := f1_.symm; have f5_ := f3_.symm; clear f1_ f2_ f3_; subst f4_; subst f5_))
      refine hK.out _ _ ⟨(blk_cell BK376.out 0).trans rfl, (blk_cell BK376.out 1).trans rfl, (blk_cell BK376.out 2).trans rfl, (blk_cell BK376.out 3).trans rfl, (blk_cell BK376.out 4).trans rfl, (blk_cell BK332.out 0).trans rfl, (blk_cell BK332.out 1).trans rfl, (blk_cell BK332.out 2).trans rfl, (blk_cell BK332.out 3).trans rfl, (blk_cell BK332.out 4).trans rfl⟩ (fun hHeld => ?_)
      clear hK K
      refine norm_ (a' := ?_) ?_ ?_
      rotate_left
      ·show Act.put _ (some 37) _ = _
       simp only [Act.put, List.setIfInBounds_toArray, List.set_cons_zero, List.set_cons_succ, i64_w, i32_w]
       rfl
      refine one_ (i := 3) (N := some 38) #[true, true, true, true, false] rfl rfl (by kernel_rfl) (by decide) (fun K hK => ?_)
      refine goes_ Try.func8 (by kernel_rfl) rfl #[.agg #[.slice Ao54 t363.length co54, .slice Ao58 t366.length co58, .slice Ao59 t369.length co59, .slice Ao60 t372.length co60, .string t375], .agg #[.slice Ao76 t392.length co76, .slice Ao77 t395.length co77, .slice Ao78 t398.length co78, .slice Ao79 t401.length co79, .string t404]] (by rfl) rfl rfl (by (try simp only [List.map_toArray, List.map_cons, List.map_nil]); first | done | rfl | (simp only [List.length_drop, List.length_take]; rfl)) ?_
      with_reducible refine (laws_eqDesk.calls k _ _ t363 _ _ t366 _ _ t369 _ _ t372 t375 _ _ t392 _ _ t395 _ _ t398 _ _ t401 t404 true _ ?side1 ?side2 ?side3 ?side4 ?side5 ?side6 ?side7 ?side8 ?side9 ?side10 ?side11 ?side12 ?side13 ?side14 ?side15 ?side16 A27.out).mono ?_
      (case side1 => repeat (first | exact (Kd.R_reads' HO365.out).2.2 | (with_reducible refine Kd.C_alloc ?_ _) | (with_reducible refine Kd.C_drewN ?_ _) | (with_reducible refine Kd.C_drew ?_)))
      (case side2 => exact (Kd.R_reads' HO365.out).2.1)
      (case side3 => repeat (first | exact (Kd.R_reads' HO368.out).2.2 | (with_reducible refine Kd.C_alloc ?_ _) | (with_reducible refine Kd.C_drewN ?_ _) | (with_reducible refine Kd.C_drew ?_)))
      (case side4 => exact (Kd.R_reads' HO368.out).2.1)
      (case side5 => repeat (first | exact (Kd.R_reads' HO371.out).2.2 | (with_reducible refine Kd.C_alloc ?_ _) | (with_reducible refine Kd.C_drewN ?_ _) | (with_reducible refine Kd.C_drew ?_)))
      (case side6 => exact (Kd.R_reads' HO371.out).2.1)
      (case side7 => repeat (first | exact (Kd.R_reads' HO374.out).2.2 | (with_reducible refine Kd.C_alloc ?_ _) | (with_reducible refine Kd.C_drewN ?_ _) | (with_reducible refine Kd.C_drew ?_)))
      (case side8 => exact (Kd.R_reads' HO374.out).2.1)
      (case side9 => repeat (first | exact (Kd.R_reads' HO394.out).2.2 | (with_reducible refine Kd.C_alloc ?_ _) | (with_reducible refine Kd.C_drewN ?_ _) | (with_reducible refine Kd.C_drew ?_)))
      (case side10 => exact (Kd.R_reads' HO394.out).2.1)
      (case side11 => repeat (first | exact (Kd.R_reads' HO397.out).2.2 | (with_reducible refine Kd.C_alloc ?_ _) | (with_reducible refine Kd.C_drewN ?_ _) | (with_reducible refine Kd.C_drew ?_)))
      (case side12 => exact (Kd.R_reads' HO397.out).2.1)
      (case side13 => repeat (first | exact (Kd.R_reads' HO400.out).2.2 | (with_reducible refine Kd.C_alloc ?_ _) | (with_reducible refine Kd.C_drewN ?_ _) | (with_reducible refine Kd.C_drew ?_)))
      (case side14 => exact (Kd.R_reads' HO400.out).2.1)
      (case side15 => repeat (first | exact (Kd.R_reads' HO403.out).2.2 | (with_reducible refine Kd.C_alloc ?_ _) | (with_reducible refine Kd.C_drewN ?_ _) | (with_reducible refine Kd.C_drew ?_)))
      (case side16 => exact (Kd.R_reads' HO403.out).2.1)
      rintro e w80 ⟨rfl, hb⟩
      refine ⟨_, rfl, ?_⟩
      have n0_ := Aside0.mk (Kd.R_below (by (with_reducible repeat (first | apply Kd.R_alloc | apply Kd.R_drewN | apply Kd.R_drew)); exact HO338.out) hb)
      have n1_ := Aside0.mk (Kd.R_below (by (with_reducible repeat (first | apply Kd.R_alloc | apply Kd.R_drewN | apply Kd.R_drew)); exact HO341.out) hb)
      have n2_ := Aside0.mk (Kd.R_below (by (with_reducible repeat (first | apply Kd.R_alloc | apply Kd.R_drewN | apply Kd.R_drew)); exact HO344.out) hb)
      have n3_ := Aside0.mk (Kd.R_below (by (with_reducible repeat (first | apply Kd.R_alloc | apply Kd.R_drewN | apply Kd.R_drew)); exact HO347.out) hb)
      have n4_ := Aside0.mk (Kd.R_below (by (with_reducible repeat (first | apply Kd.R_alloc | apply Kd.R_drewN | apply Kd.R_drew)); exact HO351.out) hb)
      have n5_ := Aside0.mk (Kd.R_below (by (with_reducible repeat (first | apply Kd.R_alloc | apply Kd.R_drewN | apply Kd.R_drew)); exact HO354.out) hb)
      have n6_ := Aside0.mk (Kd.R_below (by (with_reducible repeat (first | apply Kd.R_alloc | apply Kd.R_drewN | apply Kd.R_drew)); exact HO357.out) hb)
      have n7_ := Aside0.mk (Kd.R_below (by (with_reducible repeat (first | apply Kd.R_alloc | apply Kd.R_drewN | apply Kd.R_drew)); exact HO360.out) hb)
      have n8_ := Aside0.mk (Kd.R_below (by (with_reducible repeat (first | apply Kd.R_alloc | apply Kd.R_drewN | apply Kd.R_drew)); exact HO365.out) hb)
      have n9_ := Aside0.mk (Kd.R_below (by (with_reducible repeat (first | apply Kd.R_alloc | apply Kd.R_drewN | apply Kd.R_drew)); exact HO368.out) hb)
      have n10_ := Aside0.mk (Kd.R_below (by (with_reducible repeat (first | apply Kd.R_alloc | apply Kd.R_drewN | apply Kd.R_drew)); exact HO371.out) hb)
      have n11_ := Aside0.mk (Kd.R_below (by (with_reducible repeat (first | apply Kd.R_alloc | apply Kd.R_drewN | apply Kd.R_drew)); exact HO374.out) hb)
      have n12_ := Aside0.mk (Kd.R_below (by (with_reducible repeat (first | apply Kd.R_alloc | apply Kd.R_drewN | apply Kd.R_drew)); exact HO379.out) hb)
      have n13_ := Aside0.mk (Kd.R_below (by (with_reducible repeat (first | apply Kd.R_alloc | apply Kd.R_drewN | apply Kd.R_drew)); exact HO382.out) hb)
      have n14_ := Aside0.mk (Kd.R_below (by (with_reducible repeat (first | apply Kd.R_alloc | apply Kd.R_drewN | apply Kd.R_drew)); exact HO385.out) hb)
      have n15_ := Aside0.mk (Kd.R_below (by (with_reducible repeat (first | apply Kd.R_alloc | apply Kd.R_drewN | apply Kd.R_drew)); exact HO388.out) hb)
      have n16_ := Aside0.mk (Kd.R_below (by (with_reducible repeat (first | apply Kd.R_alloc | apply Kd.R_drewN | apply Kd.R_drew)); exact HO394.out) hb)
      have n17_ := Aside0.mk (Kd.R_below (by (with_reducible repeat (first | apply Kd.R_alloc | apply Kd.R_drewN | apply Kd.R_drew)); exact HO397.out) hb)
      have n18_ := Aside0.mk (Kd.R_below (by (with_reducible repeat (first | apply Kd.R_alloc | apply Kd.R_drewN | apply Kd.R_drew)); exact HO400.out) hb)
      have n19_ := Aside0.mk (Kd.R_below (by (with_reducible repeat (first | apply Kd.R_alloc | apply Kd.R_drewN | apply Kd.R_drew)); exact HO403.out) hb)
      have n20_ := Aside0.mk (blk_below (g := gb332) (o := .cells #[.slice A0_0 l0_0.length c0_0, .slice A0_1 l0_1.length c0_1, .slice A0_2 l0_2.length c0_2, .slice A0_3 l0_3.length c0_3, .string a0_4] 37 (0, 0)) (by (with_reducible repeat (first | refine blk_drewN ?_ _ | refine blk_drew ?_ | refine blk_alloc ?_ _)); exact BK332.out) hb)
      have n21_ := Aside0.mk (blk_below (g := gb333) (o := .cells #[.slice A1_0 l1_0.length c1_0, .slice A1_1 l1_1.length c1_1, .slice A1_2 l1_2.length c1_2, .slice A1_3 l1_3.length c1_3, .string a1_4] 37 (0, 0)) (by (with_reducible repeat (first | refine blk_drewN ?_ _ | refine blk_drew ?_ | refine blk_alloc ?_ _)); exact BK333.out) hb)
      have n22_ := Aside0.mk (blk_below (g := gb376) (o := .cells #[.slice Ao54 t363.length co54, .slice Ao58 t366.length co58, .slice Ao59 t369.length co59, .slice Ao60 t372.length co60, .string t375] 28 (0, 0)) (by (with_reducible repeat (first | refine blk_drewN ?_ _ | refine blk_drew ?_ | refine blk_alloc ?_ _)); exact BK376.out) hb)
      have n23_ := Aside0.mk (blk_below (g := gb390) (o := .cells #[.slice Ao64 t377.length co64, .slice Ao69 t380.length co69, .slice Ao70 t383.length co70, .slice Ao71 t386.length co71, .string t389] 28 (0, 0)) (by (with_reducible repeat (first | refine blk_drewN ?_ _ | refine blk_drew ?_ | refine blk_alloc ?_ _)); exact BK390.out) hb)
      have n24_ := Aside0.mk (below_step (by repeat (first | (with_reducible first | exact HB.out | apply below_alloc | apply pw_below_drewN | apply below_drew1 | refine below_set ?_ GE332.out | refine below_set ?_ GE333.out | refine below_set ?_ GE376.out | refine below_set ?_ GE390.out) | exact HB.out)) hb)
      clear HO338
      clear HO341
      clear HO344
      clear HO347
      clear HO351
      clear HO354
      clear HO357
      clear HO360
      clear HO365
      clear HO368
      clear HO371
      clear HO374
      clear HO379
      clear HO382
      clear HO385
      clear HO388
      clear HO394
      clear HO397
      clear HO400
      clear HO403
      clear BK332
      clear BK333
      clear BK376
      clear BK390
      clear HB
      have HO338 := n0_
      have HO341 := n1_
      have HO344 := n2_
      have HO347 := n3_
      have HO351 := n4_
      have HO354 := n5_
      have HO357 := n6_
      have HO360 := n7_
      have HO365 := n8_
      have HO368 := n9_
      have HO371 := n10_
      have HO374 := n11_
      have HO379 := n12_
      have HO382 := n13_
      have HO385 := n14_
      have HO388 := n15_
      have HO394 := n16_
      have HO397 := n17_
      have HO400 := n18_
      have HO403 := n19_
      have BK332 := n20_
      have BK333 := n21_
      have BK376 := n22_
      have BK390 := n23_
      have HB := n24_
      clear n0_ n1_ n2_ n3_ n4_ n5_ n6_ n7_ n8_ n9_ n10_ n11_ n12_ n13_ n14_ n15_ n16_ n17_ n18_ n19_ n20_ n21_ n22_ n23_ n24_
      (try clear hb)
      (try clear hb2)
      (try clear hk)
      (try clear hi)
      refine hK.out _ _ ⟨(blk_cell BK376.out 0).trans rfl, (blk_cell BK376.out 1).trans rfl, (blk_cell BK376.out 2).trans rfl, (blk_cell BK376.out 3).trans rfl, (blk_cell BK376.out 4).trans rfl, (blk_cell BK332.out 0).trans rfl, (blk_cell BK332.out 1).trans rfl, (blk_cell BK332.out 2).trans rfl, (blk_cell BK332.out 3).trans rfl, (blk_cell BK332.out 4).trans rfl⟩ (fun hHeld => ?_)
      clear hK K
      refine norm_ (a' := ?_) ?_ ?_
      rotate_left
      ·show Act.put _ (some 38) _ = _
       simp only [Act.put, List.setIfInBounds_toArray, List.set_cons_zero, List.set_cons_succ, i64_w, i32_w]
       rfl
      refine pure_ (i := 4) (N := some 39) (v := ?_) (a' := ?_) #[true, true, true, true, true] rfl rfl (by kernel_rfl) (fun _ _ _ h => h) (Or.inl ⟨by rfl, ?_⟩) ?_ ?_
      rotate_left
      ·intro w'
       go_simp
       with_reducible rfl
      rotate_left
      ·simp only [Act.put, List.setIfInBounds_toArray, List.set_cons_zero, List.set_cons_succ, i64_w, i32_w]; rfl
      refine done_ (by kernel_rfl) ?_
      try go_wp2
      have n0_ := Aside0.mk (Kd.R_drew HO338.out)
      have n1_ := Aside0.mk (Kd.R_drew HO341.out)
      have n2_ := Aside0.mk (Kd.R_drew HO344.out)
      have n3_ := Aside0.mk (Kd.R_drew HO347.out)
      have n4_ := Aside0.mk (Kd.R_drew HO351.out)
      have n5_ := Aside0.mk (Kd.R_drew HO354.out)
      have n6_ := Aside0.mk (Kd.R_drew HO357.out)
      have n7_ := Aside0.mk (Kd.R_drew HO360.out)
      have n8_ := Aside0.mk (Kd.R_drew HO365.out)
      have n9_ := Aside0.mk (Kd.R_drew HO368.out)
      have n10_ := Aside0.mk (Kd.R_drew HO371.out)
      have n11_ := Aside0.mk (Kd.R_drew HO374.out)
      have n12_ := Aside0.mk (Kd.R_drew HO379.out)
      have n13_ := Aside0.mk (Kd.R_drew HO382.out)
      have n14_ := Aside0.mk (Kd.R_drew HO385.out)
      have n15_ := Aside0.mk (Kd.R_drew HO388.out)
      have n16_ := Aside0.mk (Kd.R_drew HO394.out)
      have n17_ := Aside0.mk (Kd.R_drew HO397.out)
      have n18_ := Aside0.mk (Kd.R_drew HO400.out)
      have n19_ := Aside0.mk (Kd.R_drew HO403.out)
      have n20_ := Aside0.mk (blk_drew BK332.out)
      have n21_ := Aside0.mk (blk_drew BK333.out)
      have n22_ := Aside0.mk (blk_drew BK376.out)
      have n23_ := Aside0.mk (blk_drew BK390.out)
      have n24_ := Aside0.mk (below_drew1 HB.out)
      clear HO338
      clear HO341
      clear HO344
      clear HO347
      clear HO351
      clear HO354
      clear HO357
      clear HO360
      clear HO365
      clear HO368
      clear HO371
      clear HO374
      clear HO379
      clear HO382
      clear HO385
      clear HO388
      clear HO394
      clear HO397
      clear HO400
      clear HO403
      clear BK332
      clear BK333
      clear BK376
      clear BK390
      clear HB
      have HO338 := n0_
      have HO341 := n1_
      have HO344 := n2_
      have HO347 := n3_
      have HO351 := n4_
      have HO354 := n5_
      have HO357 := n6_
      have HO360 := n7_
      have HO365 := n8_
      have HO368 := n9_
      have HO371 := n10_
      have HO374 := n11_
      have HO379 := n12_
      have HO382 := n13_
      have HO385 := n14_
      have HO388 := n15_
      have HO394 := n16_
      have HO397 := n17_
      have HO400 := n18_
      have HO403 := n19_
      have BK332 := n20_
      have BK333 := n21_
      have BK376 := n22_
      have BK390 := n23_
      have HB := n24_
      clear n0_ n1_ n2_ n3_ n4_ n5_ n6_ n7_ n8_ n9_ n10_ n11_ n12_ n13_ n14_ n15_ n16_ n17_ n18_ n19_ n20_ n21_ n22_ n23_ n24_
      refine start_ (n := 5) (S := fun w' => w'.cell? ⟨gb390, 0, none⟩ = some (.slice Ao64 t377.length co64) ∧ w'.cell? ⟨gb390, 1, none⟩ = some (.slice Ao69 t380.length co69) ∧ w'.cell? ⟨gb390, 2, none⟩ = some (.slice Ao70 t383.length co70) ∧ w'.cell? ⟨gb390, 3, none⟩ = some (.slice Ao71 t386.length co71) ∧ w'.cell? ⟨gb390, 4, none⟩ = some (.string t389) ∧ w'.cell? ⟨gb333, 0, none⟩ = some (.slice A1_0 l1_0.length c1_0) ∧ w'.cell? ⟨gb333, 1, none⟩ = some (.slice A1_1 l1_1.length c1_1) ∧ w'.cell? ⟨gb333, 2, none⟩ = some (.slice A1_2 l1_2.length c1_2) ∧ w'.cell? ⟨gb333, 3, none⟩ = some (.slice A1_3 l1_3.length c1_3) ∧ w'.cell? ⟨gb333, 4, none⟩ = some (.string a1_4)) (ds := []) #[false, false, false, false, false] (by kernel_rfl) rfl rfl ⟨(blk_cell BK390.out 0).trans rfl, (blk_cell BK390.out 1).trans rfl, (blk_cell BK390.out 2).trans rfl, (blk_cell BK390.out 3).trans rfl, (blk_cell BK390.out 4).trans rfl, (blk_cell BK333.out 0).trans rfl, (blk_cell BK333.out 1).trans rfl, (blk_cell BK333.out 2).trans rfl, (blk_cell BK333.out 3).trans rfl, (blk_cell BK333.out 4).trans rfl⟩ (fun hHeld => ?_)
      generalize w80.drew = w81 at HO338 HO341 HO344 HO347 HO351 HO354 HO357 HO360 HO365 HO368 HO371 HO374 HO379 HO382 HO385 HO388 HO394 HO397 HO400 HO403 BK332 BK333 BK376 BK390 HB hHeld ⊢
      refine take_ (i := 0) (N := some 40) (v := ?_) (a' := ?_) #[true, false, false, false, false] rfl rfl (by kernel_rfl) (fun _ _ _ h => h) (Or.inl ⟨by rfl, ?_⟩) hHeld ?_ ?_
      rotate_left
      ·rintro w' ⟨s0, s1, s2, s3, s4, s5, s6, s7, s8, s9⟩
       go_simp
       with_reducible rfl
      rotate_left
      ·simp only [Act.put, List.setIfInBounds_toArray, List.set_cons_zero, List.set_cons_succ, i64_w, i32_w]; rfl
      refine take_ (i := 1) (N := some 41) (v := ?_) (a' := ?_) #[true, true, false, false, false] rfl rfl (by kernel_rfl) (fun _ _ _ h => h) (Or.inl ⟨by rfl, ?_⟩) hHeld ?_ ?_
      rotate_left
      ·rintro w' ⟨s0, s1, s2, s3, s4, s5, s6, s7, s8, s9⟩
       go_simp
       with_reducible rfl
      rotate_left
      ·simp only [Act.put, List.setIfInBounds_toArray, List.set_cons_zero, List.set_cons_succ, i64_w, i32_w]; rfl
      refine one_ (i := 2) (N := some 42) #[true, true, true, false, false] rfl rfl (by kernel_rfl) (by decide) (fun K hK => ?_)
      refine goes_ Try.func13 (by kernel_rfl) rfl #[.agg #[.slice A1_0 l1_0.length c1_0, .slice A1_1 l1_1.length c1_1, .slice A1_2 l1_2.length c1_2, .slice A1_3 l1_3.length c1_3, .string a1_4]] (by rfl) rfl rfl (by (try simp only [List.map_toArray, List.map_cons, List.map_nil]); first | done | rfl | (simp only [List.length_drop, List.length_take]; rfl)) ?_
      with_reducible refine (laws_toDesk.calls k _ _ l1_0 _ _ l1_1 _ _ l1_2 _ _ l1_3 a1_4 t406 t409 t412 t415 t418 _ ?side1 ?side2 ?side3 ?side4 ?side5 ?side6 ?side7 ?side8 A29.out).mono ?_
      (case side1 => repeat (first | exact (Kd.C_below HR1_0.out HB.out) | (with_reducible refine Kd.C_alloc ?_ _) | (with_reducible refine Kd.C_drewN ?_ _) | (with_reducible refine Kd.C_drew ?_)))
      (case side2 => exact HC1_0.out)
      (case side3 => repeat (first | exact (Kd.C_below HR1_1.out HB.out) | (with_reducible refine Kd.C_alloc ?_ _) | (with_reducible refine Kd.C_drewN ?_ _) | (with_reducible refine Kd.C_drew ?_)))
      (case side4 => exact HC1_1.out)
      (case side5 => repeat (first | exact (Kd.C_below HR1_2.out HB.out) | (with_reducible refine Kd.C_alloc ?_ _) | (with_reducible refine Kd.C_drewN ?_ _) | (with_reducible refine Kd.C_drew ?_)))
      (case side6 => exact HC1_2.out)
      (case side7 => repeat (first | exact (Kd.C_below HR1_3.out HB.out) | (with_reducible refine Kd.C_alloc ?_ _) | (with_reducible refine Kd.C_drewN ?_ _) | (with_reducible refine Kd.C_drew ?_)))
      (case side8 => exact HC1_3.out)
      rintro e w82 ⟨v407, v410, v413, v416, rfl, ho0, ho1, ho2, ho3, hb⟩
      refine ⟨_, rfl, ?_⟩
      have n0_ := Aside0.mk (Kd.R_mono (Kd.R_told (Kd.R_told (Kd.R_old (by (with_reducible repeat (first | apply Kd.R_alloc | apply Kd.R_drewN | apply Kd.R_drew)); exact HO338.out) hb) (Kd.R_base ho0)) (Kd.R_base ho1)) (fun _ h_ => h_.1))
      have n1_ := Aside0.mk (Kd.R_mono (Kd.R_told (Kd.R_told (Kd.R_old (by (with_reducible repeat (first | apply Kd.R_alloc | apply Kd.R_drewN | apply Kd.R_drew)); exact HO341.out) hb) (Kd.R_base ho0)) (Kd.R_base ho1)) (fun _ h_ => h_.1))
      have n2_ := Aside0.mk (Kd.R_elder' (by (with_reducible repeat (first | apply Kd.R_alloc | apply Kd.R_drewN | apply Kd.R_drew)); exact HO344.out) (Kd.R_base ho2) hb)
      have n3_ := Aside0.mk (Kd.R_elder' (by (with_reducible repeat (first | apply Kd.R_alloc | apply Kd.R_drewN | apply Kd.R_drew)); exact HO347.out) (Kd.R_base ho3) hb)
      have n4_ := Aside0.mk (Kd.R_mono (Kd.R_told (Kd.R_told (Kd.R_old (by (with_reducible repeat (first | apply Kd.R_alloc | apply Kd.R_drewN | apply Kd.R_drew)); exact HO351.out) hb) (Kd.R_base ho0)) (Kd.R_base ho1)) (fun _ h_ => h_.1))
      have n5_ := Aside0.mk (Kd.R_mono (Kd.R_told (Kd.R_told (Kd.R_old (by (with_reducible repeat (first | apply Kd.R_alloc | apply Kd.R_drewN | apply Kd.R_drew)); exact HO354.out) hb) (Kd.R_base ho0)) (Kd.R_base ho1)) (fun _ h_ => h_.1))
      have n6_ := Aside0.mk (Kd.R_elder' (by (with_reducible repeat (first | apply Kd.R_alloc | apply Kd.R_drewN | apply Kd.R_drew)); exact HO357.out) (Kd.R_base ho2) hb)
      have n7_ := Aside0.mk (Kd.R_elder' (by (with_reducible repeat (first | apply Kd.R_alloc | apply Kd.R_drewN | apply Kd.R_drew)); exact HO360.out) (Kd.R_base ho3) hb)
      have n8_ := Aside0.mk (Kd.R_mono (Kd.R_told (Kd.R_told (Kd.R_old (by (with_reducible repeat (first | apply Kd.R_alloc | apply Kd.R_drewN | apply Kd.R_drew)); exact HO365.out) hb) (Kd.R_base ho0)) (Kd.R_base ho1)) (fun _ h_ => h_.1))
      have n9_ := Aside0.mk (Kd.R_mono (Kd.R_told (Kd.R_told (Kd.R_old (by (with_reducible repeat (first | apply Kd.R_alloc | apply Kd.R_drewN | apply Kd.R_drew)); exact HO368.out) hb) (Kd.R_base ho0)) (Kd.R_base ho1)) (fun _ h_ => h_.1))
      have n10_ := Aside0.mk (Kd.R_elder' (by (with_reducible repeat (first | apply Kd.R_alloc | apply Kd.R_drewN | apply Kd.R_drew)); exact HO371.out) (Kd.R_base ho2) hb)
      have n11_ := Aside0.mk (Kd.R_elder' (by (with_reducible repeat (first | apply Kd.R_alloc | apply Kd.R_drewN | apply Kd.R_drew)); exact HO374.out) (Kd.R_base ho3) hb)
      have n12_ := Aside0.mk (Kd.R_mono (Kd.R_told (Kd.R_told (Kd.R_old (by (with_reducible repeat (first | apply Kd.R_alloc | apply Kd.R_drewN | apply Kd.R_drew)); exact HO379.out) hb) (Kd.R_base ho0)) (Kd.R_base ho1)) (fun _ h_ => h_.1))
      have n13_ := Aside0.mk (Kd.R_mono (Kd.R_told (Kd.R_told (Kd.R_old (by (with_reducible repeat (first | apply Kd.R_alloc | apply Kd.R_drewN | apply Kd.R_drew)); exact HO382.out) hb) (Kd.R_base ho0)) (Kd.R_base ho1)) (fun _ h_ => h_.1))
      have n14_ := Aside0.mk (Kd.R_elder' (by (with_reducible repeat (first | apply Kd.R_alloc | apply Kd.R_drewN | apply Kd.R_drew)); exact HO385.out) (Kd.R_base ho2) hb)
      have n15_ := Aside0.mk (Kd.R_elder' (by (with_reducible repeat (first | apply Kd.R_alloc | apply Kd.R_drewN | apply Kd.R_drew)); exact HO388.out) (Kd.R_base ho3) hb)
      have n16_ := Aside0.mk (Kd.R_mono (Kd.R_told (Kd.R_told (Kd.R_old (by (with_reducible repeat (first | apply Kd.R_alloc | apply Kd.R_drewN | apply Kd.R_drew)); exact HO394.out) hb) (Kd.R_base ho0)) (Kd.R_base ho1)) (fun _ h_ => h_.1))
      have n17_ := Aside0.mk (Kd.R_mono (Kd.R_told (Kd.R_told (Kd.R_old (by (with_reducible repeat (first | apply Kd.R_alloc | apply Kd.R_drewN | apply Kd.R_drew)); exact HO397.out) hb) (Kd.R_base ho0)) (Kd.R_base ho1)) (fun _ h_ => h_.1))
      have n18_ := Aside0.mk (Kd.R_elder' (by (with_reducible repeat (first | apply Kd.R_alloc | apply Kd.R_drewN | apply Kd.R_drew)); exact HO400.out) (Kd.R_base ho2) hb)
      have n19_ := Aside0.mk (Kd.R_elder' (by (with_reducible repeat (first | apply Kd.R_alloc | apply Kd.R_drewN | apply Kd.R_drew)); exact HO403.out) (Kd.R_base ho3) hb)
      have n20_ := Aside0.mk (Kd.R_lower (Kd.R_new' (Kd.R_new' (Kd.R_new' (Kd.R_new' (Kd.R_new' (Kd.R_new' (Kd.R_new' (Kd.R_new' (Kd.R_new' (Kd.R_new' ho0 (Kd.R_lt (by (with_reducible repeat (first | apply Kd.R_alloc | apply Kd.R_drewN | apply Kd.R_drew)); exact HO338.out))) (Kd.R_lt (by (with_reducible repeat (first | apply Kd.R_alloc | apply Kd.R_drewN | apply Kd.R_drew)); exact HO341.out))) (Kd.R_lt (by (with_reducible repeat (first | apply Kd.R_alloc | apply Kd.R_drewN | apply Kd.R_drew)); exact HO351.out))) (Kd.R_lt (by (with_reducible repeat (first | apply Kd.R_alloc | apply Kd.R_drewN | apply Kd.R_drew)); exact HO354.out))) (Kd.R_lt (by (with_reducible repeat (first | apply Kd.R_alloc | apply Kd.R_drewN | apply Kd.R_drew)); exact HO365.out))) (Kd.R_lt (by (with_reducible repeat (first | apply Kd.R_alloc | apply Kd.R_drewN | apply Kd.R_drew)); exact HO368.out))) (Kd.R_lt (by (with_reducible repeat (first | apply Kd.R_alloc | apply Kd.R_drewN | apply Kd.R_drew)); exact HO379.out))) (Kd.R_lt (by (with_reducible repeat (first | apply Kd.R_alloc | apply Kd.R_drewN | apply Kd.R_drew)); exact HO382.out))) (Kd.R_lt (by (with_reducible repeat (first | apply Kd.R_alloc | apply Kd.R_drewN | apply Kd.R_drew)); exact HO394.out))) (Kd.R_lt (by (with_reducible repeat (first | apply Kd.R_alloc | apply Kd.R_drewN | apply Kd.R_drew)); exact HO397.out))) (below_size (by repeat (first | (with_reducible first | exact HB.out | apply below_alloc | apply pw_below_drewN | apply below_drew1 | refine below_set ?_ GE332.out | refine below_set ?_ GE333.out | refine below_set ?_ GE376.out | refine below_set ?_ GE390.out) | exact HB.out))))
      have n21_ := Aside0.mk (Kd.R_lower (Kd.R_new' (Kd.R_new' (Kd.R_new' (Kd.R_new' (Kd.R_new' (Kd.R_new' (Kd.R_new' (Kd.R_new' (Kd.R_new' (Kd.R_new' ho1 (Kd.R_lt (by (with_reducible repeat (first | apply Kd.R_alloc | apply Kd.R_drewN | apply Kd.R_drew)); exact HO338.out))) (Kd.R_lt (by (with_reducible repeat (first | apply Kd.R_alloc | apply Kd.R_drewN | apply Kd.R_drew)); exact HO341.out))) (Kd.R_lt (by (with_reducible repeat (first | apply Kd.R_alloc | apply Kd.R_drewN | apply Kd.R_drew)); exact HO351.out))) (Kd.R_lt (by (with_reducible repeat (first | apply Kd.R_alloc | apply Kd.R_drewN | apply Kd.R_drew)); exact HO354.out))) (Kd.R_lt (by (with_reducible repeat (first | apply Kd.R_alloc | apply Kd.R_drewN | apply Kd.R_drew)); exact HO365.out))) (Kd.R_lt (by (with_reducible repeat (first | apply Kd.R_alloc | apply Kd.R_drewN | apply Kd.R_drew)); exact HO368.out))) (Kd.R_lt (by (with_reducible repeat (first | apply Kd.R_alloc | apply Kd.R_drewN | apply Kd.R_drew)); exact HO379.out))) (Kd.R_lt (by (with_reducible repeat (first | apply Kd.R_alloc | apply Kd.R_drewN | apply Kd.R_drew)); exact HO382.out))) (Kd.R_lt (by (with_reducible repeat (first | apply Kd.R_alloc | apply Kd.R_drewN | apply Kd.R_drew)); exact HO394.out))) (Kd.R_lt (by (with_reducible repeat (first | apply Kd.R_alloc | apply Kd.R_drewN | apply Kd.R_drew)); exact HO397.out))) (below_size (by repeat (first | (with_reducible first | exact HB.out | apply below_alloc | apply pw_below_drewN | apply below_drew1 | refine below_set ?_ GE332.out | refine below_set ?_ GE333.out | refine below_set ?_ GE376.out | refine below_set ?_ GE390.out) | exact HB.out))))
      have n22_ := Aside0.mk (Kd.R_lower (Kd.R_new' (Kd.R_new' (Kd.R_new' (Kd.R_new' (Kd.R_new' ho2 (Kd.R_lt (by (with_reducible repeat (first | apply Kd.R_alloc | apply Kd.R_drewN | apply Kd.R_drew)); exact HO344.out))) (Kd.R_lt (by (with_reducible repeat (first | apply Kd.R_alloc | apply Kd.R_drewN | apply Kd.R_drew)); exact HO357.out))) (Kd.R_lt (by (with_reducible repeat (first | apply Kd.R_alloc | apply Kd.R_drewN | apply Kd.R_drew)); exact HO371.out))) (Kd.R_lt (by (with_reducible repeat (first | apply Kd.R_alloc | apply Kd.R_drewN | apply Kd.R_drew)); exact HO385.out))) (Kd.R_lt (by (with_reducible repeat (first | apply Kd.R_alloc | apply Kd.R_drewN | apply Kd.R_drew)); exact HO400.out))) (below_size (by repeat (first | (with_reducible first | exact HB.out | apply below_alloc | apply pw_below_drewN | apply below_drew1 | refine below_set ?_ GE332.out | refine below_set ?_ GE333.out | refine below_set ?_ GE376.out | refine below_set ?_ GE390.out) | exact HB.out))))
      have n23_ := Aside0.mk (Kd.R_lower (Kd.R_new' (Kd.R_new' (Kd.R_new' (Kd.R_new' (Kd.R_new' ho3 (Kd.R_lt (by (with_reducible repeat (first | apply Kd.R_alloc | apply Kd.R_drewN | apply Kd.R_drew)); exact HO347.out))) (Kd.R_lt (by (with_reducible repeat (first | apply Kd.R_alloc | apply Kd.R_drewN | apply Kd.R_drew)); exact HO360.out))) (Kd.R_lt (by (with_reducible repeat (first | apply Kd.R_alloc | apply Kd.R_drewN | apply Kd.R_drew)); exact HO374.out))) (Kd.R_lt (by (with_reducible repeat (first | apply Kd.R_alloc | apply Kd.R_drewN | apply Kd.R_drew)); exact HO388.out))) (Kd.R_lt (by (with_reducible repeat (first | apply Kd.R_alloc | apply Kd.R_drewN | apply Kd.R_drew)); exact HO403.out))) (below_size (by repeat (first | (with_reducible first | exact HB.out | apply below_alloc | apply pw_below_drewN | apply below_drew1 | refine below_set ?_ GE332.out | refine below_set ?_ GE333.out | refine below_set ?_ GE376.out | refine below_set ?_ GE390.out) | exact HB.out))))
      have n24_ := Aside0.mk (blk_below (g := gb332) (o := .cells #[.slice A0_0 l0_0.length c0_0, .slice A0_1 l0_1.length c0_1, .slice A0_2 l0_2.length c0_2, .slice A0_3 l0_3.length c0_3, .string a0_4] 37 (0, 0)) (by (with_reducible repeat (first | refine blk_drewN ?_ _ | refine blk_drew ?_ | refine blk_alloc ?_ _)); exact BK332.out) hb)
      have n25_ := Aside0.mk (blk_below (g := gb333) (o := .cells #[.slice A1_0 l1_0.length c1_0, .slice A1_1 l1_1.length c1_1, .slice A1_2 l1_2.length c1_2, .slice A1_3 l1_3.length c1_3, .string a1_4] 37 (0, 0)) (by (with_reducible repeat (first | refine blk_drewN ?_ _ | refine blk_drew ?_ | refine blk_alloc ?_ _)); exact BK333.out) hb)
      have n26_ := Aside0.mk (blk_below (g := gb376) (o := .cells #[.slice Ao54 t363.length co54, .slice Ao58 t366.length co58, .slice Ao59 t369.length co59, .slice Ao60 t372.length co60, .string t375] 28 (0, 0)) (by (with_reducible repeat (first | refine blk_drewN ?_ _ | refine blk_drew ?_ | refine blk_alloc ?_ _)); exact BK376.out) hb)
      have n27_ := Aside0.mk (blk_below (g := gb390) (o := .cells #[.slice Ao64 t377.length co64, .slice Ao69 t380.length co69, .slice Ao70 t383.length co70, .slice Ao71 t386.length co71, .string t389] 28 (0, 0)) (by (with_reducible repeat (first | refine blk_drewN ?_ _ | refine blk_drew ?_ | refine blk_alloc ?_ _)); exact BK390.out) hb)
      have n28_ := Aside0.mk (below_step (by repeat (first | (with_reducible first | exact HB.out | apply below_alloc | apply pw_below_drewN | apply below_drew1 | refine below_set ?_ GE332.out | refine below_set ?_ GE333.out | refine below_set ?_ GE376.out | refine below_set ?_ GE390.out) | exact HB.out)) hb)
      clear HO338
      clear HO341
      clear HO344
      clear HO347
      clear HO351
      clear HO354
      clear HO357
      clear HO360
      clear HO365
      clear HO368
      clear HO371
      clear HO374
      clear HO379
      clear HO382
      clear HO385
      clear HO388
      clear HO394
      clear HO397
      clear HO400
      clear HO403
      clear BK332
      clear BK333
      clear BK376
      clear BK390
      clear HB
      have HO338 := n0_
      have HO341 := n1_
      have HO344 := n2_
      have HO347 := n3_
      have HO351 := n4_
      have HO354 := n5_
      have HO357 := n6_
      have HO360 := n7_
      have HO365 := n8_
      have HO368 := n9_
      have HO371 := n10_
      have HO374 := n11_
      have HO379 := n12_
      have HO382 := n13_
      have HO385 := n14_
      have HO388 := n15_
      have HO394 := n16_
      have HO397 := n17_
      have HO400 := n18_
      have HO403 := n19_
      have HO408 := n20_
      have HO411 := n21_
      have HO414 := n22_
      have HO417 := n23_
      have BK332 := n24_
      have BK333 := n25_
      have BK376 := n26_
      have BK390 := n27_
      have HB := n28_
      clear n0_ n1_ n2_ n3_ n4_ n5_ n6_ n7_ n8_ n9_ n10_ n11_ n12_ n13_ n14_ n15_ n16_ n17_ n18_ n19_ n20_ n21_ n22_ n23_ n24_ n25_ n26_ n27_ n28_
      (try clear hb)
      (try clear hb2)
      (try clear hk)
      (try clear hi)
      (try clear ho0)
      (try clear ho1)
      (try clear ho2)
      (try clear ho3)
      obtain ⟨Ao83, co83, eo83⟩ := Kd.R_slice HO408.out
      (first | subst eo83 | (injection eo83 with f1_ f2_ f3_; have f4_ := f1_.symm; have f5_ := f3_.symm; clear f1_ f2_ f3_; subst f4_; subst f5_))
      obtain ⟨Ao84, co84, eo84⟩ := Kd.R_slice HO411.out
      (first | subst eo84 | (injection eo84 with f1_ f2_ f3_; have f4_ := f1_.symm; have f5_ := f3_.symm; clear f1_ f2_ f3_; subst f4_; subst f5_))
      obtain ⟨Ao85, co85, eo85⟩ := Kd.R_slice HO414.out
      (first | subst eo85 | (injection eo85 with f1_ f2_ f3_; have f4_ := f1_.symm; have f5_ := f3_.symm; clear f1_ f2_ f3_; subst f4_; subst f5_))
      obtain ⟨Ao86, co86, eo86⟩ := Kd.R_slice HO417.out
      (first | subst eo86 | (injection eo86 with f1_ f2_ f3_; have f4_ := f1_.symm; have f5_ := f3_.symm; clear f1_ f2_ f3_; subst f4_; subst f5_))
      refine hK.out _ _ ⟨(blk_cell BK390.out 0).trans rfl, (blk_cell BK390.out 1).trans rfl, (blk_cell BK390.out 2).trans rfl, (blk_cell BK390.out 3).trans rfl, (blk_cell BK390.out 4).trans rfl, (blk_cell BK333.out 0).trans rfl, (blk_cell BK333.out 1).trans rfl, (blk_cell BK333.out 2).trans rfl, (blk_cell BK333.out 3).trans rfl, (blk_cell BK333.out 4).trans rfl⟩ (fun hHeld => ?_)
      clear hK K
      refine norm_ (a' := ?_) ?_ ?_
      rotate_left
      ·show Act.put _ (some 42) _ = _
       simp only [Act.put, List.setIfInBounds_toArray, List.set_cons_zero, List.set_cons_succ, i64_w, i32_w]
       rfl
      refine one_ (i := 3) (N := some 43) #[true, true, true, true, false] rfl rfl (by kernel_rfl) (by decide) (fun K hK => ?_)
      refine goes_ Try.func8 (by kernel_rfl) rfl #[.agg #[.slice Ao64 t377.length co64, .slice Ao69 t380.length co69, .slice Ao70 t383.length co70, .slice Ao71 t386.length co71, .string t389], .agg #[.slice Ao83 t406.length co83, .slice Ao84 t409.length co84, .slice Ao85 t412.length co85, .slice Ao86 t415.length co86, .string t418]] (by rfl) rfl rfl (by (try simp only [List.map_toArray, List.map_cons, List.map_nil]); first | done | rfl | (simp only [List.length_drop, List.length_take]; rfl)) ?_
      with_reducible refine (laws_eqDesk.calls k _ _ t377 _ _ t380 _ _ t383 _ _ t386 t389 _ _ t406 _ _ t409 _ _ t412 _ _ t415 t418 true _ ?side1 ?side2 ?side3 ?side4 ?side5 ?side6 ?side7 ?side8 ?side9 ?side10 ?side11 ?side12 ?side13 ?side14 ?side15 ?side16 A30.out).mono ?_
      (case side1 => repeat (first | exact (Kd.R_reads' HO379.out).2.2 | (with_reducible refine Kd.C_alloc ?_ _) | (with_reducible refine Kd.C_drewN ?_ _) | (with_reducible refine Kd.C_drew ?_)))
      (case side2 => exact (Kd.R_reads' HO379.out).2.1)
      (case side3 => repeat (first | exact (Kd.R_reads' HO382.out).2.2 | (with_reducible refine Kd.C_alloc ?_ _) | (with_reducible refine Kd.C_drewN ?_ _) | (with_reducible refine Kd.C_drew ?_)))
      (case side4 => exact (Kd.R_reads' HO382.out).2.1)
      (case side5 => repeat (first | exact (Kd.R_reads' HO385.out).2.2 | (with_reducible refine Kd.C_alloc ?_ _) | (with_reducible refine Kd.C_drewN ?_ _) | (with_reducible refine Kd.C_drew ?_)))
      (case side6 => exact (Kd.R_reads' HO385.out).2.1)
      (case side7 => repeat (first | exact (Kd.R_reads' HO388.out).2.2 | (with_reducible refine Kd.C_alloc ?_ _) | (with_reducible refine Kd.C_drewN ?_ _) | (with_reducible refine Kd.C_drew ?_)))
      (case side8 => exact (Kd.R_reads' HO388.out).2.1)
      (case side9 => repeat (first | exact (Kd.R_reads' HO408.out).2.2 | (with_reducible refine Kd.C_alloc ?_ _) | (with_reducible refine Kd.C_drewN ?_ _) | (with_reducible refine Kd.C_drew ?_)))
      (case side10 => exact (Kd.R_reads' HO408.out).2.1)
      (case side11 => repeat (first | exact (Kd.R_reads' HO411.out).2.2 | (with_reducible refine Kd.C_alloc ?_ _) | (with_reducible refine Kd.C_drewN ?_ _) | (with_reducible refine Kd.C_drew ?_)))
      (case side12 => exact (Kd.R_reads' HO411.out).2.1)
      (case side13 => repeat (first | exact (Kd.R_reads' HO414.out).2.2 | (with_reducible refine Kd.C_alloc ?_ _) | (with_reducible refine Kd.C_drewN ?_ _) | (with_reducible refine Kd.C_drew ?_)))
      (case side14 => exact (Kd.R_reads' HO414.out).2.1)
      (case side15 => repeat (first | exact (Kd.R_reads' HO417.out).2.2 | (with_reducible refine Kd.C_alloc ?_ _) | (with_reducible refine Kd.C_drewN ?_ _) | (with_reducible refine Kd.C_drew ?_)))
      (case side16 => exact (Kd.R_reads' HO417.out).2.1)
      rintro e w87 ⟨rfl, hb⟩
      refine ⟨_, rfl, ?_⟩
      have n0_ := Aside0.mk (Kd.R_below (by (with_reducible repeat (first | apply Kd.R_alloc | apply Kd.R_drewN | apply Kd.R_drew)); exact HO338.out) hb)
      have n1_ := Aside0.mk (Kd.R_below (by (with_reducible repeat (first | apply Kd.R_alloc | apply Kd.R_drewN | apply Kd.R_drew)); exact HO341.out) hb)
      have n2_ := Aside0.mk (Kd.R_below (by (with_reducible repeat (first | apply Kd.R_alloc | apply Kd.R_drewN | apply Kd.R_drew)); exact HO344.out) hb)
      have n3_ := Aside0.mk (Kd.R_below (by (with_reducible repeat (first | apply Kd.R_alloc | apply Kd.R_drewN | apply Kd.R_drew)); exact HO347.out) hb)
      have n4_ := Aside0.mk (Kd.R_below (by (with_reducible repeat (first | apply Kd.R_alloc | apply Kd.R_drewN | apply Kd.R_drew)); exact HO351.out) hb)
      have n5_ := Aside0.mk (Kd.R_below (by (with_reducible repeat (first | apply Kd.R_alloc | apply Kd.R_drewN | apply Kd.R_drew)); exact HO354.out) hb)
      have n6_ := Aside0.mk (Kd.R_below (by (with_reducible repeat (first | apply Kd.R_alloc | apply Kd.R_drewN | apply Kd.R_drew)); exact HO357.out) hb)
      have n7_ := Aside0.mk (Kd.R_below (by (with_reducible repeat (first | apply Kd.R_alloc | apply Kd.R_drewN | apply Kd.R_drew)); exact HO360.out) hb)
      have n8_ := Aside0.mk (Kd.R_below (by (with_reducible repeat (first | apply Kd.R_alloc | apply Kd.R_drewN | apply Kd.R_drew)); exact HO365.out) hb)
      have n9_ := Aside0.mk (Kd.R_below (by (with_reducible repeat (first | apply Kd.R_alloc | apply Kd.R_drewN | apply Kd.R_drew)); exact HO368.out) hb)
      have n10_ := Aside0.mk (Kd.R_below (by (with_reducible repeat (first | apply Kd.R_alloc | apply Kd.R_drewN | apply Kd.R_drew)); exact HO371.out) hb)
      have n11_ := Aside0.mk (Kd.R_below (by (with_reducible repeat (first | apply Kd.R_alloc | apply Kd.R_drewN | apply Kd.R_drew)); exact HO374.out) hb)
      have n12_ := Aside0.mk (Kd.R_below (by (with_reducible repeat (first | apply Kd.R_alloc | apply Kd.R_drewN | apply Kd.R_drew)); exact HO379.out) hb)
      have n13_ := Aside0.mk (Kd.R_below (by (with_reducible repeat (first | apply Kd.R_alloc | apply Kd.R_drewN | apply Kd.R_drew)); exact HO382.out) hb)
      have n14_ := Aside0.mk (Kd.R_below (by (with_reducible repeat (first | apply Kd.R_alloc | apply Kd.R_drewN | apply Kd.R_drew)); exact HO385.out) hb)
      have n15_ := Aside0.mk (Kd.R_below (by (with_reducible repeat (first | apply Kd.R_alloc | apply Kd.R_drewN | apply Kd.R_drew)); exact HO388.out) hb)
      have n16_ := Aside0.mk (Kd.R_below (by (with_reducible repeat (first | apply Kd.R_alloc | apply Kd.R_drewN | apply Kd.R_drew)); exact HO394.out) hb)
      have n17_ := Aside0.mk (Kd.R_below (by (with_reducible repeat (first | apply Kd.R_alloc | apply Kd.R_drewN | apply Kd.R_drew)); exact HO397.out) hb)
      have n18_ := Aside0.mk (Kd.R_below (by (with_reducible repeat (first | apply Kd.R_alloc | apply Kd.R_drewN | apply Kd.R_drew)); exact HO400.out) hb)
      have n19_ := Aside0.mk (Kd.R_below (by (with_reducible repeat (first | apply Kd.R_alloc | apply Kd.R_drewN | apply Kd.R_drew)); exact HO403.out) hb)
      have n20_ := Aside0.mk (Kd.R_below (by (with_reducible repeat (first | apply Kd.R_alloc | apply Kd.R_drewN | apply Kd.R_drew)); exact HO408.out) hb)
      have n21_ := Aside0.mk (Kd.R_below (by (with_reducible repeat (first | apply Kd.R_alloc | apply Kd.R_drewN | apply Kd.R_drew)); exact HO411.out) hb)
      have n22_ := Aside0.mk (Kd.R_below (by (with_reducible repeat (first | apply Kd.R_alloc | apply Kd.R_drewN | apply Kd.R_drew)); exact HO414.out) hb)
      have n23_ := Aside0.mk (Kd.R_below (by (with_reducible repeat (first | apply Kd.R_alloc | apply Kd.R_drewN | apply Kd.R_drew)); exact HO417.out) hb)
      have n24_ := Aside0.mk (blk_below (g := gb332) (o := .cells #[.slice A0_0 l0_0.length c0_0, .slice A0_1 l0_1.length c0_1, .slice A0_2 l0_2.length c0_2, .slice A0_3 l0_3.length c0_3, .string a0_4] 37 (0, 0)) (by (with_reducible repeat (first | refine blk_drewN ?_ _ | refine blk_drew ?_ | refine blk_alloc ?_ _)); exact BK332.out) hb)
      have n25_ := Aside0.mk (blk_below (g := gb333) (o := .cells #[.slice A1_0 l1_0.length c1_0, .slice A1_1 l1_1.length c1_1, .slice A1_2 l1_2.length c1_2, .slice A1_3 l1_3.length c1_3, .string a1_4] 37 (0, 0)) (by (with_reducible repeat (first | refine blk_drewN ?_ _ | refine blk_drew ?_ | refine blk_alloc ?_ _)); exact BK333.out) hb)
      have n26_ := Aside0.mk (blk_below (g := gb376) (o := .cells #[.slice Ao54 t363.length co54, .slice Ao58 t366.length co58, .slice Ao59 t369.length co59, .slice Ao60 t372.length co60, .string t375] 28 (0, 0)) (by (with_reducible repeat (first | refine blk_drewN ?_ _ | refine blk_drew ?_ | refine blk_alloc ?_ _)); exact BK376.out) hb)
      have n27_ := Aside0.mk (blk_below (g := gb390) (o := .cells #[.slice Ao64 t377.length co64, .slice Ao69 t380.length co69, .slice Ao70 t383.length co70, .slice Ao71 t386.length co71, .string t389] 28 (0, 0)) (by (with_reducible repeat (first | refine blk_drewN ?_ _ | refine blk_drew ?_ | refine blk_alloc ?_ _)); exact BK390.out) hb)
      have n28_ := Aside0.mk (below_step (by repeat (first | (with_reducible first | exact HB.out | apply below_alloc | apply pw_below_drewN | apply below_drew1 | refine below_set ?_ GE332.out | refine below_set ?_ GE333.out | refine below_set ?_ GE376.out | refine below_set ?_ GE390.out) | exact HB.out)) hb)
      clear HO338
      clear HO341
      clear HO344
      clear HO347
      clear HO351
      clear HO354
      clear HO357
      clear HO360
      clear HO365
      clear HO368
      clear HO371
      clear HO374
      clear HO379
      clear HO382
      clear HO385
      clear HO388
      clear HO394
      clear HO397
      clear HO400
      clear HO403
      clear HO408
      clear HO411
      clear HO414
      clear HO417
      clear BK332
      clear BK333
      clear BK376
      clear BK390
      clear HB
      have HO338 := n0_
      have HO341 := n1_
      have HO344 := n2_
      have HO347 := n3_
      have HO351 := n4_
      have HO354 := n5_
      have HO357 := n6_
      have HO360 := n7_
      have HO365 := n8_
      have HO368 := n9_
      have HO371 := n10_
      have HO374 := n11_
      have HO379 := n12_
      have HO382 := n13_
      have HO385 := n14_
      have HO388 := n15_
      have HO394 := n16_
      have HO397 := n17_
      have HO400 := n18_
      have HO403 := n19_
      have HO408 := n20_
      have HO411 := n21_
      have HO414 := n22_
      have HO417 := n23_
      have BK332 := n24_
      have BK333 := n25_
      have BK376 := n26_
      have BK390 := n27_
      have HB := n28_
      clear n0_ n1_ n2_ n3_ n4_ n5_ n6_ n7_ n8_ n9_ n10_ n11_ n12_ n13_ n14_ n15_ n16_ n17_ n18_ n19_ n20_ n21_ n22_ n23_ n24_ n25_ n26_ n27_ n28_
      (try clear hb)
      (try clear hb2)
      (try clear hk)
      (try clear hi)
      refine hK.out _ _ ⟨(blk_cell BK390.out 0).trans rfl, (blk_cell BK390.out 1).trans rfl, (blk_cell BK390.out 2).trans rfl, (blk_cell BK390.out 3).trans rfl, (blk_cell BK390.out 4).trans rfl, (blk_cell BK333.out 0).trans rfl, (blk_cell BK333.out 1).trans rfl, (blk_cell BK333.out 2).trans rfl, (blk_cell BK333.out 3).trans rfl, (blk_cell BK333.out 4).trans rfl⟩ (fun hHeld => ?_)
      clear hK K
      refine norm_ (a' := ?_) ?_ ?_
      rotate_left
      ·show Act.put _ (some 43) _ = _
       simp only [Act.put, List.setIfInBounds_toArray, List.set_cons_zero, List.set_cons_succ, i64_w, i32_w]
       rfl
      refine pure_ (i := 4) (N := some 44) (v := ?_) (a' := ?_) #[true, true, true, true, true] rfl rfl (by kernel_rfl) (fun _ _ _ h => h) (Or.inl ⟨by rfl, ?_⟩) ?_ ?_
      rotate_left
      ·intro w'
       go_simp
       with_reducible rfl
      rotate_left
      ·simp only [Act.put, List.setIfInBounds_toArray, List.set_cons_zero, List.set_cons_succ, i64_w, i32_w]; rfl
      refine done_ (by kernel_rfl) ?_
      try go_wp2
      go_ret
      exact ⟨by first | rfl | (simp [errW_none, errW_some] <;> rfl) | (simp [*, errW_none, errW_some] <;> rfl), by repeat (first | (with_reducible first | exact HB.out | apply below_alloc | apply pw_below_drewN | apply below_drew1 | refine below_set ?_ GE332.out | refine below_set ?_ GE333.out | refine below_set ?_ GE376.out | refine below_set ?_ GE390.out) | exact HB.out)⟩
     ·replace c31 := Bool.eq_false_iff.mpr c31
      subst c31
      have H1 : (some false) = some r := by rw [if_neg (show ¬ (false = true) by decide)] at H; exact H
      clear H
      have H := H1
      clear H1
      exact absurd (Option.some.inj H) (by rw [hr_.out]; decide)
    ·replace c28 := Bool.eq_false_iff.mpr c28
     subst c28
     have H1 : (some false) = some r := by rw [if_neg (show ¬ (false = true) by decide)] at H; exact H
     clear H
     have H := H1
     clear H1
     exact absurd (Option.some.inj H) (by rw [hr_.out]; decide)

end Go.Proofs.Ytndclpkcbiaekaa.X

/-! ## Rdr -/
/- How an argument that reads as data is given to the printed functions: whole numbers, bools, strings, slices and structs of these, of whatever depth. No condition. -/
namespace Go.Proofs.Ytndclpkcbiaekaa.Rdr
open Go.ChangeShapes Go.WideShapes Go.Deep Go.Proofs.YtndclpkcbiaekaaW.PrintWords

def I64 (n : Int) : Prop := -9223372036854775808 ≤ n ∧ n ≤ 9223372036854775807
def Str (s : ByteArray) : Prop := s.size ≤ 9223372036854775807
def Lst {α : Type} (Wf : α → Prop) (xs : List α) : Prop := xs.length ≤ 9223372036854775807 ∧ ∀ x ∈ xs, Wf x

structure Reads (P : Program) (t : TypeId) {α : Type} (κ : Kd α) (Wf : α → Prop) : Prop where
  size : P.cellsOf t = κ.sz
  read : ∀ {H : Type} {enc : TypeId × Value → H} {W : World} {base : Nat} {spare : Nat → Bool} {held : Bool} {fuel : Nat} {cs : List Value} {x : DataW H × List MemPlace}, DataW.trod enc P W base spare held fuel t cs = some x → ∃ a, κ.K W a cs ∧ Wf a

theorem reads_i64 {P : Program} {t : TypeId} (ht : P.underlying t = some (.int .i64)) (hc : P.cellsOf t = 1) : Reads P t (Kd.int .i64) I64 := by
  refine ⟨hc, ?_⟩
  intro H enc W base spare held fuel cs x h
  obtain ⟨n, rfl, _, hw⟩ := DataW.trod_int ht h
  refine ⟨n, rfl, ?_⟩
  have hb := bounds_i64 hw
  unfold I64
  omega
theorem reads_bool {P : Program} {t : TypeId} (ht : P.underlying t = some .bool) (hc : P.cellsOf t = 1) : Reads P t Kd.bool (fun _ => True) := by
  refine ⟨hc, ?_⟩
  intro H enc W base spare held fuel cs x h
  obtain ⟨b, rfl, _⟩ := DataW.trod_bool ht h
  exact ⟨b, rfl, trivial⟩
theorem reads_str {P : Program} {t : TypeId} (ht : P.underlying t = some .string) (hc : P.cellsOf t = 1) : Reads P t Kd.string Str := by
  refine ⟨hc, ?_⟩
  intro H enc W base spare held fuel cs x h
  obtain ⟨s, rfl, _, hs⟩ := DataW.trod_string ht h
  exact ⟨s, rfl, hs⟩

theorem choose_any {α : Type} {n : Nat} {p : Nat → α → Prop} (h : ∀ i, i < n → ∃ x, p i x) : ∃ l : List α, l.length = n ∧ ∀ (j : Nat) (x : α), l[j]? = some x → p j x := by
  induction n with
  | zero => exact ⟨[], rfl, fun j x hj => by simp at hj⟩
  | succ n ih =>
    obtain ⟨l, hl, hp⟩ := ih (fun i hi => h i (by omega))
    obtain ⟨x, hx⟩ := h n (by omega)
    refine ⟨l ++ [x], by simp [hl], fun j y hj => ?_⟩
    rcases Nat.lt_or_ge j l.length with hj' | hj'
    · rw [List.getElem?_append_left hj'] at hj
      exact hp j y hj
    · have := (List.getElem?_eq_some_iff.1 hj).1
      rw [List.length_append, List.length_singleton] at this
      have e : j = l.length := by omega
      subst e
      have e2 : x = y := by simpa using hj
      subst e2
      rw [hl]
      exact hx

theorem reads_slice {P : Program} {t e : TypeId} {α : Type} {κ : Kd α} {Wf : α → Prop} (ht : P.underlying t = some (.slice e)) (hc : P.cellsOf t = 1) (he : Reads P e κ Wf) : Reads P t (Kd.slice e κ) (Lst Wf) := by
  refine ⟨hc, ?_⟩
  intro H enc W base spare held fuel cs x h
  rcases open_slice ht h with ⟨rfl, _⟩ | ⟨a, len, cap, m, n, D, Pl, rfl, hb, hl, hm, hmm, _, hx⟩
  · exact ⟨[], ⟨none, 0, rfl, Nat.le_refl _, rfl, by simp, fun h => by simp at h⟩, by simp [Lst]⟩
  · have hlm : len ≤ m := by rw [hmm]; split <;> omega
    obtain ⟨l, hll, hp⟩ := choose_any (α := α) (n := len) (p := fun i x => Wf x ∧ ∃ c, c.length = κ.sz ∧ κ.K W x c ∧ ∀ j u, c[j]? = some u → W.cell? (a.add (i * κ.sz + j)) = some u) (by
      intro i hi
      obtain ⟨c, hcells, htr⟩ := hx i (by omega)
      obtain ⟨y, hy, hw⟩ := he.read htr
      rw [he.size] at hcells
      obtain ⟨_, hlen, hcell⟩ := World.cells?_some hcells
      refine ⟨y, hw, c, hlen, hy, fun j u hj => ?_⟩
      have hjl := (List.getElem?_eq_some_iff.1 hj).1
      rw [← Go.Deep.add_add, hcell j (by omega)]
      exact hj)
    have hml : maxLen = 9223372036854775807 := by unfold maxLen; rfl
    refine ⟨l, ⟨some a, cap, by rw [hll], by omega, rfl, by omega, fun _ => ⟨a, rfl, fun j p hj => ?_⟩⟩, by omega, fun x hx' => ?_⟩
    · obtain ⟨_, c, h1, h2, h3⟩ := hp j p hj
      exact ⟨c, h1, h2, h3⟩
    · obtain ⟨j, hj⟩ := List.getElem?_of_mem hx'
      exact (hp j x hj).1

/-! The fields of a struct, from one on. -/
structure FReads (P : Program) (fs : List Field) (off : Nat) {α : Type} (κ : Kd α) (Wf : α → Prop) : Prop where
  read : ∀ {H : Type} {enc : TypeId × Value → H} {W : World} {base : Nat} {spare : Nat → Bool} {held : Bool} {n : Nat} (cs : List Value) (ys : List (DataW H × List MemPlace)), ys.length = fs.length →
    (∀ (i : Nat) (f : Field), fs[i]? = some f → DataW.trod enc P W base spare held n f.type ((cs.drop f.offset).take (P.cellsOf f.type)) = ys[i]?) → off + κ.sz = cs.length → ∃ a, κ.K W a (cs.drop off) ∧ Wf a

theorem freads_last {P : Program} {f : Field} {α : Type} {κ : Kd α} {Wf : α → Prop} {off : Nat} (ho : f.offset = off) (h : Reads P f.type κ Wf) : FReads P [f] off κ Wf := by
  constructor
  intro H enc W base spare held n cs ys hl hf hs
  have h0 := hf 0 f rfl
  have hy : 0 < ys.length := by rw [hl]; simp
  rw [List.getElem?_eq_getElem hy, ho, h.size, List.take_of_length_le (by rw [List.length_drop]; omega)] at h0
  exact h.read h0
theorem freads_cons {P : Program} {f : Field} {fs : List Field} {α β : Type} {κ : Kd α} {κ' : Kd β} {Wf : α → Prop} {Wf' : β → Prop} {off off' : Nat} (ho : f.offset = off) (h : Reads P f.type κ Wf) (hoff : off' = off + κ.sz) (h' : FReads P fs off' κ' Wf') :
    FReads P (f :: fs) off (Kd.pair κ κ') (fun x => Wf x.1 ∧ Wf' x.2) := by
  constructor
  intro H enc W base spare held n cs ys hl hf hs
  have hs' : off + (κ.sz + κ'.sz) = cs.length := hs
  have h0 := hf 0 f rfl
  have hy : 0 < ys.length := by rw [hl]; simp
  rw [List.getElem?_eq_getElem hy, ho, h.size] at h0
  obtain ⟨a, ha, hwa⟩ := h.read h0
  obtain ⟨b, hb, hwb⟩ := h'.read (H := H) (enc := enc) (W := W) (base := base) (spare := spare) (held := held) (n := n) cs ys.tail (by rw [List.length_tail, hl]; simp) (fun i g hg => by
    rw [List.getElem?_tail]
    exact hf (i + 1) g (by simpa using hg)) (by omega)
  refine ⟨(a, b), ⟨(cs.drop off).take κ.sz, cs.drop off', ?_, ha, hb⟩, hwa, hwb⟩
  rw [hoff, ← List.drop_drop, List.take_append_drop]
theorem reads_struct {P : Program} {t : TypeId} {fs : Array Field} {α : Type} {κ : Kd α} {Wf : α → Prop} (ht : P.underlying t = some (.struct fs)) (hc : P.cellsOf t = κ.sz) (h : FReads P fs.toList 0 κ Wf) : Reads P t κ Wf := by
  refine ⟨hc, ?_⟩
  intro H enc W base spare held fuel cs x hx
  obtain ⟨ys, n, _, _, hl, hyl, hf⟩ := DataW.trod_struct ht hx
  obtain ⟨a, ha, hw⟩ := h.read (H := H) (enc := enc) (W := W) (base := base) (spare := spare) (held := held) (n := n) cs ys (by simpa using hyl) (fun i f hi => hf i f (by simpa using hi)) (by rw [hl, hc]; omega)
  exact ⟨a, ha, hw⟩
theorem reads_iso {P : Program} {t : TypeId} {α β : Type} {κ : Kd α} {Wf : α → Prop} {f : β → α} (g : α → β) (hg : ∀ a, f (g a) = a) (h : Reads P t κ Wf) : Reads P t (Kd.iso κ f) (fun x => Wf (f x)) := by
  refine ⟨h.size, ?_⟩
  intro H enc W base spare held fuel cs x hx
  obtain ⟨a, ha, hw⟩ := h.read hx
  refine ⟨g a, ?_, ?_⟩
  · show κ.K W (f (g a)) cs
    rw [hg]
    exact ha
  · show Wf (f (g a))
    rw [hg]
    exact hw

end Go.Proofs.Ytndclpkcbiaekaa.Rdr

/-! ## SFnExactSameDesk -/
namespace Go.Proofs.Ytndclpkcbiaekaa.Say
open Go.RowKit Go.Proofs.Ytndclpkcbiaekaa.X
/-- The plain statement of laws_FnExactSameDesk. -/
def FnExactSameDesk : Prop := ∀ (l0_0 : List Int) (l0_1 : List Int) (l0_2 : List (S102)) (l0_3 : List (S104)) (a0_4 : ByteArray) (l1_0 : List Int) (l1_1 : List Int) (l1_2 : List (S102)) (l1_3 : List (S104)) (a1_4 : ByteArray), (Rdr.Lst Rdr.I64) l0_0 → (Rdr.Lst Rdr.I64) l0_1 → (Rdr.Lst (fun x : S102 => Rdr.I64 x.f0 ∧ (Rdr.I64 x.f1))) l0_2 → (Rdr.Lst (fun x : S104 => Rdr.I64 x.f0 ∧ (Rdr.I64 x.f1 ∧ (Rdr.I64 x.f2 ∧ (Rdr.I64 x.f3))))) l0_3 → Rdr.Str a0_4 → (Rdr.Lst Rdr.I64) l1_0 → (Rdr.Lst Rdr.I64) l1_1 → (Rdr.Lst (fun x : S102 => Rdr.I64 x.f0 ∧ (Rdr.I64 x.f1))) l1_2 → (Rdr.Lst (fun x : S104 => Rdr.I64 x.f0 ∧ (Rdr.I64 x.f1 ∧ (Rdr.I64 x.f2 ∧ (Rdr.I64 x.f3))))) l1_3 → Rdr.Str a1_4 → ∃ k, laws_FnExactSameDesk.f k l0_0 l0_1 l0_2 l0_3 a0_4 l1_0 l1_1 l1_2 l1_3 a1_4 = some true
end Go.Proofs.Ytndclpkcbiaekaa.Say

/-! ## Base -/
/- Plain words for the plain laws: what ends with a value once there are rounds enough; loops over an index; sums that do not wrap. No condition. -/
namespace Go.Proofs.Ytndclpkcbiaekaa.B
open Go.RowKit Go.Proofs.YtndclpkcbiaekaaW.PrintWords

theorem w64 {x : Int} (h : -9223372036854775808 ≤ x) (h' : x ≤ 9223372036854775807) : wrap64 x = x := by
  unfold wrap64; omega
theorem wnext {i n : Nat} (h : i < n) (hn : (n : Int) ≤ 9223372036854775807) : wrap64 ((i : Int) + 1) = ((i + 1 : Nat) : Int) := by
  rw [w64 (by omega) (by omega)]; omega

/-- From some number of rounds on these two are the same. -/
def EvEq {α : Type} (g f : Nat → Option α) : Prop := ∃ K, ∀ k, K ≤ k → g k = f k
theorem EvEq.now {α : Type} {g f : Nat → Option α} (h : ∀ k, g k = f k) : EvEq g f := ⟨0, fun k _ => h k⟩
theorem EvEq.trans {α : Type} {g f h : Nat → Option α} (a : EvEq g f) (b : EvEq f h) : EvEq g h := by
  obtain ⟨K, hK⟩ := a
  obtain ⟨K', hK'⟩ := b
  exact ⟨K + K', fun k hk => (hK k (by omega)).trans (hK' k (by omega))⟩
theorem EvEq.bind {α β : Type} {g : Nat → Option α} {a : α} {f : Nat → α → Option β} {h : Nat → Option β} (e : Ev g a) (b : EvEq (fun k => f k a) h) : EvEq (fun k => (g k).bind (f k)) h := by
  obtain ⟨K, hK⟩ := e
  obtain ⟨K', hK'⟩ := b
  refine ⟨K + K', fun k hk => ?_⟩
  show (g k).bind (f k) = _
  rw [hK k (by omega)]
  exact hK' k (by omega)
theorem Ev.ofEq {α : Type} {g f : Nat → Option α} {r : α} (a : EvEq g f) (b : Ev f r) : Ev g r := by
  obtain ⟨K, hK⟩ := a
  obtain ⟨K', hK'⟩ := b
  exact ⟨K + K', fun k hk => (hK k (by omega)).trans (hK' k (by omega))⟩
theorem Ev.const {α : Type} {g : Nat → Option α} {r : α} (h : ∀ k, g k = some r) : Ev g r := ⟨0, fun k _ => h k⟩
theorem Ev.up {α : Type} {g : Nat → Option α} {r : α} (h : Ev (fun k => g (k + 1)) r) : Ev g r := by
  obtain ⟨K, hK⟩ := h
  refine ⟨K + 1, fun k hk => ?_⟩
  have e : g (k - 1 + 1) = some r := hK (k - 1) (by omega)
  have : k - 1 + 1 = k := by omega
  rwa [this] at e
theorem Ev.bindE {α β : Type} {g : Nat → Option α} {a : α} {f : Nat → α → Option β} {r : β} (e : Ev g a) (b : Ev (fun k => f k a) r) : Ev (fun k => (g k).bind (f k)) r := Ev.bind e b
theorem Ev.ifPos {α : Type} {c : Prop} [Decidable c] {A B : Nat → Option α} {r : α} (h : c) (e : Ev A r) : Ev (fun k => if c then A k else B k) r := by
  simpa only [if_pos h] using e
theorem Ev.ifNeg {α : Type} {c : Prop} [Decidable c] {A B : Nat → Option α} {r : α} (h : ¬ c) (e : Ev B r) : Ev (fun k => if c then A k else B k) r := by
  simpa only [if_neg h] using e
theorem Ev.uniq {α : Type} {g : Nat → Option α} {a b : α} (h : Ev g a) (h' : Ev g b) : a = b := by
  obtain ⟨K, hK⟩ := h
  obtain ⟨K', hK'⟩ := h'
  have := (hK (K + K') (by omega)).symm.trans (hK' (K + K') (by omega))
  exact Option.some.inj this

/-- A loop by its rounds: at each one it ends, or goes on to the next. F: what it comes to from there. -/
theorem scan {ρ : Type} (L : Nat → Nat → Option ρ) (n : Nat) (F : Nat → ρ) (hend : Ev (fun k => L (k + 1) n) (F n))
    (hstep : ∀ i, i < n → Ev (fun k => L (k + 1) i) (F i) ∨ (F i = F (i + 1) ∧ EvEq (fun k => L (k + 1) i) (fun k => L k (i + 1)))) : ∀ i, i ≤ n → Ev (fun k => L k i) (F i) := by
  have key : ∀ d i, i + d = n → Ev (fun k => L k i) (F i) := by
    intro d
    induction d with
    | zero =>
      intro i hi
      have e : i = n := by omega
      rw [e]
      exact Ev.up (g := fun k => L k n) hend
    | succ d ih =>
      intro i hi
      rcases hstep i (by omega) with h | ⟨h, h'⟩
      · exact Ev.up (g := fun k => L k i) h
      · rw [h]
        exact Ev.up (g := fun k => L k i) (Ev.ofEq h' (ih (i + 1) (by omega)))
  intro i hi
  exact key (n - i) i (by omega)

/-- A loop whose value at the end is known, and at each round that of the next one. -/
theorem scanI {ρ : Type} (L : Nat → Nat → Option ρ) (n : Nat) (F : Nat → ρ) (hend : Ev (fun k => L k n) (F n))
    (hstep : ∀ i, i < n → Ev (fun k => L k (i + 1)) (F (i + 1)) → Ev (fun k => L k i) (F i)) : ∀ i, i ≤ n → Ev (fun k => L k i) (F i) := by
  have key : ∀ d i, i + d = n → Ev (fun k => L k i) (F i) := by
    intro d
    induction d with
    | zero =>
      intro i hi
      have e : i = n := by omega
      rw [e]
      exact hend
    | succ d ih =>
      intro i hi
      exact hstep i (by omega) (ih (i + 1) (by omega))
  intro i hi
  exact key (n - i) i (by omega)
theorem Ev.ite {α : Type} {c : Prop} [Decidable c] {A B : Nat → Option α} {r : α} (h : c → Ev A r) (h' : ¬ c → Ev B r) : Ev (fun k => if c then A k else B k) r := by
  by_cases e : c
  · exact Ev.ifPos e (h e)
  · exact Ev.ifNeg e (h' e)

def allFrom (p : Nat → Bool) (i n : Nat) : Bool := (List.range' i (n - i)).all p
theorem allFrom_end (p : Nat → Bool) (n : Nat) : allFrom p n n = true := by simp [allFrom]
theorem allFrom_step (p : Nat → Bool) {i n : Nat} (h : i < n) : allFrom p i n = (p i && allFrom p (i + 1) n) := by
  unfold allFrom
  obtain ⟨d, hd⟩ : ∃ d, n - i = d + 1 := ⟨n - i - 1, by omega⟩
  have : n - (i + 1) = d := by omega
  rw [hd, this, List.range'_succ, List.all_cons]
theorem allFrom_iff (p : Nat → Bool) (i n : Nat) : allFrom p i n = true ↔ ∀ j, i ≤ j → j < n → p j = true := by
  unfold allFrom
  rw [List.all_eq_true]
  constructor
  · intro h j h1 h2
    exact h j (by rw [List.mem_range'_1]; omega)
  · intro h j hj
    rw [List.mem_range'_1] at hj
    exact h j (by omega) (by omega)
/-- A loop that goes on while p, and ends with false. -/
theorem allScan (L : Nat → Nat → Option Bool) (n : Nat) (p : Nat → Bool) (fin : Bool) (hend : Ev (fun k => L (k + 1) n) fin)
    (hstep : ∀ i, i < n → EvEq (fun k => L (k + 1) i) (fun k => if p i = true then L k (i + 1) else some false)) : ∀ i, i ≤ n → Ev (fun k => L k i) (allFrom p i n && fin) := by
  refine scan L n (fun i => allFrom p i n && fin) ?_ ?_
  · show Ev _ (allFrom p n n && fin)
    rw [allFrom_end, Bool.true_and]
    exact hend
  · intro i hi
    by_cases hp : p i = true
    · right
      refine ⟨by show (allFrom p i n && fin) = (allFrom p (i + 1) n && fin); rw [allFrom_step p hi, hp, Bool.true_and], ?_⟩
      have h := hstep i hi
      simpa only [if_pos hp] using h
    · left
      have h := hstep i hi
      have hp' : p i = false := by simpa using hp
      have e : (allFrom p i n && fin) = false := by rw [allFrom_step p hi, hp']; rfl
      show Ev _ (allFrom p i n && fin)
      rw [e]
      refine Ev.ofEq h (Ev.const fun k => ?_)
      rw [if_neg hp]

def firstFrom (p : Nat → Bool) (i n : Nat) : Int := match (List.range' i (n - i)).find? p with | some j => (j : Int) | none => -1
theorem firstFrom_end (p : Nat → Bool) (n : Nat) : firstFrom p n n = -1 := by simp [firstFrom]
theorem firstFrom_step (p : Nat → Bool) {i n : Nat} (h : i < n) : firstFrom p i n = if p i = true then (i : Int) else firstFrom p (i + 1) n := by
  unfold firstFrom
  obtain ⟨d, hd⟩ : ∃ d, n - i = d + 1 := ⟨n - i - 1, by omega⟩
  have : n - (i + 1) = d := by omega
  rw [hd, this, List.range'_succ, List.find?_cons]
  cases p i <;> simp
/-- A loop that ends at the first index with p, and tells -1 where there is none. -/
theorem firstScan (L : Nat → Nat → Option Int) (n : Nat) (p : Nat → Bool) (hend : Ev (fun k => L (k + 1) n) (-1))
    (hstep : ∀ i, i < n → EvEq (fun k => L (k + 1) i) (fun k => if p i = true then some (i : Int) else L k (i + 1))) : ∀ i, i ≤ n → Ev (fun k => L k i) (firstFrom p i n) := by
  refine scan L n (fun i => firstFrom p i n) ?_ ?_
  · show Ev _ (firstFrom p n n)
    rw [firstFrom_end]
    exact hend
  · intro i hi
    by_cases hp : p i = true
    · left
      show Ev _ (firstFrom p i n)
      rw [firstFrom_step p hi, if_pos hp]
      exact Ev.ofEq (hstep i hi) (Ev.const fun k => by rw [if_pos hp])
    · right
      refine ⟨by show firstFrom p i n = firstFrom p (i + 1) n; rw [firstFrom_step p hi, if_neg hp], ?_⟩
      simpa only [if_neg hp] using hstep i hi
theorem firstFrom_none (p : Nat → Bool) {n : Nat} : ∀ i, i ≤ n → (firstFrom p i n = -1 ↔ ∀ j, i ≤ j → j < n → p j = false) := by
  have key : ∀ d i, i + d = n → (firstFrom p i n = -1 ↔ ∀ j, i ≤ j → j < n → p j = false) := by
    intro d
    induction d with
    | zero =>
      intro i hi
      have e : i = n := by omega
      subst e
      rw [firstFrom_end]
      exact ⟨fun _ j h1 h2 => by omega, fun _ => rfl⟩
    | succ d ih =>
      intro i hi
      rw [firstFrom_step p (by omega)]
      by_cases hp : p i = true
      · rw [if_pos hp]
        constructor
        · intro h; omega
        · intro h
          have := h i (by omega) (by omega)
          rw [hp] at this
          cases this
      · rw [if_neg hp, ih (i + 1) (by omega)]
        constructor
        · intro h j h1 h2
          by_cases e : j = i
          · subst e; simpa using hp
          · exact h j (by omega) h2
        · intro h j h1 h2
          exact h j (by omega) h2
  intro i hi
  exact key (n - i) i (by omega)
theorem firstFrom_some (p : Nat → Bool) {n : Nat} : ∀ i, i ≤ n → firstFrom p i n ≠ -1 → ∃ j : Nat, firstFrom p i n = (j : Int) ∧ i ≤ j ∧ j < n ∧ p j = true := by
  have key : ∀ d i, i + d = n → firstFrom p i n ≠ -1 → ∃ j : Nat, firstFrom p i n = (j : Int) ∧ i ≤ j ∧ j < n ∧ p j = true := by
    intro d
    induction d with
    | zero =>
      intro i hi h
      have e : i = n := by omega
      subst e
      rw [firstFrom_end] at h
      exact absurd rfl h
    | succ d ih =>
      intro i hi h
      rw [firstFrom_step p (by omega)] at h ⊢
      by_cases hp : p i = true
      · rw [if_pos hp]
        exact ⟨i, rfl, by omega, by omega, hp⟩
      · rw [if_neg hp] at h ⊢
        obtain ⟨j, h1, h2, h3, h4⟩ := ih (i + 1) (by omega) h
        exact ⟨j, h1, by omega, h3, h4⟩
  intro i hi
  exact key (n - i) i (by omega)
theorem firstFrom_congr {p q : Nat → Bool} {n : Nat} (h : ∀ j, j < n → p j = q j) : ∀ i, i ≤ n → firstFrom p i n = firstFrom q i n := by
  have key : ∀ d i, i + d = n → firstFrom p i n = firstFrom q i n := by
    intro d
    induction d with
    | zero =>
      intro i hi
      have e : i = n := by omega
      subst e
      rw [firstFrom_end, firstFrom_end]
    | succ d ih =>
      intro i hi
      rw [firstFrom_step p (by omega), firstFrom_step q (by omega), h i (by omega), ih (i + 1) (by omega)]
  intro i hi
  exact key (n - i) i (by omega)

theorem getD_at {α : Type} {xs : List α} {i : Nat} (h : i < xs.length) (d : α) : xs.getD i d = xs[i] := by
  rw [List.getD_eq_getElem?_getD, List.getElem?_eq_getElem h]; rfl
theorem rd_at {xs : List Int} {i : Nat} (h : i < xs.length) : rd xs (i : Int) = xs[i] := by
  unfold rd; rw [Int.toNat_natCast]; exact getD_at h _
theorem rdOf_at {α : Type} {d : α} {xs : List α} {i : Nat} (h : i < xs.length) : rdOf d xs (i : Int) = xs[i] := by
  unfold rdOf; rw [Int.toNat_natCast]; exact getD_at h _
theorem allFrom_congr {p q : Nat → Bool} (h : ∀ j, p j = q j) (i n : Nat) : allFrom p i n = allFrom q i n := by
  rw [show p = q from funext h]
/-- Rows that are compared place by place. -/
theorem rows3 {L : Nat → Int → Option Bool} {n m : Nat} {c : Int → Bool} (hn : n ≤ 9223372036854775807)
    (hL : ∀ k i, L (k + 1) i = if i < (n : Int) then (if 0 ≤ i then (if i < (m : Int) then (if c i = true then some false else L k (wrap64 (i + 1))) else none) else none) else some true) :
    Ev (fun k => if (n : Int) = (m : Int) then L k 0 else some false) (decide (n = m) && allFrom (fun j => !c j) 0 n) := by
  by_cases hl : n = m
  · rw [decide_eq_true hl, Bool.true_and]
    refine Ev.ifPos (by omega) ?_
    have h := allScan (fun k i => L k (i : Int)) n (fun j => !c j) true (Ev.const fun k => by rw [hL, if_neg (by omega)]) (by
      intro i hi
      refine EvEq.now fun k => ?_
      rw [hL, if_pos (by omega), if_pos (by omega), if_pos (by omega), wnext hi (by omega)]
      cases c i <;> rfl) 0 (by omega)
    rw [Bool.and_true] at h
    exact h
  · rw [decide_eq_false hl, Bool.false_and]
    exact Ev.ifNeg (by omega) (Ev.const fun _ => rfl)
theorem rows4 {L : Nat → Int → Option Bool} {n m : Nat} {c : Int → Bool} (hn : n ≤ 9223372036854775807)
    (hL : ∀ k i, L (k + 1) i = if i < (n : Int) then (if 0 ≤ i then (if i < (n : Int) then (if i < (m : Int) then (if c i = true then some false else L k (wrap64 (i + 1))) else none) else none) else none) else some true) :
    Ev (fun k => if (n : Int) = (m : Int) then L k 0 else some false) (decide (n = m) && allFrom (fun j => !c j) 0 n) := by
  refine rows3 hn fun k i => ?_
  rw [hL]
  by_cases h : i < (n : Int)
  · rw [if_pos h, if_pos h, if_pos h]
  · rw [if_neg h, if_neg h]
/-- A row that is filled from its begin. -/
theorem fill_set {α : Type} (xs : List α) (z : α) {i n : Nat} (hi : i < n) (hl : xs.length = n) : (xs.take i ++ List.replicate (n - i) z).set i (xs[i]'(by omega)) = xs.take (i + 1) ++ List.replicate (n - (i + 1)) z := by
  have hlt : (xs.take i).length = i := by rw [List.length_take]; omega
  rw [List.set_append_right _ _ (by omega), hlt, Nat.sub_self]
  obtain ⟨d, hd⟩ : ∃ d, n - i = d + 1 := ⟨n - i - 1, by omega⟩
  have hd' : n - (i + 1) = d := by omega
  rw [hd, hd', List.replicate_succ, List.set_cons_zero, List.take_succ_eq_append_getElem (by omega), List.append_assoc]
  rfl

end Go.Proofs.Ytndclpkcbiaekaa.B

/-! ## Conv -/
/- Plain words for the laws' own helpers: measuring an argument, copying it, comparing it with itself, marking a result and finding the marks again. No condition but the lengths that fit. -/
namespace Go.Proofs.Ytndclpkcbiaekaa.B
open Go.RowKit Go.Proofs.YtndclpkcbiaekaaW.PrintWords

def sumOf {α : Type} (f : α → Int) (xs : List α) : Int := (xs.map f).sum
theorem sumOf_nil {α : Type} (f : α → Int) : sumOf f [] = 0 := rfl
theorem sumOf_cons {α : Type} (f : α → Int) (x : α) (xs : List α) : sumOf f (x :: xs) = f x + sumOf f xs := by simp [sumOf]
theorem sumOf_nonneg {α : Type} {f : α → Int} {xs : List α} (h : ∀ x ∈ xs, 0 ≤ f x) : 0 ≤ sumOf f xs := by
  induction xs with
  | nil => simp [sumOf]
  | cons x xs ih =>
    rw [sumOf_cons]
    have h1 := h x (List.mem_cons_self ..)
    have h2 := ih fun y hy => h y (List.mem_cons_of_mem _ hy)
    omega
theorem sumOf_mem {α : Type} {f : α → Int} {xs : List α} (h : ∀ x ∈ xs, 0 ≤ f x) : ∀ x ∈ xs, f x ≤ sumOf f xs := by
  induction xs with
  | nil => intro x hx; cases hx
  | cons y xs ih =>
    intro x hx
    rw [sumOf_cons]
    have h1 := h y (List.mem_cons_self ..)
    have h2 := sumOf_nonneg (f := f) (xs := xs) fun z hz => h z (List.mem_cons_of_mem _ hz)
    rcases List.mem_cons.1 hx with rfl | hx
    · omega
    · have := ih (fun z hz => h z (List.mem_cons_of_mem _ hz)) x hx
      omega

/-- g takes s off what is left, or tells -1 if there is less. -/
def Sz (g : Int → Nat → Option Int) (s : Int) : Prop := 0 ≤ s ∧ ∀ left, 0 ≤ left → left ≤ 1048576 → Ev (fun k => g left k) (if s ≤ left then left - s else -1)
theorem Sz.id : Sz (fun left _ => some left) 0 := ⟨by omega, fun left h h' => Ev.const fun k => by show some left = _; rw [if_pos h, show left - 0 = left by omega]⟩
theorem Sz.seq {g h : Int → Nat → Option Int} {s t : Int} (a : Sz g s) (b : Sz h t) : Sz (fun left k => (g left k).bind fun u => if u < 0 then some (-1) else h u k) (s + t) := by
  refine ⟨by have := a.1; have := b.1; omega, fun left h0 h1 => ?_⟩
  have hs := a.1
  have ht := b.1
  refine Ev.bindE (a.2 left h0 h1) ?_
  by_cases c : s ≤ left
  · simp only [if_pos c]
    refine Ev.ifNeg (by omega) ?_
    have := b.2 (left - s) (by omega) (by omega)
    by_cases d : t ≤ left - s
    · rw [if_pos (by omega)]
      rw [if_pos d] at this
      have e : left - s - t = left - (s + t) := by omega
      rwa [e] at this
    · rw [if_neg (by omega)]
      rwa [if_neg d] at this
  · simp only [if_neg c]
    rw [if_neg (by omega)]
    exact Ev.ifPos (by omega) (Ev.const fun _ => rfl)
theorem Sz.len {n : Nat} (hn : n ≤ 9223372036854775807) {h : Int → Nat → Option Int} {t : Int} (b : Sz h t) : Sz (fun left k => if wrap64 (left - (n : Int)) < 0 then some (-1) else h (wrap64 (left - (n : Int))) k) ((n : Int) + t) := by
  have ht := b.1
  refine ⟨by omega, fun left h0 h1 => ?_⟩
  have e : wrap64 (left - (n : Int)) = left - n := w64 (by omega) (by omega)
  simp only [e]
  by_cases c : (n : Int) ≤ left
  · refine Ev.ifNeg (by omega) ?_
    have := b.2 (left - n) (by omega) (by omega)
    by_cases d : t ≤ left - n
    · rw [if_pos (by omega)]
      rw [if_pos d] at this
      have e : left - n - t = left - (n + t) := by omega
      rwa [e] at this
    · rw [if_neg (by omega)]
      rwa [if_neg d] at this
  · rw [if_neg (by omega)]
    exact Ev.ifPos (by omega) (Ev.const fun _ => rfl)
/-- A row: its length, then each element in turn. -/
theorem Sz.list {α : Type} {xs : List α} {rdx : Int → α} {e : α → Int → Nat → Option Int} {s : α → Int} {L : Nat → Int → Int → Option Int} (hn : xs.length ≤ 9223372036854775807)
    (hrd : ∀ (i : Nat) (h : i < xs.length), rdx (i : Int) = xs[i]) (he : ∀ x ∈ xs, Sz (e x) (s x))
    (hL : ∀ k l i, L (k + 1) l i = if i < (xs.length : Int) then (if 0 ≤ i then ((e (rdx i) l k).bind fun u => if u < 0 then some (-1) else L k u (wrap64 (i + 1))) else none) else some l) :
    Sz (fun left k => if wrap64 (left - (xs.length : Int)) < 0 then some (-1) else L k (wrap64 (left - (xs.length : Int))) 0) ((xs.length : Int) + sumOf s xs) := by
  refine Sz.len hn (h := fun left k => L k left 0) ⟨sumOf_nonneg fun x hx => (he x hx).1, ?_⟩
  have key : ∀ (suf pre : List α), xs = pre ++ suf → ∀ left, 0 ≤ left → left ≤ 1048576 → Ev (fun k => L k left (pre.length : Int)) (if sumOf s suf ≤ left then left - sumOf s suf else -1) := by
    intro suf
    induction suf with
    | nil =>
      intro pre hx left h0 h1
      refine Ev.up (g := fun k => L k left (pre.length : Int)) (Ev.const fun k => ?_)
      have : xs.length = pre.length := by rw [hx]; simp
      rw [hL, if_neg (by omega), sumOf_nil, if_pos h0]
      congr 1; omega
    | cons x suf ih =>
      intro pre hx left h0 h1
      have hlen : xs.length = pre.length + (suf.length + 1) := by rw [hx]; simp
      have hi : pre.length < xs.length := by omega
      have hxi : xs[pre.length] = x := by simp [hx]
      have hm : x ∈ xs := by rw [hx]; simp
      have hs := (he x hm).1
      have hss : 0 ≤ sumOf s suf := sumOf_nonneg fun y hy => (he y (by rw [hx]; simp [hy])).1
      refine Ev.up (g := fun k => L k left (pre.length : Int)) ?_
      simp only [hL, hrd _ hi, hxi]
      refine Ev.ifPos (by omega) (Ev.ifPos (by omega) (Ev.bindE ((he x hm).2 left h0 h1) ?_))
      rw [sumOf_cons]
      by_cases c : s x ≤ left
      · simp only [if_pos c]
        refine Ev.ifNeg (by omega) ?_
        have h' := ih (pre ++ [x]) (by rw [hx]; simp) (left - s x) (by omega) (by omega)
        have e1 : ((pre ++ [x]).length : Int) = wrap64 ((pre.length : Int) + 1) := by rw [wnext hi (by omega)]; simp
        rw [e1] at h'
        by_cases d : sumOf s suf ≤ left - s x
        · rw [if_pos (by omega)]
          rw [if_pos d] at h'
          have e : left - s x - sumOf s suf = left - (s x + sumOf s suf) := by omega
          rwa [e] at h'
        · rw [if_neg (by omega)]
          rwa [if_neg d] at h'
      · simp only [if_neg c]
        rw [if_neg (by omega)]
        exact Ev.ifPos (by omega) (Ev.const fun _ => rfl)
  exact key xs [] rfl

/-- Copying a row, element by element. -/
theorem Cv.list {α β τ : Type} {xs : List α} {rdx : Int → α} {e : Nat → α → Option τ} {mk : τ → β} {c : α → β} {t : α → τ} {z : β} {L : Nat → List β → Int → Option (List β)} {lim : Nat}
    (hlim : xs.length ≤ lim) (hbig : xs.length ≤ 9223372036854775807) (hrd : ∀ (i : Nat) (h : i < xs.length), rdx (i : Int) = xs[i]) (he : ∀ x ∈ xs, Ev (fun k => e k x) (t x)) (hc : ∀ x, mk (t x) = c x)
    (hL : ∀ k ys i, L (k + 1) ys i = if i < (xs.length : Int) then (if 0 ≤ i then ((e k (rdx i)).bind fun bt => if i < (ys.length : Int) then L k (ys.set i.toNat (mk bt)) (wrap64 (i + 1)) else none) else none) else some ys) :
    Ev (fun k => if 0 ≤ (xs.length : Int) then (if ((xs.length : Int)).toNat ≤ lim then L k (List.replicate ((xs.length : Int)).toNat z) 0 else none) else none) (xs.map c) := by
  refine Ev.ifPos (by omega) (Ev.ifPos (by omega) ?_)
  have h := scanI (fun k i => L k ((xs.map c).take i ++ List.replicate (xs.length - i) z) (i : Int)) xs.length (fun _ => xs.map c) (Ev.up (g := fun k => L k ((xs.map c).take xs.length ++ List.replicate (xs.length - xs.length) z) (xs.length : Int)) (Ev.const fun k => by
      rw [hL, if_neg (by omega)]
      simp [List.take_of_length_le])) (by
      intro i hi ih
      refine Ev.up (g := fun k => L k ((xs.map c).take i ++ List.replicate (xs.length - i) z) (i : Int)) ?_
      have hl : ((xs.map c).take i ++ List.replicate (xs.length - i) z).length = xs.length := by simp; omega
      simp only [hL, hrd _ hi]
      refine Ev.ifPos (by omega) (Ev.ifPos (by omega) (Ev.bindE (he _ (List.getElem_mem hi)) (Ev.ifPos (by rw [hl]; omega) ?_)))
      have hs := fill_set (xs.map c) z (i := i) (n := xs.length) hi (by simp)
      rw [hc, Int.toNat_natCast, wnext hi (by omega)]
      rw [List.getElem_map] at hs
      rw [hs]
      exact ih) 0 (by omega)
  simpa using h
theorem Cv.plain {α : Type} {xs : List α} {rdx : Int → α} {z : α} {L : Nat → List α → Int → Option (List α)} {lim : Nat}
    (hlim : xs.length ≤ lim) (hbig : xs.length ≤ 9223372036854775807) (hrd : ∀ (i : Nat) (h : i < xs.length), rdx (i : Int) = xs[i])
    (hL : ∀ k ys i, L (k + 1) ys i = if i < (xs.length : Int) then (if 0 ≤ i then (if i < (ys.length : Int) then L k (ys.set i.toNat (rdx i)) (wrap64 (i + 1)) else none) else none) else some ys) :
    Ev (fun k => if 0 ≤ (xs.length : Int) then (if ((xs.length : Int)).toNat ≤ lim then L k (List.replicate ((xs.length : Int)).toNat z) 0 else none) else none) xs := by
  have h := Cv.list (xs := xs) (rdx := rdx) (e := fun _ x => some x) (mk := fun x => x) (c := fun x => x) (t := fun x => x) (z := z) (L := L) hlim hbig hrd (fun x _ => Ev.const fun _ => rfl) (fun _ => rfl) hL
  simpa using h

/-- Comparing a row with itself. -/
theorem Eq.list {α : Type} {xs : List α} {rdx : Int → α} {e : Nat → α → Option Bool} {L : Nat → Int → Option Bool}
    (hbig : xs.length ≤ 9223372036854775807) (hrd : ∀ (i : Nat) (h : i < xs.length), rdx (i : Int) = xs[i]) (he : ∀ x ∈ xs, Ev (fun k => e k x) true)
    (hL : ∀ k i, L (k + 1) i = if i < (xs.length : Int) then (if 0 ≤ i then (if i < (xs.length : Int) then ((e k (rdx i)).bind fun u => if u = true then L k (wrap64 (i + 1)) else some false) else none) else none) else some true) :
    Ev (fun k => if (xs.length : Int) = (xs.length : Int) then L k 0 else some false) true := by
  refine Ev.ifPos rfl ?_
  exact scanI (fun k i => L k (i : Int)) xs.length (fun _ => true) (Ev.up (g := fun k => L k (xs.length : Int)) (Ev.const fun k => by rw [hL, if_neg (by omega)])) (by
    intro i hi ih
    refine Ev.up (g := fun k => L k (i : Int)) ?_
    simp only [hL, hrd _ hi]
    refine Ev.ifPos (by omega) (Ev.ifPos (by omega) (Ev.ifPos (by omega) (Ev.bindE (he _ (List.getElem_mem hi)) (Ev.ifPos rfl ?_))))
    rw [wnext hi (by omega)]
    exact ih) 0 (by omega)

theorem Eq.flat {α : Type} {xs : List α} {P : Int → Prop} [DecidablePred P] {L : Nat → Int → Option Bool}
    (hbig : xs.length ≤ 9223372036854775807) (hP : ∀ x, P x)
    (hL : ∀ k i, L (k + 1) i = if i < (xs.length : Int) then (if 0 ≤ i then (if i < (xs.length : Int) then (if P i then L k (wrap64 (i + 1)) else some false) else none) else none) else some true) :
    Ev (fun k => if (xs.length : Int) = (xs.length : Int) then L k 0 else some false) true := by
  refine Ev.ifPos rfl ?_
  exact scanI (fun k i => L k (i : Int)) xs.length (fun _ => true) (Ev.up (g := fun k => L k (xs.length : Int)) (Ev.const fun k => by rw [hL, if_neg (by omega)])) (by
    intro i hi ih
    refine Ev.up (g := fun k => L k (i : Int)) ?_
    simp only [hL]
    refine Ev.ifPos (by omega) (Ev.ifPos (by omega) (Ev.ifPos (by omega) (Ev.ifPos (hP _) ?_)))
    rw [wnext hi (by omega)]
    exact ih) 0 (by omega)

/-- Marks from c on, put into each element in turn. -/
def markAll {α : Type} (E : α → Int → α) (cost : α → Int) : List α → Int → List α
  | [], _ => []
  | x :: xs, c => E x c :: markAll E cost xs (c + cost x)
theorem markAll_len {α : Type} (E : α → Int → α) (cost : α → Int) (xs : List α) : ∀ c, (markAll E cost xs c).length = xs.length := by
  induction xs with
  | nil => intro c; rfl
  | cons x xs ih => intro c; simp [markAll, ih]
theorem Mk.list {α : Type} {E : α → Int → α} {cost : α → Int} {L : Nat → List α → Int → Int → Option (Int × List α)} {n : Nat} (hbig : n ≤ 1048576) (hcost : ∀ x, 0 ≤ cost x)
    (hend : ∀ k ys c, ys.length = n → L (k + 1) ys c (n : Int) = some (c, ys))
    (hstep : ∀ ys c (i : Nat) (h : i < ys.length), ys.length = n → 0 ≤ c → c + cost ys[i] ≤ 4611686018427387904 → EvEq (fun k => L (k + 1) ys c (i : Int)) (fun k => L k (ys.set i (E ys[i] c)) (c + cost ys[i]) ((i + 1 : Nat) : Int))) :
    ∀ xs : List α, xs.length = n → ∀ c, 0 ≤ c → c + sumOf cost xs ≤ 4611686018427387904 → Ev (fun k => L k xs c 0) (c + sumOf cost xs, markAll E cost xs c) := by
  have key : ∀ (suf pre : List α) (c : Int), (pre ++ suf).length = n → 0 ≤ c → c + sumOf cost suf ≤ 4611686018427387904 → Ev (fun k => L k (pre ++ suf) c (pre.length : Int)) (c + sumOf cost suf, pre ++ markAll E cost suf c) := by
    intro suf
    induction suf with
    | nil =>
      intro pre c hl h0 h1
      refine Ev.up (g := fun k => L k (pre ++ []) c (pre.length : Int)) (Ev.const fun k => ?_)
      have e : (pre.length : Int) = (n : Int) := by rw [← hl]; simp
      rw [e, hend k _ c hl, sumOf_nil]
      simp [markAll]
    | cons x suf ih =>
      intro pre c hl h0 h1
      rw [sumOf_cons] at h1 ⊢
      have hc := hcost x
      have hs : 0 ≤ sumOf cost suf := sumOf_nonneg fun y _ => hcost y
      have hi : pre.length < (pre ++ x :: suf).length := by simp
      have hx : (pre ++ x :: suf)[pre.length] = x := by simp
      refine Ev.up (g := fun k => L k (pre ++ x :: suf) c (pre.length : Int)) ?_
      have st := hstep (pre ++ x :: suf) c pre.length hi hl h0 (by rw [hx]; omega)
      rw [hx] at st
      refine Ev.ofEq st ?_
      have h' := ih (pre ++ [E x c]) (c + cost x) (by simpa using hl) (by omega) (by omega)
      have e1 : (pre ++ x :: suf).set pre.length (E x c) = pre ++ [E x c] ++ suf := by
        rw [List.set_append_right _ _ (by omega), Nat.sub_self]
        simp
      have e2 : ((pre ++ [E x c]).length : Int) = ((pre.length + 1 : Nat) : Int) := by simp
      rw [e1, ← e2]
      have e3 : c + (cost x + sumOf cost suf) = c + cost x + sumOf cost suf := by omega
      rw [e3]
      simpa [markAll] using h'
  intro xs hn c h0 h1
  exact key xs [] c (by simpa using hn) h0 h1
theorem Hd.list {α : Type} {E : α → Int → α} {cost : α → Int} {L : Nat → List α → Int → Int → Option Int} {n : Nat} (hcost : ∀ x, 0 ≤ cost x)
    (hend : ∀ k ys c, ys.length = n → L (k + 1) ys c (n : Int) = some c)
    (hstep : ∀ ys c (i : Nat) (h : i < ys.length) x, ys[i] = E x c → ys.length = n → 0 ≤ c → c + cost x ≤ 4611686018427387904 → EvEq (fun k => L (k + 1) ys c (i : Int)) (fun k => L k ys (c + cost x) ((i + 1 : Nat) : Int))) :
    ∀ xs : List α, xs.length = n → ∀ c, 0 ≤ c → c + sumOf cost xs ≤ 4611686018427387904 → Ev (fun k => L k (markAll E cost xs c) c 0) (c + sumOf cost xs) := by
  have key : ∀ (suf pre : List α) (c : Int), (pre ++ suf).length = n → 0 ≤ c → c + sumOf cost suf ≤ 4611686018427387904 → Ev (fun k => L k (pre ++ markAll E cost suf c) c (pre.length : Int)) (c + sumOf cost suf) := by
    intro suf
    induction suf with
    | nil =>
      intro pre c hl h0 h1
      refine Ev.up (g := fun k => L k (pre ++ markAll E cost [] c) c (pre.length : Int)) (Ev.const fun k => ?_)
      have e : (pre.length : Int) = (n : Int) := by rw [← hl]; simp
      rw [e, hend k _ c (by simpa [markAll] using hl), sumOf_nil]
      simp
    | cons x suf ih =>
      intro pre c hl h0 h1
      rw [sumOf_cons] at h1 ⊢
      have hc := hcost x
      have hs : 0 ≤ sumOf cost suf := sumOf_nonneg fun y _ => hcost y
      have hi : pre.length < (pre ++ markAll E cost (x :: suf) c).length := by simp [markAll]
      have hx : (pre ++ markAll E cost (x :: suf) c)[pre.length] = E x c := by simp [markAll]
      refine Ev.up (g := fun k => L k (pre ++ markAll E cost (x :: suf) c) c (pre.length : Int)) ?_
      have hln : (pre ++ markAll E cost (x :: suf) c).length = n := by
        rw [← hl]; simp [markAll_len]
      refine Ev.ofEq (hstep _ c pre.length hi x hx hln h0 (by omega)) ?_
      have h' := ih (pre ++ [E x c]) (c + cost x) (by simpa using hl) (by omega) (by omega)
      have e2 : ((pre ++ [E x c]).length : Int) = ((pre.length + 1 : Nat) : Int) := by simp
      rw [← e2]
      have e3 : c + (cost x + sumOf cost suf) = c + cost x + sumOf cost suf := by omega
      rw [e3]
      simpa [markAll] using h'
  intro xs hn c h0 h1
  exact key xs [] c (by simpa using hn) h0 h1
end Go.Proofs.Ytndclpkcbiaekaa.B

/-! ## CInt64S -/
/- Generated by conv.py: what the laws' helpers do with values of type Int64S. No condition but the lengths that fit. -/
namespace Go.Proofs.Ytndclpkcbiaekaa.C
open Go.RowKit Go.Proofs.YtndclpkcbiaekaaW.PrintWords Go.Proofs.Ytndclpkcbiaekaa.X Go.Proofs.Ytndclpkcbiaekaa.B
def szv_Int64S (xs : List Int) : Int := (xs.length : Int) + 0
theorem szv_Int64S_nonneg (xs : List Int) : 0 ≤ szv_Int64S xs := by
  unfold szv_Int64S
  omega
theorem szv_Int64S_len (xs : List Int) : (xs.length : Int) ≤ szv_Int64S xs := by
  unfold szv_Int64S
  omega
theorem sz_Int64S (xs : List Int) (h : (Rdr.Lst Rdr.I64) xs) : Sz (fun left k => laws_szInt64S.f xs left) (szv_Int64S xs) :=
  Sz.len h.1 Sz.id
theorem to_Int64S (xs : List Int) (h : szv_Int64S xs ≤ 1048576) : Ev (fun k => laws_toInt64S.f k xs) (xs) :=
  Cv.plain (rdx := rd xs) (L := fun k ys i => laws_toInt64S.l0 k xs ys i) (by have := szv_Int64S_len xs; omega) (by have := szv_Int64S_len xs; omega) (fun i hi => rd_at hi) (fun _ _ _ => rfl)
def fit_Int64S (xs : List Int) : Prop := xs.length ≤ 9223372036854775807
theorem fitc_Int64S (xs : List Int) (h : szv_Int64S xs ≤ 1048576) : fit_Int64S xs := by
  have hl := szv_Int64S_len xs
  unfold fit_Int64S
  omega
theorem eq_Int64S (xs : List Int) (h : fit_Int64S xs) : Ev (fun k => laws_eqInt64S.f k xs xs) true :=
  Eq.flat (xs := xs) (P := fun i => (rd xs i) = (rd xs i)) (L := fun k i => laws_eqInt64S.l0 k xs xs i) h (fun _ => rfl) (fun _ _ => rfl)
end Go.Proofs.Ytndclpkcbiaekaa.C

/-! ## CCurve -/
/- Generated by conv.py: what the laws' helpers do with values of type Curve. No condition but the lengths that fit. -/
namespace Go.Proofs.Ytndclpkcbiaekaa.C
open Go.RowKit Go.Proofs.YtndclpkcbiaekaaW.PrintWords Go.Proofs.Ytndclpkcbiaekaa.X Go.Proofs.Ytndclpkcbiaekaa.B
theorem rdat_T33 {xs : List S33} {i : Nat} (h : i < xs.length) : rd_T33 xs (i : Int) = xs[i] := by unfold rd_T33; rw [Int.toNat_natCast]; exact getD_at h _
def szv_Curve (v0 : List Int) (v1 : List Int) : Int := szv_Int64S v0 + (szv_Int64S v1 + (0))
theorem szv_Curve_nonneg (v0 : List Int) (v1 : List Int) : 0 ≤ szv_Curve v0 v1 := by
  unfold szv_Curve
  have := szv_Int64S_nonneg v0
  have := szv_Int64S_nonneg v1
  omega
theorem sz_Curve (v0 : List Int) (v1 : List Int) (h0 : (Rdr.Lst Rdr.I64) v0) (h1 : (Rdr.Lst Rdr.I64) v1) : Sz (fun left k => laws_szCurve.f v0 v1 left) (szv_Curve v0 v1) :=
  (Sz.seq (sz_Int64S v0 h0) (Sz.seq (sz_Int64S v1 h1) Sz.id))
theorem to_Curve (v0 : List Int) (v1 : List Int) (h : szv_Curve v0 v1 ≤ 1048576) : Ev (fun k => laws_toCurve.f k v0 v1) (v0, v1) := by
  unfold szv_Curve at h
  have n0 := szv_Int64S_nonneg v0
  have n1 := szv_Int64S_nonneg v1
  exact (Ev.bindE (to_Int64S v0 (by omega)) (Ev.bindE (to_Int64S v1 (by omega)) (Ev.const fun _ => rfl)))
theorem eq_Curve (v0 : List Int) (v1 : List Int) (h0 : fit_Int64S v0) (h1 : fit_Int64S v1) : Ev (fun k => laws_eqCurve.f k v0 v1 v0 v1) true := by
  unfold laws_eqCurve.f
  refine Ev.bindE (eq_Int64S v0 h0) (Ev.ifPos rfl ?_)
  refine Ev.bindE (eq_Int64S v1 h1) (Ev.ifPos rfl ?_)
  exact Ev.const fun _ => rfl
end Go.Proofs.Ytndclpkcbiaekaa.C

/-! ## CSection -/
/- Generated by conv.py: what the laws' helpers do with values of type Section. No condition but the lengths that fit. -/
namespace Go.Proofs.Ytndclpkcbiaekaa.C
open Go.RowKit Go.Proofs.YtndclpkcbiaekaaW.PrintWords Go.Proofs.Ytndclpkcbiaekaa.X Go.Proofs.Ytndclpkcbiaekaa.B
theorem rdat_T64 {xs : List S64} {i : Nat} (h : i < xs.length) : rd_T64 xs (i : Int) = xs[i] := by unfold rd_T64; rw [Int.toNat_natCast]; exact getD_at h _
theorem rdat_T102 {xs : List S102} {i : Nat} (h : i < xs.length) : rd_T102 xs (i : Int) = xs[i] := by unfold rd_T102; rw [Int.toNat_natCast]; exact getD_at h _
def c_Section (x : S102) : S64 := ⟨x.f0, x.f1⟩
theorem to_Section (v0 : Int) (v1 : Int) : Ev (fun k => laws_toSection.f v0 v1) (v0, v1) := by
  exact (Ev.const fun _ => rfl)
theorem eq_Section (v0 : Int) (v1 : Int) : Ev (fun k => laws_eqSection.f v0 v1 v0 v1) true := by
  unfold laws_eqSection.f
  refine Ev.ifPos rfl ?_
  refine Ev.ifPos rfl ?_
  exact Ev.const fun _ => rfl
end Go.Proofs.Ytndclpkcbiaekaa.C

/-! ## CSectionS -/
/- Generated by conv.py: what the laws' helpers do with values of type SectionS. No condition but the lengths that fit. -/
namespace Go.Proofs.Ytndclpkcbiaekaa.C
open Go.RowKit Go.Proofs.YtndclpkcbiaekaaW.PrintWords Go.Proofs.Ytndclpkcbiaekaa.X Go.Proofs.Ytndclpkcbiaekaa.B
def szv_SectionS (xs : List S102) : Int := (xs.length : Int) + 0
theorem szv_SectionS_nonneg (xs : List S102) : 0 ≤ szv_SectionS xs := by
  unfold szv_SectionS
  omega
theorem szv_SectionS_len (xs : List S102) : (xs.length : Int) ≤ szv_SectionS xs := by
  unfold szv_SectionS
  omega
theorem sz_SectionS (xs : List S102) (h : (Rdr.Lst (fun x : S102 => Rdr.I64 x.f0 ∧ (Rdr.I64 x.f1))) xs) : Sz (fun left k => laws_szSectionS.f xs left) (szv_SectionS xs) :=
  Sz.len h.1 Sz.id
theorem to_SectionS (xs : List S102) (h : szv_SectionS xs ≤ 1048576) : Ev (fun k => laws_toSectionS.f k xs) (xs.map c_Section) :=
  Cv.list (rdx := rd_T102 xs) (e := fun k x => laws_toSection.f (x.f0) (x.f1)) (mk := fun bt => (⟨bt.1, bt.2⟩ : S64)) (t := fun x => (x.f0, x.f1)) (L := fun k ys i => laws_toSectionS.l0 k xs ys i) (by have := szv_SectionS_len xs; omega) (by have := szv_SectionS_len xs; omega) (fun i hi => rdat_T102 hi) (fun x hx => to_Section (x.f0) (x.f1)) (fun _ => rfl) (fun _ _ _ => rfl)
def c_SectionS (xs : List S102) : List S64 := xs.map c_Section
def fit_SectionS (xs : List S64) : Prop := xs.length ≤ 9223372036854775807
theorem fitc_SectionS (xs : List S102) (h : szv_SectionS xs ≤ 1048576) : fit_SectionS (xs.map c_Section) := by
  have hl := szv_SectionS_len xs
  unfold fit_SectionS
  simp only [List.length_map]; omega
theorem eq_SectionS (xs : List S64) (h : fit_SectionS xs) : Ev (fun k => laws_eqSectionS.f k xs xs) true :=
  Eq.list (xs := xs) (rdx := rd_T64 xs) (e := fun k x => laws_eqSection.f (x.f0) (x.f1) (x.f0) (x.f1)) (L := fun k i => laws_eqSectionS.l0 k xs xs i) h (fun i hi => rdat_T64 hi) (fun x hx => eq_Section (x.f0) (x.f1)) (fun _ _ => rfl)
end Go.Proofs.Ytndclpkcbiaekaa.C

/-! ## CParcel -/
/- Generated by conv.py: what the laws' helpers do with values of type Parcel. No condition but the lengths that fit. -/
namespace Go.Proofs.Ytndclpkcbiaekaa.C
open Go.RowKit Go.Proofs.YtndclpkcbiaekaaW.PrintWords Go.Proofs.Ytndclpkcbiaekaa.X Go.Proofs.Ytndclpkcbiaekaa.B
theorem rdat_T99 {xs : List S99} {i : Nat} (h : i < xs.length) : rd_T99 xs (i : Int) = xs[i] := by unfold rd_T99; rw [Int.toNat_natCast]; exact getD_at h _
theorem rdat_T104 {xs : List S104} {i : Nat} (h : i < xs.length) : rd_T104 xs (i : Int) = xs[i] := by unfold rd_T104; rw [Int.toNat_natCast]; exact getD_at h _
def c_Parcel (x : S104) : S99 := ⟨x.f0, x.f1, x.f2, x.f3⟩
theorem to_Parcel (v0 : Int) (v1 : Int) (v2 : Int) (v3 : Int) : Ev (fun k => laws_toParcel.f v0 v1 v2 v3) (v0, v1, v2, v3) := by
  exact (Ev.const fun _ => rfl)
theorem eq_Parcel (v0 : Int) (v1 : Int) (v2 : Int) (v3 : Int) : Ev (fun k => laws_eqParcel.f v0 v1 v2 v3 v0 v1 v2 v3) true := by
  unfold laws_eqParcel.f
  refine Ev.ifPos rfl ?_
  refine Ev.ifPos rfl ?_
  refine Ev.ifPos rfl ?_
  refine Ev.ifPos rfl ?_
  exact Ev.const fun _ => rfl
end Go.Proofs.Ytndclpkcbiaekaa.C

/-! ## CParcelS -/
/- Generated by conv.py: what the laws' helpers do with values of type ParcelS. No condition but the lengths that fit. -/
namespace Go.Proofs.Ytndclpkcbiaekaa.C
open Go.RowKit Go.Proofs.YtndclpkcbiaekaaW.PrintWords Go.Proofs.Ytndclpkcbiaekaa.X Go.Proofs.Ytndclpkcbiaekaa.B
def szv_ParcelS (xs : List S104) : Int := (xs.length : Int) + 0
theorem szv_ParcelS_nonneg (xs : List S104) : 0 ≤ szv_ParcelS xs := by
  unfold szv_ParcelS
  omega
theorem szv_ParcelS_len (xs : List S104) : (xs.length : Int) ≤ szv_ParcelS xs := by
  unfold szv_ParcelS
  omega
theorem sz_ParcelS (xs : List S104) (h : (Rdr.Lst (fun x : S104 => Rdr.I64 x.f0 ∧ (Rdr.I64 x.f1 ∧ (Rdr.I64 x.f2 ∧ (Rdr.I64 x.f3))))) xs) : Sz (fun left k => laws_szParcelS.f xs left) (szv_ParcelS xs) :=
  Sz.len h.1 Sz.id
theorem to_ParcelS (xs : List S104) (h : szv_ParcelS xs ≤ 1048576) : Ev (fun k => laws_toParcelS.f k xs) (xs.map c_Parcel) :=
  Cv.list (rdx := rd_T104 xs) (e := fun k x => laws_toParcel.f (x.f0) (x.f1) (x.f2) (x.f3)) (mk := fun bt => (⟨bt.1, bt.2.1, bt.2.2.1, bt.2.2.2⟩ : S99)) (t := fun x => (x.f0, x.f1, x.f2, x.f3)) (L := fun k ys i => laws_toParcelS.l0 k xs ys i) (by have := szv_ParcelS_len xs; omega) (by have := szv_ParcelS_len xs; omega) (fun i hi => rdat_T104 hi) (fun x hx => to_Parcel (x.f0) (x.f1) (x.f2) (x.f3)) (fun _ => rfl) (fun _ _ _ => rfl)
def c_ParcelS (xs : List S104) : List S99 := xs.map c_Parcel
def fit_ParcelS (xs : List S99) : Prop := xs.length ≤ 9223372036854775807
theorem fitc_ParcelS (xs : List S104) (h : szv_ParcelS xs ≤ 1048576) : fit_ParcelS (xs.map c_Parcel) := by
  have hl := szv_ParcelS_len xs
  unfold fit_ParcelS
  simp only [List.length_map]; omega
theorem eq_ParcelS (xs : List S99) (h : fit_ParcelS xs) : Ev (fun k => laws_eqParcelS.f k xs xs) true :=
  Eq.list (xs := xs) (rdx := rd_T99 xs) (e := fun k x => laws_eqParcel.f (x.f0) (x.f1) (x.f2) (x.f3) (x.f0) (x.f1) (x.f2) (x.f3)) (L := fun k i => laws_eqParcelS.l0 k xs xs i) h (fun i hi => rdat_T99 hi) (fun x hx => eq_Parcel (x.f0) (x.f1) (x.f2) (x.f3)) (fun _ _ => rfl)
end Go.Proofs.Ytndclpkcbiaekaa.C

/-! ## CDesk -/
/- Generated by conv.py: what the laws' helpers do with values of type Desk. No condition but the lengths that fit. -/
namespace Go.Proofs.Ytndclpkcbiaekaa.C
open Go.RowKit Go.Proofs.YtndclpkcbiaekaaW.PrintWords Go.Proofs.Ytndclpkcbiaekaa.X Go.Proofs.Ytndclpkcbiaekaa.B
theorem rdat_T37 {xs : List S37} {i : Nat} (h : i < xs.length) : rd_T37 xs (i : Int) = xs[i] := by unfold rd_T37; rw [Int.toNat_natCast]; exact getD_at h _
def szv_Desk (v0 : List Int) (v1 : List Int) (v2 : List S102) (v3 : List S104) (v4 : ByteArray) : Int := szv_Curve v0 v1 + (szv_SectionS v2 + (szv_ParcelS v3 + (((v4).size : Int) + (0))))
theorem szv_Desk_nonneg (v0 : List Int) (v1 : List Int) (v2 : List S102) (v3 : List S104) (v4 : ByteArray) : 0 ≤ szv_Desk v0 v1 v2 v3 v4 := by
  unfold szv_Desk
  have := szv_Curve_nonneg v0 v1
  have := szv_SectionS_nonneg v2
  have := szv_ParcelS_nonneg v3
  omega
theorem sz_Desk (v0 : List Int) (v1 : List Int) (v2 : List S102) (v3 : List S104) (v4 : ByteArray) (h0 : (Rdr.Lst Rdr.I64) v0) (h1 : (Rdr.Lst Rdr.I64) v1) (h2 : (Rdr.Lst (fun x : S102 => Rdr.I64 x.f0 ∧ (Rdr.I64 x.f1))) v2) (h3 : (Rdr.Lst (fun x : S104 => Rdr.I64 x.f0 ∧ (Rdr.I64 x.f1 ∧ (Rdr.I64 x.f2 ∧ (Rdr.I64 x.f3))))) v3) (h4 : Rdr.Str v4) : Sz (fun left k => laws_szDesk.f v0 v1 v2 v3 v4 left) (szv_Desk v0 v1 v2 v3 v4) :=
  (Sz.seq (sz_Curve v0 v1 h0 h1) (Sz.seq (sz_SectionS v2 h2) (Sz.seq (sz_ParcelS v3 h3) (Sz.len h4 Sz.id))))
theorem to_Desk (v0 : List Int) (v1 : List Int) (v2 : List S102) (v3 : List S104) (v4 : ByteArray) (h : szv_Desk v0 v1 v2 v3 v4 ≤ 1048576) : Ev (fun k => laws_toDesk.f k v0 v1 v2 v3 v4) (v0, v1, (v2).map c_Section, (v3).map c_Parcel, v4) := by
  unfold szv_Desk at h
  have n0 := szv_Curve_nonneg v0 v1
  have n1 := szv_SectionS_nonneg v2
  have n2 := szv_ParcelS_nonneg v3
  exact (Ev.bindE (to_Curve v0 v1 (by omega)) (Ev.bindE (to_SectionS v2 (by omega)) (Ev.bindE (to_ParcelS v3 (by omega)) (Ev.const fun _ => rfl))))
theorem eq_Desk (v0 : List Int) (v1 : List Int) (v2 : List S64) (v3 : List S99) (v4 : ByteArray) (h0 : fit_Int64S v0) (h1 : fit_Int64S v1) (h2 : fit_SectionS v2) (h3 : fit_ParcelS v3) : Ev (fun k => laws_eqDesk.f k v0 v1 v2 v3 v4 v0 v1 v2 v3 v4) true := by
  unfold laws_eqDesk.f
  refine Ev.bindE (eq_Curve v0 v1 h0 h1) (Ev.ifPos rfl ?_)
  refine Ev.bindE (eq_SectionS v2 h2) (Ev.ifPos rfl ?_)
  refine Ev.bindE (eq_ParcelS v3 h3) (Ev.ifPos rfl ?_)
  refine Ev.ifPos rfl ?_
  exact Ev.const fun _ => rfl
end Go.Proofs.Ytndclpkcbiaekaa.C

/-! ## PSame -/
/- Plain laws of comparing rows of whole numbers: both ways tell whether they are the same. No condition but the lengths that fit. -/
namespace Go.Proofs.Ytndclpkcbiaekaa.PSame
open Go.RowKit Go.Proofs.YtndclpkcbiaekaaW.PrintWords Go.Proofs.Ytndclpkcbiaekaa.X Go.Proofs.Ytndclpkcbiaekaa.B
theorem sameInts {a b : List Int} (p : Nat → Bool) (hp : ∀ j, j < a.length → p j = decide (a.getD j 0 = b.getD j 0)) (hl : a.length = b.length) : allFrom p 0 a.length = decide (a = b) := by
  rw [Bool.eq_iff_iff, allFrom_iff, decide_eq_true_iff]
  constructor
  · intro h
    refine List.ext_getElem hl fun j h1 h2 => ?_
    have := h j (by omega) h1
    rw [hp j h1, decide_eq_true_iff, getD_at h1, getD_at h2] at this
    exact this
  · rintro rfl j _ h2
    rw [hp j h2]
    simp
theorem specInts_ev (a b : List Int) (hn : a.length ≤ 9223372036854775807) : Ev (fun k => spec_l00Same.f k a b) (decide (a = b)) := by
  by_cases hl : a.length = b.length
  · have h := allScan (fun k i => spec_l00Same.l0 k a b (i : Int)) a.length (fun j => decide (a.getD j 0 = b.getD j 0)) true (Ev.const fun k => by
      simp only [spec_l00Same.l0]
      rw [if_neg (by omega)]) (by
      intro i hi
      refine EvEq.now fun k => ?_
      simp only [spec_l00Same.l0]
      rw [if_pos (by omega), if_pos (by omega), if_pos (by omega), rd_at hi, rd_at (by omega), wnext hi (by omega), getD_at hi, getD_at (xs := b) (by omega)]
      simp) 0 (by omega)
    rw [Bool.and_true, sameInts _ (fun _ _ => rfl) hl] at h
    refine Ev.ofEq (EvEq.now fun k => ?_) h
    unfold spec_l00Same.f
    rw [if_pos (by omega)]
    rfl
  · have : ¬ a = b := fun h => hl (by rw [h])
    rw [decide_eq_false this]
    refine Ev.const fun k => ?_
    unfold spec_l00Same.f
    rw [if_neg (by omega)]
theorem implInts_ev (a b : List Int) (hn : a.length ≤ 9223372036854775807) : Ev (fun k => impl_same_int64.f k a b) (decide (a = b)) := by
  by_cases hl : a.length = b.length
  · have h := allScan (fun k i => impl_same_int64.l0 k b a (a.length : Int) (i : Int)) a.length (fun j => decide (a.getD j 0 = b.getD j 0)) true (Ev.const fun k => by
      simp only [impl_same_int64.l0]
      rw [if_neg (by omega)]) (by
      intro i hi
      refine EvEq.now fun k => ?_
      simp only [impl_same_int64.l0]
      rw [if_pos (by omega), if_pos (by omega), if_pos (by omega), if_pos (by omega), rd_at hi, rd_at (by omega), wnext hi (by omega), getD_at hi, getD_at (xs := b) (by omega)]
      by_cases c : b[i] = a[i]
      · simp [c]
      · have c' : ¬ a[i] = b[i] := fun h => c h.symm
        simp [c, c']) 0 (by omega)
    rw [Bool.and_true, sameInts _ (fun _ _ => rfl) hl] at h
    refine Ev.ofEq (EvEq.now fun k => ?_) h
    unfold impl_same_int64.f
    rw [if_pos (by omega)]
    rfl
  · have : ¬ a = b := fun h => hl (by rw [h])
    rw [decide_eq_false this]
    refine Ev.const fun k => ?_
    unfold impl_same_int64.f
    rw [if_neg (by omega)]
end Go.Proofs.Ytndclpkcbiaekaa.PSame
