/- A part of the proof of FnExactAddMotion: walks of Go functions and plain laws that it uses. No condition of its own. -/
import Derived.Test.YtfgfkmjpeffjbaaZFnExactAddMotion0
import Derived.Test.YtfgfkmjpeffjbaaZFnExactAddMotion3
import Derived.Test.YtfgfkmjpeffjbaaZFnExactAddMotion4
import Derived.Test.YtfgfkmjpeffjbaaZFnExactAddMotion1
import Derived.Deep.Slices
import Derived.ChangeArms
import Derived.ProofKit
import Derived.OpenShut
set_option linter.unusedVariables false
set_option linter.unusedSimpArgs false

/-! ## XImplAddMotion -/
namespace Go.Proofs.Ytfgfkmjpeffjbaa.X
open Go.RowKit Go.Proofs.Ytfgfkmjpeffjbaa.XV Go.Proofs.YtfgfkmjpeffjbaaW.PrintWords Go.Proofs.YtfgfkmjpeffjbaaW.PrintLast Go.Proofs.YtfgfkmjpeffjbaaW.PrintMore
attribute [local go_sem] max2_int min2_int max_two min_two max_three min_three max_four min_four

/-! ### impl_AddMotion: function 36 -/
def impl_AddMotion.f (k : Nat) (a0_0 : Int) (l0_1 : List (S60)) (a1 : ByteArray) : Option (Int × (List (S60)) × Int) := (impl_ValidMeeting.f k a0_0 l0_1).bind fun t511 => (if t511 = true then ((impl_IsName.f k a1).bind fun t512 => (if t512 = true then ((impl_motionAt.f k l0_1 a1).bind fun t513 => (if t513 ≥ 0 then (some (0, ([] : List (S60)), 4)) else (if (l0_1.length : Int) = 20 then (some (0, ([] : List (S60)), 5)) else ((impl_cloneMeeting.f k a0_0 l0_1).bind fun bt514 => (if 0 ≤ a0_0 then (if (a0_0 : Int).toNat ≤ 35184372088832 then (if bt514.2.length < 3518437208883 then (some (bt514.1, (bt514.2 ++ [(⟨a1, (List.replicate (a0_0 : Int).toNat 0)⟩ : S60)]), 0)) else (none)) else (none)) else (none)))))) else (some (0, ([] : List (S60)), 2)))) else (some (0, ([] : List (S60)), 1)))
theorem impl_AddMotion.mono : ∀ a0 a1 a2 k, LeO (impl_AddMotion.f k a0 a1 a2) (impl_AddMotion.f (k + 1) a0 a1 a2) := by
 intro a0 a1 a2 k
 unfold impl_AddMotion.f
 repeat' first
   | (with_reducible exact impl_IsName.mono _ _)
   | (with_reducible exact impl_ValidMeeting.mono _ _ _)
   | (with_reducible exact impl_cloneMeeting.mono _ _ _)
   | (with_reducible exact impl_motionAt.mono _ _ _)
   | (with_reducible exact LeO.refl _)
   | (with_reducible exact LeO.none _)
   | (with_reducible refine LeO.ite ?_ ?_)
   | (with_reducible refine LeO.bind ?_ (fun _ => ?_))
   | exact impl_IsName.mono _ _
   | exact impl_ValidMeeting.mono _ _ _
   | exact impl_cloneMeeting.mono _ _ _
   | exact impl_motionAt.mono _ _ _
   | exact LeO.none _
   | refine LeO.ite ?_ ?_
   | refine LeO.bind ?_ (fun _ => ?_)
def impl_AddMotion.T10 : Bool × List (List Nat × List Nat) := (true, [([], []), ([0], [0]), ([], []), ([], []), ([3], [3]), ([4, 4], [4]), ([2, 5], [2, 5]), ([6], [6]), ([1, 7], [1, 7]), ([0, 1, 2, 3, 4, 5, 6, 7, 8], []), ([9, 8, 8, 0, 1, 2, 3, 4, 5, 6, 7, 8], [8, 9])])
def impl_AddMotion.B10 : List Nat := [0, 1, 0, 0, 8, 24, 60, 124, 255, 511, 1023]
theorem impl_AddMotion.tab10 : rtab .any (opsOf Try.f36 10) = impl_AddMotion.T10 := by kernel_rfl
theorem impl_AddMotion.bits10 : waitsOk impl_AddMotion.T10.2 impl_AddMotion.B10 = true := by kernel_rfl
set_option maxHeartbeats 8000000 in
set_option maxRecDepth 100000 in
theorem impl_AddMotion.calls (k : Nat) (a0_0 : Int) (A0_1 : Option Addr) (c0_1 : Nat) (l0_1 : List (S60)) (a1 : ByteArray) (r1 : Int) (r2 : List (S60)) (r3 : Int) (w : World) (hr0_1 : Kd.C k60 w A0_1 l0_1.length l0_1) (hc0_1 : l0_1.length ≤ c0_1) (h : impl_AddMotion.f k a0_0 l0_1 a1 = some (r1, r2, r3)) :
  Calls Try.prog 36 #[.agg #[.int .i64 a0_0, .slice A0_1 l0_1.length c0_1], .string a1] w fun e w' => ∃ v1_ : Value, e = .returned (.tuple #[.agg #[.int .i64 r1, v1_], .int .i64 r3]) ∧ Kd.S k60 60 w' w.heap.size (fun _ => True) v1_ r2 ∧ Below w.heap.size w w' := by
 have hu29 := Try.underlying29
 have hu60 := Try.underlying60
 have HR0_1 := Aside0.mk hr0_1
 have HC0_1 := Aside0.mk hc0_1
 clear hr0_1 hc0_1
 have HB := Aside0.mk (Below.refl w.heap.size w)
 have H : ((impl_ValidMeeting.f k a0_0 l0_1).bind fun t511 => (if t511 = true then ((impl_IsName.f k a1).bind fun t512 => (if t512 = true then ((impl_motionAt.f k l0_1 a1).bind fun t513 => (if t513 ≥ 0 then (some (0, ([] : List (S60)), 4)) else (if (l0_1.length : Int) = 20 then (some (0, ([] : List (S60)), 5)) else ((impl_cloneMeeting.f k a0_0 l0_1).bind fun bt514 => (if 0 ≤ a0_0 then (if (a0_0 : Int).toNat ≤ 35184372088832 then (if bt514.2.length < 3518437208883 then (some (bt514.1, (bt514.2 ++ [(⟨a1, (List.replicate (a0_0 : Int).toNat 0)⟩ : S60)]), 0)) else (none)) else (none)) else (none)))))) else (some (0, ([] : List (S60)), 2)))) else (some (0, ([] : List (S60)), 1)))) = some (r1, r2, r3) := h
 clear h
 replace H := Option.bind_eq_some_iff.mp H
 obtain ⟨t511, A30, H⟩ := H
 replace H : (if t511 = true then ((impl_IsName.f k a1).bind fun t512 => (if t512 = true then ((impl_motionAt.f k l0_1 a1).bind fun t513 => (if t513 ≥ 0 then (some (0, ([] : List (S60)), 4)) else (if (l0_1.length : Int) = 20 then (some (0, ([] : List (S60)), 5)) else ((impl_cloneMeeting.f k a0_0 l0_1).bind fun bt514 => (if 0 ≤ a0_0 then (if (a0_0 : Int).toNat ≤ 35184372088832 then (if bt514.2.length < 3518437208883 then (some (bt514.1, (bt514.2 ++ [(⟨a1, (List.replicate (a0_0 : Int).toNat 0)⟩ : S60)]), 0)) else (none)) else (none)) else (none)))))) else (some (0, ([] : List (S60)), 2)))) else (some (0, ([] : List (S60)), 1))) = some (r1, r2, r3) := H
 have A3 := Aside0.mk A30
 clear A30
 by_cases c4 : t511 = true
 ·subst c4
  have H1 : ((impl_IsName.f k a1).bind fun t512 => (if t512 = true then ((impl_motionAt.f k l0_1 a1).bind fun t513 => (if t513 ≥ 0 then (some (0, ([] : List (S60)), 4)) else (if (l0_1.length : Int) = 20 then (some (0, ([] : List (S60)), 5)) else ((impl_cloneMeeting.f k a0_0 l0_1).bind fun bt514 => (if 0 ≤ a0_0 then (if (a0_0 : Int).toNat ≤ 35184372088832 then (if bt514.2.length < 3518437208883 then (some (bt514.1, (bt514.2 ++ [(⟨a1, (List.replicate (a0_0 : Int).toNat 0)⟩ : S60)]), 0)) else (none)) else (none)) else (none)))))) else (some (0, ([] : List (S60)), 2)))) = some (r1, r2, r3) := by rw [if_pos rfl] at H; exact H
  clear H
  have H := H1
  clear H1
  replace H := Option.bind_eq_some_iff.mp H
  obtain ⟨t512, A50, H⟩ := H
  replace H : (if t512 = true then ((impl_motionAt.f k l0_1 a1).bind fun t513 => (if t513 ≥ 0 then (some (0, ([] : List (S60)), 4)) else (if (l0_1.length : Int) = 20 then (some (0, ([] : List (S60)), 5)) else ((impl_cloneMeeting.f k a0_0 l0_1).bind fun bt514 => (if 0 ≤ a0_0 then (if (a0_0 : Int).toNat ≤ 35184372088832 then (if bt514.2.length < 3518437208883 then (some (bt514.1, (bt514.2 ++ [(⟨a1, (List.replicate (a0_0 : Int).toNat 0)⟩ : S60)]), 0)) else (none)) else (none)) else (none)))))) else (some (0, ([] : List (S60)), 2))) = some (r1, r2, r3) := H
  have A5 := Aside0.mk A50
  clear A50
  by_cases c6 : t512 = true
  ·subst c6
   have H1 : ((impl_motionAt.f k l0_1 a1).bind fun t513 => (if t513 ≥ 0 then (some (0, ([] : List (S60)), 4)) else (if (l0_1.length : Int) = 20 then (some (0, ([] : List (S60)), 5)) else ((impl_cloneMeeting.f k a0_0 l0_1).bind fun bt514 => (if 0 ≤ a0_0 then (if (a0_0 : Int).toNat ≤ 35184372088832 then (if bt514.2.length < 3518437208883 then (some (bt514.1, (bt514.2 ++ [(⟨a1, (List.replicate (a0_0 : Int).toNat 0)⟩ : S60)]), 0)) else (none)) else (none)) else (none)))))) = some (r1, r2, r3) := by rw [if_pos rfl] at H; exact H
   clear H
   have H := H1
   clear H1
   replace H := Option.bind_eq_some_iff.mp H
   obtain ⟨t513, A70, H⟩ := H
   replace H : (if t513 ≥ 0 then (some (0, ([] : List (S60)), 4)) else (if (l0_1.length : Int) = 20 then (some (0, ([] : List (S60)), 5)) else ((impl_cloneMeeting.f k a0_0 l0_1).bind fun bt514 => (if 0 ≤ a0_0 then (if (a0_0 : Int).toNat ≤ 35184372088832 then (if bt514.2.length < 3518437208883 then (some (bt514.1, (bt514.2 ++ [(⟨a1, (List.replicate (a0_0 : Int).toNat 0)⟩ : S60)]), 0)) else (none)) else (none)) else (none))))) = some (r1, r2, r3) := H
   have A7 := Aside0.mk A70
   clear A70
   by_cases c8 : t513 ≥ 0
   ·rw [if_pos c8] at H
    have c8b0 : decide (0 ≤ t513) = true := decide_eq_true c8
    clear c8
    simp only [Option.some.injEq, Prod.mk.injEq] at H
    obtain ⟨rfl, rfl, rfl⟩ := H
    go_enter Try.func36, Try.ntmps36
    go_wp2_with (first | ((with_reducible refine gate_dst (N := 2) rfl ?_); refine box_event ?hg (N := 2) ?hd (cs := #[.int .i64 a0_0, .slice A0_1 l0_1.length c0_1]) (t := 29) ?hr ?_; (case hd => rfl); (case hg => rfl); (case hr => first | (go_simp; done) | (go_simp; rfl)); intro gb509 hg w9 hbox hb; have n0_ := Aside0.mk (below_step (by repeat (first | (with_reducible first | exact HB.out | apply below_alloc | apply pw_below_drewN | apply below_drew1) | exact HB.out)) hb); have n1_ := Aside0.mk (hbox); have n2_ := Aside0.mk ((by rw [hg]; exact (below_size (by repeat (first | (with_reducible first | exact HB.out | apply below_alloc | apply pw_below_drewN | apply below_drew1) | exact HB.out))) : w.heap.size ≤ gb509)); have n3_ := Aside0.mk ((by rw [hg]; exact (below_size (by repeat (first | (with_reducible first | exact HB.out | apply below_alloc | apply pw_below_drewN | apply below_drew1) | exact HB.out))) : w.heap.size ≤ gb509)); clear HB; have HB := n0_; have BK509 := n1_; have GW509 := n2_; have GE509 := n3_; clear n0_ n1_ n2_ n3_; clear hb hbox hg) | ((with_reducible refine gate_dst (N := 4) rfl ?_); refine box_event ?hg (N := 4) ?hd (cs := #[.int .i64 0, .slice none 0 0]) (t := 29) ?hr ?_; (case hd => rfl); (case hg => rfl); (case hr => first | (go_simp; done) | (go_simp; rfl)); intro gb510 hg w10 hbox hb; have n0_ := Aside0.mk (blk_below (g := gb509) (o := .cells #[.int .i64 a0_0, .slice A0_1 l0_1.length c0_1] 29 (0, 0)) (by (with_reducible repeat (first | refine blk_drewN ?_ _ | refine blk_drew ?_ | refine blk_alloc ?_ _)); exact BK509.out) hb); have n1_ := Aside0.mk (below_step (by repeat (first | (with_reducible first | exact HB.out | apply below_alloc | apply pw_below_drewN | apply below_drew1 | refine below_set ?_ GE509.out) | exact HB.out)) hb); have n2_ := Aside0.mk (hbox); have n3_ := Aside0.mk ((by rw [hg]; exact (below_size (by repeat (first | (with_reducible first | exact HB.out | apply below_alloc | apply pw_below_drewN | apply below_drew1 | refine below_set ?_ GE509.out) | exact HB.out))) : w.heap.size ≤ gb510)); have n4_ := Aside0.mk ((by rw [hg]; exact (below_size (by repeat (first | (with_reducible first | exact HB.out | apply below_alloc | apply pw_below_drewN | apply below_drew1 | refine below_set ?_ GE509.out) | exact HB.out))) : w.heap.size ≤ gb510)); have n5_ := Aside0.mk ((by rw [hg]; exact Nat.ne_of_lt (blk_lt (g := gb509) (o := .cells #[.int .i64 a0_0, .slice A0_1 l0_1.length c0_1] 29 (0, 0)) (by (with_reducible repeat (first | refine blk_drewN ?_ _ | refine blk_drew ?_ | refine blk_alloc ?_ _)); exact BK509.out)) : gb509 ≠ gb510)); have n6_ := Aside0.mk ((by rw [hg]; exact Nat.ne_of_gt (blk_lt (g := gb509) (o := .cells #[.int .i64 a0_0, .slice A0_1 l0_1.length c0_1] 29 (0, 0)) (by (with_reducible repeat (first | refine blk_drewN ?_ _ | refine blk_drew ?_ | refine blk_alloc ?_ _)); exact BK509.out)) : gb510 ≠ gb509)); clear BK509; clear HB; have BK509 := n0_; have HB := n1_; have BK510 := n2_; have GW510 := n3_; have GE510 := n4_; have NB509_510 := n5_; have NB510_509 := n6_; clear n0_ n1_ n2_ n3_ n4_ n5_ n6_; clear hb hbox hg; have hnb11 := NB509_510.out; have hnc11 := NB510_509.out; have hcz12_0 : w10.cell? ⟨gb509, 0, none⟩ = some (.int .i64 a0_0) := (blk_cell BK509.out 0).trans rfl; have hcz12_1 : w10.cell? ⟨gb509, 1, none⟩ = some (.slice A0_1 l0_1.length c0_1) := (blk_cell BK509.out 1).trans rfl; have hfz12_0 := blk_frozen BK509.out 0; have hfz12_1 := blk_frozen BK509.out 1) | ((with_reducible refine gate_callee (f := 20) rfl ?_); refine goesL_ (some 9) rfl rfl Try.func20 (by kernel_rfl) rfl #[.agg #[.int .i64 a0_0, .slice A0_1 l0_1.length c0_1]] rfl (by (try simp only [List.map_toArray, List.map_cons, List.map_nil]); first | done | rfl | (simp only [List.length_drop, List.length_take]; rfl)) ?_; (with_reducible refine (impl_ValidMeeting.calls k a0_0 _ _ l0_1 true _ ?side1 ?side2 A3.out).mono ?_); (case side1 => repeat (first | exact (Kd.C_below HR0_1.out HB.out) | (with_reducible refine Kd.C_alloc ?_ _) | (with_reducible refine Kd.C_drewN ?_ _) | (with_reducible refine Kd.C_drew ?_))); (case side2 => exact HC0_1.out); rintro e w13 ⟨rfl, hb⟩; refine ⟨_, rfl, ?_⟩; have n0_ := Aside0.mk (blk_below (g := gb509) (o := .cells #[.int .i64 a0_0, .slice A0_1 l0_1.length c0_1] 29 (0, 0)) (by (with_reducible repeat (first | refine blk_drewN ?_ _ | refine blk_drew ?_ | refine blk_alloc ?_ _)); exact BK509.out) hb); have n1_ := Aside0.mk (blk_below (g := gb510) (o := .cells #[.int .i64 0, .slice none 0 0] 29 (0, 0)) (by (with_reducible repeat (first | refine blk_drewN ?_ _ | refine blk_drew ?_ | refine blk_alloc ?_ _)); exact BK510.out) hb); have n2_ := Aside0.mk (below_step (by repeat (first | (with_reducible first | exact HB.out | apply below_alloc | apply pw_below_drewN | apply below_drew1 | refine below_set ?_ GE509.out | refine below_set ?_ GE510.out) | exact HB.out)) hb); clear BK509; clear BK510; clear HB; have BK509 := n0_; have BK510 := n1_; have HB := n2_; clear n0_ n1_ n2_; (try clear hb); (try clear hb2); (try clear hk); (try clear hi)) | ((with_reducible refine gate_callee (f := 53) rfl ?_); refine goesL_ (some 14) rfl rfl Try.func53 (by kernel_rfl) rfl #[.string a1] rfl (by (try simp only [List.map_toArray, List.map_cons, List.map_nil]); first | done | rfl | (simp only [List.length_drop, List.length_take]; rfl)) ?_; (with_reducible refine (impl_IsName.calls k a1 true _ A5.out).mono ?_); rintro e w' ⟨rfl, ⟨nd, rfl⟩⟩; refine ⟨_, rfl, ?_⟩; (try (rw [drewN_self w13]; generalize hq_ : World.drewN w13 _ = w13; have n0_ : Aside0 (w13.heap[gb509]? = some (.cells #[.int .i64 a0_0, .slice A0_1 l0_1.length c0_1] 29 (0, 0))) := ⟨by rw [← hq_]; exact (by (with_reducible repeat (first | refine blk_drewN ?_ _ | refine blk_drew ?_ | refine blk_alloc ?_ _)); exact BK509.out)⟩; have n1_ : Aside0 (w13.heap[gb510]? = some (.cells #[.int .i64 0, .slice none 0 0] 29 (0, 0))) := ⟨by rw [← hq_]; exact (by (with_reducible repeat (first | refine blk_drewN ?_ _ | refine blk_drew ?_ | refine blk_alloc ?_ _)); exact BK510.out)⟩; have n2_ : Aside0 (Below w.heap.size w w13) := ⟨by rw [← hq_]; exact (by repeat (first | (with_reducible first | exact HB.out | apply below_alloc | apply pw_below_drewN | apply below_drew1 | refine below_set ?_ GE509.out | refine below_set ?_ GE510.out) | exact HB.out))⟩; clear BK509 BK510 HB hq_; have BK509 := n0_; have BK510 := n1_; have HB := n2_; clear n0_ n1_ n2_)); have hcz14_0 : w13.cell? ⟨gb509, 0, none⟩ = some (.int .i64 a0_0) := (blk_cell BK509.out 0).trans rfl; have hcz14_1 : w13.cell? ⟨gb509, 1, none⟩ = some (.slice A0_1 l0_1.length c0_1) := (blk_cell BK509.out 1).trans rfl; have hfz14_0 := blk_frozen BK509.out 0; have hfz14_1 := blk_frozen BK509.out 1) | ((with_reducible refine gate_callee (f := 54) rfl ?_); refine goesL_ (some 21) rfl rfl Try.func54 (by kernel_rfl) rfl #[.slice A0_1 l0_1.length c0_1, .string a1] rfl (by (try simp only [List.map_toArray, List.map_cons, List.map_nil]); first | done | rfl | (simp only [List.length_drop, List.length_take]; rfl)) ?_; (with_reducible refine (impl_motionAt.calls k _ _ l0_1 a1 t513 _ ?side1 ?side2 A7.out).mono ?_); (case side1 => repeat (first | exact (Kd.C_below HR0_1.out HB.out) | (with_reducible refine Kd.C_alloc ?_ _) | (with_reducible refine Kd.C_drewN ?_ _) | (with_reducible refine Kd.C_drew ?_))); (case side2 => exact HC0_1.out); rintro e w15 ⟨rfl, hb⟩; refine ⟨_, rfl, ?_⟩; have n0_ := Aside0.mk (blk_below (g := gb509) (o := .cells #[.int .i64 a0_0, .slice A0_1 l0_1.length c0_1] 29 (0, 0)) (by (with_reducible repeat (first | refine blk_drewN ?_ _ | refine blk_drew ?_ | refine blk_alloc ?_ _)); exact BK509.out) hb); have n1_ := Aside0.mk (blk_below (g := gb510) (o := .cells #[.int .i64 0, .slice none 0 0] 29 (0, 0)) (by (with_reducible repeat (first | refine blk_drewN ?_ _ | refine blk_drew ?_ | refine blk_alloc ?_ _)); exact BK510.out) hb); have n2_ := Aside0.mk (below_step (by repeat (first | (with_reducible first | exact HB.out | apply below_alloc | apply pw_below_drewN | apply below_drew1 | refine below_set ?_ GE509.out | refine below_set ?_ GE510.out) | exact HB.out)) hb); clear BK509; clear BK510; clear HB; have BK509 := n0_; have BK510 := n1_; have HB := n2_; clear n0_ n1_ n2_; (try clear hb); (try clear hb2); (try clear hk); (try clear hi); have hcz16_0 : w15.cell? ⟨gb510, 0, none⟩ = some (.int .i64 0) := (blk_cell BK510.out 0).trans rfl; have hcz16_1 : w15.cell? ⟨gb510, 1, none⟩ = some (.slice none 0 0) := (blk_cell BK510.out 1).trans rfl; have hfz16_0 := blk_frozen BK510.out 0; have hfz16_1 := blk_frozen BK510.out 1))
    refine bodyPost_ret (results_ct rfl _ _ gb510 29 #[.int .i64 0, .slice none 0 0] (0, 0) _ rfl (by (with_reducible repeat (first | refine blk_drewN ?_ _ | refine blk_drew ?_ | refine blk_alloc ?_ _)); refine blk_put (cs := #[.int .i64 0, .slice none 0 0]) ?_ 1 _ rfl; (with_reducible repeat (first | refine blk_drewN ?_ _ | refine blk_drew ?_ | refine blk_alloc ?_ _)); refine blk_put (cs := #[.int .i64 0, .slice none 0 0]) ?_ 0 _ rfl; (with_reducible repeat (first | refine blk_drewN ?_ _ | refine blk_drew ?_ | refine blk_alloc ?_ _)); exact BK510.out) Try.underlying29 rfl (by kernel_rfl)) rfl ?_
    exact ⟨_, by first | rfl | (simp [errW_none, errW_some] <;> rfl) | (simp [*, errW_none, errW_some] <;> rfl), by first | exact Kd.S_nil _ _ _ _ _ | exact Kd.N_nil _ _ _ _ _ | exact Kd.V_nil _ _ _ _ _ | exact Kd.Q_nil _ _ _ _ _ | exact Kd.R_nil _ _ _ _ _, by repeat (first | (with_reducible first | exact HB.out | apply below_alloc | apply pw_below_drewN | apply below_drew1 | refine below_set ?_ GE509.out | refine below_set ?_ GE510.out) | exact HB.out)⟩
   ·rw [if_neg c8] at H
    have c8b0 : decide (0 ≤ t513) = false := decide_eq_false c8
    clear c8
    by_cases c17 : (l0_1.length : Int) = 20
    ·rw [if_pos c17] at H
     have c17b0 : ((l0_1.length : Int) == 20) = true := beq_iff_eq.mpr c17
     have c17b1 : ((l0_1.length : Int) != 20) = false := bne_eq_false_iff_eq.mpr c17
     clear c17
     simp only [Option.some.injEq, Prod.mk.injEq] at H
     obtain ⟨rfl, rfl, rfl⟩ := H
     go_enter Try.func36, Try.ntmps36
     go_wp2_with (first | ((with_reducible refine gate_dst (N := 2) rfl ?_); refine box_event ?hg (N := 2) ?hd (cs := #[.int .i64 a0_0, .slice A0_1 l0_1.length c0_1]) (t := 29) ?hr ?_; (case hd => rfl); (case hg => rfl); (case hr => first | (go_simp; done) | (go_simp; rfl)); intro gb509 hg w18 hbox hb; have n0_ := Aside0.mk (below_step (by repeat (first | (with_reducible first | exact HB.out | apply below_alloc | apply pw_below_drewN | apply below_drew1) | exact HB.out)) hb); have n1_ := Aside0.mk (hbox); have n2_ := Aside0.mk ((by rw [hg]; exact (below_size (by repeat (first | (with_reducible first | exact HB.out | apply below_alloc | apply pw_below_drewN | apply below_drew1) | exact HB.out))) : w.heap.size ≤ gb509)); have n3_ := Aside0.mk ((by rw [hg]; exact (below_size (by repeat (first | (with_reducible first | exact HB.out | apply below_alloc | apply pw_below_drewN | apply below_drew1) | exact HB.out))) : w.heap.size ≤ gb509)); clear HB; have HB := n0_; have BK509 := n1_; have GW509 := n2_; have GE509 := n3_; clear n0_ n1_ n2_ n3_; clear hb hbox hg) | ((with_reducible refine gate_dst (N := 4) rfl ?_); refine box_event ?hg (N := 4) ?hd (cs := #[.int .i64 0, .slice none 0 0]) (t := 29) ?hr ?_; (case hd => rfl); (case hg => rfl); (case hr => first | (go_simp; done) | (go_simp; rfl)); intro gb510 hg w19 hbox hb; have n0_ := Aside0.mk (blk_below (g := gb509) (o := .cells #[.int .i64 a0_0, .slice A0_1 l0_1.length c0_1] 29 (0, 0)) (by (with_reducible repeat (first | refine blk_drewN ?_ _ | refine blk_drew ?_ | refine blk_alloc ?_ _)); exact BK509.out) hb); have n1_ := Aside0.mk (below_step (by repeat (first | (with_reducible first | exact HB.out | apply below_alloc | apply pw_below_drewN | apply below_drew1 | refine below_set ?_ GE509.out) | exact HB.out)) hb); have n2_ := Aside0.mk (hbox); have n3_ := Aside0.mk ((by rw [hg]; exact (below_size (by repeat (first | (with_reducible first | exact HB.out | apply below_alloc | apply pw_below_drewN | apply below_drew1 | refine below_set ?_ GE509.out) | exact HB.out))) : w.heap.size ≤ gb510)); have n4_ := Aside0.mk ((by rw [hg]; exact (below_size (by repeat (first | (with_reducible first | exact HB.out | apply below_alloc | apply pw_below_drewN | apply below_drew1 | refine below_set ?_ GE509.out) | exact HB.out))) : w.heap.size ≤ gb510)); have n5_ := Aside0.mk ((by rw [hg]; exact Nat.ne_of_lt (blk_lt (g := gb509) (o := .cells #[.int .i64 a0_0, .slice A0_1 l0_1.length c0_1] 29 (0, 0)) (by (with_reducible repeat (first | refine blk_drewN ?_ _ | refine blk_drew ?_ | refine blk_alloc ?_ _)); exact BK509.out)) : gb509 ≠ gb510)); have n6_ := Aside0.mk ((by rw [hg]; exact Nat.ne_of_gt (blk_lt (g := gb509) (o := .cells #[.int .i64 a0_0, .slice A0_1 l0_1.length c0_1] 29 (0, 0)) (by (with_reducible repeat (first | refine blk_drewN ?_ _ | refine blk_drew ?_ | refine blk_alloc ?_ _)); exact BK509.out)) : gb510 ≠ gb509)); clear BK509; clear HB; have BK509 := n0_; have HB := n1_; have BK510 := n2_; have GW510 := n3_; have GE510 := n4_; have NB509_510 := n5_; have NB510_509 := n6_; clear n0_ n1_ n2_ n3_ n4_ n5_ n6_; clear hb hbox hg; have hnb20 := NB509_510.out; have hnc20 := NB510_509.out; have hcz21_0 : w19.cell? ⟨gb509, 0, none⟩ = some (.int .i64 a0_0) := (blk_cell BK509.out 0).trans rfl; have hcz21_1 : w19.cell? ⟨gb509, 1, none⟩ = some (.slice A0_1 l0_1.length c0_1) := (blk_cell BK509.out 1).trans rfl; have hfz21_0 := blk_frozen BK509.out 0; have hfz21_1 := blk_frozen BK509.out 1) | ((with_reducible refine gate_callee (f := 20) rfl ?_); refine goesL_ (some 9) rfl rfl Try.func20 (by kernel_rfl) rfl #[.agg #[.int .i64 a0_0, .slice A0_1 l0_1.length c0_1]] rfl (by (try simp only [List.map_toArray, List.map_cons, List.map_nil]); first | done | rfl | (simp only [List.length_drop, List.length_take]; rfl)) ?_; (with_reducible refine (impl_ValidMeeting.calls k a0_0 _ _ l0_1 true _ ?side1 ?side2 A3.out).mono ?_); (case side1 => repeat (first | exact (Kd.C_below HR0_1.out HB.out) | (with_reducible refine Kd.C_alloc ?_ _) | (with_reducible refine Kd.C_drewN ?_ _) | (with_reducible refine Kd.C_drew ?_))); (case side2 => exact HC0_1.out); rintro e w22 ⟨rfl, hb⟩; refine ⟨_, rfl, ?_⟩; have n0_ := Aside0.mk (blk_below (g := gb509) (o := .cells #[.int .i64 a0_0, .slice A0_1 l0_1.length c0_1] 29 (0, 0)) (by (with_reducible repeat (first | refine blk_drewN ?_ _ | refine blk_drew ?_ | refine blk_alloc ?_ _)); exact BK509.out) hb); have n1_ := Aside0.mk (blk_below (g := gb510) (o := .cells #[.int .i64 0, .slice none 0 0] 29 (0, 0)) (by (with_reducible repeat (first | refine blk_drewN ?_ _ | refine blk_drew ?_ | refine blk_alloc ?_ _)); exact BK510.out) hb); have n2_ := Aside0.mk (below_step (by repeat (first | (with_reducible first | exact HB.out | apply below_alloc | apply pw_below_drewN | apply below_drew1 | refine below_set ?_ GE509.out | refine below_set ?_ GE510.out) | exact HB.out)) hb); clear BK509; clear BK510; clear HB; have BK509 := n0_; have BK510 := n1_; have HB := n2_; clear n0_ n1_ n2_; (try clear hb); (try clear hb2); (try clear hk); (try clear hi)) | ((with_reducible refine gate_callee (f := 53) rfl ?_); refine goesL_ (some 14) rfl rfl Try.func53 (by kernel_rfl) rfl #[.string a1] rfl (by (try simp only [List.map_toArray, List.map_cons, List.map_nil]); first | done | rfl | (simp only [List.length_drop, List.length_take]; rfl)) ?_; (with_reducible refine (impl_IsName.calls k a1 true _ A5.out).mono ?_); rintro e w' ⟨rfl, ⟨nd, rfl⟩⟩; refine ⟨_, rfl, ?_⟩; (try (rw [drewN_self w22]; generalize hq_ : World.drewN w22 _ = w22; have n0_ : Aside0 (w22.heap[gb509]? = some (.cells #[.int .i64 a0_0, .slice A0_1 l0_1.length c0_1] 29 (0, 0))) := ⟨by rw [← hq_]; exact (by (with_reducible repeat (first | refine blk_drewN ?_ _ | refine blk_drew ?_ | refine blk_alloc ?_ _)); exact BK509.out)⟩; have n1_ : Aside0 (w22.heap[gb510]? = some (.cells #[.int .i64 0, .slice none 0 0] 29 (0, 0))) := ⟨by rw [← hq_]; exact (by (with_reducible repeat (first | refine blk_drewN ?_ _ | refine blk_drew ?_ | refine blk_alloc ?_ _)); exact BK510.out)⟩; have n2_ : Aside0 (Below w.heap.size w w22) := ⟨by rw [← hq_]; exact (by repeat (first | (with_reducible first | exact HB.out | apply below_alloc | apply pw_below_drewN | apply below_drew1 | refine below_set ?_ GE509.out | refine below_set ?_ GE510.out) | exact HB.out))⟩; clear BK509 BK510 HB hq_; have BK509 := n0_; have BK510 := n1_; have HB := n2_; clear n0_ n1_ n2_)); have hcz23_0 : w22.cell? ⟨gb509, 0, none⟩ = some (.int .i64 a0_0) := (blk_cell BK509.out 0).trans rfl; have hcz23_1 : w22.cell? ⟨gb509, 1, none⟩ = some (.slice A0_1 l0_1.length c0_1) := (blk_cell BK509.out 1).trans rfl; have hfz23_0 := blk_frozen BK509.out 0; have hfz23_1 := blk_frozen BK509.out 1) | ((with_reducible refine gate_callee (f := 54) rfl ?_); refine goesL_ (some 21) rfl rfl Try.func54 (by kernel_rfl) rfl #[.slice A0_1 l0_1.length c0_1, .string a1] rfl (by (try simp only [List.map_toArray, List.map_cons, List.map_nil]); first | done | rfl | (simp only [List.length_drop, List.length_take]; rfl)) ?_; (with_reducible refine (impl_motionAt.calls k _ _ l0_1 a1 t513 _ ?side1 ?side2 A7.out).mono ?_); (case side1 => repeat (first | exact (Kd.C_below HR0_1.out HB.out) | (with_reducible refine Kd.C_alloc ?_ _) | (with_reducible refine Kd.C_drewN ?_ _) | (with_reducible refine Kd.C_drew ?_))); (case side2 => exact HC0_1.out); rintro e w24 ⟨rfl, hb⟩; refine ⟨_, rfl, ?_⟩; have n0_ := Aside0.mk (blk_below (g := gb509) (o := .cells #[.int .i64 a0_0, .slice A0_1 l0_1.length c0_1] 29 (0, 0)) (by (with_reducible repeat (first | refine blk_drewN ?_ _ | refine blk_drew ?_ | refine blk_alloc ?_ _)); exact BK509.out) hb); have n1_ := Aside0.mk (blk_below (g := gb510) (o := .cells #[.int .i64 0, .slice none 0 0] 29 (0, 0)) (by (with_reducible repeat (first | refine blk_drewN ?_ _ | refine blk_drew ?_ | refine blk_alloc ?_ _)); exact BK510.out) hb); have n2_ := Aside0.mk (below_step (by repeat (first | (with_reducible first | exact HB.out | apply below_alloc | apply pw_below_drewN | apply below_drew1 | refine below_set ?_ GE509.out | refine below_set ?_ GE510.out) | exact HB.out)) hb); clear BK509; clear BK510; clear HB; have BK509 := n0_; have BK510 := n1_; have HB := n2_; clear n0_ n1_ n2_; (try clear hb); (try clear hb2); (try clear hk); (try clear hi); have hcz25_0 : w24.cell? ⟨gb509, 0, none⟩ = some (.int .i64 a0_0) := (blk_cell BK509.out 0).trans rfl; have hcz25_1 : w24.cell? ⟨gb509, 1, none⟩ = some (.slice A0_1 l0_1.length c0_1) := (blk_cell BK509.out 1).trans rfl; have hfz25_0 := blk_frozen BK509.out 0; have hfz25_1 := blk_frozen BK509.out 1; have hcz26_0 : w24.cell? ⟨gb510, 0, none⟩ = some (.int .i64 0) := (blk_cell BK510.out 0).trans rfl; have hcz26_1 : w24.cell? ⟨gb510, 1, none⟩ = some (.slice none 0 0) := (blk_cell BK510.out 1).trans rfl; have hfz26_0 := blk_frozen BK510.out 0; have hfz26_1 := blk_frozen BK510.out 1))
     refine bodyPost_ret (results_ct rfl _ _ gb510 29 #[.int .i64 0, .slice none 0 0] (0, 0) _ rfl (by (with_reducible repeat (first | refine blk_drewN ?_ _ | refine blk_drew ?_ | refine blk_alloc ?_ _)); refine blk_put (cs := #[.int .i64 0, .slice none 0 0]) ?_ 1 _ rfl; (with_reducible repeat (first | refine blk_drewN ?_ _ | refine blk_drew ?_ | refine blk_alloc ?_ _)); refine blk_put (cs := #[.int .i64 0, .slice none 0 0]) ?_ 0 _ rfl; (with_reducible repeat (first | refine blk_drewN ?_ _ | refine blk_drew ?_ | refine blk_alloc ?_ _)); exact BK510.out) Try.underlying29 rfl (by kernel_rfl)) rfl ?_
     exact ⟨_, by first | rfl | (simp [errW_none, errW_some] <;> rfl) | (simp [*, errW_none, errW_some] <;> rfl), by first | exact Kd.S_nil _ _ _ _ _ | exact Kd.N_nil _ _ _ _ _ | exact Kd.V_nil _ _ _ _ _ | exact Kd.Q_nil _ _ _ _ _ | exact Kd.R_nil _ _ _ _ _, by repeat (first | (with_reducible first | exact HB.out | apply below_alloc | apply pw_below_drewN | apply below_drew1 | refine below_set ?_ GE509.out | refine below_set ?_ GE510.out) | exact HB.out)⟩
    ·rw [if_neg c17] at H
     have c17b0 : ((l0_1.length : Int) == 20) = false := beq_eq_false_iff_ne.mpr c17
     have c17b1 : ((l0_1.length : Int) != 20) = true := bne_iff_ne.mpr c17
     replace H := Option.bind_eq_some_iff.mp H
     obtain ⟨⟨t514, t515⟩, A270, H⟩ := H
     replace H : (if 0 ≤ a0_0 then (if (a0_0 : Int).toNat ≤ 35184372088832 then (if t515.length < 3518437208883 then (some (t514, (t515 ++ [(⟨a1, (List.replicate (a0_0 : Int).toNat 0)⟩ : S60)]), 0)) else (none)) else (none)) else (none)) = some (r1, r2, r3) := H
     have A27 := Aside0.mk A270
     clear A270
     by_cases c28 : 0 ≤ a0_0
     ·rw [if_pos c28] at H
      have c28b0 := eq_true c28
      have c28b1 : decide (0 ≤ a0_0) = true := decide_eq_true c28
      clear c28
      by_cases c29 : (a0_0 : Int).toNat ≤ 35184372088832
      ·rw [if_pos c29] at H
       have c29b0 := eq_true c29
       have c29b1 : decide ((a0_0 : Int).toNat ≤ 35184372088832) = true := decide_eq_true c29
       clear c29
       obtain ⟨y519, hy519⟩ : ∃ y_ : List Int, y_ = (List.replicate (a0_0 : Int).toNat 0) := ⟨_, rfl⟩
       replace H : (if t515.length < 3518437208883 then (some (t514, (t515 ++ [(⟨a1, y519⟩ : S60)]), 0)) else (none)) = some (r1, r2, r3) := by first | (rw [hy519]; with_reducible exact H) | (have H2_ := (Option.bind_some _ _).symm.trans H; rw [hy519]; with_reducible exact H2_) | (have H2_ := (Option.bind_some _ _).symm.trans H; with_reducible exact H2_) | with_reducible exact H | (rw [hy519]; exact H) | exact H
       have Ny519 := Aside0.mk hy519
       clear hy519
       by_cases c30 : t515.length < 3518437208883
       ·rw [if_pos c30] at H
        have LMc30 := Aside0.mk c30
        clear c30
        obtain ⟨y522, hy522⟩ : ∃ y_ : List (S60), y_ = (t515 ++ [(⟨a1, y519⟩ : S60)]) := ⟨_, rfl⟩
        replace H : (some (t514, y522, 0)) = some (r1, r2, r3) := by first | (rw [hy522]; with_reducible exact H) | (have H2_ := (Option.bind_some _ _).symm.trans H; rw [hy522]; with_reducible exact H2_) | (have H2_ := (Option.bind_some _ _).symm.trans H; with_reducible exact H2_) | with_reducible exact H | (rw [hy522]; exact H) | exact H
        have Ny522 := Aside0.mk hy522
        clear hy522
        simp only [Option.some.injEq, Prod.mk.injEq] at H
        obtain ⟨rfl, rfl, rfl⟩ := H
        go_enter Try.func36, Try.ntmps36
        try go_wp2_with (first | ((with_reducible refine gate_dst (N := 2) rfl ?_); refine box_event ?hg (N := 2) ?hd (cs := #[.int .i64 a0_0, .slice A0_1 l0_1.length c0_1]) (t := 29) ?hr ?_; (case hd => rfl); (case hg => rfl); (case hr => first | (go_simp; done) | (go_simp; rfl)); intro gb509 hg w31 hbox hb; have n0_ := Aside0.mk (below_step (by repeat (first | (with_reducible first | exact HB.out | apply below_alloc | apply pw_below_drewN | apply below_drew1) | exact HB.out)) hb); have n1_ := Aside0.mk (hbox); have n2_ := Aside0.mk ((by rw [hg]; exact (below_size (by repeat (first | (with_reducible first | exact HB.out | apply below_alloc | apply pw_below_drewN | apply below_drew1) | exact HB.out))) : w.heap.size ≤ gb509)); have n3_ := Aside0.mk ((by rw [hg]; exact (below_size (by repeat (first | (with_reducible first | exact HB.out | apply below_alloc | apply pw_below_drewN | apply below_drew1) | exact HB.out))) : w.heap.size ≤ gb509)); clear HB; have HB := n0_; have BK509 := n1_; have GW509 := n2_; have GE509 := n3_; clear n0_ n1_ n2_ n3_; clear hb hbox hg) | ((with_reducible refine gate_dst (N := 4) rfl ?_); refine box_event ?hg (N := 4) ?hd (cs := #[.int .i64 0, .slice none 0 0]) (t := 29) ?hr ?_; (case hd => rfl); (case hg => rfl); (case hr => first | (go_simp; done) | (go_simp; rfl)); intro gb510 hg w32 hbox hb; have n0_ := Aside0.mk (blk_below (g := gb509) (o := .cells #[.int .i64 a0_0, .slice A0_1 l0_1.length c0_1] 29 (0, 0)) (by (with_reducible repeat (first | refine blk_drewN ?_ _ | refine blk_drew ?_ | refine blk_alloc ?_ _)); exact BK509.out) hb); have n1_ := Aside0.mk (below_step (by repeat (first | (with_reducible first | exact HB.out | apply below_alloc | apply pw_below_drewN | apply below_drew1 | refine below_set ?_ GE509.out) | exact HB.out)) hb); have n2_ := Aside0.mk (hbox); have n3_ := Aside0.mk ((by rw [hg]; exact (below_size (by repeat (first | (with_reducible first | exact HB.out | apply below_alloc | apply pw_below_drewN | apply below_drew1 | refine below_set ?_ GE509.out) | exact HB.out))) : w.heap.size ≤ gb510)); have n4_ := Aside0.mk ((by rw [hg]; exact (below_size (by repeat (first | (with_reducible first | exact HB.out | apply below_alloc | apply pw_below_drewN | apply below_drew1 | refine below_set ?_ GE509.out) | exact HB.out))) : w.heap.size ≤ gb510)); have n5_ := Aside0.mk ((by rw [hg]; exact Nat.ne_of_lt (blk_lt (g := gb509) (o := .cells #[.int .i64 a0_0, .slice A0_1 l0_1.length c0_1] 29 (0, 0)) (by (with_reducible repeat (first | refine blk_drewN ?_ _ | refine blk_drew ?_ | refine blk_alloc ?_ _)); exact BK509.out)) : gb509 ≠ gb510)); have n6_ := Aside0.mk ((by rw [hg]; exact Nat.ne_of_gt (blk_lt (g := gb509) (o := .cells #[.int .i64 a0_0, .slice A0_1 l0_1.length c0_1] 29 (0, 0)) (by (with_reducible repeat (first | refine blk_drewN ?_ _ | refine blk_drew ?_ | refine blk_alloc ?_ _)); exact BK509.out)) : gb510 ≠ gb509)); clear BK509; clear HB; have BK509 := n0_; have HB := n1_; have BK510 := n2_; have GW510 := n3_; have GE510 := n4_; have NB509_510 := n5_; have NB510_509 := n6_; clear n0_ n1_ n2_ n3_ n4_ n5_ n6_; clear hb hbox hg; have hnb33 := NB509_510.out; have hnc33 := NB510_509.out; have hcz34_0 : w32.cell? ⟨gb509, 0, none⟩ = some (.int .i64 a0_0) := (blk_cell BK509.out 0).trans rfl; have hcz34_1 : w32.cell? ⟨gb509, 1, none⟩ = some (.slice A0_1 l0_1.length c0_1) := (blk_cell BK509.out 1).trans rfl; have hfz34_0 := blk_frozen BK509.out 0; have hfz34_1 := blk_frozen BK509.out 1) | ((with_reducible refine gate_callee (f := 20) rfl ?_); refine goesL_ (some 9) rfl rfl Try.func20 (by kernel_rfl) rfl #[.agg #[.int .i64 a0_0, .slice A0_1 l0_1.length c0_1]] rfl (by (try simp only [List.map_toArray, List.map_cons, List.map_nil]); first | done | rfl | (simp only [List.length_drop, List.length_take]; rfl)) ?_; (with_reducible refine (impl_ValidMeeting.calls k a0_0 _ _ l0_1 true _ ?side1 ?side2 A3.out).mono ?_); (case side1 => repeat (first | exact (Kd.C_below HR0_1.out HB.out) | (with_reducible refine Kd.C_alloc ?_ _) | (with_reducible refine Kd.C_drewN ?_ _) | (with_reducible refine Kd.C_drew ?_))); (case side2 => exact HC0_1.out); rintro e w35 ⟨rfl, hb⟩; refine ⟨_, rfl, ?_⟩; have n0_ := Aside0.mk (blk_below (g := gb509) (o := .cells #[.int .i64 a0_0, .slice A0_1 l0_1.length c0_1] 29 (0, 0)) (by (with_reducible repeat (first | refine blk_drewN ?_ _ | refine blk_drew ?_ | refine blk_alloc ?_ _)); exact BK509.out) hb); have n1_ := Aside0.mk (blk_below (g := gb510) (o := .cells #[.int .i64 0, .slice none 0 0] 29 (0, 0)) (by (with_reducible repeat (first | refine blk_drewN ?_ _ | refine blk_drew ?_ | refine blk_alloc ?_ _)); exact BK510.out) hb); have n2_ := Aside0.mk (below_step (by repeat (first | (with_reducible first | exact HB.out | apply below_alloc | apply pw_below_drewN | apply below_drew1 | refine below_set ?_ GE509.out | refine below_set ?_ GE510.out) | exact HB.out)) hb); clear BK509; clear BK510; clear HB; have BK509 := n0_; have BK510 := n1_; have HB := n2_; clear n0_ n1_ n2_; (try clear hb); (try clear hb2); (try clear hk); (try clear hi)) | ((with_reducible refine gate_callee (f := 53) rfl ?_); refine goesL_ (some 14) rfl rfl Try.func53 (by kernel_rfl) rfl #[.string a1] rfl (by (try simp only [List.map_toArray, List.map_cons, List.map_nil]); first | done | rfl | (simp only [List.length_drop, List.length_take]; rfl)) ?_; (with_reducible refine (impl_IsName.calls k a1 true _ A5.out).mono ?_); rintro e w' ⟨rfl, ⟨nd, rfl⟩⟩; refine ⟨_, rfl, ?_⟩; (try (rw [drewN_self w35]; generalize hq_ : World.drewN w35 _ = w35; have n0_ : Aside0 (w35.heap[gb509]? = some (.cells #[.int .i64 a0_0, .slice A0_1 l0_1.length c0_1] 29 (0, 0))) := ⟨by rw [← hq_]; exact (by (with_reducible repeat (first | refine blk_drewN ?_ _ | refine blk_drew ?_ | refine blk_alloc ?_ _)); exact BK509.out)⟩; have n1_ : Aside0 (w35.heap[gb510]? = some (.cells #[.int .i64 0, .slice none 0 0] 29 (0, 0))) := ⟨by rw [← hq_]; exact (by (with_reducible repeat (first | refine blk_drewN ?_ _ | refine blk_drew ?_ | refine blk_alloc ?_ _)); exact BK510.out)⟩; have n2_ : Aside0 (Below w.heap.size w w35) := ⟨by rw [← hq_]; exact (by repeat (first | (with_reducible first | exact HB.out | apply below_alloc | apply pw_below_drewN | apply below_drew1 | refine below_set ?_ GE509.out | refine below_set ?_ GE510.out) | exact HB.out))⟩; clear BK509 BK510 HB hq_; have BK509 := n0_; have BK510 := n1_; have HB := n2_; clear n0_ n1_ n2_)); have hcz36_0 : w35.cell? ⟨gb509, 0, none⟩ = some (.int .i64 a0_0) := (blk_cell BK509.out 0).trans rfl; have hcz36_1 : w35.cell? ⟨gb509, 1, none⟩ = some (.slice A0_1 l0_1.length c0_1) := (blk_cell BK509.out 1).trans rfl; have hfz36_0 := blk_frozen BK509.out 0; have hfz36_1 := blk_frozen BK509.out 1) | ((with_reducible refine gate_callee (f := 54) rfl ?_); refine goesL_ (some 21) rfl rfl Try.func54 (by kernel_rfl) rfl #[.slice A0_1 l0_1.length c0_1, .string a1] rfl (by (try simp only [List.map_toArray, List.map_cons, List.map_nil]); first | done | rfl | (simp only [List.length_drop, List.length_take]; rfl)) ?_; (with_reducible refine (impl_motionAt.calls k _ _ l0_1 a1 t513 _ ?side1 ?side2 A7.out).mono ?_); (case side1 => repeat (first | exact (Kd.C_below HR0_1.out HB.out) | (with_reducible refine Kd.C_alloc ?_ _) | (with_reducible refine Kd.C_drewN ?_ _) | (with_reducible refine Kd.C_drew ?_))); (case side2 => exact HC0_1.out); rintro e w37 ⟨rfl, hb⟩; refine ⟨_, rfl, ?_⟩; have n0_ := Aside0.mk (blk_below (g := gb509) (o := .cells #[.int .i64 a0_0, .slice A0_1 l0_1.length c0_1] 29 (0, 0)) (by (with_reducible repeat (first | refine blk_drewN ?_ _ | refine blk_drew ?_ | refine blk_alloc ?_ _)); exact BK509.out) hb); have n1_ := Aside0.mk (blk_below (g := gb510) (o := .cells #[.int .i64 0, .slice none 0 0] 29 (0, 0)) (by (with_reducible repeat (first | refine blk_drewN ?_ _ | refine blk_drew ?_ | refine blk_alloc ?_ _)); exact BK510.out) hb); have n2_ := Aside0.mk (below_step (by repeat (first | (with_reducible first | exact HB.out | apply below_alloc | apply pw_below_drewN | apply below_drew1 | refine below_set ?_ GE509.out | refine below_set ?_ GE510.out) | exact HB.out)) hb); clear BK509; clear BK510; clear HB; have BK509 := n0_; have BK510 := n1_; have HB := n2_; clear n0_ n1_ n2_; (try clear hb); (try clear hb2); (try clear hk); (try clear hi); have hcz38_0 : w37.cell? ⟨gb509, 0, none⟩ = some (.int .i64 a0_0) := (blk_cell BK509.out 0).trans rfl; have hcz38_1 : w37.cell? ⟨gb509, 1, none⟩ = some (.slice A0_1 l0_1.length c0_1) := (blk_cell BK509.out 1).trans rfl; have hfz38_0 := blk_frozen BK509.out 0; have hfz38_1 := blk_frozen BK509.out 1) | ((with_reducible refine gate_callee (f := 71) rfl ?_); refine goesL_ (some 31) rfl rfl Try.func71 (by kernel_rfl) rfl #[.agg #[.int .i64 a0_0, .slice A0_1 l0_1.length c0_1]] rfl (by (try simp only [List.map_toArray, List.map_cons, List.map_nil]); first | done | rfl | (simp only [List.length_drop, List.length_take]; rfl)) ?_; (with_reducible refine (impl_cloneMeeting.calls k a0_0 _ _ l0_1 t514 t515 _ ?side1 ?side2 A27.out).mono ?_); (case side1 => repeat (first | exact (Kd.C_below HR0_1.out HB.out) | (with_reducible refine Kd.C_alloc ?_ _) | (with_reducible refine Kd.C_drewN ?_ _) | (with_reducible refine Kd.C_drew ?_))); (case side2 => exact HC0_1.out); rintro e w39 ⟨v516, rfl, ho0, hb⟩; refine ⟨_, rfl, ?_⟩; have n0_ := Aside0.mk (Kd.S_lower ho0 (below_size (by repeat (first | (with_reducible first | exact HB.out | apply below_alloc | apply pw_below_drewN | apply below_drew1 | refine below_set ?_ GE509.out | refine below_set ?_ GE510.out) | exact HB.out)))); have n1_ := Aside0.mk (blk_below (g := gb509) (o := .cells #[.int .i64 a0_0, .slice A0_1 l0_1.length c0_1] 29 (0, 0)) (by (with_reducible repeat (first | refine blk_drewN ?_ _ | refine blk_drew ?_ | refine blk_alloc ?_ _)); exact BK509.out) hb); have n2_ := Aside0.mk (blk_below (g := gb510) (o := .cells #[.int .i64 0, .slice none 0 0] 29 (0, 0)) (by (with_reducible repeat (first | refine blk_drewN ?_ _ | refine blk_drew ?_ | refine blk_alloc ?_ _)); exact BK510.out) hb); have n3_ := Aside0.mk (below_step (by repeat (first | (with_reducible first | exact HB.out | apply below_alloc | apply pw_below_drewN | apply below_drew1 | refine below_set ?_ GE509.out | refine below_set ?_ GE510.out) | exact HB.out)) hb); clear BK509; clear BK510; clear HB; have HO517 := n0_; have BK509 := n1_; have BK510 := n2_; have HB := n3_; clear n0_ n1_ n2_ n3_; (try clear hb); (try clear hb2); (try clear hk); (try clear hi); (try clear ho0)) | ((with_reducible refine gate_dst (N := 6) rfl ?_); refine box_event ?hg (N := 6) ?hd (cs := #[.int .i64 0, .slice none 0 0]) (t := 29) ?hr ?_; (case hd => rfl); (case hg => rfl); (case hr => first | (go_simp; done) | (go_simp; rfl)); intro gb518 hg w40 hbox hb; have n0_ := Aside0.mk (Kd.S_below (by (with_reducible repeat (first | apply Kd.S_alloc | apply Kd.S_drewN | apply Kd.S_drew)); exact HO517.out) hb); have n1_ := Aside0.mk (blk_below (g := gb509) (o := .cells #[.int .i64 a0_0, .slice A0_1 l0_1.length c0_1] 29 (0, 0)) (by (with_reducible repeat (first | refine blk_drewN ?_ _ | refine blk_drew ?_ | refine blk_alloc ?_ _)); exact BK509.out) hb); have n2_ := Aside0.mk (blk_below (g := gb510) (o := .cells #[.int .i64 0, .slice none 0 0] 29 (0, 0)) (by (with_reducible repeat (first | refine blk_drewN ?_ _ | refine blk_drew ?_ | refine blk_alloc ?_ _)); exact BK510.out) hb); have n3_ := Aside0.mk (below_step (by repeat (first | (with_reducible first | exact HB.out | apply below_alloc | apply pw_below_drewN | apply below_drew1 | refine below_set ?_ GE509.out | refine below_set ?_ GE510.out) | exact HB.out)) hb); have n4_ := Aside0.mk (hbox); have n5_ := Aside0.mk ((by rw [hg]; exact (below_size (by repeat (first | (with_reducible first | exact HB.out | apply below_alloc | apply pw_below_drewN | apply below_drew1 | refine below_set ?_ GE509.out | refine below_set ?_ GE510.out) | exact HB.out))) : w.heap.size ≤ gb518)); have n6_ := Aside0.mk ((by rw [hg]; exact (below_size (by repeat (first | (with_reducible first | exact HB.out | apply below_alloc | apply pw_below_drewN | apply below_drew1 | refine below_set ?_ GE509.out | refine below_set ?_ GE510.out) | exact HB.out))) : w.heap.size ≤ gb518)); have n7_ := Aside0.mk ((by rw [hg]; exact Nat.ne_of_lt (blk_lt (g := gb509) (o := .cells #[.int .i64 a0_0, .slice A0_1 l0_1.length c0_1] 29 (0, 0)) (by (with_reducible repeat (first | refine blk_drewN ?_ _ | refine blk_drew ?_ | refine blk_alloc ?_ _)); exact BK509.out)) : gb509 ≠ gb518)); have n8_ := Aside0.mk ((by rw [hg]; exact Nat.ne_of_gt (blk_lt (g := gb509) (o := .cells #[.int .i64 a0_0, .slice A0_1 l0_1.length c0_1] 29 (0, 0)) (by (with_reducible repeat (first | refine blk_drewN ?_ _ | refine blk_drew ?_ | refine blk_alloc ?_ _)); exact BK509.out)) : gb518 ≠ gb509)); have n9_ := Aside0.mk ((by rw [hg]; exact Nat.ne_of_lt (blk_lt (g := gb510) (o := .cells #[.int .i64 0, .slice none 0 0] 29 (0, 0)) (by (with_reducible repeat (first | refine blk_drewN ?_ _ | refine blk_drew ?_ | refine blk_alloc ?_ _)); exact BK510.out)) : gb510 ≠ gb518)); have n10_ := Aside0.mk ((by rw [hg]; exact Nat.ne_of_gt (blk_lt (g := gb510) (o := .cells #[.int .i64 0, .slice none 0 0] 29 (0, 0)) (by (with_reducible repeat (first | refine blk_drewN ?_ _ | refine blk_drew ?_ | refine blk_alloc ?_ _)); exact BK510.out)) : gb518 ≠ gb510)); clear HO517; clear BK509; clear BK510; clear HB; have HO517 := n0_; have BK509 := n1_; have BK510 := n2_; have HB := n3_; have BK518 := n4_; have GW518 := n5_; have GE518 := n6_; have NB509_518 := n7_; have NB518_509 := n8_; have NB510_518 := n9_; have NB518_510 := n10_; clear n0_ n1_ n2_ n3_ n4_ n5_ n6_ n7_ n8_ n9_ n10_; clear hb hbox hg; have hnb41 := NB518_509.out; have hnc41 := NB509_518.out; have hnb42 := NB518_510.out; have hnc42 := NB510_518.out; have hcz43_0 : w40.cell? ⟨gb518, 0, none⟩ = some (.int .i64 0) := (blk_cell BK518.out 0).trans rfl; have hcz43_1 : w40.cell? ⟨gb518, 1, none⟩ = some (.slice none 0 0) := (blk_cell BK518.out 1).trans rfl; have hfz43_0 := blk_frozen BK518.out 0; have hfz43_1 := blk_frozen BK518.out 1; obtain ⟨Ao44, co44, eo44⟩ := Kd.S_slice HO517.out; subst eo44))
        have n0_ : Aside0 (Kd.S k60 60 ((w40.setCell ⟨gb518, 0, none⟩ (.int .i64 t514)).setCell ⟨gb518, 1, none⟩ (.slice Ao44 t515.length co44)) w.heap.size (fun _ => True) (.slice Ao44 t515.length co44) t515) := ⟨by (with_reducible repeat (first | apply Kd.S_alloc | apply Kd.S_drewN | apply Kd.S_drew)); exact Kd.S_mono (Kd.S_far (p := ⟨gb518, 1, none⟩) (Kd.S_far (p := ⟨gb518, 0, none⟩) (Kd.S_types HO517.out BK518.out (by decide)) (fun _ hk => hk.2) (.int .i64 t514)) (fun _ hk => hk.2) (.slice Ao44 t515.length co44)) (fun _ hk => trivial)⟩
        have n1_ : Aside0 (((w40.setCell ⟨gb518, 0, none⟩ (.int .i64 t514)).setCell ⟨gb518, 1, none⟩ (.slice Ao44 t515.length co44)).heap[gb509]? = some (.cells #[.int .i64 a0_0, .slice A0_1 l0_1.length c0_1] 29 (0, 0))) := ⟨by (with_reducible repeat (first | refine blk_drewN ?_ _ | refine blk_drew ?_ | refine blk_alloc ?_ _)); refine blk_far ?_ NB509_518.out _; (with_reducible repeat (first | refine blk_drewN ?_ _ | refine blk_drew ?_ | refine blk_alloc ?_ _)); refine blk_far ?_ NB509_518.out _; (with_reducible repeat (first | refine blk_drewN ?_ _ | refine blk_drew ?_ | refine blk_alloc ?_ _)); exact BK509.out⟩
        have n2_ : Aside0 (((w40.setCell ⟨gb518, 0, none⟩ (.int .i64 t514)).setCell ⟨gb518, 1, none⟩ (.slice Ao44 t515.length co44)).heap[gb510]? = some (.cells #[.int .i64 0, .slice none 0 0] 29 (0, 0))) := ⟨by (with_reducible repeat (first | refine blk_drewN ?_ _ | refine blk_drew ?_ | refine blk_alloc ?_ _)); refine blk_far ?_ NB510_518.out _; (with_reducible repeat (first | refine blk_drewN ?_ _ | refine blk_drew ?_ | refine blk_alloc ?_ _)); refine blk_far ?_ NB510_518.out _; (with_reducible repeat (first | refine blk_drewN ?_ _ | refine blk_drew ?_ | refine blk_alloc ?_ _)); exact BK510.out⟩
        have n3_ : Aside0 (((w40.setCell ⟨gb518, 0, none⟩ (.int .i64 t514)).setCell ⟨gb518, 1, none⟩ (.slice Ao44 t515.length co44)).heap[gb518]? = some (.cells #[.int .i64 t514, .slice Ao44 t515.length co44] 29 (0, 0))) := ⟨by (with_reducible repeat (first | refine blk_drewN ?_ _ | refine blk_drew ?_ | refine blk_alloc ?_ _)); refine blk_put (cs := #[.int .i64 t514, .slice none 0 0]) ?_ 1 _ rfl; (with_reducible repeat (first | refine blk_drewN ?_ _ | refine blk_drew ?_ | refine blk_alloc ?_ _)); refine blk_put (cs := #[.int .i64 0, .slice none 0 0]) ?_ 0 _ rfl; (with_reducible repeat (first | refine blk_drewN ?_ _ | refine blk_drew ?_ | refine blk_alloc ?_ _)); exact BK518.out⟩
        have n4_ : Aside0 (Below w.heap.size w ((w40.setCell ⟨gb518, 0, none⟩ (.int .i64 t514)).setCell ⟨gb518, 1, none⟩ (.slice Ao44 t515.length co44))) := ⟨by repeat (first | (with_reducible first | exact HB.out | apply below_alloc | apply pw_below_drewN | apply below_drew1 | refine below_set ?_ GE509.out | refine below_set ?_ GE510.out | refine below_set ?_ GE518.out) | exact HB.out)⟩
        (try clear HO517)
        (try clear BK509)
        (try clear BK510)
        (try clear BK518)
        (try clear HB)
        generalize ((w40.setCell ⟨gb518, 0, none⟩ (.int .i64 t514)).setCell ⟨gb518, 1, none⟩ (.slice Ao44 t515.length co44)) = w45 at n0_ n1_ n2_ n3_ n4_ ⊢
        have HO517 := n0_
        have BK509 := n1_
        have BK510 := n2_
        have BK518 := n3_
        have HB := n4_
        clear n0_ n1_ n2_ n3_ n4_
        have n0_ := Aside0.mk (Kd.S_drew HO517.out)
        have n1_ := Aside0.mk (blk_drew BK509.out)
        have n2_ := Aside0.mk (blk_drew BK510.out)
        have n3_ := Aside0.mk (blk_drew BK518.out)
        have n4_ := Aside0.mk (below_drew1 HB.out)
        clear HO517
        clear BK509
        clear BK510
        clear BK518
        clear HB
        have HO517 := n0_
        have BK509 := n1_
        have BK510 := n2_
        have BK518 := n3_
        have HB := n4_
        clear n0_ n1_ n2_ n3_ n4_
        refine start_ (n := 11) (S := fun w' => w'.cell? ⟨gb518, 0, none⟩ = some (.int .i64 t514) ∧ w'.cell? ⟨gb518, 1, none⟩ = some (.slice Ao44 t515.length co44) ∧ w'.cell? ⟨gb509, 0, none⟩ = some (.int .i64 a0_0) ∧ w'.cell? ⟨gb509, 1, none⟩ = some (.slice A0_1 l0_1.length c0_1)) (ds := [10]) #[false, false, false, false, false, false, false, false, false, false, false] (by kernel_rfl) rfl rfl ⟨(blk_cell BK518.out 0).trans rfl, (blk_cell BK518.out 1).trans rfl, (blk_cell BK509.out 0).trans rfl, (blk_cell BK509.out 1).trans rfl⟩ (fun hHeld => ?_); refine with_tabW impl_AddMotion.tab10 impl_AddMotion.bits10 (fun HT_ HW_ => ?_)
        generalize w45.drew = w46 at HO517 BK509 BK510 BK518 HB hHeld ⊢
        refine pure_ (i := 0) (N := some 32) (v := ?_) (a' := ?_) #[true, false, false, false, false, false, false, false, false, false, false] rfl rfl (any_of HT_.out (by kernel_rfl)) (fun _ _ _ h => h) (Or.inl ⟨by rfl, ?_⟩) ?_ ?_
        rotate_left
        ·intro w'
         go_simp
         with_reducible rfl
        rotate_left
        ·simp only [Act.put, List.setIfInBounds_toArray, List.set_cons_zero, List.set_cons_succ, i64_w, i32_w]; rfl
        refine pure_ (i := 2) (N := some 34) (v := ?_) (a' := ?_) #[true, false, true, false, false, false, false, false, false, false, false] rfl rfl (any_of HT_.out (by kernel_rfl)) (fun _ _ _ h => h) (Or.inl ⟨by rfl, ?_⟩) ?_ ?_
        rotate_left
        ·intro w'
         go_simp
         with_reducible rfl
        rotate_left
        ·simp only [Act.put, List.setIfInBounds_toArray, List.set_cons_zero, List.set_cons_succ, i64_w, i32_w]; rfl
        refine pure_ (i := 3) (N := some 35) (v := ?_) (a' := ?_) #[true, false, true, true, false, false, false, false, false, false, false] rfl rfl (any_of HT_.out (by kernel_rfl)) (fun _ _ _ h => h) (Or.inl ⟨by rfl, ?_⟩) ?_ ?_
        rotate_left
        ·intro w'
         go_simp
         with_reducible rfl
        rotate_left
        ·simp only [Act.put, List.setIfInBounds_toArray, List.set_cons_zero, List.set_cons_succ, i64_w, i32_w]; rfl
        refine take_ (i := 1) (N := some 33) (v := ?_) (a' := ?_) #[true, true, true, true, false, false, false, false, false, false, false] rfl rfl (take_ofW HT_.out HW_.out (by kernel_rfl)) (fun _ _ _ h => h) (Or.inl ⟨by rfl, ?_⟩) hHeld ?_ ?_
        rotate_left
        ·rintro w' ⟨s0, s1, s2, s3⟩
         go_simp
         with_reducible rfl
        rotate_left
        ·simp only [Act.put, List.setIfInBounds_toArray, List.set_cons_zero, List.set_cons_succ, i64_w, i32_w]; rfl
        refine take_ (i := 4) (N := some 36) (v := ?_) (a' := ?_) #[true, true, true, true, true, false, false, false, false, false, false] rfl rfl (take_ofW HT_.out HW_.out (by kernel_rfl)) (fun _ _ _ h => h) (Or.inl ⟨by rfl, ?_⟩) hHeld ?_ ?_
        rotate_left
        ·rintro w' ⟨s0, s1, s2, s3⟩
         go_simp
         with_reducible rfl
        rotate_left
        ·simp only [Act.put, List.setIfInBounds_toArray, List.set_cons_zero, List.set_cons_succ, i64_w, i32_w]; rfl
        refine one_ (i := 5) (N := some 37) #[true, true, true, true, true, true, false, false, false, false, false] rfl rfl (one_of HT_.out (by kernel_rfl)) (by decide) (fun K hK => ?_)
        refine Kd.R_make_step (Kd.int .i64) _ 2 (by rfl) (N := 37) rfl 37 _ _ rfl a0_0 rfl rfl Try.underlying37 (.int .i64 0) 8 info2 rfl (by decide) (by omega) 0 (ok := fun _ => True) (okp := fun _ => True) rfl (fun _ hk => hk) trivial (of_decide_eq_true (by first | (with_reducible assumption) | assumption)) (Nat.le_trans (Nat.mul_le_mul_right _ (of_decide_eq_true (by first | (with_reducible assumption) | assumption) : a0_0.toNat ≤ 35184372088832)) (by omega)) (Below.refl _ _) (Nat.le_refl _) ?_
        intro v520 w47 ho48 hb hg_ hnew_
        clear hg_ hnew_
        (first | rw [← Ny519.out] at ho48 | (simp only [Int.reduceToNat] at ho48; rw [← Ny519.out] at ho48))
        have n0_ := Aside0.mk (Kd.S_elder' (by (with_reducible repeat (first | apply Kd.S_alloc | apply Kd.S_drewN | apply Kd.S_drew)); exact HO517.out) (Kd.R_base ho48) hb)
        have n1_ := Aside0.mk (Kd.R_lower ho48 (below_size (by repeat (first | (with_reducible first | exact HB.out | apply below_alloc | apply pw_below_drewN | apply below_drew1 | refine below_set ?_ GE509.out | refine below_set ?_ GE510.out | refine below_set ?_ GE518.out) | exact HB.out))))
        have n2_ := Aside0.mk (blk_below (g := gb509) (o := .cells #[.int .i64 a0_0, .slice A0_1 l0_1.length c0_1] 29 (0, 0)) (by (with_reducible repeat (first | refine blk_drewN ?_ _ | refine blk_drew ?_ | refine blk_alloc ?_ _)); exact BK509.out) hb)
        have n3_ := Aside0.mk (blk_below (g := gb510) (o := .cells #[.int .i64 0, .slice none 0 0] 29 (0, 0)) (by (with_reducible repeat (first | refine blk_drewN ?_ _ | refine blk_drew ?_ | refine blk_alloc ?_ _)); exact BK510.out) hb)
        have n4_ := Aside0.mk (blk_below (g := gb518) (o := .cells #[.int .i64 t514, .slice Ao44 t515.length co44] 29 (0, 0)) (by (with_reducible repeat (first | refine blk_drewN ?_ _ | refine blk_drew ?_ | refine blk_alloc ?_ _)); exact BK518.out) hb)
        have n5_ := Aside0.mk (below_step (by repeat (first | (with_reducible first | exact HB.out | apply below_alloc | apply pw_below_drewN | apply below_drew1 | refine below_set ?_ GE509.out | refine below_set ?_ GE510.out | refine below_set ?_ GE518.out) | exact HB.out)) hb)
        clear HO517
        clear BK509
        clear BK510
        clear BK518
        clear HB
        have HO517 := n0_
        have HO521 := n1_
        have BK509 := n2_
        have BK510 := n3_
        have BK518 := n4_
        have HB := n5_
        clear n0_ n1_ n2_ n3_ n4_ n5_
        clear hb ho48
        obtain ⟨Ao49, co49, eo49⟩ := Kd.R_slice HO521.out
        (first | subst eo49 | (injection eo49 with f1_ f2_ f3_; have f4_ := f1_.symm; have f5_ := f3_.symm; clear f1_ f2_ f3_; subst f4_; subst f5_))
        refine hK.out _ _ ⟨(blk_cell BK518.out 0).trans rfl, (blk_cell BK518.out 1).trans rfl, (blk_cell BK509.out 0).trans rfl, (blk_cell BK509.out 1).trans rfl⟩ (fun hHeld => ?_)
        clear hK K
        refine norm_ (a' := ?_) ?_ ?_
        rotate_left
        ·show Act.put _ (some 37) _ = _
         simp only [Act.put, List.setIfInBounds_toArray, List.set_cons_zero, List.set_cons_succ, i64_w, i32_w]
         rfl
        refine pure_ (i := 6) (N := some 38) (v := ?_) (a' := ?_) #[true, true, true, true, true, true, true, false, false, false, false] rfl rfl (any_of HT_.out (by kernel_rfl)) (fun _ _ _ h => h) (Or.inl ⟨by rfl, ?_⟩) ?_ ?_
        rotate_left
        ·intro w'
         go_simp
         with_reducible rfl
        rotate_left
        ·simp only [Act.put, List.setIfInBounds_toArray, List.set_cons_zero, List.set_cons_succ, i64_w, i32_w]; rfl
        refine one_ (i := 7) (N := some 39) #[true, true, true, true, true, true, true, true, false, false, false] rfl rfl (one_of HT_.out (by kernel_rfl)) (by decide) (fun K hK => ?_)
        refine value_ (w1 := ?_) (v := ?_) (by rfl) rfl ?_ ?_
        rotate_left 2
        ·go_simp
         constructor
         ·rfl
         ·rfl
        refine hK.out _ _ ⟨(blk_cell (blk_alloc BK518.out _) 0).trans rfl, (blk_cell (blk_alloc BK518.out _) 1).trans rfl, (blk_cell (blk_alloc BK509.out _) 0).trans rfl, (blk_cell (blk_alloc BK509.out _) 1).trans rfl⟩ (fun hHeld => ?_)
        clear hK K
        refine norm_ (a' := ?_) ?_ ?_
        rotate_left
        ·show Act.put _ (some 39) _ = _
         simp only [Act.put, List.setIfInBounds_toArray, List.set_cons_zero, List.set_cons_succ, i64_w, i32_w]
         rfl
        refine one_ (i := 8) (N := some 40) #[true, true, true, true, true, true, true, true, true, false, false] rfl rfl (one_of HT_.out (by kernel_rfl)) (by decide) (fun K hK => ?_)
        refine Kd.S_append_step k60 (w0 := w) w.heap.size (by rfl) (.tmp 33) (.tmp 39) 27 60 (.agg #[(.string ⟨#[]⟩), (.slice none 0 0)]) 40 rfl Try.underlying27 info60 rfl (by decide) (by omega) (.slice Ao44 t515.length co44) t515 (⟨a1, y519⟩ : S60) [.string a1, .slice Ao49 y519.length co49] (fun _ => True) (fun k_ => some k_ = (.slice Ao49 y519.length co49 : Value).ownBlock) rfl rfl ?aP (fun k_ hk_ => ((Kd.R_mono (ok' := fun k_ => ((fun _ => True)) k_ ∧ some k_ ≠ (.slice Ao44 t515.length co44 : Value).ownBlock) (Kd.R_apart' (HO521.out) (Kd.S_typed HO517.out) (by decide)) (fun k_ hk => ⟨trivial, hk.2⟩))).1 k_ hk_.symm) ?aF ?aO ?aB ?aS ?aL ?_
        (case aP => exact k60_mkM _ _ _ (⟨a1, y519⟩ : S60) (Kd.R_mono (Kd.R_tight rfl (Kd.R_mono (ok' := fun k_ => ((fun _ => True)) k_ ∧ some k_ ≠ (.slice Ao44 t515.length co44 : Value).ownBlock) (Kd.R_apart' (HO521.out) (Kd.S_typed HO517.out) (by decide)) (fun k_ hk => ⟨trivial, hk.2⟩))) (fun _ h_ => h_)))
        (case aB => exact (by repeat (first | (with_reducible first | exact HB.out | apply below_alloc | apply pw_below_drewN | apply below_drew1 | refine below_set ?_ GE509.out | refine below_set ?_ GE510.out | refine below_set ?_ GE518.out) | exact HB.out)))
        (case aF => exact (fun _ _ => trivial))
        (case aO => exact (by (with_reducible repeat (first | apply Kd.S_alloc | apply Kd.S_drewN | apply Kd.S_drew)); exact Kd.S_mono HO517.out (fun k_ hk => ⟨trivial, fun e_ => hk.2 e_⟩)))
        (case aS => exact (below_size (by repeat (first | (with_reducible first | exact HB.out | apply below_alloc | apply pw_below_drewN | apply below_drew1 | refine below_set ?_ GE509.out | refine below_set ?_ GE510.out | refine below_set ?_ GE518.out) | exact HB.out))))
        (case aL => have := LMc30.out; omega)
        intro v523 w50 ho hb hg hat
        rw [← Ny522.out] at ho
        have n0_ := Aside0.mk (blk_grown (g := gb509) (o := .cells #[.int .i64 a0_0, .slice A0_1 l0_1.length c0_1] 29 (0, 0)) (by (with_reducible repeat (first | refine blk_drewN ?_ _ | refine blk_drew ?_ | refine blk_alloc ?_ _)); exact BK509.out) hg (Kd.S_ne HO517.out BK509.out (by decide)))
        have n1_ := Aside0.mk (blk_grown (g := gb510) (o := .cells #[.int .i64 0, .slice none 0 0] 29 (0, 0)) (by (with_reducible repeat (first | refine blk_drewN ?_ _ | refine blk_drew ?_ | refine blk_alloc ?_ _)); exact BK510.out) hg (Kd.S_ne HO517.out BK510.out (by decide)))
        have n2_ := Aside0.mk (blk_grown (g := gb518) (o := .cells #[.int .i64 t514, .slice Ao44 t515.length co44] 29 (0, 0)) (by (with_reducible repeat (first | refine blk_drewN ?_ _ | refine blk_drew ?_ | refine blk_alloc ?_ _)); exact BK518.out) hg (Kd.S_ne HO517.out BK518.out (by decide)))
        have n3_ := Aside0.mk (hb)
        have n4_ := Aside0.mk (ho)
        clear BK509
        clear BK510
        clear BK518
        clear HB
        clear HO517
        clear HO521
        have BK509 := n0_
        have BK510 := n1_
        have BK518 := n2_
        have HB := n3_
        have HO524 := n4_
        clear n0_ n1_ n2_ n3_ n4_
        clear ho hb hg hat
        obtain ⟨Ao51, co51, eo51⟩ := Kd.S_slice HO524.out
        (first | subst eo51 | (injection eo51 with f1_ f2_ f3_; have f4_ := f1_.symm; have f5_ := f3_.symm; clear f1_ f2_ f3_; subst f4_; subst f5_))
        refine hK.out _ _ ⟨(blk_cell BK518.out 0).trans rfl, (blk_cell BK518.out 1).trans rfl, (blk_cell BK509.out 0).trans rfl, (blk_cell BK509.out 1).trans rfl⟩ (fun hHeld => ?_)
        clear hK K
        refine norm_ (a' := ?_) ?_ ?_
        rotate_left
        ·show Act.put _ (some 40) _ = _
         simp only [Act.put, List.setIfInBounds_toArray, List.set_cons_zero, List.set_cons_succ, i64_w, i32_w]
         rfl
        refine pure_ (i := 9) (N := some 41) (v := ?_) (a' := ?_) #[true, true, true, true, true, true, true, true, true, true, false] rfl rfl (any_of HT_.out (by kernel_rfl)) (fun _ _ _ h => h) (Or.inl ⟨by rfl, ?_⟩) ?_ ?_
        rotate_left
        ·intro w'
         go_simp
         with_reducible rfl
        rotate_left
        ·simp only [Act.put, List.setIfInBounds_toArray, List.set_cons_zero, List.set_cons_succ, i64_w, i32_w]; rfl
        refine last_ (i := 10) (N := none) #[true, true, true, true, true, true, true, true, true, true, true] rfl rfl (one_of HT_.out (by kernel_rfl)) (by decide) (fun K hK => ?_)
        have hs52 : w50.cell? ⟨gb518, 1, none⟩ = some (.slice Ao44 t515.length co44) := (blk_cell BK518.out 1).trans rfl
        have hfs52 := blk_frozen BK518.out 1
        have hns52_0 := NB509_518.out
        have hns52_1 := NB510_518.out
        have hms52_0 := NB518_509.out
        have hms52_1 := NB518_510.out
        refine skip_ (w1 := ?_) (by rfl) rfl ?_ ?_
        rotate_left
        ·go_simp
         rfl
        refine hK.out _ _ ?_
        clear hK K
        refine done_ (done_of HT_.out (by kernel_rfl)) ?_
        have hcz53_0 : w50.cell? ⟨gb518, 0, none⟩ = some (.int .i64 t514) := (blk_cell BK518.out 0).trans rfl
        have hcz53_1 : w50.cell? ⟨gb518, 1, none⟩ = some (.slice Ao44 t515.length co44) := (blk_cell BK518.out 1).trans rfl
        have hfz53_0 := blk_frozen BK518.out 0
        have hfz53_1 := blk_frozen BK518.out 1
        have hcz54_0 : w50.cell? ⟨gb510, 0, none⟩ = some (.int .i64 0) := (blk_cell BK510.out 0).trans rfl
        have hcz54_1 : w50.cell? ⟨gb510, 1, none⟩ = some (.slice none 0 0) := (blk_cell BK510.out 1).trans rfl
        have hfz54_0 := blk_frozen BK510.out 0
        have hfz54_1 := blk_frozen BK510.out 1
        try go_wp2
        refine bodyPost_ret (results_ct rfl _ _ gb510 29 #[.int .i64 t514, .slice Ao51 y522.length co51] (0, 0) _ rfl (by (with_reducible repeat (first | refine blk_drewN ?_ _ | refine blk_drew ?_ | refine blk_alloc ?_ _)); refine blk_put (cs := #[.int .i64 t514, .slice none 0 0]) ?_ 1 _ rfl; (with_reducible repeat (first | refine blk_drewN ?_ _ | refine blk_drew ?_ | refine blk_alloc ?_ _)); refine blk_put (cs := #[.int .i64 0, .slice none 0 0]) ?_ 0 _ rfl; (with_reducible repeat (first | refine blk_drewN ?_ _ | refine blk_drew ?_ | refine blk_alloc ?_ _)); refine blk_far ?_ NB510_518.out _; (with_reducible repeat (first | refine blk_drewN ?_ _ | refine blk_drew ?_ | refine blk_alloc ?_ _)); exact BK510.out) Try.underlying29 rfl (by kernel_rfl)) rfl ?_
        exact ⟨_, by first | rfl | (simp [errW_none, errW_some] <;> rfl) | (simp [*, errW_none, errW_some] <;> rfl), by (with_reducible repeat (first | apply Kd.S_alloc | apply Kd.S_drewN | apply Kd.S_drew)); exact Kd.S_mono (Kd.S_far (p := ⟨gb510, 1, none⟩) (Kd.S_far (p := ⟨gb510, 0, none⟩) (Kd.S_far (p := ⟨gb518, 1, none⟩) (Kd.S_types (Kd.S_types HO524.out BK518.out (by decide)) BK510.out (by decide)) (fun _ hk => hk.1.2) (.slice Ao51 y522.length co51)) (fun _ hk => hk.2) (.int .i64 t514)) (fun _ hk => hk.2) (.slice Ao51 y522.length co51)) (fun _ hk => trivial), by repeat (first | (with_reducible first | exact HB.out | apply below_alloc | apply pw_below_drewN | apply below_drew1 | refine below_set ?_ GE509.out | refine below_set ?_ GE510.out | refine below_set ?_ GE518.out) | exact HB.out)⟩
       ·rw [if_neg c30] at H
        exact absurd H (by simp)
      ·rw [if_neg c29] at H
       exact absurd H (by simp)
     ·rw [if_neg c28] at H
      exact absurd H (by simp)
  ·replace c6 := Bool.eq_false_iff.mpr c6
   subst c6
   have H1 : (some (0, ([] : List (S60)), 2)) = some (r1, r2, r3) := by rw [if_neg (show ¬ (false = true) by decide)] at H; exact H
   clear H
   have H := H1
   clear H1
   simp only [Option.some.injEq, Prod.mk.injEq] at H
   obtain ⟨rfl, rfl, rfl⟩ := H
   go_enter Try.func36, Try.ntmps36
   go_wp2_with (first | ((with_reducible refine gate_dst (N := 2) rfl ?_); refine box_event ?hg (N := 2) ?hd (cs := #[.int .i64 a0_0, .slice A0_1 l0_1.length c0_1]) (t := 29) ?hr ?_; (case hd => rfl); (case hg => rfl); (case hr => first | (go_simp; done) | (go_simp; rfl)); intro gb509 hg w55 hbox hb; have n0_ := Aside0.mk (below_step (by repeat (first | (with_reducible first | exact HB.out | apply below_alloc | apply pw_below_drewN | apply below_drew1) | exact HB.out)) hb); have n1_ := Aside0.mk (hbox); have n2_ := Aside0.mk ((by rw [hg]; exact (below_size (by repeat (first | (with_reducible first | exact HB.out | apply below_alloc | apply pw_below_drewN | apply below_drew1) | exact HB.out))) : w.heap.size ≤ gb509)); have n3_ := Aside0.mk ((by rw [hg]; exact (below_size (by repeat (first | (with_reducible first | exact HB.out | apply below_alloc | apply pw_below_drewN | apply below_drew1) | exact HB.out))) : w.heap.size ≤ gb509)); clear HB; have HB := n0_; have BK509 := n1_; have GW509 := n2_; have GE509 := n3_; clear n0_ n1_ n2_ n3_; clear hb hbox hg) | ((with_reducible refine gate_dst (N := 4) rfl ?_); refine box_event ?hg (N := 4) ?hd (cs := #[.int .i64 0, .slice none 0 0]) (t := 29) ?hr ?_; (case hd => rfl); (case hg => rfl); (case hr => first | (go_simp; done) | (go_simp; rfl)); intro gb510 hg w56 hbox hb; have n0_ := Aside0.mk (blk_below (g := gb509) (o := .cells #[.int .i64 a0_0, .slice A0_1 l0_1.length c0_1] 29 (0, 0)) (by (with_reducible repeat (first | refine blk_drewN ?_ _ | refine blk_drew ?_ | refine blk_alloc ?_ _)); exact BK509.out) hb); have n1_ := Aside0.mk (below_step (by repeat (first | (with_reducible first | exact HB.out | apply below_alloc | apply pw_below_drewN | apply below_drew1 | refine below_set ?_ GE509.out) | exact HB.out)) hb); have n2_ := Aside0.mk (hbox); have n3_ := Aside0.mk ((by rw [hg]; exact (below_size (by repeat (first | (with_reducible first | exact HB.out | apply below_alloc | apply pw_below_drewN | apply below_drew1 | refine below_set ?_ GE509.out) | exact HB.out))) : w.heap.size ≤ gb510)); have n4_ := Aside0.mk ((by rw [hg]; exact (below_size (by repeat (first | (with_reducible first | exact HB.out | apply below_alloc | apply pw_below_drewN | apply below_drew1 | refine below_set ?_ GE509.out) | exact HB.out))) : w.heap.size ≤ gb510)); have n5_ := Aside0.mk ((by rw [hg]; exact Nat.ne_of_lt (blk_lt (g := gb509) (o := .cells #[.int .i64 a0_0, .slice A0_1 l0_1.length c0_1] 29 (0, 0)) (by (with_reducible repeat (first | refine blk_drewN ?_ _ | refine blk_drew ?_ | refine blk_alloc ?_ _)); exact BK509.out)) : gb509 ≠ gb510)); have n6_ := Aside0.mk ((by rw [hg]; exact Nat.ne_of_gt (blk_lt (g := gb509) (o := .cells #[.int .i64 a0_0, .slice A0_1 l0_1.length c0_1] 29 (0, 0)) (by (with_reducible repeat (first | refine blk_drewN ?_ _ | refine blk_drew ?_ | refine blk_alloc ?_ _)); exact BK509.out)) : gb510 ≠ gb509)); clear BK509; clear HB; have BK509 := n0_; have HB := n1_; have BK510 := n2_; have GW510 := n3_; have GE510 := n4_; have NB509_510 := n5_; have NB510_509 := n6_; clear n0_ n1_ n2_ n3_ n4_ n5_ n6_; clear hb hbox hg; have hnb57 := NB509_510.out; have hnc57 := NB510_509.out; have hcz58_0 : w56.cell? ⟨gb509, 0, none⟩ = some (.int .i64 a0_0) := (blk_cell BK509.out 0).trans rfl; have hcz58_1 : w56.cell? ⟨gb509, 1, none⟩ = some (.slice A0_1 l0_1.length c0_1) := (blk_cell BK509.out 1).trans rfl; have hfz58_0 := blk_frozen BK509.out 0; have hfz58_1 := blk_frozen BK509.out 1) | ((with_reducible refine gate_callee (f := 20) rfl ?_); refine goesL_ (some 9) rfl rfl Try.func20 (by kernel_rfl) rfl #[.agg #[.int .i64 a0_0, .slice A0_1 l0_1.length c0_1]] rfl (by (try simp only [List.map_toArray, List.map_cons, List.map_nil]); first | done | rfl | (simp only [List.length_drop, List.length_take]; rfl)) ?_; (with_reducible refine (impl_ValidMeeting.calls k a0_0 _ _ l0_1 true _ ?side1 ?side2 A3.out).mono ?_); (case side1 => repeat (first | exact (Kd.C_below HR0_1.out HB.out) | (with_reducible refine Kd.C_alloc ?_ _) | (with_reducible refine Kd.C_drewN ?_ _) | (with_reducible refine Kd.C_drew ?_))); (case side2 => exact HC0_1.out); rintro e w59 ⟨rfl, hb⟩; refine ⟨_, rfl, ?_⟩; have n0_ := Aside0.mk (blk_below (g := gb509) (o := .cells #[.int .i64 a0_0, .slice A0_1 l0_1.length c0_1] 29 (0, 0)) (by (with_reducible repeat (first | refine blk_drewN ?_ _ | refine blk_drew ?_ | refine blk_alloc ?_ _)); exact BK509.out) hb); have n1_ := Aside0.mk (blk_below (g := gb510) (o := .cells #[.int .i64 0, .slice none 0 0] 29 (0, 0)) (by (with_reducible repeat (first | refine blk_drewN ?_ _ | refine blk_drew ?_ | refine blk_alloc ?_ _)); exact BK510.out) hb); have n2_ := Aside0.mk (below_step (by repeat (first | (with_reducible first | exact HB.out | apply below_alloc | apply pw_below_drewN | apply below_drew1 | refine below_set ?_ GE509.out | refine below_set ?_ GE510.out) | exact HB.out)) hb); clear BK509; clear BK510; clear HB; have BK509 := n0_; have BK510 := n1_; have HB := n2_; clear n0_ n1_ n2_; (try clear hb); (try clear hb2); (try clear hk); (try clear hi)) | ((with_reducible refine gate_callee (f := 53) rfl ?_); refine goesL_ (some 14) rfl rfl Try.func53 (by kernel_rfl) rfl #[.string a1] rfl (by (try simp only [List.map_toArray, List.map_cons, List.map_nil]); first | done | rfl | (simp only [List.length_drop, List.length_take]; rfl)) ?_; (with_reducible refine (impl_IsName.calls k a1 false _ A5.out).mono ?_); rintro e w' ⟨rfl, ⟨nd, rfl⟩⟩; refine ⟨_, rfl, ?_⟩; (try (rw [drewN_self w59]; generalize hq_ : World.drewN w59 _ = w59; have n0_ : Aside0 (w59.heap[gb509]? = some (.cells #[.int .i64 a0_0, .slice A0_1 l0_1.length c0_1] 29 (0, 0))) := ⟨by rw [← hq_]; exact (by (with_reducible repeat (first | refine blk_drewN ?_ _ | refine blk_drew ?_ | refine blk_alloc ?_ _)); exact BK509.out)⟩; have n1_ : Aside0 (w59.heap[gb510]? = some (.cells #[.int .i64 0, .slice none 0 0] 29 (0, 0))) := ⟨by rw [← hq_]; exact (by (with_reducible repeat (first | refine blk_drewN ?_ _ | refine blk_drew ?_ | refine blk_alloc ?_ _)); exact BK510.out)⟩; have n2_ : Aside0 (Below w.heap.size w w59) := ⟨by rw [← hq_]; exact (by repeat (first | (with_reducible first | exact HB.out | apply below_alloc | apply pw_below_drewN | apply below_drew1 | refine below_set ?_ GE509.out | refine below_set ?_ GE510.out) | exact HB.out))⟩; clear BK509 BK510 HB hq_; have BK509 := n0_; have BK510 := n1_; have HB := n2_; clear n0_ n1_ n2_)); have hcz60_0 : w59.cell? ⟨gb510, 0, none⟩ = some (.int .i64 0) := (blk_cell BK510.out 0).trans rfl; have hcz60_1 : w59.cell? ⟨gb510, 1, none⟩ = some (.slice none 0 0) := (blk_cell BK510.out 1).trans rfl; have hfz60_0 := blk_frozen BK510.out 0; have hfz60_1 := blk_frozen BK510.out 1))
   refine bodyPost_ret (results_ct rfl _ _ gb510 29 #[.int .i64 0, .slice none 0 0] (0, 0) _ rfl (by (with_reducible repeat (first | refine blk_drewN ?_ _ | refine blk_drew ?_ | refine blk_alloc ?_ _)); refine blk_put (cs := #[.int .i64 0, .slice none 0 0]) ?_ 1 _ rfl; (with_reducible repeat (first | refine blk_drewN ?_ _ | refine blk_drew ?_ | refine blk_alloc ?_ _)); refine blk_put (cs := #[.int .i64 0, .slice none 0 0]) ?_ 0 _ rfl; (with_reducible repeat (first | refine blk_drewN ?_ _ | refine blk_drew ?_ | refine blk_alloc ?_ _)); exact BK510.out) Try.underlying29 rfl (by kernel_rfl)) rfl ?_
   exact ⟨_, by first | rfl | (simp [errW_none, errW_some] <;> rfl) | (simp [*, errW_none, errW_some] <;> rfl), by first | exact Kd.S_nil _ _ _ _ _ | exact Kd.N_nil _ _ _ _ _ | exact Kd.V_nil _ _ _ _ _ | exact Kd.Q_nil _ _ _ _ _ | exact Kd.R_nil _ _ _ _ _, by repeat (first | (with_reducible first | exact HB.out | apply below_alloc | apply pw_below_drewN | apply below_drew1 | refine below_set ?_ GE509.out | refine below_set ?_ GE510.out) | exact HB.out)⟩
 ·replace c4 := Bool.eq_false_iff.mpr c4
  subst c4
  have H1 : (some (0, ([] : List (S60)), 1)) = some (r1, r2, r3) := by rw [if_neg (show ¬ (false = true) by decide)] at H; exact H
  clear H
  have H := H1
  clear H1
  simp only [Option.some.injEq, Prod.mk.injEq] at H
  obtain ⟨rfl, rfl, rfl⟩ := H
  go_enter Try.func36, Try.ntmps36
  go_wp2_with (first | ((with_reducible refine gate_dst (N := 2) rfl ?_); refine box_event ?hg (N := 2) ?hd (cs := #[.int .i64 a0_0, .slice A0_1 l0_1.length c0_1]) (t := 29) ?hr ?_; (case hd => rfl); (case hg => rfl); (case hr => first | (go_simp; done) | (go_simp; rfl)); intro gb509 hg w61 hbox hb; have n0_ := Aside0.mk (below_step (by repeat (first | (with_reducible first | exact HB.out | apply below_alloc | apply pw_below_drewN | apply below_drew1) | exact HB.out)) hb); have n1_ := Aside0.mk (hbox); have n2_ := Aside0.mk ((by rw [hg]; exact (below_size (by repeat (first | (with_reducible first | exact HB.out | apply below_alloc | apply pw_below_drewN | apply below_drew1) | exact HB.out))) : w.heap.size ≤ gb509)); have n3_ := Aside0.mk ((by rw [hg]; exact (below_size (by repeat (first | (with_reducible first | exact HB.out | apply below_alloc | apply pw_below_drewN | apply below_drew1) | exact HB.out))) : w.heap.size ≤ gb509)); clear HB; have HB := n0_; have BK509 := n1_; have GW509 := n2_; have GE509 := n3_; clear n0_ n1_ n2_ n3_; clear hb hbox hg) | ((with_reducible refine gate_dst (N := 4) rfl ?_); refine box_event ?hg (N := 4) ?hd (cs := #[.int .i64 0, .slice none 0 0]) (t := 29) ?hr ?_; (case hd => rfl); (case hg => rfl); (case hr => first | (go_simp; done) | (go_simp; rfl)); intro gb510 hg w62 hbox hb; have n0_ := Aside0.mk (blk_below (g := gb509) (o := .cells #[.int .i64 a0_0, .slice A0_1 l0_1.length c0_1] 29 (0, 0)) (by (with_reducible repeat (first | refine blk_drewN ?_ _ | refine blk_drew ?_ | refine blk_alloc ?_ _)); exact BK509.out) hb); have n1_ := Aside0.mk (below_step (by repeat (first | (with_reducible first | exact HB.out | apply below_alloc | apply pw_below_drewN | apply below_drew1 | refine below_set ?_ GE509.out) | exact HB.out)) hb); have n2_ := Aside0.mk (hbox); have n3_ := Aside0.mk ((by rw [hg]; exact (below_size (by repeat (first | (with_reducible first | exact HB.out | apply below_alloc | apply pw_below_drewN | apply below_drew1 | refine below_set ?_ GE509.out) | exact HB.out))) : w.heap.size ≤ gb510)); have n4_ := Aside0.mk ((by rw [hg]; exact (below_size (by repeat (first | (with_reducible first | exact HB.out | apply below_alloc | apply pw_below_drewN | apply below_drew1 | refine below_set ?_ GE509.out) | exact HB.out))) : w.heap.size ≤ gb510)); have n5_ := Aside0.mk ((by rw [hg]; exact Nat.ne_of_lt (blk_lt (g := gb509) (o := .cells #[.int .i64 a0_0, .slice A0_1 l0_1.length c0_1] 29 (0, 0)) (by (with_reducible repeat (first | refine blk_drewN ?_ _ | refine blk_drew ?_ | refine blk_alloc ?_ _)); exact BK509.out)) : gb509 ≠ gb510)); have n6_ := Aside0.mk ((by rw [hg]; exact Nat.ne_of_gt (blk_lt (g := gb509) (o := .cells #[.int .i64 a0_0, .slice A0_1 l0_1.length c0_1] 29 (0, 0)) (by (with_reducible repeat (first | refine blk_drewN ?_ _ | refine blk_drew ?_ | refine blk_alloc ?_ _)); exact BK509.out)) : gb510 ≠ gb509)); clear BK509; clear HB; have BK509 := n0_; have HB := n1_; have BK510 := n2_; have GW510 := n3_; have GE510 := n4_; have NB509_510 := n5_; have NB510_509 := n6_; clear n0_ n1_ n2_ n3_ n4_ n5_ n6_; clear hb hbox hg; have hnb63 := NB509_510.out; have hnc63 := NB510_509.out; have hcz64_0 : w62.cell? ⟨gb509, 0, none⟩ = some (.int .i64 a0_0) := (blk_cell BK509.out 0).trans rfl; have hcz64_1 : w62.cell? ⟨gb509, 1, none⟩ = some (.slice A0_1 l0_1.length c0_1) := (blk_cell BK509.out 1).trans rfl; have hfz64_0 := blk_frozen BK509.out 0; have hfz64_1 := blk_frozen BK509.out 1) | ((with_reducible refine gate_callee (f := 20) rfl ?_); refine goesL_ (some 9) rfl rfl Try.func20 (by kernel_rfl) rfl #[.agg #[.int .i64 a0_0, .slice A0_1 l0_1.length c0_1]] rfl (by (try simp only [List.map_toArray, List.map_cons, List.map_nil]); first | done | rfl | (simp only [List.length_drop, List.length_take]; rfl)) ?_; (with_reducible refine (impl_ValidMeeting.calls k a0_0 _ _ l0_1 false _ ?side1 ?side2 A3.out).mono ?_); (case side1 => repeat (first | exact (Kd.C_below HR0_1.out HB.out) | (with_reducible refine Kd.C_alloc ?_ _) | (with_reducible refine Kd.C_drewN ?_ _) | (with_reducible refine Kd.C_drew ?_))); (case side2 => exact HC0_1.out); rintro e w65 ⟨rfl, hb⟩; refine ⟨_, rfl, ?_⟩; have n0_ := Aside0.mk (blk_below (g := gb509) (o := .cells #[.int .i64 a0_0, .slice A0_1 l0_1.length c0_1] 29 (0, 0)) (by (with_reducible repeat (first | refine blk_drewN ?_ _ | refine blk_drew ?_ | refine blk_alloc ?_ _)); exact BK509.out) hb); have n1_ := Aside0.mk (blk_below (g := gb510) (o := .cells #[.int .i64 0, .slice none 0 0] 29 (0, 0)) (by (with_reducible repeat (first | refine blk_drewN ?_ _ | refine blk_drew ?_ | refine blk_alloc ?_ _)); exact BK510.out) hb); have n2_ := Aside0.mk (below_step (by repeat (first | (with_reducible first | exact HB.out | apply below_alloc | apply pw_below_drewN | apply below_drew1 | refine below_set ?_ GE509.out | refine below_set ?_ GE510.out) | exact HB.out)) hb); clear BK509; clear BK510; clear HB; have BK509 := n0_; have BK510 := n1_; have HB := n2_; clear n0_ n1_ n2_; (try clear hb); (try clear hb2); (try clear hk); (try clear hi); have hcz66_0 : w65.cell? ⟨gb510, 0, none⟩ = some (.int .i64 0) := (blk_cell BK510.out 0).trans rfl; have hcz66_1 : w65.cell? ⟨gb510, 1, none⟩ = some (.slice none 0 0) := (blk_cell BK510.out 1).trans rfl; have hfz66_0 := blk_frozen BK510.out 0; have hfz66_1 := blk_frozen BK510.out 1))
  refine bodyPost_ret (results_ct rfl _ _ gb510 29 #[.int .i64 0, .slice none 0 0] (0, 0) _ rfl (by (with_reducible repeat (first | refine blk_drewN ?_ _ | refine blk_drew ?_ | refine blk_alloc ?_ _)); refine blk_put (cs := #[.int .i64 0, .slice none 0 0]) ?_ 1 _ rfl; (with_reducible repeat (first | refine blk_drewN ?_ _ | refine blk_drew ?_ | refine blk_alloc ?_ _)); refine blk_put (cs := #[.int .i64 0, .slice none 0 0]) ?_ 0 _ rfl; (with_reducible repeat (first | refine blk_drewN ?_ _ | refine blk_drew ?_ | refine blk_alloc ?_ _)); exact BK510.out) Try.underlying29 rfl (by kernel_rfl)) rfl ?_
  exact ⟨_, by first | rfl | (simp [errW_none, errW_some] <;> rfl) | (simp [*, errW_none, errW_some] <;> rfl), by first | exact Kd.S_nil _ _ _ _ _ | exact Kd.N_nil _ _ _ _ _ | exact Kd.V_nil _ _ _ _ _ | exact Kd.Q_nil _ _ _ _ _ | exact Kd.R_nil _ _ _ _ _, by repeat (first | (with_reducible first | exact HB.out | apply below_alloc | apply pw_below_drewN | apply below_drew1 | refine below_set ?_ GE509.out | refine below_set ?_ GE510.out) | exact HB.out)⟩

end Go.Proofs.Ytfgfkmjpeffjbaa.X

/-! ## XLawsHeldInt64S -/
namespace Go.Proofs.Ytfgfkmjpeffjbaa.X
open Go.RowKit Go.Proofs.Ytfgfkmjpeffjbaa.XV Go.Proofs.YtfgfkmjpeffjbaaW.PrintWords Go.Proofs.YtfgfkmjpeffjbaaW.PrintLast Go.Proofs.YtfgfkmjpeffjbaaW.PrintMore
attribute [local go_sem] max2_int min2_int max_two min_two max_three min_three max_four min_four

/-! ### laws_heldInt64S: function 28 -/
def laws_heldInt64S.l0 : Nat → List Int → Int → Int → Option (Int)
 | 0, _, _, _ => none
 | k + 1, x0, x1, x5 => if x5 < (x0.length : Int) then (if 0 ≤ x5 then (if (rd x0 x5) = x1 then (laws_heldInt64S.l0 k x0 (wrap64 (x1 + 1)) (wrap64 (x5 + 1))) else (some (-1))) else (none)) else (some x1)
def laws_heldInt64S.f (k : Nat) (l0 : List Int) (a1 : Int) : Option (Int) := laws_heldInt64S.l0 k l0 a1 0
theorem laws_heldInt64S.mono_l : ∀ k, (∀ y0 y1 y2, LeO (laws_heldInt64S.l0 k y0 y1 y2) (laws_heldInt64S.l0 (k + 1) y0 y1 y2))
 | 0 => fun _ _ _ r h => by simp [laws_heldInt64S.l0] at h
 | k + 1 => by
  have ih0 := laws_heldInt64S.mono_l k
  ·intro y0 y1 y2
   unfold laws_heldInt64S.l0
   repeat' first
   | (with_reducible exact ih0 _ _ _)
   | (with_reducible exact LeO.refl _)
   | (with_reducible exact LeO.none _)
   | (with_reducible refine LeO.ite ?_ ?_)
   | (with_reducible refine LeO.bind ?_ (fun _ => ?_))
   | exact ih0 _ _ _
   | exact LeO.none _
   | refine LeO.ite ?_ ?_
   | refine LeO.bind ?_ (fun _ => ?_)
theorem laws_heldInt64S.mono : ∀ a0 a1 k, LeO (laws_heldInt64S.f k a0 a1) (laws_heldInt64S.f (k + 1) a0 a1) := by
 intro a0 a1 k
 have ih0 := laws_heldInt64S.mono_l k
 unfold laws_heldInt64S.f
 repeat' first
   | (with_reducible exact ih0 _ _ _)
   | (with_reducible exact LeO.refl _)
   | (with_reducible exact LeO.none _)
   | (with_reducible refine LeO.ite ?_ ?_)
   | (with_reducible refine LeO.bind ?_ (fun _ => ?_))
   | exact ih0 _ _ _
   | exact LeO.none _
   | refine LeO.ite ?_ ?_
   | refine LeO.bind ?_ (fun _ => ?_)
set_option maxHeartbeats 8000000 in
set_option maxRecDepth 100000 in
theorem laws_heldInt64S.calls (k : Nat) (A0 : Option Addr) (c0 : Nat) (l0 : List Int) (a1 : Int) (r : Int) (w : World) (hr0 : Kd.C (Kd.int .i64) w A0 l0.length l0) (hc0 : l0.length ≤ c0) (h : laws_heldInt64S.f k l0 a1 = some r) :
  Calls Try.prog 28 #[.slice A0 l0.length c0, .int .i64 a1] w fun e w' => e = .returned (.int .i64 r) ∧ Drawn0 w w' := by
 have HR0 := Aside0.mk hr0
 have HC0 := Aside0.mk hc0
 clear hr0 hc0
 have H : (laws_heldInt64S.l0 k l0 a1 0) = some r := h
 clear h
 have H' := Aside0.mk H
 clear H
 go_enter Try.func28, Try.ntmps28
 go_wp2
 go_loopg [1, 5] k (fun kq v1 v5 w' => ∃ (x1_1 : Int) (x5_1 : Int), v1 = .int .i64 x1_1 ∧ v5 = .int .i64 x5_1 ∧ Aside0 (laws_heldInt64S.l0 kq l0 x1_1 x5_1 = some r) ∧ Aside0 (kq ≤ k) ∧ Drawn0 w w')
 case atStart => exact ⟨(a1), (0), (by first | rfl | (simp; done) | (simp [*]; done)), (by first | rfl | (simp; done) | (simp [*]; done)), H', ⟨Nat.le_refl _⟩, by repeat (first | exact Drawn0.refl _ | apply Drawn0.step)⟩
 case round =>
  clear H'
  try clear c2
  try clear p2
  obtain ⟨x1_1, x5_1, rfl, rfl, HA, HK1, ⟨m1, rfl⟩⟩ := hrel
  cases gk with
  | zero => exact absurd HA.out (by simp [laws_heldInt64S.l0])
  | succ k1 =>
   have H := HA.out
   clear HA
   simp only [laws_heldInt64S.l0] at H
   by_cases c3 : x5_1 < (l0.length : Int)
   ·rw [if_pos c3] at H
    have c3b0 : decide (x5_1 < (l0.length : Int)) = true := decide_eq_true c3
    clear c3
    by_cases c4 : 0 ≤ x5_1
    ·rw [if_pos c4] at H
     have c4b0 : decide (0 ≤ x5_1) = true := decide_eq_true c4
     clear c4
     by_cases c5 : (rd l0 x5_1) = x1_1
     ·rw [if_pos c5] at H
      have c5b0 : ((rd l0 x5_1) == x1_1) = true := beq_iff_eq.mpr c5
      have c5b1 : ((rd l0 x5_1) != x1_1) = false := bne_eq_false_iff_eq.mpr c5
      clear c5
      have H' := Aside0.mk H
      clear H
      have p210 : 0 ≤ (x5_1 : Int) := of_decide_eq_true (by first | (with_reducible assumption) | assumption)
      have q210 : x5_1 < (l0.length : Int) := of_decide_eq_true (by first | (with_reducible assumption) | assumption)
      obtain ⟨ad210, e210, hx210_0⟩ := Kd.at_int HR0.out x5_1 p210 q210
      cases e210
      replace p210 := eq_true p210
      replace q210 := eq_true q210
      go_wp2
      go_roundg k1
      case measure => have := HK1.out; omega
      case rel => exact ⟨(wrap64 (x1_1 + 1)), (wrap64 (x5_1 + 1)), (by first | rfl | (simp; done) | (simp [*]; done)), (by first | rfl | (simp; done) | (simp [*]; done)), H', ⟨by have := HK1.out; omega⟩, by repeat (first | exact Drawn0.refl _ | apply Drawn0.step)⟩
     ·rw [if_neg c5] at H
      have c5b0 : ((rd l0 x5_1) == x1_1) = false := beq_eq_false_iff_ne.mpr c5
      have c5b1 : ((rd l0 x5_1) != x1_1) = true := bne_iff_ne.mpr c5
      obtain rfl := Option.some.inj H
      have p210 : 0 ≤ (x5_1 : Int) := of_decide_eq_true (by first | (with_reducible assumption) | assumption)
      have q210 : x5_1 < (l0.length : Int) := of_decide_eq_true (by first | (with_reducible assumption) | assumption)
      obtain ⟨ad210, e210, hx210_0⟩ := Kd.at_int HR0.out x5_1 p210 q210
      cases e210
      replace p210 := eq_true p210
      replace q210 := eq_true q210
      go_wp2
      go_ret
      exact ⟨by first | rfl | (simp; done) | (simp [*]; done), by repeat (first | exact Drawn0.refl _ | apply Drawn0.step)⟩
    ·rw [if_neg c4] at H
     exact absurd H (by simp)
   ·rw [if_neg c3] at H
    have c3b0 : decide (x5_1 < (l0.length : Int)) = false := decide_eq_false c3
    clear c3
    obtain rfl := Option.some.inj H
    go_wp2
    go_ret
    exact ⟨by first | rfl | (simp; done) | (simp [*]; done), by repeat (first | exact Drawn0.refl _ | apply Drawn0.step)⟩

end Go.Proofs.Ytfgfkmjpeffjbaa.X

/-! ## XLawsHeldMotionS -/
namespace Go.Proofs.Ytfgfkmjpeffjbaa.X
open Go.RowKit Go.Proofs.Ytfgfkmjpeffjbaa.XV Go.Proofs.YtfgfkmjpeffjbaaW.PrintWords Go.Proofs.YtfgfkmjpeffjbaaW.PrintLast Go.Proofs.YtfgfkmjpeffjbaaW.PrintMore
attribute [local go_sem] max2_int min2_int max_two min_two max_three min_three max_four min_four

/-! ### laws_heldMotionS: function 72 -/
def laws_heldMotionS.l0 : Nat → List (S60) → Int → Int → Option (Int)
 | 0, _, _, _ => none
 | k + 1, x0, x1, x5 => if x5 < (x0.length : Int) then (if 0 ≤ x5 then ((laws_markText.f k x1).bind fun t526 => (if ((rd_T60 x0 x5).f0).toList = t526.toList then ((laws_heldInt64S.f k ((rd_T60 x0 x5).f1) (wrap64 (x1 + 1))).bind fun t528 => (if t528 < 0 then (some (-1)) else (laws_heldMotionS.l0 k x0 t528 (wrap64 (x5 + 1))))) else (some (-1)))) else (none)) else (some x1)
def laws_heldMotionS.f (k : Nat) (l0 : List (S60)) (a1 : Int) : Option (Int) := laws_heldMotionS.l0 k l0 a1 0
theorem laws_heldMotionS.mono_l : ∀ k, (∀ y0 y1 y2, LeO (laws_heldMotionS.l0 k y0 y1 y2) (laws_heldMotionS.l0 (k + 1) y0 y1 y2))
 | 0 => fun _ _ _ r h => by simp [laws_heldMotionS.l0] at h
 | k + 1 => by
  have ih0 := laws_heldMotionS.mono_l k
  ·intro y0 y1 y2
   unfold laws_heldMotionS.l0
   repeat' first
   | (with_reducible exact ih0 _ _ _)
   | (with_reducible exact laws_heldInt64S.mono _ _ _)
   | (with_reducible exact laws_markText.mono _ _)
   | (with_reducible exact LeO.refl _)
   | (with_reducible exact LeO.none _)
   | (with_reducible refine LeO.ite ?_ ?_)
   | (with_reducible refine LeO.bind ?_ (fun _ => ?_))
   | exact ih0 _ _ _
   | exact laws_heldInt64S.mono _ _ _
   | exact laws_markText.mono _ _
   | exact LeO.none _
   | refine LeO.ite ?_ ?_
   | refine LeO.bind ?_ (fun _ => ?_)
theorem laws_heldMotionS.mono : ∀ a0 a1 k, LeO (laws_heldMotionS.f k a0 a1) (laws_heldMotionS.f (k + 1) a0 a1) := by
 intro a0 a1 k
 have ih0 := laws_heldMotionS.mono_l k
 unfold laws_heldMotionS.f
 repeat' first
   | (with_reducible exact ih0 _ _ _)
   | (with_reducible exact laws_heldInt64S.mono _ _ _)
   | (with_reducible exact laws_markText.mono _ _)
   | (with_reducible exact LeO.refl _)
   | (with_reducible exact LeO.none _)
   | (with_reducible refine LeO.ite ?_ ?_)
   | (with_reducible refine LeO.bind ?_ (fun _ => ?_))
   | exact ih0 _ _ _
   | exact laws_heldInt64S.mono _ _ _
   | exact laws_markText.mono _ _
   | exact LeO.none _
   | refine LeO.ite ?_ ?_
   | refine LeO.bind ?_ (fun _ => ?_)
def laws_heldMotionS.T4 : Bool × List (List Nat × List Nat) := (true, [([], []), ([], []), ([0, 1], [0, 1]), ([2], [2]), ([3], [3]), ([], []), ([5], [5]), ([4, 6], [4, 6])])
def laws_heldMotionS.B4 : List Nat := [0, 0, 3, 7, 15, 0, 32, 127]
theorem laws_heldMotionS.tab4 : rtab .any (opsOf Try.f72 4) = laws_heldMotionS.T4 := by kernel_rfl
theorem laws_heldMotionS.bits4 : waitsOk laws_heldMotionS.T4.2 laws_heldMotionS.B4 = true := by kernel_rfl
set_option maxHeartbeats 8000000 in
set_option maxRecDepth 100000 in
theorem laws_heldMotionS.calls (k : Nat) (A0 : Option Addr) (c0 : Nat) (l0 : List (S60)) (a1 : Int) (r : Int) (w : World) (hr0 : Kd.C k60 w A0 l0.length l0) (hc0 : l0.length ≤ c0) (h : laws_heldMotionS.f k l0 a1 = some r) :
  Calls Try.prog 72 #[.slice A0 l0.length c0, .int .i64 a1] w fun e w' => e = .returned (.int .i64 r) ∧ Below w.heap.size w w' := by
 have HR0 := Aside0.mk hr0
 have HC0 := Aside0.mk hc0
 clear hr0 hc0
 have HB := Aside0.mk (Below.refl w.heap.size w)
 have H : (laws_heldMotionS.l0 k l0 a1 0) = some r := h
 clear h
 have H' := Aside0.mk H
 clear H
 go_enter Try.func72, Try.ntmps72
 go_wp2
 go_loopg [1, 5] k (fun kq v1 v5 w' => ∃ (x1_1 : Int) (x5_1 : Int), v1 = .int .i64 x1_1 ∧ v5 = .int .i64 x5_1 ∧ Aside0 (laws_heldMotionS.l0 kq l0 x1_1 x5_1 = some r) ∧ Aside0 (kq ≤ k) ∧ Aside0 (Below w.heap.size w w'))
 case atStart => exact ⟨(a1), (0), (by first | rfl | (simp; done) | (simp [*]; done)), (by first | rfl | (simp; done) | (simp [*]; done)), H', ⟨Nat.le_refl _⟩, ⟨by repeat (first | (with_reducible first | exact HB.out | apply below_alloc | apply pw_below_drewN | apply below_drew1) | exact HB.out)⟩⟩
 case round =>
  clear H'
  try clear p2
  obtain ⟨x1_1, x5_1, rfl, rfl, HA, HK1, HB⟩ := hrel
  cases gk with
  | zero => exact absurd HA.out (by simp [laws_heldMotionS.l0])
  | succ k1 =>
   have H := HA.out
   clear HA
   simp only [laws_heldMotionS.l0] at H
   by_cases c3 : x5_1 < (l0.length : Int)
   ·rw [if_pos c3] at H
    have c3b0 : decide (x5_1 < (l0.length : Int)) = true := decide_eq_true c3
    clear c3
    by_cases c4 : 0 ≤ x5_1
    ·rw [if_pos c4] at H
     have c4b0 : decide (0 ≤ x5_1) = true := decide_eq_true c4
     clear c4
     replace H := Option.bind_eq_some_iff.mp H
     obtain ⟨t526, A50, H⟩ := H
     replace H : (if ((rd_T60 l0 x5_1).f0).toList = t526.toList then ((laws_heldInt64S.f k1 ((rd_T60 l0 x5_1).f1) (wrap64 (x1_1 + 1))).bind fun t528 => (if t528 < 0 then (some (-1)) else (laws_heldMotionS.l0 k1 l0 t528 (wrap64 (x5_1 + 1))))) else (some (-1))) = some r := H
     have A5 := Aside0.mk A50
     clear A50
     by_cases c6 : ((rd_T60 l0 x5_1).f0).toList = t526.toList
     ·rw [if_pos c6] at H
      have c6b0 : (((rd_T60 l0 x5_1).f0).toList == t526.toList) = true := beq_iff_eq.mpr c6
      have c6b1 : (((rd_T60 l0 x5_1).f0).toList != t526.toList) = false := bne_eq_false_iff_eq.mpr c6
      clear c6
      replace H := Option.bind_eq_some_iff.mp H
      obtain ⟨t528, A70, H⟩ := H
      replace H : (if t528 < 0 then (some (-1)) else (laws_heldMotionS.l0 k1 l0 t528 (wrap64 (x5_1 + 1)))) = some r := H
      have A7 := Aside0.mk A70
      clear A70
      by_cases c8 : t528 < 0
      ·rw [if_pos c8] at H
       have c8b0 : decide (t528 < 0) = true := decide_eq_true c8
       clear c8
       obtain rfl := Option.some.inj H
       try go_wp2
       have n0_ := Aside0.mk (below_drew1 HB.out)
       clear HB
       have HB := n0_
       clear n0_
       have p525 : 0 ≤ (x5_1 : Int) := of_decide_eq_true (by first | (with_reducible assumption) | assumption)
       have q525 : x5_1 < (l0.length : Int) := of_decide_eq_true (by first | (with_reducible assumption) | assumption)
       obtain ⟨ad525, A525_1, c525_1, e525, hx525_0, hx525_1, hl525_1, hi525_1⟩ := at_T60 HR0.out x5_1 p525 q525
       have hw525_1 := hx525_1
       have hw525_0 := hx525_0
       cases e525
       replace hx525_0 := (HB.out.cell (World.block_lt_of_cell? w _ hx525_0)).trans hx525_0
       replace hx525_1 := (HB.out.cell (World.block_lt_of_cell? w _ hx525_1)).trans hx525_1
       have HR525_1 := Aside0.mk hi525_1
       have HC525_1 := Aside0.mk hl525_1
       clear hi525_1 hl525_1
       replace p525 := eq_true p525
       replace q525 := eq_true q525
       refine start_ (n := 8) (S := fun w' => w'.cell? (ad525.add ((x5_1).toNat * 2)) = some (.string ((rd_T60 l0 x5_1).f0)) ∧ w'.cell? ⟨(ad525.add ((x5_1).toNat * 2)).block, (ad525.add ((x5_1).toNat * 2)).off + 1, none⟩ = some (.slice A525_1 ((rd_T60 l0 x5_1).f1).length c525_1)) (ds := []) #[false, false, false, false, false, false, false, false] (by kernel_rfl) rfl rfl ⟨((HB.out.cell (World.block_lt_of_cell? w _ hw525_0)).trans hw525_0), ((HB.out.cell (World.block_lt_of_cell? w _ hw525_1)).trans hw525_1)⟩ (fun hHeld => ?_); refine with_tabW laws_heldMotionS.tab4 laws_heldMotionS.bits4 (fun HT_ HW_ => ?_)
       generalize wr.drew = w9 at HB HR525_1 hx525_0 hx525_1 hHeld ⊢
       refine pure_ (i := 0) (N := some 12) (v := ?_) (a' := ?_) #[true, false, false, false, false, false, false, false] rfl rfl (any_of HT_.out (by kernel_rfl)) (fun _ _ _ h => h) (Or.inl ⟨by rfl, ?_⟩) ?_ ?_
       rotate_left
       ·intro w'
        go_simp
        with_reducible rfl
       rotate_left
       ·simp only [Act.put, List.setIfInBounds_toArray, List.set_cons_zero, List.set_cons_succ, i64_w, i32_w]; rfl
       refine pure_ (i := 1) (N := some 13) (v := ?_) (a' := ?_) #[true, true, false, false, false, false, false, false] rfl rfl (any_of HT_.out (by kernel_rfl)) (fun _ _ _ h => h) (Or.inl ⟨by rfl, ?_⟩) ?_ ?_
       rotate_left
       ·intro w'
        go_simp
        with_reducible rfl
       rotate_left
       ·simp only [Act.put, List.setIfInBounds_toArray, List.set_cons_zero, List.set_cons_succ, i64_w, i32_w]; rfl
       refine pure_ (i := 2) (N := some 14) (v := ?_) (a' := ?_) #[true, true, true, false, false, false, false, false] rfl rfl (any_of HT_.out (by kernel_rfl)) (fun _ _ _ h => h) (Or.inl ⟨by rfl, ?_⟩) ?_ ?_
       rotate_left
       ·intro w'
        go_simp
        with_reducible rfl
       rotate_left
       ·simp only [Act.put, List.setIfInBounds_toArray, List.set_cons_zero, List.set_cons_succ, i64_w, i32_w]; rfl
       refine pure_ (i := 3) (N := some 15) (v := ?_) (a' := ?_) #[true, true, true, true, false, false, false, false] rfl rfl (any_of HT_.out (by kernel_rfl)) (fun _ _ _ h => h) (Or.inl ⟨by rfl, ?_⟩) ?_ ?_
       rotate_left
       ·intro w'
        go_simp
        with_reducible rfl
       rotate_left
       ·simp only [Act.put, List.setIfInBounds_toArray, List.set_cons_zero, List.set_cons_succ, i64_w, i32_w]; rfl
       refine pure_ (i := 5) (N := some 17) (v := ?_) (a' := ?_) #[true, true, true, true, false, true, false, false] rfl rfl (any_of HT_.out (by kernel_rfl)) (fun _ _ _ h => h) (Or.inl ⟨by rfl, ?_⟩) ?_ ?_
       rotate_left
       ·intro w'
        go_simp
        with_reducible rfl
       rotate_left
       ·simp only [Act.put, List.setIfInBounds_toArray, List.set_cons_zero, List.set_cons_succ, i64_w, i32_w]; rfl
       refine take_ (i := 4) (N := some 16) (v := ?_) (a' := ?_) #[true, true, true, true, true, true, false, false] rfl rfl (take_ofW HT_.out HW_.out (by kernel_rfl)) (fun _ _ _ h => h) (Or.inl ⟨by rfl, ?_⟩) hHeld ?_ ?_
       rotate_left
       ·rintro w' ⟨s0, s1⟩
        go_simp
        with_reducible rfl
       rotate_left
       ·simp only [Act.put, List.setIfInBounds_toArray, List.set_cons_zero, List.set_cons_succ, i64_w, i32_w]; rfl
       refine one_ (i := 6) (N := some 18) #[true, true, true, true, true, true, true, false] rfl rfl (one_of HT_.out (by kernel_rfl)) (by decide) (fun K hK => ?_)
       refine goes_ Try.func75 (by kernel_rfl) rfl #[.int .i64 x1_1] (by rfl) rfl rfl (by (try simp only [List.map_toArray, List.map_cons, List.map_nil]); first | done | rfl | (simp only [List.length_drop, List.length_take]; rfl)) ?_
       with_reducible refine (laws_markText.calls k1 x1_1 t526 _ A5.out).mono ?_
       rintro e w10 ⟨rfl, hb⟩
       refine ⟨_, rfl, ?_⟩
       have n0_ := Aside0.mk (below_step (by repeat (first | (with_reducible first | exact HB.out | apply below_alloc | apply pw_below_drewN | apply below_drew1) | exact HB.out)) hb)
       clear HB
       have HB := n0_
       clear n0_
       (try clear hb)
       (try clear hb2)
       (try clear hk)
       (try clear hi)
       refine hK.out _ _ ⟨((HB.out.cell (World.block_lt_of_cell? w _ hw525_0)).trans hw525_0), ((HB.out.cell (World.block_lt_of_cell? w _ hw525_1)).trans hw525_1)⟩ (fun hHeld => ?_)
       clear hK K
       refine norm_ (a' := ?_) ?_ ?_
       rotate_left
       ·show Act.put _ (some 18) _ = _
        simp only [Act.put, List.setIfInBounds_toArray, List.set_cons_zero, List.set_cons_succ, i64_w, i32_w]
        rfl
       refine pure_ (i := 7) (N := some 19) (v := ?_) (a' := ?_) #[true, true, true, true, true, true, true, true] rfl rfl (any_of HT_.out (by kernel_rfl)) (fun _ _ _ h => h) (Or.inl ⟨by rfl, ?_⟩) ?_ ?_
       rotate_left
       ·intro w'
        go_simp
        with_reducible rfl
       rotate_left
       ·simp only [Act.put, List.setIfInBounds_toArray, List.set_cons_zero, List.set_cons_succ, i64_w, i32_w]; rfl
       refine done_ (done_of HT_.out (by kernel_rfl)) ?_
       (try clear hHeld)
       have p527 : 0 ≤ (x5_1 : Int) := of_decide_eq_true (by first | (with_reducible assumption) | assumption)
       have q527 : x5_1 < (l0.length : Int) := of_decide_eq_true (by first | (with_reducible assumption) | assumption)
       obtain ⟨ad527, A527_1, c527_1, e527, hx527_0, hx527_1, hl527_1, hi527_1⟩ := at_T60 HR0.out x5_1 p527 q527
       obtain rfl : ad525 = ad527 := (by injection e527)
       replace hx527_0 := (HB.out.cell (World.block_lt_of_cell? w _ hx527_0)).trans hx527_0
       replace hx527_1 := (HB.out.cell (World.block_lt_of_cell? w _ hx527_1)).trans hx527_1
       have HR527_1 := Aside0.mk hi527_1
       have HC527_1 := Aside0.mk hl527_1
       clear hi527_1 hl527_1
       replace p527 := eq_true p527
       replace q527 := eq_true q527
       try go_wp2_with (first | ((with_reducible refine gate_callee (f := 28) rfl ?_); refine goesL_ (some 28) rfl rfl Try.func28 (by kernel_rfl) rfl #[.slice A527_1 ((rd_T60 l0 x5_1).f1).length c527_1, .int .i64 (wrap64 (x1_1 + 1))] rfl (by (try simp only [List.map_toArray, List.map_cons, List.map_nil]); first | done | rfl | (simp only [List.length_drop, List.length_take]; rfl)) ?_; (with_reducible refine (laws_heldInt64S.calls k1 _ _ ((rd_T60 l0 x5_1).f1) (wrap64 (x1_1 + 1)) t528 _ ?side1 ?side2 A7.out).mono ?_); (case side1 => repeat (first | exact (Kd.C_below HR527_1.out HB.out) | (with_reducible refine Kd.C_alloc ?_ _) | (with_reducible refine Kd.C_drewN ?_ _) | (with_reducible refine Kd.C_drew ?_))); (case side2 => exact HC527_1.out); rintro e w' ⟨rfl, ⟨nd, rfl⟩⟩; refine ⟨_, rfl, ?_⟩))
       go_ret
       exact ⟨by first | rfl | (simp [errW_none, errW_some] <;> rfl) | (simp [*, errW_none, errW_some] <;> rfl), by repeat (first | (with_reducible first | exact HB.out | apply below_alloc | apply pw_below_drewN | apply below_drew1) | exact HB.out)⟩
      ·rw [if_neg c8] at H
       have c8b0 : decide (t528 < 0) = false := decide_eq_false c8
       clear c8
       have H' := Aside0.mk H
       clear H
       try go_wp2
       have n0_ := Aside0.mk (below_drew1 HB.out)
       clear HB
       have HB := n0_
       clear n0_
       have p525 : 0 ≤ (x5_1 : Int) := of_decide_eq_true (by first | (with_reducible assumption) | assumption)
       have q525 : x5_1 < (l0.length : Int) := of_decide_eq_true (by first | (with_reducible assumption) | assumption)
       obtain ⟨ad525, A525_1, c525_1, e525, hx525_0, hx525_1, hl525_1, hi525_1⟩ := at_T60 HR0.out x5_1 p525 q525
       have hw525_1 := hx525_1
       have hw525_0 := hx525_0
       cases e525
       replace hx525_0 := (HB.out.cell (World.block_lt_of_cell? w _ hx525_0)).trans hx525_0
       replace hx525_1 := (HB.out.cell (World.block_lt_of_cell? w _ hx525_1)).trans hx525_1
       have HR525_1 := Aside0.mk hi525_1
       have HC525_1 := Aside0.mk hl525_1
       clear hi525_1 hl525_1
       replace p525 := eq_true p525
       replace q525 := eq_true q525
       refine start_ (n := 8) (S := fun w' => w'.cell? (ad525.add ((x5_1).toNat * 2)) = some (.string ((rd_T60 l0 x5_1).f0)) ∧ w'.cell? ⟨(ad525.add ((x5_1).toNat * 2)).block, (ad525.add ((x5_1).toNat * 2)).off + 1, none⟩ = some (.slice A525_1 ((rd_T60 l0 x5_1).f1).length c525_1)) (ds := []) #[false, false, false, false, false, false, false, false] (by kernel_rfl) rfl rfl ⟨((HB.out.cell (World.block_lt_of_cell? w _ hw525_0)).trans hw525_0), ((HB.out.cell (World.block_lt_of_cell? w _ hw525_1)).trans hw525_1)⟩ (fun hHeld => ?_); refine with_tabW laws_heldMotionS.tab4 laws_heldMotionS.bits4 (fun HT_ HW_ => ?_)
       generalize wr.drew = w11 at HB HR525_1 hx525_0 hx525_1 hHeld ⊢
       refine pure_ (i := 0) (N := some 12) (v := ?_) (a' := ?_) #[true, false, false, false, false, false, false, false] rfl rfl (any_of HT_.out (by kernel_rfl)) (fun _ _ _ h => h) (Or.inl ⟨by rfl, ?_⟩) ?_ ?_
       rotate_left
       ·intro w'
        go_simp
        with_reducible rfl
       rotate_left
       ·simp only [Act.put, List.setIfInBounds_toArray, List.set_cons_zero, List.set_cons_succ, i64_w, i32_w]; rfl
       refine pure_ (i := 1) (N := some 13) (v := ?_) (a' := ?_) #[true, true, false, false, false, false, false, false] rfl rfl (any_of HT_.out (by kernel_rfl)) (fun _ _ _ h => h) (Or.inl ⟨by rfl, ?_⟩) ?_ ?_
       rotate_left
       ·intro w'
        go_simp
        with_reducible rfl
       rotate_left
       ·simp only [Act.put, List.setIfInBounds_toArray, List.set_cons_zero, List.set_cons_succ, i64_w, i32_w]; rfl
       refine pure_ (i := 2) (N := some 14) (v := ?_) (a' := ?_) #[true, true, true, false, false, false, false, false] rfl rfl (any_of HT_.out (by kernel_rfl)) (fun _ _ _ h => h) (Or.inl ⟨by rfl, ?_⟩) ?_ ?_
       rotate_left
       ·intro w'
        go_simp
        with_reducible rfl
       rotate_left
       ·simp only [Act.put, List.setIfInBounds_toArray, List.set_cons_zero, List.set_cons_succ, i64_w, i32_w]; rfl
       refine pure_ (i := 3) (N := some 15) (v := ?_) (a' := ?_) #[true, true, true, true, false, false, false, false] rfl rfl (any_of HT_.out (by kernel_rfl)) (fun _ _ _ h => h) (Or.inl ⟨by rfl, ?_⟩) ?_ ?_
       rotate_left
       ·intro w'
        go_simp
        with_reducible rfl
       rotate_left
       ·simp only [Act.put, List.setIfInBounds_toArray, List.set_cons_zero, List.set_cons_succ, i64_w, i32_w]; rfl
       refine pure_ (i := 5) (N := some 17) (v := ?_) (a' := ?_) #[true, true, true, true, false, true, false, false] rfl rfl (any_of HT_.out (by kernel_rfl)) (fun _ _ _ h => h) (Or.inl ⟨by rfl, ?_⟩) ?_ ?_
       rotate_left
       ·intro w'
        go_simp
        with_reducible rfl
       rotate_left
       ·simp only [Act.put, List.setIfInBounds_toArray, List.set_cons_zero, List.set_cons_succ, i64_w, i32_w]; rfl
       refine take_ (i := 4) (N := some 16) (v := ?_) (a' := ?_) #[true, true, true, true, true, true, false, false] rfl rfl (take_ofW HT_.out HW_.out (by kernel_rfl)) (fun _ _ _ h => h) (Or.inl ⟨by rfl, ?_⟩) hHeld ?_ ?_
       rotate_left
       ·rintro w' ⟨s0, s1⟩
        go_simp
        with_reducible rfl
       rotate_left
       ·simp only [Act.put, List.setIfInBounds_toArray, List.set_cons_zero, List.set_cons_succ, i64_w, i32_w]; rfl
       refine one_ (i := 6) (N := some 18) #[true, true, true, true, true, true, true, false] rfl rfl (one_of HT_.out (by kernel_rfl)) (by decide) (fun K hK => ?_)
       refine goes_ Try.func75 (by kernel_rfl) rfl #[.int .i64 x1_1] (by rfl) rfl rfl (by (try simp only [List.map_toArray, List.map_cons, List.map_nil]); first | done | rfl | (simp only [List.length_drop, List.length_take]; rfl)) ?_
       with_reducible refine (laws_markText.calls k1 x1_1 t526 _ A5.out).mono ?_
       rintro e w12 ⟨rfl, hb⟩
       refine ⟨_, rfl, ?_⟩
       have n0_ := Aside0.mk (below_step (by repeat (first | (with_reducible first | exact HB.out | apply below_alloc | apply pw_below_drewN | apply below_drew1) | exact HB.out)) hb)
       clear HB
       have HB := n0_
       clear n0_
       (try clear hb)
       (try clear hb2)
       (try clear hk)
       (try clear hi)
       refine hK.out _ _ ⟨((HB.out.cell (World.block_lt_of_cell? w _ hw525_0)).trans hw525_0), ((HB.out.cell (World.block_lt_of_cell? w _ hw525_1)).trans hw525_1)⟩ (fun hHeld => ?_)
       clear hK K
       refine norm_ (a' := ?_) ?_ ?_
       rotate_left
       ·show Act.put _ (some 18) _ = _
        simp only [Act.put, List.setIfInBounds_toArray, List.set_cons_zero, List.set_cons_succ, i64_w, i32_w]
        rfl
       refine pure_ (i := 7) (N := some 19) (v := ?_) (a' := ?_) #[true, true, true, true, true, true, true, true] rfl rfl (any_of HT_.out (by kernel_rfl)) (fun _ _ _ h => h) (Or.inl ⟨by rfl, ?_⟩) ?_ ?_
       rotate_left
       ·intro w'
        go_simp
        with_reducible rfl
       rotate_left
       ·simp only [Act.put, List.setIfInBounds_toArray, List.set_cons_zero, List.set_cons_succ, i64_w, i32_w]; rfl
       refine done_ (done_of HT_.out (by kernel_rfl)) ?_
       (try clear hHeld)
       have p527 : 0 ≤ (x5_1 : Int) := of_decide_eq_true (by first | (with_reducible assumption) | assumption)
       have q527 : x5_1 < (l0.length : Int) := of_decide_eq_true (by first | (with_reducible assumption) | assumption)
       obtain ⟨ad527, A527_1, c527_1, e527, hx527_0, hx527_1, hl527_1, hi527_1⟩ := at_T60 HR0.out x5_1 p527 q527
       obtain rfl : ad525 = ad527 := (by injection e527)
       replace hx527_0 := (HB.out.cell (World.block_lt_of_cell? w _ hx527_0)).trans hx527_0
       replace hx527_1 := (HB.out.cell (World.block_lt_of_cell? w _ hx527_1)).trans hx527_1
       have HR527_1 := Aside0.mk hi527_1
       have HC527_1 := Aside0.mk hl527_1
       clear hi527_1 hl527_1
       replace p527 := eq_true p527
       replace q527 := eq_true q527
       try go_wp2_with (first | ((with_reducible refine gate_callee (f := 28) rfl ?_); refine goesL_ (some 28) rfl rfl Try.func28 (by kernel_rfl) rfl #[.slice A527_1 ((rd_T60 l0 x5_1).f1).length c527_1, .int .i64 (wrap64 (x1_1 + 1))] rfl (by (try simp only [List.map_toArray, List.map_cons, List.map_nil]); first | done | rfl | (simp only [List.length_drop, List.length_take]; rfl)) ?_; (with_reducible refine (laws_heldInt64S.calls k1 _ _ ((rd_T60 l0 x5_1).f1) (wrap64 (x1_1 + 1)) t528 _ ?side1 ?side2 A7.out).mono ?_); (case side1 => repeat (first | exact (Kd.C_below HR527_1.out HB.out) | (with_reducible refine Kd.C_alloc ?_ _) | (with_reducible refine Kd.C_drewN ?_ _) | (with_reducible refine Kd.C_drew ?_))); (case side2 => exact HC527_1.out); rintro e w' ⟨rfl, ⟨nd, rfl⟩⟩; refine ⟨_, rfl, ?_⟩))
       go_roundg k1
       case measure => have := HK1.out; omega
       case rel => exact ⟨(t528), (wrap64 (x5_1 + 1)), (by first | rfl | (simp; done) | (simp [*]; done)), (by first | rfl | (simp; done) | (simp [*]; done)), H', ⟨by have := HK1.out; omega⟩, ⟨by repeat (first | (with_reducible first | exact HB.out | apply below_alloc | apply pw_below_drewN | apply below_drew1) | exact HB.out)⟩⟩
     ·rw [if_neg c6] at H
      have c6b0 : (((rd_T60 l0 x5_1).f0).toList == t526.toList) = false := beq_eq_false_iff_ne.mpr c6
      have c6b1 : (((rd_T60 l0 x5_1).f0).toList != t526.toList) = true := bne_iff_ne.mpr c6
      obtain rfl := Option.some.inj H
      try go_wp2
      have n0_ := Aside0.mk (below_drew1 HB.out)
      clear HB
      have HB := n0_
      clear n0_
      have p525 : 0 ≤ (x5_1 : Int) := of_decide_eq_true (by first | (with_reducible assumption) | assumption)
      have q525 : x5_1 < (l0.length : Int) := of_decide_eq_true (by first | (with_reducible assumption) | assumption)
      obtain ⟨ad525, A525_1, c525_1, e525, hx525_0, hx525_1, hl525_1, hi525_1⟩ := at_T60 HR0.out x5_1 p525 q525
      have hw525_1 := hx525_1
      have hw525_0 := hx525_0
      cases e525
      replace hx525_0 := (HB.out.cell (World.block_lt_of_cell? w _ hx525_0)).trans hx525_0
      replace hx525_1 := (HB.out.cell (World.block_lt_of_cell? w _ hx525_1)).trans hx525_1
      have HR525_1 := Aside0.mk hi525_1
      have HC525_1 := Aside0.mk hl525_1
      clear hi525_1 hl525_1
      replace p525 := eq_true p525
      replace q525 := eq_true q525
      refine start_ (n := 8) (S := fun w' => w'.cell? (ad525.add ((x5_1).toNat * 2)) = some (.string ((rd_T60 l0 x5_1).f0)) ∧ w'.cell? ⟨(ad525.add ((x5_1).toNat * 2)).block, (ad525.add ((x5_1).toNat * 2)).off + 1, none⟩ = some (.slice A525_1 ((rd_T60 l0 x5_1).f1).length c525_1)) (ds := []) #[false, false, false, false, false, false, false, false] (by kernel_rfl) rfl rfl ⟨((HB.out.cell (World.block_lt_of_cell? w _ hw525_0)).trans hw525_0), ((HB.out.cell (World.block_lt_of_cell? w _ hw525_1)).trans hw525_1)⟩ (fun hHeld => ?_); refine with_tabW laws_heldMotionS.tab4 laws_heldMotionS.bits4 (fun HT_ HW_ => ?_)
      generalize wr.drew = w13 at HB HR525_1 hx525_0 hx525_1 hHeld ⊢
      refine pure_ (i := 0) (N := some 12) (v := ?_) (a' := ?_) #[true, false, false, false, false, false, false, false] rfl rfl (any_of HT_.out (by kernel_rfl)) (fun _ _ _ h => h) (Or.inl ⟨by rfl, ?_⟩) ?_ ?_
      rotate_left
      ·intro w'
       go_simp
       with_reducible rfl
      rotate_left
      ·simp only [Act.put, List.setIfInBounds_toArray, List.set_cons_zero, List.set_cons_succ, i64_w, i32_w]; rfl
      refine pure_ (i := 1) (N := some 13) (v := ?_) (a' := ?_) #[true, true, false, false, false, false, false, false] rfl rfl (any_of HT_.out (by kernel_rfl)) (fun _ _ _ h => h) (Or.inl ⟨by rfl, ?_⟩) ?_ ?_
      rotate_left
      ·intro w'
       go_simp
       with_reducible rfl
      rotate_left
      ·simp only [Act.put, List.setIfInBounds_toArray, List.set_cons_zero, List.set_cons_succ, i64_w, i32_w]; rfl
      refine pure_ (i := 2) (N := some 14) (v := ?_) (a' := ?_) #[true, true, true, false, false, false, false, false] rfl rfl (any_of HT_.out (by kernel_rfl)) (fun _ _ _ h => h) (Or.inl ⟨by rfl, ?_⟩) ?_ ?_
      rotate_left
      ·intro w'
       go_simp
       with_reducible rfl
      rotate_left
      ·simp only [Act.put, List.setIfInBounds_toArray, List.set_cons_zero, List.set_cons_succ, i64_w, i32_w]; rfl
      refine pure_ (i := 3) (N := some 15) (v := ?_) (a' := ?_) #[true, true, true, true, false, false, false, false] rfl rfl (any_of HT_.out (by kernel_rfl)) (fun _ _ _ h => h) (Or.inl ⟨by rfl, ?_⟩) ?_ ?_
      rotate_left
      ·intro w'
       go_simp
       with_reducible rfl
      rotate_left
      ·simp only [Act.put, List.setIfInBounds_toArray, List.set_cons_zero, List.set_cons_succ, i64_w, i32_w]; rfl
      refine pure_ (i := 5) (N := some 17) (v := ?_) (a' := ?_) #[true, true, true, true, false, true, false, false] rfl rfl (any_of HT_.out (by kernel_rfl)) (fun _ _ _ h => h) (Or.inl ⟨by rfl, ?_⟩) ?_ ?_
      rotate_left
      ·intro w'
       go_simp
       with_reducible rfl
      rotate_left
      ·simp only [Act.put, List.setIfInBounds_toArray, List.set_cons_zero, List.set_cons_succ, i64_w, i32_w]; rfl
      refine take_ (i := 4) (N := some 16) (v := ?_) (a' := ?_) #[true, true, true, true, true, true, false, false] rfl rfl (take_ofW HT_.out HW_.out (by kernel_rfl)) (fun _ _ _ h => h) (Or.inl ⟨by rfl, ?_⟩) hHeld ?_ ?_
      rotate_left
      ·rintro w' ⟨s0, s1⟩
       go_simp
       with_reducible rfl
      rotate_left
      ·simp only [Act.put, List.setIfInBounds_toArray, List.set_cons_zero, List.set_cons_succ, i64_w, i32_w]; rfl
      refine one_ (i := 6) (N := some 18) #[true, true, true, true, true, true, true, false] rfl rfl (one_of HT_.out (by kernel_rfl)) (by decide) (fun K hK => ?_)
      refine goes_ Try.func75 (by kernel_rfl) rfl #[.int .i64 x1_1] (by rfl) rfl rfl (by (try simp only [List.map_toArray, List.map_cons, List.map_nil]); first | done | rfl | (simp only [List.length_drop, List.length_take]; rfl)) ?_
      with_reducible refine (laws_markText.calls k1 x1_1 t526 _ A5.out).mono ?_
      rintro e w14 ⟨rfl, hb⟩
      refine ⟨_, rfl, ?_⟩
      have n0_ := Aside0.mk (below_step (by repeat (first | (with_reducible first | exact HB.out | apply below_alloc | apply pw_below_drewN | apply below_drew1) | exact HB.out)) hb)
      clear HB
      have HB := n0_
      clear n0_
      (try clear hb)
      (try clear hb2)
      (try clear hk)
      (try clear hi)
      refine hK.out _ _ ⟨((HB.out.cell (World.block_lt_of_cell? w _ hw525_0)).trans hw525_0), ((HB.out.cell (World.block_lt_of_cell? w _ hw525_1)).trans hw525_1)⟩ (fun hHeld => ?_)
      clear hK K
      refine norm_ (a' := ?_) ?_ ?_
      rotate_left
      ·show Act.put _ (some 18) _ = _
       simp only [Act.put, List.setIfInBounds_toArray, List.set_cons_zero, List.set_cons_succ, i64_w, i32_w]
       rfl
      refine pure_ (i := 7) (N := some 19) (v := ?_) (a' := ?_) #[true, true, true, true, true, true, true, true] rfl rfl (any_of HT_.out (by kernel_rfl)) (fun _ _ _ h => h) (Or.inl ⟨by rfl, ?_⟩) ?_ ?_
      rotate_left
      ·intro w'
       go_simp
       with_reducible rfl
      rotate_left
      ·simp only [Act.put, List.setIfInBounds_toArray, List.set_cons_zero, List.set_cons_succ, i64_w, i32_w]; rfl
      refine done_ (done_of HT_.out (by kernel_rfl)) ?_
      (try clear hHeld)
      try go_wp2
      go_ret
      exact ⟨by first | rfl | (simp [errW_none, errW_some] <;> rfl) | (simp [*, errW_none, errW_some] <;> rfl), by repeat (first | (with_reducible first | exact HB.out | apply below_alloc | apply pw_below_drewN | apply below_drew1) | exact HB.out)⟩
    ·rw [if_neg c4] at H
     exact absurd H (by simp)
   ·rw [if_neg c3] at H
    have c3b0 : decide (x5_1 < (l0.length : Int)) = false := decide_eq_false c3
    clear c3
    obtain rfl := Option.some.inj H
    go_wp2
    go_ret
    exact ⟨by first | rfl | (simp [errW_none, errW_some] <;> rfl) | (simp [*, errW_none, errW_some] <;> rfl), by repeat (first | (with_reducible first | exact HB.out | apply below_alloc | apply pw_below_drewN | apply below_drew1) | exact HB.out)⟩

end Go.Proofs.Ytfgfkmjpeffjbaa.X

/-! ## XLawsHeldMeeting -/
namespace Go.Proofs.Ytfgfkmjpeffjbaa.X
open Go.RowKit Go.Proofs.Ytfgfkmjpeffjbaa.XV Go.Proofs.YtfgfkmjpeffjbaaW.PrintWords Go.Proofs.YtfgfkmjpeffjbaaW.PrintLast Go.Proofs.YtfgfkmjpeffjbaaW.PrintMore
attribute [local go_sem] max2_int min2_int max_two min_two max_three min_three max_four min_four

/-! ### laws_heldMeeting: function 37 -/
def laws_heldMeeting.f (k : Nat) (a0_0 : Int) (l0_1 : List (S60)) (a1 : Int) : Option (Int) := (laws_heldMotionS.f k l0_1 a1).bind fun t530 => (if t530 < 0 then (some (-1)) else (some t530))
theorem laws_heldMeeting.mono : ∀ a0 a1 a2 k, LeO (laws_heldMeeting.f k a0 a1 a2) (laws_heldMeeting.f (k + 1) a0 a1 a2) := by
 intro a0 a1 a2 k
 unfold laws_heldMeeting.f
 repeat' first
   | (with_reducible exact laws_heldMotionS.mono _ _ _)
   | (with_reducible exact LeO.refl _)
   | (with_reducible exact LeO.none _)
   | (with_reducible refine LeO.ite ?_ ?_)
   | (with_reducible refine LeO.bind ?_ (fun _ => ?_))
   | exact laws_heldMotionS.mono _ _ _
   | exact LeO.none _
   | refine LeO.ite ?_ ?_
   | refine LeO.bind ?_ (fun _ => ?_)
set_option maxHeartbeats 8000000 in
set_option maxRecDepth 100000 in
theorem laws_heldMeeting.calls (k : Nat) (a0_0 : Int) (A0_1 : Option Addr) (c0_1 : Nat) (l0_1 : List (S60)) (a1 : Int) (r : Int) (w : World) (hr0_1 : Kd.C k60 w A0_1 l0_1.length l0_1) (hc0_1 : l0_1.length ≤ c0_1) (h : laws_heldMeeting.f k a0_0 l0_1 a1 = some r) :
  Calls Try.prog 37 #[.agg #[.int .i64 a0_0, .slice A0_1 l0_1.length c0_1], .int .i64 a1] w fun e w' => e = .returned (.int .i64 r) ∧ Below w.heap.size w w' := by
 have hu29 := Try.underlying29
 have HR0_1 := Aside0.mk hr0_1
 have HC0_1 := Aside0.mk hc0_1
 clear hr0_1 hc0_1
 have HB := Aside0.mk (Below.refl w.heap.size w)
 have H : ((laws_heldMotionS.f k l0_1 a1).bind fun t530 => (if t530 < 0 then (some (-1)) else (some t530))) = some r := h
 clear h
 replace H := Option.bind_eq_some_iff.mp H
 obtain ⟨t530, A30, H⟩ := H
 replace H : (if t530 < 0 then (some (-1)) else (some t530)) = some r := H
 have A3 := Aside0.mk A30
 clear A30
 by_cases c4 : t530 < 0
 ·rw [if_pos c4] at H
  have c4b0 : decide (t530 < 0) = true := decide_eq_true c4
  clear c4
  obtain rfl := Option.some.inj H
  go_enter Try.func37, Try.ntmps37
  go_wp2_with (first | ((with_reducible refine gate_dst (N := 2) rfl ?_); refine box_event ?hg (N := 2) ?hd (cs := #[.int .i64 a0_0, .slice A0_1 l0_1.length c0_1]) (t := 29) ?hr ?_; (case hd => rfl); (case hg => rfl); (case hr => first | (go_simp; done) | (go_simp; rfl)); intro gb529 hg w5 hbox hb; have n0_ := Aside0.mk (below_step (by repeat (first | (with_reducible first | exact HB.out | apply below_alloc | apply pw_below_drewN | apply below_drew1) | exact HB.out)) hb); have n1_ := Aside0.mk (hbox); have n2_ := Aside0.mk ((by rw [hg]; exact (below_size (by repeat (first | (with_reducible first | exact HB.out | apply below_alloc | apply pw_below_drewN | apply below_drew1) | exact HB.out))) : w.heap.size ≤ gb529)); have n3_ := Aside0.mk ((by rw [hg]; exact (below_size (by repeat (first | (with_reducible first | exact HB.out | apply below_alloc | apply pw_below_drewN | apply below_drew1) | exact HB.out))) : w.heap.size ≤ gb529)); clear HB; have HB := n0_; have BK529 := n1_; have GW529 := n2_; have GE529 := n3_; clear n0_ n1_ n2_ n3_; clear hb hbox hg; have hcz6_0 : w5.cell? ⟨gb529, 0, none⟩ = some (.int .i64 a0_0) := (blk_cell BK529.out 0).trans rfl; have hcz6_1 : w5.cell? ⟨gb529, 1, none⟩ = some (.slice A0_1 l0_1.length c0_1) := (blk_cell BK529.out 1).trans rfl; have hfz6_0 := blk_frozen BK529.out 0; have hfz6_1 := blk_frozen BK529.out 1) | ((with_reducible refine gate_callee (f := 72) rfl ?_); refine goesL_ (some 8) rfl rfl Try.func72 (by kernel_rfl) rfl #[.slice A0_1 l0_1.length c0_1, .int .i64 a1] rfl (by (try simp only [List.map_toArray, List.map_cons, List.map_nil]); first | done | rfl | (simp only [List.length_drop, List.length_take]; rfl)) ?_; (with_reducible refine (laws_heldMotionS.calls k _ _ l0_1 a1 t530 _ ?side1 ?side2 A3.out).mono ?_); (case side1 => repeat (first | exact (Kd.C_below HR0_1.out HB.out) | (with_reducible refine Kd.C_alloc ?_ _) | (with_reducible refine Kd.C_drewN ?_ _) | (with_reducible refine Kd.C_drew ?_))); (case side2 => exact HC0_1.out); rintro e w7 ⟨rfl, hb⟩; refine ⟨_, rfl, ?_⟩; have n0_ := Aside0.mk (blk_below (g := gb529) (o := .cells #[.int .i64 a0_0, .slice A0_1 l0_1.length c0_1] 29 (0, 0)) (by (with_reducible repeat (first | refine blk_drewN ?_ _ | refine blk_drew ?_ | refine blk_alloc ?_ _)); exact BK529.out) hb); have n1_ := Aside0.mk (below_step (by repeat (first | (with_reducible first | exact HB.out | apply below_alloc | apply pw_below_drewN | apply below_drew1 | refine below_set ?_ GE529.out) | exact HB.out)) hb); clear BK529; clear HB; have BK529 := n0_; have HB := n1_; clear n0_ n1_; (try clear hb); (try clear hb2); (try clear hk); (try clear hi)))
  go_ret
  exact ⟨by first | rfl | (simp [errW_none, errW_some] <;> rfl) | (simp [*, errW_none, errW_some] <;> rfl), by repeat (first | (with_reducible first | exact HB.out | apply below_alloc | apply pw_below_drewN | apply below_drew1 | refine below_set ?_ GE529.out) | exact HB.out)⟩
 ·rw [if_neg c4] at H
  have c4b0 : decide (t530 < 0) = false := decide_eq_false c4
  clear c4
  obtain rfl := Option.some.inj H
  go_enter Try.func37, Try.ntmps37
  go_wp2_with (first | ((with_reducible refine gate_dst (N := 2) rfl ?_); refine box_event ?hg (N := 2) ?hd (cs := #[.int .i64 a0_0, .slice A0_1 l0_1.length c0_1]) (t := 29) ?hr ?_; (case hd => rfl); (case hg => rfl); (case hr => first | (go_simp; done) | (go_simp; rfl)); intro gb529 hg w8 hbox hb; have n0_ := Aside0.mk (below_step (by repeat (first | (with_reducible first | exact HB.out | apply below_alloc | apply pw_below_drewN | apply below_drew1) | exact HB.out)) hb); have n1_ := Aside0.mk (hbox); have n2_ := Aside0.mk ((by rw [hg]; exact (below_size (by repeat (first | (with_reducible first | exact HB.out | apply below_alloc | apply pw_below_drewN | apply below_drew1) | exact HB.out))) : w.heap.size ≤ gb529)); have n3_ := Aside0.mk ((by rw [hg]; exact (below_size (by repeat (first | (with_reducible first | exact HB.out | apply below_alloc | apply pw_below_drewN | apply below_drew1) | exact HB.out))) : w.heap.size ≤ gb529)); clear HB; have HB := n0_; have BK529 := n1_; have GW529 := n2_; have GE529 := n3_; clear n0_ n1_ n2_ n3_; clear hb hbox hg; have hcz9_0 : w8.cell? ⟨gb529, 0, none⟩ = some (.int .i64 a0_0) := (blk_cell BK529.out 0).trans rfl; have hcz9_1 : w8.cell? ⟨gb529, 1, none⟩ = some (.slice A0_1 l0_1.length c0_1) := (blk_cell BK529.out 1).trans rfl; have hfz9_0 := blk_frozen BK529.out 0; have hfz9_1 := blk_frozen BK529.out 1) | ((with_reducible refine gate_callee (f := 72) rfl ?_); refine goesL_ (some 8) rfl rfl Try.func72 (by kernel_rfl) rfl #[.slice A0_1 l0_1.length c0_1, .int .i64 a1] rfl (by (try simp only [List.map_toArray, List.map_cons, List.map_nil]); first | done | rfl | (simp only [List.length_drop, List.length_take]; rfl)) ?_; (with_reducible refine (laws_heldMotionS.calls k _ _ l0_1 a1 t530 _ ?side1 ?side2 A3.out).mono ?_); (case side1 => repeat (first | exact (Kd.C_below HR0_1.out HB.out) | (with_reducible refine Kd.C_alloc ?_ _) | (with_reducible refine Kd.C_drewN ?_ _) | (with_reducible refine Kd.C_drew ?_))); (case side2 => exact HC0_1.out); rintro e w10 ⟨rfl, hb⟩; refine ⟨_, rfl, ?_⟩; have n0_ := Aside0.mk (blk_below (g := gb529) (o := .cells #[.int .i64 a0_0, .slice A0_1 l0_1.length c0_1] 29 (0, 0)) (by (with_reducible repeat (first | refine blk_drewN ?_ _ | refine blk_drew ?_ | refine blk_alloc ?_ _)); exact BK529.out) hb); have n1_ := Aside0.mk (below_step (by repeat (first | (with_reducible first | exact HB.out | apply below_alloc | apply pw_below_drewN | apply below_drew1 | refine below_set ?_ GE529.out) | exact HB.out)) hb); clear BK529; clear HB; have BK529 := n0_; have HB := n1_; clear n0_ n1_; (try clear hb); (try clear hb2); (try clear hk); (try clear hi)))
  go_ret
  exact ⟨by first | rfl | (simp [errW_none, errW_some] <;> rfl) | (simp [*, errW_none, errW_some] <;> rfl), by repeat (first | (with_reducible first | exact HB.out | apply below_alloc | apply pw_below_drewN | apply below_drew1 | refine below_set ?_ GE529.out) | exact HB.out)⟩

end Go.Proofs.Ytfgfkmjpeffjbaa.X

/-! ## XLawsFnExactAddMotion -/
namespace Go.Proofs.Ytfgfkmjpeffjbaa.X
open Go.RowKit Go.Proofs.Ytfgfkmjpeffjbaa.XV Go.Proofs.YtfgfkmjpeffjbaaW.PrintWords Go.Proofs.YtfgfkmjpeffjbaaW.PrintLast Go.Proofs.YtfgfkmjpeffjbaaW.PrintMore
attribute [local go_sem] max2_int min2_int max_two min_two max_three min_three max_four min_four

/-! ### laws_FnExactAddMotion: function 10 -/
def laws_FnExactAddMotion.f (k : Nat) (a0_0 : Int) (l0_1 : List (S87)) (a1 : ByteArray) : Option (Bool) := if (a1.size : Int) > 1048576 then (some true) else ((laws_szMeeting.f k a0_0 l0_1 1048576).bind fun t532 => (if t532 < 0 then (some true) else ((laws_toMeeting.f k a0_0 l0_1).bind fun bt533 => ((spec_AddMotion.f k bt533.1 bt533.2 a1).bind fun bt537 => ((laws_toMeeting.f k a0_0 l0_1).bind fun bt543 => ((impl_AddMotion.f k bt543.1 bt543.2 a1).bind fun bt548 => ((laws_eqMeeting.f k bt548.1 bt548.2.1 bt537.1 bt537.2.1).bind fun t554 => (if t554 = true then (if bt548.2.2 = bt537.2.2 then ((laws_toMeeting.f k a0_0 l0_1).bind fun bt555 => ((laws_eqMeeting.f k bt543.1 bt543.2 bt555.1 bt555.2).bind fun t559 => (if t559 = true then ((laws_markMeeting.f k bt543.1 bt543.2 1).bind fun bt560 => (if bt560.1 < 0 then (some false) else ((laws_eqMeeting.f k bt548.1 bt548.2.1 bt537.1 bt537.2.1).bind fun t562 => (if t562 = true then ((laws_markMeeting.f k bt548.1 bt548.2.1 1).bind fun bt563 => ((laws_heldMeeting.f k bt548.1 bt563.2 1).bind fun t565 => (if t565 < 0 then (some false) else (if t565 = bt563.1 then ((laws_toMeeting.f k a0_0 l0_1).bind fun bt566 => ((impl_AddMotion.f k bt566.1 bt566.2 a1).bind fun bt570 => ((laws_eqMeeting.f k bt570.1 bt570.2.1 bt537.1 bt537.2.1).bind fun t576 => (if t576 = true then (if bt570.2.2 = bt537.2.2 then ((laws_heldMeeting.f k bt548.1 bt563.2 1).bind fun t577 => (if t577 < 0 then (some false) else (if t577 = bt563.1 then (some true) else (some false)))) else (some false)) else (some false))))) else (some false))))) else (some false))))) else (some false)))) else (some false)) else (some false)))))))))
theorem laws_FnExactAddMotion.mono : ∀ a0 a1 a2 k, LeO (laws_FnExactAddMotion.f k a0 a1 a2) (laws_FnExactAddMotion.f (k + 1) a0 a1 a2) := by
 intro a0 a1 a2 k
 unfold laws_FnExactAddMotion.f
 repeat' first
   | (with_reducible exact impl_AddMotion.mono _ _ _ _)
   | (with_reducible exact laws_eqMeeting.mono _ _ _ _ _)
   | (with_reducible exact laws_heldMeeting.mono _ _ _ _)
   | (with_reducible exact laws_markMeeting.mono _ _ _ _)
   | (with_reducible exact laws_szMeeting.mono _ _ _ _)
   | (with_reducible exact laws_toMeeting.mono _ _ _)
   | (with_reducible exact spec_AddMotion.mono _ _ _ _)
   | (with_reducible exact LeO.refl _)
   | (with_reducible exact LeO.none _)
   | (with_reducible refine LeO.ite ?_ ?_)
   | (with_reducible refine LeO.bind ?_ (fun _ => ?_))
   | exact impl_AddMotion.mono _ _ _ _
   | exact laws_eqMeeting.mono _ _ _ _ _
   | exact laws_heldMeeting.mono _ _ _ _
   | exact laws_markMeeting.mono _ _ _ _
   | exact laws_szMeeting.mono _ _ _ _
   | exact laws_toMeeting.mono _ _ _
   | exact spec_AddMotion.mono _ _ _ _
   | exact LeO.none _
   | refine LeO.ite ?_ ?_
   | refine LeO.bind ?_ (fun _ => ?_)
set_option maxHeartbeats 8000000 in
set_option maxRecDepth 100000 in
theorem laws_FnExactAddMotion.calls (k : Nat) (a0_0 : Int) (A0_1 : Option Addr) (c0_1 : Nat) (l0_1 : List (S87)) (a1 : ByteArray) (r : Bool) (w : World) (hr0_1 : Kd.C k87 w A0_1 l0_1.length l0_1) (hc0_1 : l0_1.length ≤ c0_1) (hr_ : Aside0 (r = true)) (h : laws_FnExactAddMotion.f k a0_0 l0_1 a1 = some r) :
  Calls Try.prog 10 #[.agg #[.int .i64 a0_0, .slice A0_1 l0_1.length c0_1], .string a1] w fun e w' => e = .returned (.bool r) ∧ Below w.heap.size w w' := by
 have hu24 := Try.underlying24
 have hu29 := Try.underlying29
 have HR0_1 := Aside0.mk hr0_1
 have HC0_1 := Aside0.mk hc0_1
 clear hr0_1 hc0_1
 have HT := Aside0.mk (Nat.le_refl w.heap.size)
 have HB := Aside0.mk (Below.refl w.heap.size w)
 have H : (if (a1.size : Int) > 1048576 then (some true) else ((laws_szMeeting.f k a0_0 l0_1 1048576).bind fun t532 => (if t532 < 0 then (some true) else ((laws_toMeeting.f k a0_0 l0_1).bind fun bt533 => ((spec_AddMotion.f k bt533.1 bt533.2 a1).bind fun bt537 => ((laws_toMeeting.f k a0_0 l0_1).bind fun bt543 => ((impl_AddMotion.f k bt543.1 bt543.2 a1).bind fun bt548 => ((laws_eqMeeting.f k bt548.1 bt548.2.1 bt537.1 bt537.2.1).bind fun t554 => (if t554 = true then (if bt548.2.2 = bt537.2.2 then ((laws_toMeeting.f k a0_0 l0_1).bind fun bt555 => ((laws_eqMeeting.f k bt543.1 bt543.2 bt555.1 bt555.2).bind fun t559 => (if t559 = true then ((laws_markMeeting.f k bt543.1 bt543.2 1).bind fun bt560 => (if bt560.1 < 0 then (some false) else ((laws_eqMeeting.f k bt548.1 bt548.2.1 bt537.1 bt537.2.1).bind fun t562 => (if t562 = true then ((laws_markMeeting.f k bt548.1 bt548.2.1 1).bind fun bt563 => ((laws_heldMeeting.f k bt548.1 bt563.2 1).bind fun t565 => (if t565 < 0 then (some false) else (if t565 = bt563.1 then ((laws_toMeeting.f k a0_0 l0_1).bind fun bt566 => ((impl_AddMotion.f k bt566.1 bt566.2 a1).bind fun bt570 => ((laws_eqMeeting.f k bt570.1 bt570.2.1 bt537.1 bt537.2.1).bind fun t576 => (if t576 = true then (if bt570.2.2 = bt537.2.2 then ((laws_heldMeeting.f k bt548.1 bt563.2 1).bind fun t577 => (if t577 < 0 then (some false) else (if t577 = bt563.1 then (some true) else (some false)))) else (some false)) else (some false))))) else (some false))))) else (some false))))) else (some false)))) else (some false)) else (some false)))))))))) = some r := h
 clear h
 by_cases c3 : (a1.size : Int) > 1048576
 ·rw [if_pos c3] at H
  have c3b0 : decide (1048576 < (a1.size : Int)) = true := decide_eq_true c3
  have c3b1 : decide (1048576 < a1.size) = true := decide_eq_true (by omega)
  clear c3
  obtain rfl := Option.some.inj H
  go_enter Try.func10, Try.ntmps10
  go_wp2_with (first | ((with_reducible refine gate_dst (N := 2) rfl ?_); refine box_event ?hg (N := 2) ?hd (cs := #[.int .i64 a0_0, .slice A0_1 l0_1.length c0_1]) (t := 24) ?hr ?_; (case hd => rfl); (case hg => rfl); (case hr => first | (go_simp; done) | (go_simp; rfl)); intro gb531 hg w4 hbox hb; have n0_ := Aside0.mk (below_step (by repeat (first | (with_reducible first | exact HB.out | apply below_alloc | apply pw_below_drewN | apply below_drew1) | exact HB.out)) hb); have n1_ := Aside0.mk (hbox); have n2_ := Aside0.mk ((by rw [hg]; exact (below_size (by repeat (first | (with_reducible first | exact HB.out | apply below_alloc | apply pw_below_drewN | apply below_drew1) | exact HB.out))) : w.heap.size ≤ gb531)); have n3_ := Aside0.mk ((by rw [hg]; exact (below_size (by repeat (first | (with_reducible first | exact HB.out | apply below_alloc | apply pw_below_drewN | apply below_drew1) | exact HB.out))) : w.heap.size ≤ gb531)); have n4_ := Aside0.mk ((by rw [hg]; first | exact HT.out | (repeat (first | exact HT.out | (rw [sz_set]) | (rw [sz_drewN]) | (refine Nat.le_trans ?_ (sz_alloc _ _)))) : w.heap.size ≤ gb531)); have n5_ := Aside0.mk ((blk_lt hbox : gb531 + 1 ≤ w4.heap.size)); clear HB; clear HT; have HB := n0_; have BK531 := n1_; have GW531 := n2_; have GE531 := n3_; have LEw4 := n4_; have HT := n5_; clear n0_ n1_ n2_ n3_ n4_ n5_; clear hb hbox hg))
  go_ret
  exact ⟨by first | rfl | (simp [errW_none, errW_some] <;> rfl) | (simp [*, errW_none, errW_some] <;> rfl), by repeat (first | (with_reducible first | exact HB.out | apply below_alloc | apply pw_below_drewN | apply below_drew1 | refine below_set ?_ GE531.out) | exact HB.out)⟩
 ·rw [if_neg c3] at H
  have c3b0 : decide (1048576 < (a1.size : Int)) = false := decide_eq_false c3
  have c3b1 : decide (1048576 < a1.size) = false := decide_eq_false (by omega)
  clear c3
  replace H := Option.bind_eq_some_iff.mp H
  obtain ⟨t532, A50, H⟩ := H
  replace H : (if t532 < 0 then (some true) else ((laws_toMeeting.f k a0_0 l0_1).bind fun bt533 => ((spec_AddMotion.f k bt533.1 bt533.2 a1).bind fun bt537 => ((laws_toMeeting.f k a0_0 l0_1).bind fun bt543 => ((impl_AddMotion.f k bt543.1 bt543.2 a1).bind fun bt548 => ((laws_eqMeeting.f k bt548.1 bt548.2.1 bt537.1 bt537.2.1).bind fun t554 => (if t554 = true then (if bt548.2.2 = bt537.2.2 then ((laws_toMeeting.f k a0_0 l0_1).bind fun bt555 => ((laws_eqMeeting.f k bt543.1 bt543.2 bt555.1 bt555.2).bind fun t559 => (if t559 = true then ((laws_markMeeting.f k bt543.1 bt543.2 1).bind fun bt560 => (if bt560.1 < 0 then (some false) else ((laws_eqMeeting.f k bt548.1 bt548.2.1 bt537.1 bt537.2.1).bind fun t562 => (if t562 = true then ((laws_markMeeting.f k bt548.1 bt548.2.1 1).bind fun bt563 => ((laws_heldMeeting.f k bt548.1 bt563.2 1).bind fun t565 => (if t565 < 0 then (some false) else (if t565 = bt563.1 then ((laws_toMeeting.f k a0_0 l0_1).bind fun bt566 => ((impl_AddMotion.f k bt566.1 bt566.2 a1).bind fun bt570 => ((laws_eqMeeting.f k bt570.1 bt570.2.1 bt537.1 bt537.2.1).bind fun t576 => (if t576 = true then (if bt570.2.2 = bt537.2.2 then ((laws_heldMeeting.f k bt548.1 bt563.2 1).bind fun t577 => (if t577 < 0 then (some false) else (if t577 = bt563.1 then (some true) else (some false)))) else (some false)) else (some false))))) else (some false))))) else (some false))))) else (some false)))) else (some false)) else (some false)))))))) = some r := H
  have A5 := Aside0.mk A50
  clear A50
  by_cases c6 : t532 < 0
  ·rw [if_pos c6] at H
   have c6b0 : decide (t532 < 0) = true := decide_eq_true c6
   clear c6
   obtain rfl := Option.some.inj H
   go_enter Try.func10, Try.ntmps10
   go_wp2_with (first | ((with_reducible refine gate_dst (N := 2) rfl ?_); refine box_event ?hg (N := 2) ?hd (cs := #[.int .i64 a0_0, .slice A0_1 l0_1.length c0_1]) (t := 24) ?hr ?_; (case hd => rfl); (case hg => rfl); (case hr => first | (go_simp; done) | (go_simp; rfl)); intro gb531 hg w7 hbox hb; have n0_ := Aside0.mk (below_step (by repeat (first | (with_reducible first | exact HB.out | apply below_alloc | apply pw_below_drewN | apply below_drew1) | exact HB.out)) hb); have n1_ := Aside0.mk (hbox); have n2_ := Aside0.mk ((by rw [hg]; exact (below_size (by repeat (first | (with_reducible first | exact HB.out | apply below_alloc | apply pw_below_drewN | apply below_drew1) | exact HB.out))) : w.heap.size ≤ gb531)); have n3_ := Aside0.mk ((by rw [hg]; exact (below_size (by repeat (first | (with_reducible first | exact HB.out | apply below_alloc | apply pw_below_drewN | apply below_drew1) | exact HB.out))) : w.heap.size ≤ gb531)); have n4_ := Aside0.mk ((by rw [hg]; first | exact HT.out | (repeat (first | exact HT.out | (rw [sz_set]) | (rw [sz_drewN]) | (refine Nat.le_trans ?_ (sz_alloc _ _)))) : w.heap.size ≤ gb531)); have n5_ := Aside0.mk ((blk_lt hbox : gb531 + 1 ≤ w7.heap.size)); clear HB; clear HT; have HB := n0_; have BK531 := n1_; have GW531 := n2_; have GE531 := n3_; have LEw7 := n4_; have HT := n5_; clear n0_ n1_ n2_ n3_ n4_ n5_; clear hb hbox hg; have hcz8_0 : w7.cell? ⟨gb531, 0, none⟩ = some (.int .i64 a0_0) := (blk_cell BK531.out 0).trans rfl; have hcz8_1 : w7.cell? ⟨gb531, 1, none⟩ = some (.slice A0_1 l0_1.length c0_1) := (blk_cell BK531.out 1).trans rfl; have hfz8_0 := blk_frozen BK531.out 0; have hfz8_1 := blk_frozen BK531.out 1) | ((with_reducible refine gate_callee (f := 14) rfl ?_); refine goesL_ (some 21) rfl rfl Try.func14 (by kernel_rfl) rfl #[.agg #[.int .i64 a0_0, .slice A0_1 l0_1.length c0_1], .int .i64 1048576] rfl (by (try simp only [List.map_toArray, List.map_cons, List.map_nil]); first | done | rfl | (simp only [List.length_drop, List.length_take]; rfl)) ?_; (with_reducible refine (laws_szMeeting.calls k a0_0 _ _ l0_1 1048576 t532 _ ?side1 ?side2 A5.out).mono ?_); (case side1 => repeat (first | exact (Kd.C_below HR0_1.out HB.out) | (with_reducible refine Kd.C_alloc ?_ _) | (with_reducible refine Kd.C_drewN ?_ _) | (with_reducible refine Kd.C_drew ?_))); (case side2 => exact HC0_1.out); rintro e w9 ⟨rfl, hb⟩; refine ⟨_, rfl, ?_⟩; have n0_ := Aside0.mk (blk_below (g := gb531) (o := .cells #[.int .i64 a0_0, .slice A0_1 l0_1.length c0_1] 24 (0, 0)) (by (with_reducible repeat (first | refine blk_drewN ?_ _ | refine blk_drew ?_ | refine blk_alloc ?_ _)); exact BK531.out) hb); have n1_ := Aside0.mk (Nat.le_trans (n := (gb531 + 1)) (by first | exact HT.out | (repeat (first | exact HT.out | (rw [sz_set]) | (rw [sz_drewN]) | (refine Nat.le_trans ?_ (sz_alloc _ _))))) hb.size); have n2_ := Aside0.mk (below_step (by repeat (first | (with_reducible first | exact HB.out | apply below_alloc | apply pw_below_drewN | apply below_drew1 | refine below_set ?_ GE531.out) | exact HB.out)) hb); clear BK531; clear HT; clear HB; have BK531 := n0_; have HT := n1_; have HB := n2_; clear n0_ n1_ n2_; (try clear hb); (try clear hb2); (try clear hk); (try clear hi)))
   go_ret
   exact ⟨by first | rfl | (simp [errW_none, errW_some] <;> rfl) | (simp [*, errW_none, errW_some] <;> rfl), by repeat (first | (with_reducible first | exact HB.out | apply below_alloc | apply pw_below_drewN | apply below_drew1 | refine below_set ?_ GE531.out) | exact HB.out)⟩
  ·rw [if_neg c6] at H
   have c6b0 : decide (t532 < 0) = false := decide_eq_false c6
   clear c6
   replace H := Option.bind_eq_some_iff.mp H
   obtain ⟨⟨t533, t534⟩, A100, H⟩ := H
   replace H : ((spec_AddMotion.f k t533 t534 a1).bind fun bt537 => ((laws_toMeeting.f k a0_0 l0_1).bind fun bt543 => ((impl_AddMotion.f k bt543.1 bt543.2 a1).bind fun bt548 => ((laws_eqMeeting.f k bt548.1 bt548.2.1 bt537.1 bt537.2.1).bind fun t554 => (if t554 = true then (if bt548.2.2 = bt537.2.2 then ((laws_toMeeting.f k a0_0 l0_1).bind fun bt555 => ((laws_eqMeeting.f k bt543.1 bt543.2 bt555.1 bt555.2).bind fun t559 => (if t559 = true then ((laws_markMeeting.f k bt543.1 bt543.2 1).bind fun bt560 => (if bt560.1 < 0 then (some false) else ((laws_eqMeeting.f k bt548.1 bt548.2.1 bt537.1 bt537.2.1).bind fun t562 => (if t562 = true then ((laws_markMeeting.f k bt548.1 bt548.2.1 1).bind fun bt563 => ((laws_heldMeeting.f k bt548.1 bt563.2 1).bind fun t565 => (if t565 < 0 then (some false) else (if t565 = bt563.1 then ((laws_toMeeting.f k a0_0 l0_1).bind fun bt566 => ((impl_AddMotion.f k bt566.1 bt566.2 a1).bind fun bt570 => ((laws_eqMeeting.f k bt570.1 bt570.2.1 bt537.1 bt537.2.1).bind fun t576 => (if t576 = true then (if bt570.2.2 = bt537.2.2 then ((laws_heldMeeting.f k bt548.1 bt563.2 1).bind fun t577 => (if t577 < 0 then (some false) else (if t577 = bt563.1 then (some true) else (some false)))) else (some false)) else (some false))))) else (some false))))) else (some false))))) else (some false)))) else (some false)) else (some false)))))) = some r := H
   have A10 := Aside0.mk A100
   clear A100
   replace H := Option.bind_eq_some_iff.mp H
   obtain ⟨⟨t537, t538, t541⟩, A110, H⟩ := H
   replace H : ((laws_toMeeting.f k a0_0 l0_1).bind fun bt543 => ((impl_AddMotion.f k bt543.1 bt543.2 a1).bind fun bt548 => ((laws_eqMeeting.f k bt548.1 bt548.2.1 t537 t538).bind fun t554 => (if t554 = true then (if bt548.2.2 = t541 then ((laws_toMeeting.f k a0_0 l0_1).bind fun bt555 => ((laws_eqMeeting.f k bt543.1 bt543.2 bt555.1 bt555.2).bind fun t559 => (if t559 = true then ((laws_markMeeting.f k bt543.1 bt543.2 1).bind fun bt560 => (if bt560.1 < 0 then (some false) else ((laws_eqMeeting.f k bt548.1 bt548.2.1 t537 t538).bind fun t562 => (if t562 = true then ((laws_markMeeting.f k bt548.1 bt548.2.1 1).bind fun bt563 => ((laws_heldMeeting.f k bt548.1 bt563.2 1).bind fun t565 => (if t565 < 0 then (some false) else (if t565 = bt563.1 then ((laws_toMeeting.f k a0_0 l0_1).bind fun bt566 => ((impl_AddMotion.f k bt566.1 bt566.2 a1).bind fun bt570 => ((laws_eqMeeting.f k bt570.1 bt570.2.1 t537 t538).bind fun t576 => (if t576 = true then (if bt570.2.2 = t541 then ((laws_heldMeeting.f k bt548.1 bt563.2 1).bind fun t577 => (if t577 < 0 then (some false) else (if t577 = bt563.1 then (some true) else (some false)))) else (some false)) else (some false))))) else (some false))))) else (some false))))) else (some false)))) else (some false)) else (some false))))) = some r := H
   have A11 := Aside0.mk A110
   clear A110
   replace H := Option.bind_eq_some_iff.mp H
   obtain ⟨⟨t543, t544⟩, A120, H⟩ := H
   replace H : ((impl_AddMotion.f k t543 t544 a1).bind fun bt548 => ((laws_eqMeeting.f k bt548.1 bt548.2.1 t537 t538).bind fun t554 => (if t554 = true then (if bt548.2.2 = t541 then ((laws_toMeeting.f k a0_0 l0_1).bind fun bt555 => ((laws_eqMeeting.f k t543 t544 bt555.1 bt555.2).bind fun t559 => (if t559 = true then ((laws_markMeeting.f k t543 t544 1).bind fun bt560 => (if bt560.1 < 0 then (some false) else ((laws_eqMeeting.f k bt548.1 bt548.2.1 t537 t538).bind fun t562 => (if t562 = true then ((laws_markMeeting.f k bt548.1 bt548.2.1 1).bind fun bt563 => ((laws_heldMeeting.f k bt548.1 bt563.2 1).bind fun t565 => (if t565 < 0 then (some false) else (if t565 = bt563.1 then ((laws_toMeeting.f k a0_0 l0_1).bind fun bt566 => ((impl_AddMotion.f k bt566.1 bt566.2 a1).bind fun bt570 => ((laws_eqMeeting.f k bt570.1 bt570.2.1 t537 t538).bind fun t576 => (if t576 = true then (if bt570.2.2 = t541 then ((laws_heldMeeting.f k bt548.1 bt563.2 1).bind fun t577 => (if t577 < 0 then (some false) else (if t577 = bt563.1 then (some true) else (some false)))) else (some false)) else (some false))))) else (some false))))) else (some false))))) else (some false)))) else (some false)) else (some false)))) = some r := H
   have A12 := Aside0.mk A120
   clear A120
   replace H := Option.bind_eq_some_iff.mp H
   obtain ⟨⟨t548, t549, t552⟩, A130, H⟩ := H
   replace H : ((laws_eqMeeting.f k t548 t549 t537 t538).bind fun t554 => (if t554 = true then (if t552 = t541 then ((laws_toMeeting.f k a0_0 l0_1).bind fun bt555 => ((laws_eqMeeting.f k t543 t544 bt555.1 bt555.2).bind fun t559 => (if t559 = true then ((laws_markMeeting.f k t543 t544 1).bind fun bt560 => (if bt560.1 < 0 then (some false) else ((laws_eqMeeting.f k t548 t549 t537 t538).bind fun t562 => (if t562 = true then ((laws_markMeeting.f k t548 t549 1).bind fun bt563 => ((laws_heldMeeting.f k t548 bt563.2 1).bind fun t565 => (if t565 < 0 then (some false) else (if t565 = bt563.1 then ((laws_toMeeting.f k a0_0 l0_1).bind fun bt566 => ((impl_AddMotion.f k bt566.1 bt566.2 a1).bind fun bt570 => ((laws_eqMeeting.f k bt570.1 bt570.2.1 t537 t538).bind fun t576 => (if t576 = true then (if bt570.2.2 = t541 then ((laws_heldMeeting.f k t548 bt563.2 1).bind fun t577 => (if t577 < 0 then (some false) else (if t577 = bt563.1 then (some true) else (some false)))) else (some false)) else (some false))))) else (some false))))) else (some false))))) else (some false)))) else (some false)) else (some false))) = some r := H
   have A13 := Aside0.mk A130
   clear A130
   replace H := Option.bind_eq_some_iff.mp H
   obtain ⟨t554, A140, H⟩ := H
   replace H : (if t554 = true then (if t552 = t541 then ((laws_toMeeting.f k a0_0 l0_1).bind fun bt555 => ((laws_eqMeeting.f k t543 t544 bt555.1 bt555.2).bind fun t559 => (if t559 = true then ((laws_markMeeting.f k t543 t544 1).bind fun bt560 => (if bt560.1 < 0 then (some false) else ((laws_eqMeeting.f k t548 t549 t537 t538).bind fun t562 => (if t562 = true then ((laws_markMeeting.f k t548 t549 1).bind fun bt563 => ((laws_heldMeeting.f k t548 bt563.2 1).bind fun t565 => (if t565 < 0 then (some false) else (if t565 = bt563.1 then ((laws_toMeeting.f k a0_0 l0_1).bind fun bt566 => ((impl_AddMotion.f k bt566.1 bt566.2 a1).bind fun bt570 => ((laws_eqMeeting.f k bt570.1 bt570.2.1 t537 t538).bind fun t576 => (if t576 = true then (if bt570.2.2 = t541 then ((laws_heldMeeting.f k t548 bt563.2 1).bind fun t577 => (if t577 < 0 then (some false) else (if t577 = bt563.1 then (some true) else (some false)))) else (some false)) else (some false))))) else (some false))))) else (some false))))) else (some false)))) else (some false)) else (some false)) = some r := H
   have A14 := Aside0.mk A140
   clear A140
   by_cases c15 : t554 = true
   ·subst c15
    have H1 : (if t552 = t541 then ((laws_toMeeting.f k a0_0 l0_1).bind fun bt555 => ((laws_eqMeeting.f k t543 t544 bt555.1 bt555.2).bind fun t559 => (if t559 = true then ((laws_markMeeting.f k t543 t544 1).bind fun bt560 => (if bt560.1 < 0 then (some false) else ((laws_eqMeeting.f k t548 t549 t537 t538).bind fun t562 => (if t562 = true then ((laws_markMeeting.f k t548 t549 1).bind fun bt563 => ((laws_heldMeeting.f k t548 bt563.2 1).bind fun t565 => (if t565 < 0 then (some false) else (if t565 = bt563.1 then ((laws_toMeeting.f k a0_0 l0_1).bind fun bt566 => ((impl_AddMotion.f k bt566.1 bt566.2 a1).bind fun bt570 => ((laws_eqMeeting.f k bt570.1 bt570.2.1 t537 t538).bind fun t576 => (if t576 = true then (if bt570.2.2 = t541 then ((laws_heldMeeting.f k t548 bt563.2 1).bind fun t577 => (if t577 < 0 then (some false) else (if t577 = bt563.1 then (some true) else (some false)))) else (some false)) else (some false))))) else (some false))))) else (some false))))) else (some false)))) else (some false)) = some r := by rw [if_pos rfl] at H; exact H
    clear H
    have H := H1
    clear H1
    by_cases c16 : t552 = t541
    ·rw [if_pos c16] at H
     have c16b0 : (t552 == t541) = true := beq_iff_eq.mpr c16
     have c16b1 : (t552 != t541) = false := bne_eq_false_iff_eq.mpr c16
     clear c16
     replace H := Option.bind_eq_some_iff.mp H
     obtain ⟨⟨t555, t556⟩, A170, H⟩ := H
     replace H : ((laws_eqMeeting.f k t543 t544 t555 t556).bind fun t559 => (if t559 = true then ((laws_markMeeting.f k t543 t544 1).bind fun bt560 => (if bt560.1 < 0 then (some false) else ((laws_eqMeeting.f k t548 t549 t537 t538).bind fun t562 => (if t562 = true then ((laws_markMeeting.f k t548 t549 1).bind fun bt563 => ((laws_heldMeeting.f k t548 bt563.2 1).bind fun t565 => (if t565 < 0 then (some false) else (if t565 = bt563.1 then ((laws_toMeeting.f k a0_0 l0_1).bind fun bt566 => ((impl_AddMotion.f k bt566.1 bt566.2 a1).bind fun bt570 => ((laws_eqMeeting.f k bt570.1 bt570.2.1 t537 t538).bind fun t576 => (if t576 = true then (if bt570.2.2 = t541 then ((laws_heldMeeting.f k t548 bt563.2 1).bind fun t577 => (if t577 < 0 then (some false) else (if t577 = bt563.1 then (some true) else (some false)))) else (some false)) else (some false))))) else (some false))))) else (some false))))) else (some false))) = some r := H
     have A17 := Aside0.mk A170
     clear A170
     replace H := Option.bind_eq_some_iff.mp H
     obtain ⟨t559, A180, H⟩ := H
     replace H : (if t559 = true then ((laws_markMeeting.f k t543 t544 1).bind fun bt560 => (if bt560.1 < 0 then (some false) else ((laws_eqMeeting.f k t548 t549 t537 t538).bind fun t562 => (if t562 = true then ((laws_markMeeting.f k t548 t549 1).bind fun bt563 => ((laws_heldMeeting.f k t548 bt563.2 1).bind fun t565 => (if t565 < 0 then (some false) else (if t565 = bt563.1 then ((laws_toMeeting.f k a0_0 l0_1).bind fun bt566 => ((impl_AddMotion.f k bt566.1 bt566.2 a1).bind fun bt570 => ((laws_eqMeeting.f k bt570.1 bt570.2.1 t537 t538).bind fun t576 => (if t576 = true then (if bt570.2.2 = t541 then ((laws_heldMeeting.f k t548 bt563.2 1).bind fun t577 => (if t577 < 0 then (some false) else (if t577 = bt563.1 then (some true) else (some false)))) else (some false)) else (some false))))) else (some false))))) else (some false))))) else (some false)) = some r := H
     have A18 := Aside0.mk A180
     clear A180
     by_cases c19 : t559 = true
     ·subst c19
      have H1 : ((laws_markMeeting.f k t543 t544 1).bind fun bt560 => (if bt560.1 < 0 then (some false) else ((laws_eqMeeting.f k t548 t549 t537 t538).bind fun t562 => (if t562 = true then ((laws_markMeeting.f k t548 t549 1).bind fun bt563 => ((laws_heldMeeting.f k t548 bt563.2 1).bind fun t565 => (if t565 < 0 then (some false) else (if t565 = bt563.1 then ((laws_toMeeting.f k a0_0 l0_1).bind fun bt566 => ((impl_AddMotion.f k bt566.1 bt566.2 a1).bind fun bt570 => ((laws_eqMeeting.f k bt570.1 bt570.2.1 t537 t538).bind fun t576 => (if t576 = true then (if bt570.2.2 = t541 then ((laws_heldMeeting.f k t548 bt563.2 1).bind fun t577 => (if t577 < 0 then (some false) else (if t577 = bt563.1 then (some true) else (some false)))) else (some false)) else (some false))))) else (some false))))) else (some false))))) = some r := by rw [if_pos rfl] at H; exact H
      clear H
      have H := H1
      clear H1
      replace H := Option.bind_eq_some_iff.mp H
      obtain ⟨⟨t560, t561⟩, A200, H⟩ := H
      replace H : (if t560 < 0 then (some false) else ((laws_eqMeeting.f k t548 t549 t537 t538).bind fun t562 => (if t562 = true then ((laws_markMeeting.f k t548 t549 1).bind fun bt563 => ((laws_heldMeeting.f k t548 bt563.2 1).bind fun t565 => (if t565 < 0 then (some false) else (if t565 = bt563.1 then ((laws_toMeeting.f k a0_0 l0_1).bind fun bt566 => ((impl_AddMotion.f k bt566.1 bt566.2 a1).bind fun bt570 => ((laws_eqMeeting.f k bt570.1 bt570.2.1 t537 t538).bind fun t576 => (if t576 = true then (if bt570.2.2 = t541 then ((laws_heldMeeting.f k t548 bt563.2 1).bind fun t577 => (if t577 < 0 then (some false) else (if t577 = bt563.1 then (some true) else (some false)))) else (some false)) else (some false))))) else (some false))))) else (some false)))) = some r := H
      have A20 := Aside0.mk A200
      clear A200
      by_cases c21 : t560 < 0
      ·rw [if_pos c21] at H
       have c21b0 : decide (t560 < 0) = true := decide_eq_true c21
       clear c21
       exact absurd (Option.some.inj H) (by rw [hr_.out]; decide)
      ·rw [if_neg c21] at H
       have c21b0 : decide (t560 < 0) = false := decide_eq_false c21
       clear c21
       replace H := Option.bind_eq_some_iff.mp H
       obtain ⟨t562, A220, H⟩ := H
       replace H : (if t562 = true then ((laws_markMeeting.f k t548 t549 1).bind fun bt563 => ((laws_heldMeeting.f k t548 bt563.2 1).bind fun t565 => (if t565 < 0 then (some false) else (if t565 = bt563.1 then ((laws_toMeeting.f k a0_0 l0_1).bind fun bt566 => ((impl_AddMotion.f k bt566.1 bt566.2 a1).bind fun bt570 => ((laws_eqMeeting.f k bt570.1 bt570.2.1 t537 t538).bind fun t576 => (if t576 = true then (if bt570.2.2 = t541 then ((laws_heldMeeting.f k t548 bt563.2 1).bind fun t577 => (if t577 < 0 then (some false) else (if t577 = bt563.1 then (some true) else (some false)))) else (some false)) else (some false))))) else (some false))))) else (some false)) = some r := H
       have A22 := Aside0.mk A220
       clear A220
       by_cases c23 : t562 = true
       ·subst c23
        have H1 : ((laws_markMeeting.f k t548 t549 1).bind fun bt563 => ((laws_heldMeeting.f k t548 bt563.2 1).bind fun t565 => (if t565 < 0 then (some false) else (if t565 = bt563.1 then ((laws_toMeeting.f k a0_0 l0_1).bind fun bt566 => ((impl_AddMotion.f k bt566.1 bt566.2 a1).bind fun bt570 => ((laws_eqMeeting.f k bt570.1 bt570.2.1 t537 t538).bind fun t576 => (if t576 = true then (if bt570.2.2 = t541 then ((laws_heldMeeting.f k t548 bt563.2 1).bind fun t577 => (if t577 < 0 then (some false) else (if t577 = bt563.1 then (some true) else (some false)))) else (some false)) else (some false))))) else (some false))))) = some r := by rw [if_pos rfl] at H; exact H
        clear H
        have H := H1
        clear H1
        replace H := Option.bind_eq_some_iff.mp H
        obtain ⟨⟨t563, t564⟩, A240, H⟩ := H
        replace H : ((laws_heldMeeting.f k t548 t564 1).bind fun t565 => (if t565 < 0 then (some false) else (if t565 = t563 then ((laws_toMeeting.f k a0_0 l0_1).bind fun bt566 => ((impl_AddMotion.f k bt566.1 bt566.2 a1).bind fun bt570 => ((laws_eqMeeting.f k bt570.1 bt570.2.1 t537 t538).bind fun t576 => (if t576 = true then (if bt570.2.2 = t541 then ((laws_heldMeeting.f k t548 t564 1).bind fun t577 => (if t577 < 0 then (some false) else (if t577 = t563 then (some true) else (some false)))) else (some false)) else (some false))))) else (some false)))) = some r := H
        have A24 := Aside0.mk A240
        clear A240
        replace H := Option.bind_eq_some_iff.mp H
        obtain ⟨t565, A250, H⟩ := H
        replace H : (if t565 < 0 then (some false) else (if t565 = t563 then ((laws_toMeeting.f k a0_0 l0_1).bind fun bt566 => ((impl_AddMotion.f k bt566.1 bt566.2 a1).bind fun bt570 => ((laws_eqMeeting.f k bt570.1 bt570.2.1 t537 t538).bind fun t576 => (if t576 = true then (if bt570.2.2 = t541 then ((laws_heldMeeting.f k t548 t564 1).bind fun t577 => (if t577 < 0 then (some false) else (if t577 = t563 then (some true) else (some false)))) else (some false)) else (some false))))) else (some false))) = some r := H
        have A25 := Aside0.mk A250
        clear A250
        by_cases c26 : t565 < 0
        ·rw [if_pos c26] at H
         have c26b0 : decide (t565 < 0) = true := decide_eq_true c26
         clear c26
         exact absurd (Option.some.inj H) (by rw [hr_.out]; decide)
        ·rw [if_neg c26] at H
         have c26b0 : decide (t565 < 0) = false := decide_eq_false c26
         clear c26
         by_cases c27 : t565 = t563
         ·rw [if_pos c27] at H
          have c27b0 : (t565 == t563) = true := beq_iff_eq.mpr c27
          have c27b1 : (t565 != t563) = false := bne_eq_false_iff_eq.mpr c27
          clear c27
          replace H := Option.bind_eq_some_iff.mp H
          obtain ⟨⟨t566, t567⟩, A280, H⟩ := H
          replace H : ((impl_AddMotion.f k t566 t567 a1).bind fun bt570 => ((laws_eqMeeting.f k bt570.1 bt570.2.1 t537 t538).bind fun t576 => (if t576 = true then (if bt570.2.2 = t541 then ((laws_heldMeeting.f k t548 t564 1).bind fun t577 => (if t577 < 0 then (some false) else (if t577 = t563 then (some true) else (some false)))) else (some false)) else (some false)))) = some r := H
          have A28 := Aside0.mk A280
          clear A280
          replace H := Option.bind_eq_some_iff.mp H
          obtain ⟨⟨t570, t571, t574⟩, A290, H⟩ := H
          replace H : ((laws_eqMeeting.f k t570 t571 t537 t538).bind fun t576 => (if t576 = true then (if t574 = t541 then ((laws_heldMeeting.f k t548 t564 1).bind fun t577 => (if t577 < 0 then (some false) else (if t577 = t563 then (some true) else (some false)))) else (some false)) else (some false))) = some r := H
          have A29 := Aside0.mk A290
          clear A290
          replace H := Option.bind_eq_some_iff.mp H
          obtain ⟨t576, A300, H⟩ := H
          replace H : (if t576 = true then (if t574 = t541 then ((laws_heldMeeting.f k t548 t564 1).bind fun t577 => (if t577 < 0 then (some false) else (if t577 = t563 then (some true) else (some false)))) else (some false)) else (some false)) = some r := H
          have A30 := Aside0.mk A300
          clear A300
          by_cases c31 : t576 = true
          ·subst c31
           have H1 : (if t574 = t541 then ((laws_heldMeeting.f k t548 t564 1).bind fun t577 => (if t577 < 0 then (some false) else (if t577 = t563 then (some true) else (some false)))) else (some false)) = some r := by rw [if_pos rfl] at H; exact H
           clear H
           have H := H1
           clear H1
           by_cases c32 : t574 = t541
           ·rw [if_pos c32] at H
            have c32b0 : (t574 == t541) = true := beq_iff_eq.mpr c32
            have c32b1 : (t574 != t541) = false := bne_eq_false_iff_eq.mpr c32
            clear c32
            replace H := Option.bind_eq_some_iff.mp H
            obtain ⟨t577, A330, H⟩ := H
            replace H : (if t577 < 0 then (some false) else (if t577 = t563 then (some true) else (some false))) = some r := H
            have A33 := Aside0.mk A330
            clear A330
            by_cases c34 : t577 < 0
            ·rw [if_pos c34] at H
             have c34b0 : decide (t577 < 0) = true := decide_eq_true c34
             clear c34
             exact absurd (Option.some.inj H) (by rw [hr_.out]; decide)
            ·rw [if_neg c34] at H
             have c34b0 : decide (t577 < 0) = false := decide_eq_false c34
             clear c34
             by_cases c35 : t577 = t563
             ·rw [if_pos c35] at H
              have c35b0 : (t577 == t563) = true := beq_iff_eq.mpr c35
              have c35b1 : (t577 != t563) = false := bne_eq_false_iff_eq.mpr c35
              clear c35
              obtain rfl := Option.some.inj H
              go_enter Try.func10, Try.ntmps10
              try go_wp2_with (first | ((with_reducible refine gate_dst (N := 2) rfl ?_); refine box_event ?hg (N := 2) ?hd (cs := #[.int .i64 a0_0, .slice A0_1 l0_1.length c0_1]) (t := 24) ?hr ?_; (case hd => rfl); (case hg => rfl); (case hr => first | (go_simp; done) | (go_simp; rfl)); intro gb531 hg w36 hbox hb; have n0_ := Aside0.mk (below_step (by repeat (first | (with_reducible first | exact HB.out | apply below_alloc | apply pw_below_drewN | apply below_drew1) | exact HB.out)) hb); have n1_ := Aside0.mk (hbox); have n2_ := Aside0.mk ((by rw [hg]; exact (below_size (by repeat (first | (with_reducible first | exact HB.out | apply below_alloc | apply pw_below_drewN | apply below_drew1) | exact HB.out))) : w.heap.size ≤ gb531)); have n3_ := Aside0.mk ((by rw [hg]; exact (below_size (by repeat (first | (with_reducible first | exact HB.out | apply below_alloc | apply pw_below_drewN | apply below_drew1) | exact HB.out))) : w.heap.size ≤ gb531)); have n4_ := Aside0.mk ((by rw [hg]; first | exact HT.out | (repeat (first | exact HT.out | (rw [sz_set]) | (rw [sz_drewN]) | (refine Nat.le_trans ?_ (sz_alloc _ _)))) : w.heap.size ≤ gb531)); have n5_ := Aside0.mk ((blk_lt hbox : gb531 + 1 ≤ w36.heap.size)); clear HB; clear HT; have HB := n0_; have BK531 := n1_; have GW531 := n2_; have GE531 := n3_; have LEw36 := n4_; have HT := n5_; clear n0_ n1_ n2_ n3_ n4_ n5_; clear hb hbox hg; have hcz37_0 : w36.cell? ⟨gb531, 0, none⟩ = some (.int .i64 a0_0) := (blk_cell BK531.out 0).trans rfl; have hcz37_1 : w36.cell? ⟨gb531, 1, none⟩ = some (.slice A0_1 l0_1.length c0_1) := (blk_cell BK531.out 1).trans rfl; have hfz37_0 := blk_frozen BK531.out 0; have hfz37_1 := blk_frozen BK531.out 1) | ((with_reducible refine gate_callee (f := 14) rfl ?_); refine goesL_ (some 21) rfl rfl Try.func14 (by kernel_rfl) rfl #[.agg #[.int .i64 a0_0, .slice A0_1 l0_1.length c0_1], .int .i64 1048576] rfl (by (try simp only [List.map_toArray, List.map_cons, List.map_nil]); first | done | rfl | (simp only [List.length_drop, List.length_take]; rfl)) ?_; (with_reducible refine (laws_szMeeting.calls k a0_0 _ _ l0_1 1048576 t532 _ ?side1 ?side2 A5.out).mono ?_); (case side1 => repeat (first | exact (Kd.C_below HR0_1.out HB.out) | (with_reducible refine Kd.C_alloc ?_ _) | (with_reducible refine Kd.C_drewN ?_ _) | (with_reducible refine Kd.C_drew ?_))); (case side2 => exact HC0_1.out); rintro e w38 ⟨rfl, hb⟩; refine ⟨_, rfl, ?_⟩; have n0_ := Aside0.mk (blk_below (g := gb531) (o := .cells #[.int .i64 a0_0, .slice A0_1 l0_1.length c0_1] 24 (0, 0)) (by (with_reducible repeat (first | refine blk_drewN ?_ _ | refine blk_drew ?_ | refine blk_alloc ?_ _)); exact BK531.out) hb); have n1_ := Aside0.mk (Nat.le_trans (n := (gb531 + 1)) (by first | exact HT.out | (repeat (first | exact HT.out | (rw [sz_set]) | (rw [sz_drewN]) | (refine Nat.le_trans ?_ (sz_alloc _ _))))) hb.size); have n2_ := Aside0.mk (below_step (by repeat (first | (with_reducible first | exact HB.out | apply below_alloc | apply pw_below_drewN | apply below_drew1 | refine below_set ?_ GE531.out) | exact HB.out)) hb); clear BK531; clear HT; clear HB; have BK531 := n0_; have HT := n1_; have HB := n2_; clear n0_ n1_ n2_; (try clear hb); (try clear hb2); (try clear hk); (try clear hi); have hcz39_0 : w38.cell? ⟨gb531, 0, none⟩ = some (.int .i64 a0_0) := (blk_cell BK531.out 0).trans rfl; have hcz39_1 : w38.cell? ⟨gb531, 1, none⟩ = some (.slice A0_1 l0_1.length c0_1) := (blk_cell BK531.out 1).trans rfl; have hfz39_0 := blk_frozen BK531.out 0; have hfz39_1 := blk_frozen BK531.out 1) | ((with_reducible refine gate_callee (f := 16) rfl ?_); refine goesL_ (some 26) rfl rfl Try.func16 (by kernel_rfl) rfl #[.agg #[.int .i64 a0_0, .slice A0_1 l0_1.length c0_1]] rfl (by (try simp only [List.map_toArray, List.map_cons, List.map_nil]); first | done | rfl | (simp only [List.length_drop, List.length_take]; rfl)) ?_; (with_reducible refine (laws_toMeeting.calls k a0_0 _ _ l0_1 t533 t534 _ ?side1 ?side2 A10.out).mono ?_); (case side1 => repeat (first | exact (Kd.C_below HR0_1.out HB.out) | (with_reducible refine Kd.C_alloc ?_ _) | (with_reducible refine Kd.C_drewN ?_ _) | (with_reducible refine Kd.C_drew ?_))); (case side2 => exact HC0_1.out); rintro e w40 ⟨v535, rfl, ho0, hb⟩; refine ⟨_, rfl, ?_⟩; obtain ⟨lo536, hi536, hle_, hrn_⟩ := rngSL (a := (gb531 + 1)) ho0 hb (by first | exact HT.out | (repeat (first | exact HT.out | (rw [sz_set]) | (rw [sz_drewN]) | (refine Nat.le_trans ?_ (sz_alloc _ _))))) (below_size (by repeat (first | (with_reducible first | exact HB.out | apply below_alloc | apply pw_below_drewN | apply below_drew1 | refine below_set ?_ GE531.out) | exact HB.out))); have n0_ := Aside0.mk (hrn_); have n1_ := Aside0.mk (blk_below (g := gb531) (o := .cells #[.int .i64 a0_0, .slice A0_1 l0_1.length c0_1] 24 (0, 0)) (by (with_reducible repeat (first | refine blk_drewN ?_ _ | refine blk_drew ?_ | refine blk_alloc ?_ _)); exact BK531.out) hb); have n2_ := Aside0.mk (And.intro hle_.1 hle_.2.1); have n3_ := Aside0.mk (hle_.2.2); have n4_ := Aside0.mk (below_step (by repeat (first | (with_reducible first | exact HB.out | apply below_alloc | apply pw_below_drewN | apply below_drew1 | refine below_set ?_ GE531.out) | exact HB.out)) hb); clear BK531; clear HT; clear HB; have HO536 := n0_; have BK531 := n1_; have LEw40 := n2_; have HT := n3_; have HB := n4_; clear n0_ n1_ n2_ n3_ n4_; (try clear hb); (try clear hb2); (try clear hk); (try clear hi); (try clear ho0); (try clear hle_); (try clear hrn_); obtain ⟨Ao41, co41, eo41⟩ := Kd.S_slice HO536.out; subst eo41) | ((with_reducible refine gate_callee (f := 35) rfl ?_); refine goesL_ (some 28) rfl rfl Try.func35 (by kernel_rfl) rfl #[.agg #[.int .i64 t533, .slice Ao41 t534.length co41], .string a1] rfl (by (try simp only [List.map_toArray, List.map_cons, List.map_nil]); first | done | rfl | (simp only [List.length_drop, List.length_take]; rfl)) ?_; (with_reducible refine (spec_AddMotion.calls k t533 _ _ t534 a1 t537 t538 t541 _ ?side1 ?side2 A11.out).mono ?_); (case side1 => repeat (first | exact (Kd.S_reads' HO536.out).2.2 | (with_reducible refine Kd.C_alloc ?_ _) | (with_reducible refine Kd.C_drewN ?_ _) | (with_reducible refine Kd.C_drew ?_))); (case side2 => exact (Kd.S_reads' HO536.out).2.1); rintro e w42 ⟨v539, rfl, ho0, hb⟩; refine ⟨_, rfl, ?_⟩; obtain ⟨lo540, hi540, hle_, hrn_⟩ := rngSL (a := hi536) ho0 hb (by first | exact HT.out | (repeat (first | exact HT.out | (rw [sz_set]) | (rw [sz_drewN]) | (refine Nat.le_trans ?_ (sz_alloc _ _))))) (below_size (by repeat (first | (with_reducible first | exact HB.out | apply below_alloc | apply pw_below_drewN | apply below_drew1 | refine below_set ?_ GE531.out) | exact HB.out))); have n0_ := Aside0.mk (Kd.S_below (by (with_reducible repeat (first | apply Kd.S_alloc | apply Kd.S_drewN | apply Kd.S_drew)); exact HO536.out) hb); have n1_ := Aside0.mk (hrn_); have n2_ := Aside0.mk (blk_below (g := gb531) (o := .cells #[.int .i64 a0_0, .slice A0_1 l0_1.length c0_1] 24 (0, 0)) (by (with_reducible repeat (first | refine blk_drewN ?_ _ | refine blk_drew ?_ | refine blk_alloc ?_ _)); exact BK531.out) hb); have n3_ := Aside0.mk (And.intro hle_.1 hle_.2.1); have n4_ := Aside0.mk (hle_.2.2); have n5_ := Aside0.mk (below_step (by repeat (first | (with_reducible first | exact HB.out | apply below_alloc | apply pw_below_drewN | apply below_drew1 | refine below_set ?_ GE531.out) | exact HB.out)) hb); clear HO536; clear BK531; clear HT; clear HB; have HO536 := n0_; have HO540 := n1_; have BK531 := n2_; have LEw42 := n3_; have HT := n4_; have HB := n5_; clear n0_ n1_ n2_ n3_ n4_ n5_; (try clear hb); (try clear hb2); (try clear hk); (try clear hi); (try clear ho0); (try clear hle_); (try clear hrn_)) | ((with_reducible refine gate_dst (N := 6) rfl ?_); refine box_event ?hg (N := 6) ?hd (cs := #[.int .i64 0, .slice none 0 0]) (t := 29) ?hr ?_; (case hd => rfl); (case hg => rfl); (case hr => first | (go_simp; done) | (go_simp; rfl)); intro gb542 hg w43 hbox hb; have n0_ := Aside0.mk (Kd.S_below (by (with_reducible repeat (first | apply Kd.S_alloc | apply Kd.S_drewN | apply Kd.S_drew)); exact HO536.out) hb); have n1_ := Aside0.mk (Kd.S_below (by (with_reducible repeat (first | apply Kd.S_alloc | apply Kd.S_drewN | apply Kd.S_drew)); exact HO540.out) hb); have n2_ := Aside0.mk (blk_below (g := gb531) (o := .cells #[.int .i64 a0_0, .slice A0_1 l0_1.length c0_1] 24 (0, 0)) (by (with_reducible repeat (first | refine blk_drewN ?_ _ | refine blk_drew ?_ | refine blk_alloc ?_ _)); exact BK531.out) hb); have n3_ := Aside0.mk (below_step (by repeat (first | (with_reducible first | exact HB.out | apply below_alloc | apply pw_below_drewN | apply below_drew1 | refine below_set ?_ GE531.out) | exact HB.out)) hb); have n4_ := Aside0.mk (hbox); have n5_ := Aside0.mk ((by rw [hg]; exact (below_size (by repeat (first | (with_reducible first | exact HB.out | apply below_alloc | apply pw_below_drewN | apply below_drew1 | refine below_set ?_ GE531.out) | exact HB.out))) : w.heap.size ≤ gb542)); have n6_ := Aside0.mk ((by rw [hg]; exact (below_size (by repeat (first | (with_reducible first | exact HB.out | apply below_alloc | apply pw_below_drewN | apply below_drew1 | refine below_set ?_ GE531.out) | exact HB.out))) : w.heap.size ≤ gb542)); have n7_ := Aside0.mk ((by rw [hg]; exact Nat.ne_of_lt (blk_lt (g := gb531) (o := .cells #[.int .i64 a0_0, .slice A0_1 l0_1.length c0_1] 24 (0, 0)) (by (with_reducible repeat (first | refine blk_drewN ?_ _ | refine blk_drew ?_ | refine blk_alloc ?_ _)); exact BK531.out)) : gb531 ≠ gb542)); have n8_ := Aside0.mk ((by rw [hg]; exact Nat.ne_of_gt (blk_lt (g := gb531) (o := .cells #[.int .i64 a0_0, .slice A0_1 l0_1.length c0_1] 24 (0, 0)) (by (with_reducible repeat (first | refine blk_drewN ?_ _ | refine blk_drew ?_ | refine blk_alloc ?_ _)); exact BK531.out)) : gb542 ≠ gb531)); have n9_ := Aside0.mk ((by rw [hg]; first | exact HT.out | (repeat (first | exact HT.out | (rw [sz_set]) | (rw [sz_drewN]) | (refine Nat.le_trans ?_ (sz_alloc _ _)))) : hi540 ≤ gb542)); have n10_ := Aside0.mk ((blk_lt hbox : gb542 + 1 ≤ w43.heap.size)); clear HO536; clear HO540; clear BK531; clear HB; clear HT; have HO536 := n0_; have HO540 := n1_; have BK531 := n2_; have HB := n3_; have BK542 := n4_; have GW542 := n5_; have GE542 := n6_; have NB531_542 := n7_; have NB542_531 := n8_; have LEw43 := n9_; have HT := n10_; clear n0_ n1_ n2_ n3_ n4_ n5_ n6_ n7_ n8_ n9_ n10_; clear hb hbox hg; have hnb44 := NB542_531.out; have hnc44 := NB531_542.out; have hcz45_0 : w43.cell? ⟨gb542, 0, none⟩ = some (.int .i64 0) := (blk_cell BK542.out 0).trans rfl; have hcz45_1 : w43.cell? ⟨gb542, 1, none⟩ = some (.slice none 0 0) := (blk_cell BK542.out 1).trans rfl; have hfz45_0 := blk_frozen BK542.out 0; have hfz45_1 := blk_frozen BK542.out 1; obtain ⟨Ao46, co46, eo46⟩ := Kd.S_slice HO540.out; subst eo46; have hcz47_0 : w43.cell? ⟨gb531, 0, none⟩ = some (.int .i64 a0_0) := (blk_cell BK531.out 0).trans rfl; have hcz47_1 : w43.cell? ⟨gb531, 1, none⟩ = some (.slice A0_1 l0_1.length c0_1) := (blk_cell BK531.out 1).trans rfl; have hfz47_0 := blk_frozen BK531.out 0; have hfz47_1 := blk_frozen BK531.out 1) | ((with_reducible refine gate_callee (f := 16) rfl ?_); refine goesL_ (some 32) rfl rfl Try.func16 (by kernel_rfl) rfl #[.agg #[.int .i64 a0_0, .slice A0_1 l0_1.length c0_1]] rfl (by (try simp only [List.map_toArray, List.map_cons, List.map_nil]); first | done | rfl | (simp only [List.length_drop, List.length_take]; rfl)) ?_; (with_reducible refine (laws_toMeeting.calls k a0_0 _ _ l0_1 t543 t544 _ ?side1 ?side2 A12.out).mono ?_); (case side1 => exact Kd.C_below HR0_1.out (by repeat (first | (with_reducible first | exact HB.out | apply below_alloc | apply pw_below_drewN | apply below_drew1 | refine below_set ?_ GE531.out | refine below_set ?_ GE542.out) | exact HB.out))); (case side2 => exact HC0_1.out); rintro e w48 ⟨v545, rfl, ho0, hb⟩; refine ⟨_, rfl, ?_⟩; obtain ⟨lo546, hi546, hle_, hrn_⟩ := rngSL (a := (gb542 + 1)) ho0 hb (by first | exact HT.out | (repeat (first | exact HT.out | (rw [sz_set]) | (rw [sz_drewN]) | (refine Nat.le_trans ?_ (sz_alloc _ _))))) (below_size (by repeat (first | (with_reducible first | exact HB.out | apply below_alloc | apply pw_below_drewN | apply below_drew1 | refine below_set ?_ GE531.out | refine below_set ?_ GE542.out) | exact HB.out))); have n0_ := Aside0.mk (Kd.S_below (by (with_reducible repeat (first | apply Kd.S_alloc | apply Kd.S_drewN | apply Kd.S_drew)); exact (Kd.S_mono (Kd.S_far (p := ⟨gb542, 1, none⟩) (Kd.S_far (p := ⟨gb542, 0, none⟩) (Kd.S_types HO536.out BK542.out (by decide)) (fun _ hk => hk.2) (.int .i64 t537)) (fun _ hk => hk.2) (.slice Ao46 t538.length co46)) (fun _ h_ => h_.1))) hb); have n1_ := Aside0.mk (Kd.S_below (by (with_reducible repeat (first | apply Kd.S_alloc | apply Kd.S_drewN | apply Kd.S_drew)); exact (Kd.S_mono (Kd.S_far (p := ⟨gb542, 1, none⟩) (Kd.S_far (p := ⟨gb542, 0, none⟩) (Kd.S_types HO540.out BK542.out (by decide)) (fun _ hk => hk.2) (.int .i64 t537)) (fun _ hk => hk.2) (.slice Ao46 t538.length co46)) (fun _ h_ => h_.1))) hb); have n2_ := Aside0.mk (hrn_); have n3_ := Aside0.mk (blk_below (g := gb531) (o := .cells #[.int .i64 a0_0, .slice A0_1 l0_1.length c0_1] 24 (0, 0)) (by (with_reducible repeat (first | refine blk_drewN ?_ _ | refine blk_drew ?_ | refine blk_alloc ?_ _)); refine blk_far ?_ NB531_542.out _; (with_reducible repeat (first | refine blk_drewN ?_ _ | refine blk_drew ?_ | refine blk_alloc ?_ _)); refine blk_far ?_ NB531_542.out _; (with_reducible repeat (first | refine blk_drewN ?_ _ | refine blk_drew ?_ | refine blk_alloc ?_ _)); exact BK531.out) hb); have n4_ := Aside0.mk (blk_below (g := gb542) (o := .cells #[.int .i64 t537, .slice Ao46 t538.length co46] 29 (0, 0)) (by (with_reducible repeat (first | refine blk_drewN ?_ _ | refine blk_drew ?_ | refine blk_alloc ?_ _)); refine blk_put (cs := #[.int .i64 t537, .slice none 0 0]) ?_ 1 _ rfl; (with_reducible repeat (first | refine blk_drewN ?_ _ | refine blk_drew ?_ | refine blk_alloc ?_ _)); refine blk_put (cs := #[.int .i64 0, .slice none 0 0]) ?_ 0 _ rfl; (with_reducible repeat (first | refine blk_drewN ?_ _ | refine blk_drew ?_ | refine blk_alloc ?_ _)); exact BK542.out) hb); have n5_ := Aside0.mk (And.intro hle_.1 hle_.2.1); have n6_ := Aside0.mk (hle_.2.2); have n7_ := Aside0.mk (below_step (by repeat (first | (with_reducible first | exact HB.out | apply below_alloc | apply pw_below_drewN | apply below_drew1 | refine below_set ?_ GE531.out | refine below_set ?_ GE542.out) | exact HB.out)) hb); clear HO536; clear HO540; clear BK531; clear BK542; clear HT; clear HB; have HO536 := n0_; have HO540 := n1_; have HO546 := n2_; have BK531 := n3_; have BK542 := n4_; have LEw48 := n5_; have HT := n6_; have HB := n7_; clear n0_ n1_ n2_ n3_ n4_ n5_ n6_ n7_; (try clear hb); (try clear hb2); (try clear hk); (try clear hi); (try clear ho0); (try clear hle_); (try clear hrn_)) | ((with_reducible refine gate_dst (N := 8) rfl ?_); refine box_event ?hg (N := 8) ?hd (cs := #[.int .i64 0, .slice none 0 0]) (t := 29) ?hr ?_; (case hd => rfl); (case hg => rfl); (case hr => first | (go_simp; done) | (go_simp; rfl)); intro gb547 hg w49 hbox hb; have n0_ := Aside0.mk (Kd.S_below (by (with_reducible repeat (first | apply Kd.S_alloc | apply Kd.S_drewN | apply Kd.S_drew)); exact HO536.out) hb); have n1_ := Aside0.mk (Kd.S_below (by (with_reducible repeat (first | apply Kd.S_alloc | apply Kd.S_drewN | apply Kd.S_drew)); exact HO540.out) hb); have n2_ := Aside0.mk (Kd.S_below (by (with_reducible repeat (first | apply Kd.S_alloc | apply Kd.S_drewN | apply Kd.S_drew)); exact HO546.out) hb); have n3_ := Aside0.mk (blk_below (g := gb531) (o := .cells #[.int .i64 a0_0, .slice A0_1 l0_1.length c0_1] 24 (0, 0)) (by (with_reducible repeat (first | refine blk_drewN ?_ _ | refine blk_drew ?_ | refine blk_alloc ?_ _)); exact BK531.out) hb); have n4_ := Aside0.mk (blk_below (g := gb542) (o := .cells #[.int .i64 t537, .slice Ao46 t538.length co46] 29 (0, 0)) (by (with_reducible repeat (first | refine blk_drewN ?_ _ | refine blk_drew ?_ | refine blk_alloc ?_ _)); exact BK542.out) hb); have n5_ := Aside0.mk (below_step (by repeat (first | (with_reducible first | exact HB.out | apply below_alloc | apply pw_below_drewN | apply below_drew1 | refine below_set ?_ GE531.out | refine below_set ?_ GE542.out) | exact HB.out)) hb); have n6_ := Aside0.mk (hbox); have n7_ := Aside0.mk ((by rw [hg]; exact (below_size (by repeat (first | (with_reducible first | exact HB.out | apply below_alloc | apply pw_below_drewN | apply below_drew1 | refine below_set ?_ GE531.out | refine below_set ?_ GE542.out) | exact HB.out))) : w.heap.size ≤ gb547)); have n8_ := Aside0.mk ((by rw [hg]; exact (below_size (by repeat (first | (with_reducible first | exact HB.out | apply below_alloc | apply pw_below_drewN | apply below_drew1 | refine below_set ?_ GE531.out | refine below_set ?_ GE542.out) | exact HB.out))) : w.heap.size ≤ gb547)); have n9_ := Aside0.mk ((by rw [hg]; exact Nat.ne_of_lt (blk_lt (g := gb531) (o := .cells #[.int .i64 a0_0, .slice A0_1 l0_1.length c0_1] 24 (0, 0)) (by (with_reducible repeat (first | refine blk_drewN ?_ _ | refine blk_drew ?_ | refine blk_alloc ?_ _)); exact BK531.out)) : gb531 ≠ gb547)); have n10_ := Aside0.mk ((by rw [hg]; exact Nat.ne_of_gt (blk_lt (g := gb531) (o := .cells #[.int .i64 a0_0, .slice A0_1 l0_1.length c0_1] 24 (0, 0)) (by (with_reducible repeat (first | refine blk_drewN ?_ _ | refine blk_drew ?_ | refine blk_alloc ?_ _)); exact BK531.out)) : gb547 ≠ gb531)); have n11_ := Aside0.mk ((by rw [hg]; exact Nat.ne_of_lt (blk_lt (g := gb542) (o := .cells #[.int .i64 t537, .slice Ao46 t538.length co46] 29 (0, 0)) (by (with_reducible repeat (first | refine blk_drewN ?_ _ | refine blk_drew ?_ | refine blk_alloc ?_ _)); exact BK542.out)) : gb542 ≠ gb547)); have n12_ := Aside0.mk ((by rw [hg]; exact Nat.ne_of_gt (blk_lt (g := gb542) (o := .cells #[.int .i64 t537, .slice Ao46 t538.length co46] 29 (0, 0)) (by (with_reducible repeat (first | refine blk_drewN ?_ _ | refine blk_drew ?_ | refine blk_alloc ?_ _)); exact BK542.out)) : gb547 ≠ gb542)); have n13_ := Aside0.mk ((by rw [hg]; first | exact HT.out | (repeat (first | exact HT.out | (rw [sz_set]) | (rw [sz_drewN]) | (refine Nat.le_trans ?_ (sz_alloc _ _)))) : hi546 ≤ gb547)); have n14_ := Aside0.mk ((blk_lt hbox : gb547 + 1 ≤ w49.heap.size)); clear HO536; clear HO540; clear HO546; clear BK531; clear BK542; clear HB; clear HT; have HO536 := n0_; have HO540 := n1_; have HO546 := n2_; have BK531 := n3_; have BK542 := n4_; have HB := n5_; have BK547 := n6_; have GW547 := n7_; have GE547 := n8_; have NB531_547 := n9_; have NB547_531 := n10_; have NB542_547 := n11_; have NB547_542 := n12_; have LEw49 := n13_; have HT := n14_; clear n0_ n1_ n2_ n3_ n4_ n5_ n6_ n7_ n8_ n9_ n10_ n11_ n12_ n13_ n14_; clear hb hbox hg; have hnb50 := NB547_531.out; have hnc50 := NB531_547.out; have hnb51 := NB547_542.out; have hnc51 := NB542_547.out; have hcz52_0 : w49.cell? ⟨gb547, 0, none⟩ = some (.int .i64 0) := (blk_cell BK547.out 0).trans rfl; have hcz52_1 : w49.cell? ⟨gb547, 1, none⟩ = some (.slice none 0 0) := (blk_cell BK547.out 1).trans rfl; have hfz52_0 := blk_frozen BK547.out 0; have hfz52_1 := blk_frozen BK547.out 1; obtain ⟨Ao53, co53, eo53⟩ := Kd.S_slice HO546.out; subst eo53) | ((with_reducible refine gate_callee (f := 36) rfl ?_); refine goesL_ (some 36) rfl rfl Try.func36 (by kernel_rfl) rfl #[.agg #[.int .i64 t543, .slice Ao53 t544.length co53], .string a1] rfl (by (try simp only [List.map_toArray, List.map_cons, List.map_nil]); first | done | rfl | (simp only [List.length_drop, List.length_take]; rfl)) ?_; (with_reducible refine (impl_AddMotion.calls k t543 _ _ t544 a1 t548 t549 t552 _ ?side1 ?side2 A13.out).mono ?_); (case side1 => refine (Kd.S_reads' (e := 60) (base := w.heap.size) (ok := fun k_ => (lo546 ≤ k_ ∧ k_ < hi546)) (n := t544.length) (c := co53) ?_).2.2; exact (by (with_reducible repeat (first | apply Kd.S_alloc | apply Kd.S_drewN | apply Kd.S_drew)); exact (Kd.S_mono (Kd.S_far (p := ⟨gb547, 1, none⟩) (Kd.S_far (p := ⟨gb547, 0, none⟩) (Kd.S_types HO546.out BK547.out (by decide)) (fun _ hk => hk.2) (.int .i64 t543)) (fun _ hk => hk.2) (.slice Ao53 t544.length co53)) (fun _ h_ => h_.1)))); (case side2 => exact (Kd.S_reads' HO546.out).2.1); rintro e w54 ⟨v550, rfl, ho0, hb⟩; refine ⟨_, rfl, ?_⟩; obtain ⟨lo551, hi551, hle_, hrn_⟩ := rngSL (a := (gb547 + 1)) ho0 hb (by first | exact HT.out | (repeat (first | exact HT.out | (rw [sz_set]) | (rw [sz_drewN]) | (refine Nat.le_trans ?_ (sz_alloc _ _))))) (below_size (by repeat (first | (with_reducible first | exact HB.out | apply below_alloc | apply pw_below_drewN | apply below_drew1 | refine below_set ?_ GE531.out | refine below_set ?_ GE542.out | refine below_set ?_ GE547.out) | exact HB.out))); have n0_ := Aside0.mk (Kd.S_below (by (with_reducible repeat (first | apply Kd.S_alloc | apply Kd.S_drewN | apply Kd.S_drew)); exact (Kd.S_mono (Kd.S_far (p := ⟨gb547, 1, none⟩) (Kd.S_far (p := ⟨gb547, 0, none⟩) (Kd.S_types HO536.out BK547.out (by decide)) (fun _ hk => hk.2) (.int .i64 t543)) (fun _ hk => hk.2) (.slice Ao53 t544.length co53)) (fun _ h_ => h_.1))) hb); have n1_ := Aside0.mk (Kd.S_below (by (with_reducible repeat (first | apply Kd.S_alloc | apply Kd.S_drewN | apply Kd.S_drew)); exact (Kd.S_mono (Kd.S_far (p := ⟨gb547, 1, none⟩) (Kd.S_far (p := ⟨gb547, 0, none⟩) (Kd.S_types HO540.out BK547.out (by decide)) (fun _ hk => hk.2) (.int .i64 t543)) (fun _ hk => hk.2) (.slice Ao53 t544.length co53)) (fun _ h_ => h_.1))) hb); have n2_ := Aside0.mk (Kd.S_below (by (with_reducible repeat (first | apply Kd.S_alloc | apply Kd.S_drewN | apply Kd.S_drew)); exact (Kd.S_mono (Kd.S_far (p := ⟨gb547, 1, none⟩) (Kd.S_far (p := ⟨gb547, 0, none⟩) (Kd.S_types HO546.out BK547.out (by decide)) (fun _ hk => hk.2) (.int .i64 t543)) (fun _ hk => hk.2) (.slice Ao53 t544.length co53)) (fun _ h_ => h_.1))) hb); have n3_ := Aside0.mk (hrn_); have n4_ := Aside0.mk (blk_below (g := gb531) (o := .cells #[.int .i64 a0_0, .slice A0_1 l0_1.length c0_1] 24 (0, 0)) (by (with_reducible repeat (first | refine blk_drewN ?_ _ | refine blk_drew ?_ | refine blk_alloc ?_ _)); refine blk_far ?_ NB531_547.out _; (with_reducible repeat (first | refine blk_drewN ?_ _ | refine blk_drew ?_ | refine blk_alloc ?_ _)); refine blk_far ?_ NB531_547.out _; (with_reducible repeat (first | refine blk_drewN ?_ _ | refine blk_drew ?_ | refine blk_alloc ?_ _)); exact BK531.out) hb); have n5_ := Aside0.mk (blk_below (g := gb542) (o := .cells #[.int .i64 t537, .slice Ao46 t538.length co46] 29 (0, 0)) (by (with_reducible repeat (first | refine blk_drewN ?_ _ | refine blk_drew ?_ | refine blk_alloc ?_ _)); refine blk_far ?_ NB542_547.out _; (with_reducible repeat (first | refine blk_drewN ?_ _ | refine blk_drew ?_ | refine blk_alloc ?_ _)); refine blk_far ?_ NB542_547.out _; (with_reducible repeat (first | refine blk_drewN ?_ _ | refine blk_drew ?_ | refine blk_alloc ?_ _)); exact BK542.out) hb); have n6_ := Aside0.mk (blk_below (g := gb547) (o := .cells #[.int .i64 t543, .slice Ao53 t544.length co53] 29 (0, 0)) (by (with_reducible repeat (first | refine blk_drewN ?_ _ | refine blk_drew ?_ | refine blk_alloc ?_ _)); refine blk_put (cs := #[.int .i64 t543, .slice none 0 0]) ?_ 1 _ rfl; (with_reducible repeat (first | refine blk_drewN ?_ _ | refine blk_drew ?_ | refine blk_alloc ?_ _)); refine blk_put (cs := #[.int .i64 0, .slice none 0 0]) ?_ 0 _ rfl; (with_reducible repeat (first | refine blk_drewN ?_ _ | refine blk_drew ?_ | refine blk_alloc ?_ _)); exact BK547.out) hb); have n7_ := Aside0.mk (And.intro hle_.1 hle_.2.1); have n8_ := Aside0.mk (hle_.2.2); have n9_ := Aside0.mk (below_step (by repeat (first | (with_reducible first | exact HB.out | apply below_alloc | apply pw_below_drewN | apply below_drew1 | refine below_set ?_ GE531.out | refine below_set ?_ GE542.out | refine below_set ?_ GE547.out) | exact HB.out)) hb); clear HO536; clear HO540; clear HO546; clear BK531; clear BK542; clear BK547; clear HT; clear HB; have HO536 := n0_; have HO540 := n1_; have HO546 := n2_; have HO551 := n3_; have BK531 := n4_; have BK542 := n5_; have BK547 := n6_; have LEw54 := n7_; have HT := n8_; have HB := n9_; clear n0_ n1_ n2_ n3_ n4_ n5_ n6_ n7_ n8_ n9_; (try clear hb); (try clear hb2); (try clear hk); (try clear hi); (try clear ho0); (try clear hle_); (try clear hrn_)) | ((with_reducible refine gate_dst (N := 9) rfl ?_); refine box_event ?hg (N := 9) ?hd (cs := #[.int .i64 0, .slice none 0 0]) (t := 29) ?hr ?_; (case hd => rfl); (case hg => rfl); (case hr => first | (go_simp; done) | (go_simp; rfl)); intro gb553 hg w55 hbox hb; have n0_ := Aside0.mk (Kd.S_below (by (with_reducible repeat (first | apply Kd.S_alloc | apply Kd.S_drewN | apply Kd.S_drew)); exact HO536.out) hb); have n1_ := Aside0.mk (Kd.S_below (by (with_reducible repeat (first | apply Kd.S_alloc | apply Kd.S_drewN | apply Kd.S_drew)); exact HO540.out) hb); have n2_ := Aside0.mk (Kd.S_below (by (with_reducible repeat (first | apply Kd.S_alloc | apply Kd.S_drewN | apply Kd.S_drew)); exact HO546.out) hb); have n3_ := Aside0.mk (Kd.S_below (by (with_reducible repeat (first | apply Kd.S_alloc | apply Kd.S_drewN | apply Kd.S_drew)); exact HO551.out) hb); have n4_ := Aside0.mk (blk_below (g := gb531) (o := .cells #[.int .i64 a0_0, .slice A0_1 l0_1.length c0_1] 24 (0, 0)) (by (with_reducible repeat (first | refine blk_drewN ?_ _ | refine blk_drew ?_ | refine blk_alloc ?_ _)); exact BK531.out) hb); have n5_ := Aside0.mk (blk_below (g := gb542) (o := .cells #[.int .i64 t537, .slice Ao46 t538.length co46] 29 (0, 0)) (by (with_reducible repeat (first | refine blk_drewN ?_ _ | refine blk_drew ?_ | refine blk_alloc ?_ _)); exact BK542.out) hb); have n6_ := Aside0.mk (blk_below (g := gb547) (o := .cells #[.int .i64 t543, .slice Ao53 t544.length co53] 29 (0, 0)) (by (with_reducible repeat (first | refine blk_drewN ?_ _ | refine blk_drew ?_ | refine blk_alloc ?_ _)); exact BK547.out) hb); have n7_ := Aside0.mk (below_step (by repeat (first | (with_reducible first | exact HB.out | apply below_alloc | apply pw_below_drewN | apply below_drew1 | refine below_set ?_ GE531.out | refine below_set ?_ GE542.out | refine below_set ?_ GE547.out) | exact HB.out)) hb); have n8_ := Aside0.mk (hbox); have n9_ := Aside0.mk ((by rw [hg]; exact (below_size (by repeat (first | (with_reducible first | exact HB.out | apply below_alloc | apply pw_below_drewN | apply below_drew1 | refine below_set ?_ GE531.out | refine below_set ?_ GE542.out | refine below_set ?_ GE547.out) | exact HB.out))) : w.heap.size ≤ gb553)); have n10_ := Aside0.mk ((by rw [hg]; exact (below_size (by repeat (first | (with_reducible first | exact HB.out | apply below_alloc | apply pw_below_drewN | apply below_drew1 | refine below_set ?_ GE531.out | refine below_set ?_ GE542.out | refine below_set ?_ GE547.out) | exact HB.out))) : w.heap.size ≤ gb553)); have n11_ := Aside0.mk ((by rw [hg]; exact Nat.ne_of_lt (blk_lt (g := gb531) (o := .cells #[.int .i64 a0_0, .slice A0_1 l0_1.length c0_1] 24 (0, 0)) (by (with_reducible repeat (first | refine blk_drewN ?_ _ | refine blk_drew ?_ | refine blk_alloc ?_ _)); exact BK531.out)) : gb531 ≠ gb553)); have n12_ := Aside0.mk ((by rw [hg]; exact Nat.ne_of_gt (blk_lt (g := gb531) (o := .cells #[.int .i64 a0_0, .slice A0_1 l0_1.length c0_1] 24 (0, 0)) (by (with_reducible repeat (first | refine blk_drewN ?_ _ | refine blk_drew ?_ | refine blk_alloc ?_ _)); exact BK531.out)) : gb553 ≠ gb531)); have n13_ := Aside0.mk ((by rw [hg]; exact Nat.ne_of_lt (blk_lt (g := gb542) (o := .cells #[.int .i64 t537, .slice Ao46 t538.length co46] 29 (0, 0)) (by (with_reducible repeat (first | refine blk_drewN ?_ _ | refine blk_drew ?_ | refine blk_alloc ?_ _)); exact BK542.out)) : gb542 ≠ gb553)); have n14_ := Aside0.mk ((by rw [hg]; exact Nat.ne_of_gt (blk_lt (g := gb542) (o := .cells #[.int .i64 t537, .slice Ao46 t538.length co46] 29 (0, 0)) (by (with_reducible repeat (first | refine blk_drewN ?_ _ | refine blk_drew ?_ | refine blk_alloc ?_ _)); exact BK542.out)) : gb553 ≠ gb542)); have n15_ := Aside0.mk ((by rw [hg]; exact Nat.ne_of_lt (blk_lt (g := gb547) (o := .cells #[.int .i64 t543, .slice Ao53 t544.length co53] 29 (0, 0)) (by (with_reducible repeat (first | refine blk_drewN ?_ _ | refine blk_drew ?_ | refine blk_alloc ?_ _)); exact BK547.out)) : gb547 ≠ gb553)); have n16_ := Aside0.mk ((by rw [hg]; exact Nat.ne_of_gt (blk_lt (g := gb547) (o := .cells #[.int .i64 t543, .slice Ao53 t544.length co53] 29 (0, 0)) (by (with_reducible repeat (first | refine blk_drewN ?_ _ | refine blk_drew ?_ | refine blk_alloc ?_ _)); exact BK547.out)) : gb553 ≠ gb547)); have n17_ := Aside0.mk ((by rw [hg]; first | exact HT.out | (repeat (first | exact HT.out | (rw [sz_set]) | (rw [sz_drewN]) | (refine Nat.le_trans ?_ (sz_alloc _ _)))) : hi551 ≤ gb553)); have n18_ := Aside0.mk ((blk_lt hbox : gb553 + 1 ≤ w55.heap.size)); clear HO536; clear HO540; clear HO546; clear HO551; clear BK531; clear BK542; clear BK547; clear HB; clear HT; have HO536 := n0_; have HO540 := n1_; have HO546 := n2_; have HO551 := n3_; have BK531 := n4_; have BK542 := n5_; have BK547 := n6_; have HB := n7_; have BK553 := n8_; have GW553 := n9_; have GE553 := n10_; have NB531_553 := n11_; have NB553_531 := n12_; have NB542_553 := n13_; have NB553_542 := n14_; have NB547_553 := n15_; have NB553_547 := n16_; have LEw55 := n17_; have HT := n18_; clear n0_ n1_ n2_ n3_ n4_ n5_ n6_ n7_ n8_ n9_ n10_ n11_ n12_ n13_ n14_ n15_ n16_ n17_ n18_; clear hb hbox hg; have hnb56 := NB553_531.out; have hnc56 := NB531_553.out; have hnb57 := NB553_542.out; have hnc57 := NB542_553.out; have hnb58 := NB553_547.out; have hnc58 := NB547_553.out; have hcz59_0 : w55.cell? ⟨gb553, 0, none⟩ = some (.int .i64 0) := (blk_cell BK553.out 0).trans rfl; have hcz59_1 : w55.cell? ⟨gb553, 1, none⟩ = some (.slice none 0 0) := (blk_cell BK553.out 1).trans rfl; have hfz59_0 := blk_frozen BK553.out 0; have hfz59_1 := blk_frozen BK553.out 1; obtain ⟨Ao60, co60, eo60⟩ := Kd.S_slice HO551.out; subst eo60; have hcz61_0 : w55.cell? ⟨gb542, 0, none⟩ = some (.int .i64 t537) := (blk_cell BK542.out 0).trans rfl; have hcz61_1 : w55.cell? ⟨gb542, 1, none⟩ = some (.slice Ao46 t538.length co46) := (blk_cell BK542.out 1).trans rfl; have hfz61_0 := blk_frozen BK542.out 0; have hfz61_1 := blk_frozen BK542.out 1) | ((with_reducible refine gate_callee (f := 18) rfl ?_); refine goesL_ (some 41) rfl rfl Try.func18 (by kernel_rfl) rfl #[.agg #[.int .i64 t548, .slice Ao60 t549.length co60], .agg #[.int .i64 t537, .slice Ao46 t538.length co46]] rfl (by (try simp only [List.map_toArray, List.map_cons, List.map_nil]); first | done | rfl | (simp only [List.length_drop, List.length_take]; rfl)) ?_; (with_reducible refine (laws_eqMeeting.calls k t548 _ _ t549 t537 _ _ t538 true _ ?side1 ?side2 ?side3 ?side4 A14.out).mono ?_); (case side1 => refine (Kd.S_reads' (e := 60) (base := w.heap.size) (ok := fun k_ => (lo551 ≤ k_ ∧ k_ < hi551)) (n := t549.length) (c := co60) ?_).2.2; exact (by (with_reducible repeat (first | apply Kd.S_alloc | apply Kd.S_drewN | apply Kd.S_drew)); exact (Kd.S_mono (Kd.S_far (p := ⟨gb553, 1, none⟩) (Kd.S_far (p := ⟨gb553, 0, none⟩) (Kd.S_types HO551.out BK553.out (by decide)) (fun _ hk => hk.2) (.int .i64 t548)) (fun _ hk => hk.2) (.slice Ao60 t549.length co60)) (fun _ h_ => h_.1)))); (case side2 => exact (Kd.S_reads' HO551.out).2.1); (case side3 => refine (Kd.S_reads' (e := 60) (base := w.heap.size) (ok := fun k_ => (lo540 ≤ k_ ∧ k_ < hi540)) (n := t538.length) (c := co46) ?_).2.2; exact (by (with_reducible repeat (first | apply Kd.S_alloc | apply Kd.S_drewN | apply Kd.S_drew)); exact (Kd.S_mono (Kd.S_far (p := ⟨gb553, 1, none⟩) (Kd.S_far (p := ⟨gb553, 0, none⟩) (Kd.S_types HO540.out BK553.out (by decide)) (fun _ hk => hk.2) (.int .i64 t548)) (fun _ hk => hk.2) (.slice Ao60 t549.length co60)) (fun _ h_ => h_.1)))); (case side4 => exact (Kd.S_reads' HO540.out).2.1); rintro e w62 ⟨rfl, hb⟩; refine ⟨_, rfl, ?_⟩; have n0_ := Aside0.mk (Kd.S_below (by (with_reducible repeat (first | apply Kd.S_alloc | apply Kd.S_drewN | apply Kd.S_drew)); exact (Kd.S_mono (Kd.S_far (p := ⟨gb553, 1, none⟩) (Kd.S_far (p := ⟨gb553, 0, none⟩) (Kd.S_types HO536.out BK553.out (by decide)) (fun _ hk => hk.2) (.int .i64 t548)) (fun _ hk => hk.2) (.slice Ao60 t549.length co60)) (fun _ h_ => h_.1))) hb); have n1_ := Aside0.mk (Kd.S_below (by (with_reducible repeat (first | apply Kd.S_alloc | apply Kd.S_drewN | apply Kd.S_drew)); exact (Kd.S_mono (Kd.S_far (p := ⟨gb553, 1, none⟩) (Kd.S_far (p := ⟨gb553, 0, none⟩) (Kd.S_types HO540.out BK553.out (by decide)) (fun _ hk => hk.2) (.int .i64 t548)) (fun _ hk => hk.2) (.slice Ao60 t549.length co60)) (fun _ h_ => h_.1))) hb); have n2_ := Aside0.mk (Kd.S_below (by (with_reducible repeat (first | apply Kd.S_alloc | apply Kd.S_drewN | apply Kd.S_drew)); exact (Kd.S_mono (Kd.S_far (p := ⟨gb553, 1, none⟩) (Kd.S_far (p := ⟨gb553, 0, none⟩) (Kd.S_types HO546.out BK553.out (by decide)) (fun _ hk => hk.2) (.int .i64 t548)) (fun _ hk => hk.2) (.slice Ao60 t549.length co60)) (fun _ h_ => h_.1))) hb); have n3_ := Aside0.mk (Kd.S_below (by (with_reducible repeat (first | apply Kd.S_alloc | apply Kd.S_drewN | apply Kd.S_drew)); exact (Kd.S_mono (Kd.S_far (p := ⟨gb553, 1, none⟩) (Kd.S_far (p := ⟨gb553, 0, none⟩) (Kd.S_types HO551.out BK553.out (by decide)) (fun _ hk => hk.2) (.int .i64 t548)) (fun _ hk => hk.2) (.slice Ao60 t549.length co60)) (fun _ h_ => h_.1))) hb); have n4_ := Aside0.mk (blk_below (g := gb531) (o := .cells #[.int .i64 a0_0, .slice A0_1 l0_1.length c0_1] 24 (0, 0)) (by (with_reducible repeat (first | refine blk_drewN ?_ _ | refine blk_drew ?_ | refine blk_alloc ?_ _)); refine blk_far ?_ NB531_553.out _; (with_reducible repeat (first | refine blk_drewN ?_ _ | refine blk_drew ?_ | refine blk_alloc ?_ _)); refine blk_far ?_ NB531_553.out _; (with_reducible repeat (first | refine blk_drewN ?_ _ | refine blk_drew ?_ | refine blk_alloc ?_ _)); exact BK531.out) hb); have n5_ := Aside0.mk (blk_below (g := gb542) (o := .cells #[.int .i64 t537, .slice Ao46 t538.length co46] 29 (0, 0)) (by (with_reducible repeat (first | refine blk_drewN ?_ _ | refine blk_drew ?_ | refine blk_alloc ?_ _)); refine blk_far ?_ NB542_553.out _; (with_reducible repeat (first | refine blk_drewN ?_ _ | refine blk_drew ?_ | refine blk_alloc ?_ _)); refine blk_far ?_ NB542_553.out _; (with_reducible repeat (first | refine blk_drewN ?_ _ | refine blk_drew ?_ | refine blk_alloc ?_ _)); exact BK542.out) hb); have n6_ := Aside0.mk (blk_below (g := gb547) (o := .cells #[.int .i64 t543, .slice Ao53 t544.length co53] 29 (0, 0)) (by (with_reducible repeat (first | refine blk_drewN ?_ _ | refine blk_drew ?_ | refine blk_alloc ?_ _)); refine blk_far ?_ NB547_553.out _; (with_reducible repeat (first | refine blk_drewN ?_ _ | refine blk_drew ?_ | refine blk_alloc ?_ _)); refine blk_far ?_ NB547_553.out _; (with_reducible repeat (first | refine blk_drewN ?_ _ | refine blk_drew ?_ | refine blk_alloc ?_ _)); exact BK547.out) hb); have n7_ := Aside0.mk (blk_below (g := gb553) (o := .cells #[.int .i64 t548, .slice Ao60 t549.length co60] 29 (0, 0)) (by (with_reducible repeat (first | refine blk_drewN ?_ _ | refine blk_drew ?_ | refine blk_alloc ?_ _)); refine blk_put (cs := #[.int .i64 t548, .slice none 0 0]) ?_ 1 _ rfl; (with_reducible repeat (first | refine blk_drewN ?_ _ | refine blk_drew ?_ | refine blk_alloc ?_ _)); refine blk_put (cs := #[.int .i64 0, .slice none 0 0]) ?_ 0 _ rfl; (with_reducible repeat (first | refine blk_drewN ?_ _ | refine blk_drew ?_ | refine blk_alloc ?_ _)); exact BK553.out) hb); have n8_ := Aside0.mk (Nat.le_trans (n := (gb553 + 1)) (by first | exact HT.out | (repeat (first | exact HT.out | (rw [sz_set]) | (rw [sz_drewN]) | (refine Nat.le_trans ?_ (sz_alloc _ _))))) hb.size); have n9_ := Aside0.mk (below_step (by repeat (first | (with_reducible first | exact HB.out | apply below_alloc | apply pw_below_drewN | apply below_drew1 | refine below_set ?_ GE531.out | refine below_set ?_ GE542.out | refine below_set ?_ GE547.out | refine below_set ?_ GE553.out) | exact HB.out)) hb); clear HO536; clear HO540; clear HO546; clear HO551; clear BK531; clear BK542; clear BK547; clear BK553; clear HT; clear HB; have HO536 := n0_; have HO540 := n1_; have HO546 := n2_; have HO551 := n3_; have BK531 := n4_; have BK542 := n5_; have BK547 := n6_; have BK553 := n7_; have HT := n8_; have HB := n9_; clear n0_ n1_ n2_ n3_ n4_ n5_ n6_ n7_ n8_ n9_; (try clear hb); (try clear hb2); (try clear hk); (try clear hi)))
              have n0_ := Aside0.mk (Kd.S_drew HO536.out)
              have n1_ := Aside0.mk (Kd.S_drew HO540.out)
              have n2_ := Aside0.mk (Kd.S_drew HO546.out)
              have n3_ := Aside0.mk (Kd.S_drew HO551.out)
              have n4_ := Aside0.mk (blk_drew BK531.out)
              have n5_ := Aside0.mk (blk_drew BK542.out)
              have n6_ := Aside0.mk (blk_drew BK547.out)
              have n7_ := Aside0.mk (blk_drew BK553.out)
              have n8_ := Aside0.mk (below_drew1 HB.out)
              have n9_ := Aside0.mk (sz_drew HT.out)
              clear HO536
              clear HO540
              clear HO546
              clear HO551
              clear BK531
              clear BK542
              clear BK547
              clear BK553
              clear HB
              clear HT
              have HO536 := n0_
              have HO540 := n1_
              have HO546 := n2_
              have HO551 := n3_
              have BK531 := n4_
              have BK542 := n5_
              have BK547 := n6_
              have BK553 := n7_
              have HB := n8_
              have HT := n9_
              clear n0_ n1_ n2_ n3_ n4_ n5_ n6_ n7_ n8_ n9_
              refine start_ (n := 5) (S := fun w' => w'.cell? ⟨gb547, 0, none⟩ = some (.int .i64 t543) ∧ w'.cell? ⟨gb547, 1, none⟩ = some (.slice Ao53 t544.length co53) ∧ w'.cell? ⟨gb531, 0, none⟩ = some (.int .i64 a0_0) ∧ w'.cell? ⟨gb531, 1, none⟩ = some (.slice A0_1 l0_1.length c0_1)) (ds := []) #[false, false, false, false, false] (by kernel_rfl) rfl rfl ⟨(blk_cell BK547.out 0).trans rfl, (blk_cell BK547.out 1).trans rfl, (blk_cell BK531.out 0).trans rfl, (blk_cell BK531.out 1).trans rfl⟩ (fun hHeld => ?_)
              generalize w62.drew = w63 at HO536 HO540 HO546 HO551 BK531 BK542 BK547 BK553 HB HT hHeld ⊢
              refine take_ (i := 0) (N := some 48) (v := ?_) (a' := ?_) #[true, false, false, false, false] rfl rfl (by kernel_rfl) (fun _ _ _ h => h) (Or.inl ⟨by rfl, ?_⟩) hHeld ?_ ?_
              rotate_left
              ·rintro w' ⟨s0, s1, s2, s3⟩
               go_simp
               with_reducible rfl
              rotate_left
              ·simp only [Act.put, List.setIfInBounds_toArray, List.set_cons_zero, List.set_cons_succ, i64_w, i32_w]; rfl
              refine take_ (i := 1) (N := some 49) (v := ?_) (a' := ?_) #[true, true, false, false, false] rfl rfl (by kernel_rfl) (fun _ _ _ h => h) (Or.inl ⟨by rfl, ?_⟩) hHeld ?_ ?_
              rotate_left
              ·rintro w' ⟨s0, s1, s2, s3⟩
               go_simp
               with_reducible rfl
              rotate_left
              ·simp only [Act.put, List.setIfInBounds_toArray, List.set_cons_zero, List.set_cons_succ, i64_w, i32_w]; rfl
              refine one_ (i := 2) (N := some 50) #[true, true, true, false, false] rfl rfl (by kernel_rfl) (by decide) (fun K hK => ?_)
              refine goes_ Try.func16 (by kernel_rfl) rfl #[.agg #[.int .i64 a0_0, .slice A0_1 l0_1.length c0_1]] (by rfl) rfl rfl (by (try simp only [List.map_toArray, List.map_cons, List.map_nil]); first | done | rfl | (simp only [List.length_drop, List.length_take]; rfl)) ?_
              with_reducible refine (laws_toMeeting.calls k a0_0 _ _ l0_1 t555 t556 _ ?side1 ?side2 A17.out).mono ?_
              (case side1 => repeat (first | exact (Kd.C_below HR0_1.out HB.out) | (with_reducible refine Kd.C_alloc ?_ _) | (with_reducible refine Kd.C_drewN ?_ _) | (with_reducible refine Kd.C_drew ?_)))
              (case side2 => exact HC0_1.out)
              rintro e w64 ⟨v557, rfl, ho0, hb⟩
              refine ⟨_, rfl, ?_⟩
              obtain ⟨lo558, hi558, hle_, hrn_⟩ := rngSL (a := (gb553 + 1)) ho0 hb (by first | exact HT.out | (repeat (first | exact HT.out | (rw [sz_set]) | (rw [sz_drewN]) | (refine Nat.le_trans ?_ (sz_alloc _ _))))) (below_size (by repeat (first | (with_reducible first | exact HB.out | apply below_alloc | apply pw_below_drewN | apply below_drew1 | refine below_set ?_ GE531.out | refine below_set ?_ GE542.out | refine below_set ?_ GE547.out | refine below_set ?_ GE553.out) | exact HB.out)))
              have n0_ := Aside0.mk (Kd.S_below (by (with_reducible repeat (first | apply Kd.S_alloc | apply Kd.S_drewN | apply Kd.S_drew)); exact HO536.out) hb)
              have n1_ := Aside0.mk (Kd.S_below (by (with_reducible repeat (first | apply Kd.S_alloc | apply Kd.S_drewN | apply Kd.S_drew)); exact HO540.out) hb)
              have n2_ := Aside0.mk (Kd.S_below (by (with_reducible repeat (first | apply Kd.S_alloc | apply Kd.S_drewN | apply Kd.S_drew)); exact HO546.out) hb)
              have n3_ := Aside0.mk (Kd.S_below (by (with_reducible repeat (first | apply Kd.S_alloc | apply Kd.S_drewN | apply Kd.S_drew)); exact HO551.out) hb)
              have n4_ := Aside0.mk (hrn_)
              have n5_ := Aside0.mk (blk_below (g := gb531) (o := .cells #[.int .i64 a0_0, .slice A0_1 l0_1.length c0_1] 24 (0, 0)) (by (with_reducible repeat (first | refine blk_drewN ?_ _ | refine blk_drew ?_ | refine blk_alloc ?_ _)); exact BK531.out) hb)
              have n6_ := Aside0.mk (blk_below (g := gb542) (o := .cells #[.int .i64 t537, .slice Ao46 t538.length co46] 29 (0, 0)) (by (with_reducible repeat (first | refine blk_drewN ?_ _ | refine blk_drew ?_ | refine blk_alloc ?_ _)); exact BK542.out) hb)
              have n7_ := Aside0.mk (blk_below (g := gb547) (o := .cells #[.int .i64 t543, .slice Ao53 t544.length co53] 29 (0, 0)) (by (with_reducible repeat (first | refine blk_drewN ?_ _ | refine blk_drew ?_ | refine blk_alloc ?_ _)); exact BK547.out) hb)
              have n8_ := Aside0.mk (blk_below (g := gb553) (o := .cells #[.int .i64 t548, .slice Ao60 t549.length co60] 29 (0, 0)) (by (with_reducible repeat (first | refine blk_drewN ?_ _ | refine blk_drew ?_ | refine blk_alloc ?_ _)); exact BK553.out) hb)
              have n9_ := Aside0.mk (And.intro hle_.1 hle_.2.1)
              have n10_ := Aside0.mk (hle_.2.2)
              have n11_ := Aside0.mk (below_step (by repeat (first | (with_reducible first | exact HB.out | apply below_alloc | apply pw_below_drewN | apply below_drew1 | refine below_set ?_ GE531.out | refine below_set ?_ GE542.out | refine below_set ?_ GE547.out | refine below_set ?_ GE553.out) | exact HB.out)) hb)
              clear HO536
              clear HO540
              clear HO546
              clear HO551
              clear BK531
              clear BK542
              clear BK547
              clear BK553
              clear HT
              clear HB
              have HO536 := n0_
              have HO540 := n1_
              have HO546 := n2_
              have HO551 := n3_
              have HO558 := n4_
              have BK531 := n5_
              have BK542 := n6_
              have BK547 := n7_
              have BK553 := n8_
              have LEw64 := n9_
              have HT := n10_
              have HB := n11_
              clear n0_ n1_ n2_ n3_ n4_ n5_ n6_ n7_ n8_ n9_ n10_ n11_
              (try clear hb)
              (try clear hb2)
              (try clear hk)
              (try clear hi)
              (try clear ho0)
              (try clear hle_)
              (try clear hrn_)
              obtain ⟨Ao65, co65, eo65⟩ := Kd.S_slice HO558.out
              (first | subst eo65 | (injection eo65 with f1_ f2_ f3_; have f4_ := f1_.symm; have f5_ := f3_.symm; clear f1_ f2_ f3_; subst f4_; subst f5_))
              refine hK.out _ _ ⟨(blk_cell BK547.out 0).trans rfl, (blk_cell BK547.out 1).trans rfl, (blk_cell BK531.out 0).trans rfl, (blk_cell BK531.out 1).trans rfl⟩ (fun hHeld => ?_)
              clear hK K
              refine norm_ (a' := ?_) ?_ ?_
              rotate_left
              ·show Act.put _ (some 50) _ = _
               simp only [Act.put, List.setIfInBounds_toArray, List.set_cons_zero, List.set_cons_succ, i64_w, i32_w]
               rfl
              refine one_ (i := 3) (N := some 51) #[true, true, true, true, false] rfl rfl (by kernel_rfl) (by decide) (fun K hK => ?_)
              refine goes_ Try.func18 (by kernel_rfl) rfl #[.agg #[.int .i64 t543, .slice Ao53 t544.length co53], .agg #[.int .i64 t555, .slice Ao65 t556.length co65]] (by rfl) rfl rfl (by (try simp only [List.map_toArray, List.map_cons, List.map_nil]); first | done | rfl | (simp only [List.length_drop, List.length_take]; rfl)) ?_
              with_reducible refine (laws_eqMeeting.calls k t543 _ _ t544 t555 _ _ t556 true _ ?side1 ?side2 ?side3 ?side4 A18.out).mono ?_
              (case side1 => repeat (first | exact (Kd.S_reads' HO546.out).2.2 | (with_reducible refine Kd.C_alloc ?_ _) | (with_reducible refine Kd.C_drewN ?_ _) | (with_reducible refine Kd.C_drew ?_)))
              (case side2 => exact (Kd.S_reads' HO546.out).2.1)
              (case side3 => repeat (first | exact (Kd.S_reads' HO558.out).2.2 | (with_reducible refine Kd.C_alloc ?_ _) | (with_reducible refine Kd.C_drewN ?_ _) | (with_reducible refine Kd.C_drew ?_)))
              (case side4 => exact (Kd.S_reads' HO558.out).2.1)
              rintro e w66 ⟨rfl, hb⟩
              refine ⟨_, rfl, ?_⟩
              have n0_ := Aside0.mk (Kd.S_below (by (with_reducible repeat (first | apply Kd.S_alloc | apply Kd.S_drewN | apply Kd.S_drew)); exact HO536.out) hb)
              have n1_ := Aside0.mk (Kd.S_below (by (with_reducible repeat (first | apply Kd.S_alloc | apply Kd.S_drewN | apply Kd.S_drew)); exact HO540.out) hb)
              have n2_ := Aside0.mk (Kd.S_below (by (with_reducible repeat (first | apply Kd.S_alloc | apply Kd.S_drewN | apply Kd.S_drew)); exact HO546.out) hb)
              have n3_ := Aside0.mk (Kd.S_below (by (with_reducible repeat (first | apply Kd.S_alloc | apply Kd.S_drewN | apply Kd.S_drew)); exact HO551.out) hb)
              have n4_ := Aside0.mk (Kd.S_below (by (with_reducible repeat (first | apply Kd.S_alloc | apply Kd.S_drewN | apply Kd.S_drew)); exact HO558.out) hb)
              have n5_ := Aside0.mk (blk_below (g := gb531) (o := .cells #[.int .i64 a0_0, .slice A0_1 l0_1.length c0_1] 24 (0, 0)) (by (with_reducible repeat (first | refine blk_drewN ?_ _ | refine blk_drew ?_ | refine blk_alloc ?_ _)); exact BK531.out) hb)
              have n6_ := Aside0.mk (blk_below (g := gb542) (o := .cells #[.int .i64 t537, .slice Ao46 t538.length co46] 29 (0, 0)) (by (with_reducible repeat (first | refine blk_drewN ?_ _ | refine blk_drew ?_ | refine blk_alloc ?_ _)); exact BK542.out) hb)
              have n7_ := Aside0.mk (blk_below (g := gb547) (o := .cells #[.int .i64 t543, .slice Ao53 t544.length co53] 29 (0, 0)) (by (with_reducible repeat (first | refine blk_drewN ?_ _ | refine blk_drew ?_ | refine blk_alloc ?_ _)); exact BK547.out) hb)
              have n8_ := Aside0.mk (blk_below (g := gb553) (o := .cells #[.int .i64 t548, .slice Ao60 t549.length co60] 29 (0, 0)) (by (with_reducible repeat (first | refine blk_drewN ?_ _ | refine blk_drew ?_ | refine blk_alloc ?_ _)); exact BK553.out) hb)
              have n9_ := Aside0.mk (Nat.le_trans (n := hi558) (by first | exact HT.out | (repeat (first | exact HT.out | (rw [sz_set]) | (rw [sz_drewN]) | (refine Nat.le_trans ?_ (sz_alloc _ _))))) hb.size)
              have n10_ := Aside0.mk (below_step (by repeat (first | (with_reducible first | exact HB.out | apply below_alloc | apply pw_below_drewN | apply below_drew1 | refine below_set ?_ GE531.out | refine below_set ?_ GE542.out | refine below_set ?_ GE547.out | refine below_set ?_ GE553.out) | exact HB.out)) hb)
              clear HO536
              clear HO540
              clear HO546
              clear HO551
              clear HO558
              clear BK531
              clear BK542
              clear BK547
              clear BK553
              clear HT
              clear HB
              have HO536 := n0_
              have HO540 := n1_
              have HO546 := n2_
              have HO551 := n3_
              have HO558 := n4_
              have BK531 := n5_
              have BK542 := n6_
              have BK547 := n7_
              have BK553 := n8_
              have HT := n9_
              have HB := n10_
              clear n0_ n1_ n2_ n3_ n4_ n5_ n6_ n7_ n8_ n9_ n10_
              (try clear hb)
              (try clear hb2)
              (try clear hk)
              (try clear hi)
              refine hK.out _ _ ⟨(blk_cell BK547.out 0).trans rfl, (blk_cell BK547.out 1).trans rfl, (blk_cell BK531.out 0).trans rfl, (blk_cell BK531.out 1).trans rfl⟩ (fun hHeld => ?_)
              clear hK K
              refine norm_ (a' := ?_) ?_ ?_
              rotate_left
              ·show Act.put _ (some 51) _ = _
               simp only [Act.put, List.setIfInBounds_toArray, List.set_cons_zero, List.set_cons_succ, i64_w, i32_w]
               rfl
              refine pure_ (i := 4) (N := some 52) (v := ?_) (a' := ?_) #[true, true, true, true, true] rfl rfl (by kernel_rfl) (fun _ _ _ h => h) (Or.inl ⟨by rfl, ?_⟩) ?_ ?_
              rotate_left
              ·intro w'
               go_simp
               with_reducible rfl
              rotate_left
              ·simp only [Act.put, List.setIfInBounds_toArray, List.set_cons_zero, List.set_cons_succ, i64_w, i32_w]; rfl
              refine done_ (by kernel_rfl) ?_
              have hcz67_0 : w66.cell? ⟨gb547, 0, none⟩ = some (.int .i64 t543) := (blk_cell BK547.out 0).trans rfl
              have hcz67_1 : w66.cell? ⟨gb547, 1, none⟩ = some (.slice Ao53 t544.length co53) := (blk_cell BK547.out 1).trans rfl
              have hfz67_0 := blk_frozen BK547.out 0
              have hfz67_1 := blk_frozen BK547.out 1
              try go_wp2_with (first | ((with_reducible refine gate_callee (f := 26) rfl ?_); refine goesL_ (some 55) rfl rfl Try.func26 (by kernel_rfl) rfl #[.agg #[.int .i64 t543, .slice Ao53 t544.length co53], .int .i64 1] rfl (by (try simp only [List.map_toArray, List.map_cons, List.map_nil]); first | done | rfl | (simp only [List.length_drop, List.length_take]; rfl)) ?_; (with_reducible refine (laws_markMeeting.calls k t543 ?PS0_1_7 (.slice Ao53 t544.length co53) t544 1 t560 t561 w _ ?side1 ?side2 A20.out).mono ?_); (case side1 => repeat (first | (with_reducible first | exact HB.out | apply below_alloc | apply pw_below_drewN | apply below_drew1 | refine below_set ?_ GE531.out | refine below_set ?_ GE542.out | refine below_set ?_ GE547.out | refine below_set ?_ GE553.out) | exact HB.out)); (case side2 => exact HO546.out); rintro e w68 ⟨rfl, hy0, hb, hkp⟩; refine ⟨_, rfl, ?_⟩; have n0_ := Aside0.mk (blk_kept (by (with_reducible repeat (first | refine blk_drewN ?_ _ | refine blk_drew ?_ | refine blk_alloc ?_ _)); exact BK531.out) hkp (fun hs_ => by have := LEw36.out; have := LEw40.out; have := LEw42.out; have := LEw43.out; have := LEw48.out; have := LEw49.out; have := LEw54.out; have := LEw55.out; have := LEw64.out; (try dsimp only at hs_); omega)); have n1_ := Aside0.mk (Kd.S_kept (by (with_reducible repeat (first | apply Kd.S_alloc | apply Kd.S_drewN | apply Kd.S_drew)); exact HO536.out) hkp (fun k_ hk_ hs_ => by have := LEw36.out; have := LEw40.out; have := LEw42.out; have := LEw43.out; have := LEw48.out; have := LEw49.out; have := LEw54.out; have := LEw55.out; have := LEw64.out; (try dsimp only at hk_ hs_); omega)); have n2_ := Aside0.mk (Kd.S_kept (by (with_reducible repeat (first | apply Kd.S_alloc | apply Kd.S_drewN | apply Kd.S_drew)); exact HO540.out) hkp (fun k_ hk_ hs_ => by have := LEw36.out; have := LEw40.out; have := LEw42.out; have := LEw43.out; have := LEw48.out; have := LEw49.out; have := LEw54.out; have := LEw55.out; have := LEw64.out; (try dsimp only at hk_ hs_); omega)); have n3_ := Aside0.mk (blk_kept (by (with_reducible repeat (first | refine blk_drewN ?_ _ | refine blk_drew ?_ | refine blk_alloc ?_ _)); exact BK542.out) hkp (fun hs_ => by have := LEw36.out; have := LEw40.out; have := LEw42.out; have := LEw43.out; have := LEw48.out; have := LEw49.out; have := LEw54.out; have := LEw55.out; have := LEw64.out; (try dsimp only at hs_); omega)); have n4_ := Aside0.mk (hy0); have n5_ := Aside0.mk (blk_kept (by (with_reducible repeat (first | refine blk_drewN ?_ _ | refine blk_drew ?_ | refine blk_alloc ?_ _)); exact BK547.out) hkp (fun hs_ => by have := LEw36.out; have := LEw40.out; have := LEw42.out; have := LEw43.out; have := LEw48.out; have := LEw49.out; have := LEw54.out; have := LEw55.out; have := LEw64.out; (try dsimp only at hs_); omega)); have n6_ := Aside0.mk (Kd.S_kept (by (with_reducible repeat (first | apply Kd.S_alloc | apply Kd.S_drewN | apply Kd.S_drew)); exact HO551.out) hkp (fun k_ hk_ hs_ => by have := LEw36.out; have := LEw40.out; have := LEw42.out; have := LEw43.out; have := LEw48.out; have := LEw49.out; have := LEw54.out; have := LEw55.out; have := LEw64.out; (try dsimp only at hk_ hs_); omega)); have n7_ := Aside0.mk (blk_kept (by (with_reducible repeat (first | refine blk_drewN ?_ _ | refine blk_drew ?_ | refine blk_alloc ?_ _)); exact BK553.out) hkp (fun hs_ => by have := LEw36.out; have := LEw40.out; have := LEw42.out; have := LEw43.out; have := LEw48.out; have := LEw49.out; have := LEw54.out; have := LEw55.out; have := LEw64.out; (try dsimp only at hs_); omega)); have n8_ := Aside0.mk (Kd.S_kept (by (with_reducible repeat (first | apply Kd.S_alloc | apply Kd.S_drewN | apply Kd.S_drew)); exact HO558.out) hkp (fun k_ hk_ hs_ => by have := LEw36.out; have := LEw40.out; have := LEw42.out; have := LEw43.out; have := LEw48.out; have := LEw49.out; have := LEw54.out; have := LEw55.out; have := LEw64.out; (try dsimp only at hk_ hs_); omega)); have n9_ := Aside0.mk (hb); have n10_ := Aside0.mk (Nat.le_trans (n := hi558) (by first | exact HT.out | (repeat (first | exact HT.out | (rw [sz_set]) | (rw [sz_drewN]) | (refine Nat.le_trans ?_ (sz_alloc _ _))))) hkp.1); clear BK531; clear HO536; clear HO540; clear BK542; clear HO546; clear BK547; clear HO551; clear BK553; clear HO558; clear HB; clear HT; have BK531 := n0_; have HO536 := n1_; have HO540 := n2_; have BK542 := n3_; have HO546 := n4_; have BK547 := n5_; have HO551 := n6_; have BK553 := n7_; have HO558 := n8_; have HB := n9_; have HT := n10_; clear n0_ n1_ n2_ n3_ n4_ n5_ n6_ n7_ n8_ n9_ n10_; (try clear hb); (try clear hkp); (try clear hy0); have hcz69_0 : w68.cell? ⟨gb553, 0, none⟩ = some (.int .i64 t548) := (blk_cell BK553.out 0).trans rfl; have hcz69_1 : w68.cell? ⟨gb553, 1, none⟩ = some (.slice Ao60 t549.length co60) := (blk_cell BK553.out 1).trans rfl; have hfz69_0 := blk_frozen BK553.out 0; have hfz69_1 := blk_frozen BK553.out 1; have hcz70_0 : w68.cell? ⟨gb542, 0, none⟩ = some (.int .i64 t537) := (blk_cell BK542.out 0).trans rfl; have hcz70_1 : w68.cell? ⟨gb542, 1, none⟩ = some (.slice Ao46 t538.length co46) := (blk_cell BK542.out 1).trans rfl; have hfz70_0 := blk_frozen BK542.out 0; have hfz70_1 := blk_frozen BK542.out 1) | (go_at_call 18; (with_reducible refine (laws_eqMeeting.calls k t548 _ _ t549 t537 _ _ t538 true _ ?side1 ?side2 ?side3 ?side4 A22.out).mono ?_); (case side1 => repeat (first | exact (Kd.S_reads' HO551.out).2.2 | (with_reducible refine Kd.C_alloc ?_ _) | (with_reducible refine Kd.C_drewN ?_ _) | (with_reducible refine Kd.C_drew ?_))); (case side2 => exact (Kd.S_reads' HO551.out).2.1); (case side3 => repeat (first | exact (Kd.S_reads' HO540.out).2.2 | (with_reducible refine Kd.C_alloc ?_ _) | (with_reducible refine Kd.C_drewN ?_ _) | (with_reducible refine Kd.C_drew ?_))); (case side4 => exact (Kd.S_reads' HO540.out).2.1); rintro e w71 ⟨rfl, hb⟩; have n0_ := Aside0.mk (Kd.S_below (by (with_reducible repeat (first | apply Kd.S_alloc | apply Kd.S_drewN | apply Kd.S_drew)); exact HO536.out) hb); have n1_ := Aside0.mk (Kd.S_below (by (with_reducible repeat (first | apply Kd.S_alloc | apply Kd.S_drewN | apply Kd.S_drew)); exact HO540.out) hb); have n2_ := Aside0.mk (Kd.S_below (by (with_reducible repeat (first | apply Kd.S_alloc | apply Kd.S_drewN | apply Kd.S_drew)); exact HO546.out) hb); have n3_ := Aside0.mk (Kd.S_below (by (with_reducible repeat (first | apply Kd.S_alloc | apply Kd.S_drewN | apply Kd.S_drew)); exact HO551.out) hb); have n4_ := Aside0.mk (Kd.S_below (by (with_reducible repeat (first | apply Kd.S_alloc | apply Kd.S_drewN | apply Kd.S_drew)); exact HO558.out) hb); have n5_ := Aside0.mk (blk_below (g := gb531) (o := .cells #[.int .i64 a0_0, .slice A0_1 l0_1.length c0_1] 24 (0, 0)) (by (with_reducible repeat (first | refine blk_drewN ?_ _ | refine blk_drew ?_ | refine blk_alloc ?_ _)); exact BK531.out) hb); have n6_ := Aside0.mk (blk_below (g := gb542) (o := .cells #[.int .i64 t537, .slice Ao46 t538.length co46] 29 (0, 0)) (by (with_reducible repeat (first | refine blk_drewN ?_ _ | refine blk_drew ?_ | refine blk_alloc ?_ _)); exact BK542.out) hb); have n7_ := Aside0.mk (blk_below (g := gb547) (o := .cells #[.int .i64 t543, .slice Ao53 t544.length co53] 29 (0, 0)) (by (with_reducible repeat (first | refine blk_drewN ?_ _ | refine blk_drew ?_ | refine blk_alloc ?_ _)); exact BK547.out) hb); have n8_ := Aside0.mk (blk_below (g := gb553) (o := .cells #[.int .i64 t548, .slice Ao60 t549.length co60] 29 (0, 0)) (by (with_reducible repeat (first | refine blk_drewN ?_ _ | refine blk_drew ?_ | refine blk_alloc ?_ _)); exact BK553.out) hb); have n9_ := Aside0.mk (Nat.le_trans (n := hi558) (by first | exact HT.out | (repeat (first | exact HT.out | (rw [sz_set]) | (rw [sz_drewN]) | (refine Nat.le_trans ?_ (sz_alloc _ _))))) hb.size); have n10_ := Aside0.mk (below_step (by repeat (first | (with_reducible first | exact HB.out | apply below_alloc | apply pw_below_drewN | apply below_drew1 | refine below_set ?_ GE531.out | refine below_set ?_ GE542.out | refine below_set ?_ GE547.out | refine below_set ?_ GE553.out) | exact HB.out)) hb); clear HO536; clear HO540; clear HO546; clear HO551; clear HO558; clear BK531; clear BK542; clear BK547; clear BK553; clear HT; clear HB; have HO536 := n0_; have HO540 := n1_; have HO546 := n2_; have HO551 := n3_; have HO558 := n4_; have BK531 := n5_; have BK542 := n6_; have BK547 := n7_; have BK553 := n8_; have HT := n9_; have HB := n10_; clear n0_ n1_ n2_ n3_ n4_ n5_ n6_ n7_ n8_ n9_ n10_; (try clear hb); (try clear hb2); (try clear hk); (try clear hi); have hcz72_0 : w71.cell? ⟨gb553, 0, none⟩ = some (.int .i64 t548) := (blk_cell BK553.out 0).trans rfl; have hcz72_1 : w71.cell? ⟨gb553, 1, none⟩ = some (.slice Ao60 t549.length co60) := (blk_cell BK553.out 1).trans rfl; have hfz72_0 := blk_frozen BK553.out 0; have hfz72_1 := blk_frozen BK553.out 1) | ((with_reducible refine gate_callee (f := 26) rfl ?_); refine goesL_ (some 71) rfl rfl Try.func26 (by kernel_rfl) rfl #[.agg #[.int .i64 t548, .slice Ao60 t549.length co60], .int .i64 1] rfl (by (try simp only [List.map_toArray, List.map_cons, List.map_nil]); first | done | rfl | (simp only [List.length_drop, List.length_take]; rfl)) ?_; (with_reducible refine (laws_markMeeting.calls k t548 ?PS0_1_8 (.slice Ao60 t549.length co60) t549 1 t563 t564 w _ ?side1 ?side2 A24.out).mono ?_); (case side1 => repeat (first | (with_reducible first | exact HB.out | apply below_alloc | apply pw_below_drewN | apply below_drew1 | refine below_set ?_ GE531.out | refine below_set ?_ GE542.out | refine below_set ?_ GE547.out | refine below_set ?_ GE553.out) | exact HB.out)); (case side2 => exact HO551.out); rintro e w73 ⟨rfl, hy0, hb, hkp⟩; refine ⟨_, rfl, ?_⟩; have n0_ := Aside0.mk (blk_kept (by (with_reducible repeat (first | refine blk_drewN ?_ _ | refine blk_drew ?_ | refine blk_alloc ?_ _)); exact BK531.out) hkp (fun hs_ => by have := LEw36.out; have := LEw40.out; have := LEw42.out; have := LEw43.out; have := LEw48.out; have := LEw49.out; have := LEw54.out; have := LEw55.out; have := LEw64.out; (try dsimp only at hs_); omega)); have n1_ := Aside0.mk (Kd.S_kept (by (with_reducible repeat (first | apply Kd.S_alloc | apply Kd.S_drewN | apply Kd.S_drew)); exact HO536.out) hkp (fun k_ hk_ hs_ => by have := LEw36.out; have := LEw40.out; have := LEw42.out; have := LEw43.out; have := LEw48.out; have := LEw49.out; have := LEw54.out; have := LEw55.out; have := LEw64.out; (try dsimp only at hk_ hs_); omega)); have n2_ := Aside0.mk (Kd.S_kept (by (with_reducible repeat (first | apply Kd.S_alloc | apply Kd.S_drewN | apply Kd.S_drew)); exact HO540.out) hkp (fun k_ hk_ hs_ => by have := LEw36.out; have := LEw40.out; have := LEw42.out; have := LEw43.out; have := LEw48.out; have := LEw49.out; have := LEw54.out; have := LEw55.out; have := LEw64.out; (try dsimp only at hk_ hs_); omega)); have n3_ := Aside0.mk (blk_kept (by (with_reducible repeat (first | refine blk_drewN ?_ _ | refine blk_drew ?_ | refine blk_alloc ?_ _)); exact BK542.out) hkp (fun hs_ => by have := LEw36.out; have := LEw40.out; have := LEw42.out; have := LEw43.out; have := LEw48.out; have := LEw49.out; have := LEw54.out; have := LEw55.out; have := LEw64.out; (try dsimp only at hs_); omega)); have n4_ := Aside0.mk (Kd.S_kept (by (with_reducible repeat (first | apply Kd.S_alloc | apply Kd.S_drewN | apply Kd.S_drew)); exact HO546.out) hkp (fun k_ hk_ hs_ => by have := LEw36.out; have := LEw40.out; have := LEw42.out; have := LEw43.out; have := LEw48.out; have := LEw49.out; have := LEw54.out; have := LEw55.out; have := LEw64.out; (try dsimp only at hk_ hs_); omega)); have n5_ := Aside0.mk (blk_kept (by (with_reducible repeat (first | refine blk_drewN ?_ _ | refine blk_drew ?_ | refine blk_alloc ?_ _)); exact BK547.out) hkp (fun hs_ => by have := LEw36.out; have := LEw40.out; have := LEw42.out; have := LEw43.out; have := LEw48.out; have := LEw49.out; have := LEw54.out; have := LEw55.out; have := LEw64.out; (try dsimp only at hs_); omega)); have n6_ := Aside0.mk (hy0); have n7_ := Aside0.mk (blk_kept (by (with_reducible repeat (first | refine blk_drewN ?_ _ | refine blk_drew ?_ | refine blk_alloc ?_ _)); exact BK553.out) hkp (fun hs_ => by have := LEw36.out; have := LEw40.out; have := LEw42.out; have := LEw43.out; have := LEw48.out; have := LEw49.out; have := LEw54.out; have := LEw55.out; have := LEw64.out; (try dsimp only at hs_); omega)); have n8_ := Aside0.mk (Kd.S_kept (by (with_reducible repeat (first | apply Kd.S_alloc | apply Kd.S_drewN | apply Kd.S_drew)); exact HO558.out) hkp (fun k_ hk_ hs_ => by have := LEw36.out; have := LEw40.out; have := LEw42.out; have := LEw43.out; have := LEw48.out; have := LEw49.out; have := LEw54.out; have := LEw55.out; have := LEw64.out; (try dsimp only at hk_ hs_); omega)); have n9_ := Aside0.mk (hb); have n10_ := Aside0.mk (Nat.le_trans (n := hi558) (by first | exact HT.out | (repeat (first | exact HT.out | (rw [sz_set]) | (rw [sz_drewN]) | (refine Nat.le_trans ?_ (sz_alloc _ _))))) hkp.1); clear BK531; clear HO536; clear HO540; clear BK542; clear HO546; clear BK547; clear HO551; clear BK553; clear HO558; clear HB; clear HT; have BK531 := n0_; have HO536 := n1_; have HO540 := n2_; have BK542 := n3_; have HO546 := n4_; have BK547 := n5_; have HO551 := n6_; have BK553 := n7_; have HO558 := n8_; have HB := n9_; have HT := n10_; clear n0_ n1_ n2_ n3_ n4_ n5_ n6_ n7_ n8_ n9_ n10_; (try clear hb); (try clear hkp); (try clear hy0); have hcz74_0 : w73.cell? ⟨gb553, 0, none⟩ = some (.int .i64 t548) := (blk_cell BK553.out 0).trans rfl; have hcz74_1 : w73.cell? ⟨gb553, 1, none⟩ = some (.slice Ao60 t549.length co60) := (blk_cell BK553.out 1).trans rfl; have hfz74_0 := blk_frozen BK553.out 0; have hfz74_1 := blk_frozen BK553.out 1) | ((with_reducible refine gate_callee (f := 37) rfl ?_); refine goesL_ (some 74) rfl rfl Try.func37 (by kernel_rfl) rfl #[.agg #[.int .i64 t548, .slice Ao60 t564.length co60], .int .i64 1] rfl (by (try simp only [List.map_toArray, List.map_cons, List.map_nil]); first | done | (rw [show t564.length = t549.length from (Kd.S_reads' HO551.out).1.symm] <;> rfl) | rfl | (simp only [List.length_drop, List.length_take]; rfl)) ?_; (with_reducible refine (laws_heldMeeting.calls k t548 _ _ t564 1 t565 _ ?side1 ?side2 A25.out).mono ?_); (case side1 => repeat (first | exact (Kd.S_reads' HO551.out).2.2 | (with_reducible refine Kd.C_alloc ?_ _) | (with_reducible refine Kd.C_drewN ?_ _) | (with_reducible refine Kd.C_drew ?_))); (case side2 => rw [show t564.length = t549.length from (Kd.S_reads' HO551.out).1.symm]; exact (Kd.S_reads' HO551.out).2.1); rintro e w75 ⟨rfl, hb⟩; refine ⟨_, rfl, ?_⟩; have n0_ := Aside0.mk (Kd.S_below (by (with_reducible repeat (first | apply Kd.S_alloc | apply Kd.S_drewN | apply Kd.S_drew)); exact HO536.out) hb); have n1_ := Aside0.mk (Kd.S_below (by (with_reducible repeat (first | apply Kd.S_alloc | apply Kd.S_drewN | apply Kd.S_drew)); exact HO540.out) hb); have n2_ := Aside0.mk (Kd.S_below (by (with_reducible repeat (first | apply Kd.S_alloc | apply Kd.S_drewN | apply Kd.S_drew)); exact HO546.out) hb); have n3_ := Aside0.mk (Kd.S_below (by (with_reducible repeat (first | apply Kd.S_alloc | apply Kd.S_drewN | apply Kd.S_drew)); exact HO551.out) hb); have n4_ := Aside0.mk (Kd.S_below (by (with_reducible repeat (first | apply Kd.S_alloc | apply Kd.S_drewN | apply Kd.S_drew)); exact HO558.out) hb); have n5_ := Aside0.mk (blk_below (g := gb531) (o := .cells #[.int .i64 a0_0, .slice A0_1 l0_1.length c0_1] 24 (0, 0)) (by (with_reducible repeat (first | refine blk_drewN ?_ _ | refine blk_drew ?_ | refine blk_alloc ?_ _)); exact BK531.out) hb); have n6_ := Aside0.mk (blk_below (g := gb542) (o := .cells #[.int .i64 t537, .slice Ao46 t538.length co46] 29 (0, 0)) (by (with_reducible repeat (first | refine blk_drewN ?_ _ | refine blk_drew ?_ | refine blk_alloc ?_ _)); exact BK542.out) hb); have n7_ := Aside0.mk (blk_below (g := gb547) (o := .cells #[.int .i64 t543, .slice Ao53 t544.length co53] 29 (0, 0)) (by (with_reducible repeat (first | refine blk_drewN ?_ _ | refine blk_drew ?_ | refine blk_alloc ?_ _)); exact BK547.out) hb); have n8_ := Aside0.mk (blk_below (g := gb553) (o := .cells #[.int .i64 t548, .slice Ao60 t549.length co60] 29 (0, 0)) (by (with_reducible repeat (first | refine blk_drewN ?_ _ | refine blk_drew ?_ | refine blk_alloc ?_ _)); exact BK553.out) hb); have n9_ := Aside0.mk (Nat.le_trans (n := hi558) (by first | exact HT.out | (repeat (first | exact HT.out | (rw [sz_set]) | (rw [sz_drewN]) | (refine Nat.le_trans ?_ (sz_alloc _ _))))) hb.size); have n10_ := Aside0.mk (below_step (by repeat (first | (with_reducible first | exact HB.out | apply below_alloc | apply pw_below_drewN | apply below_drew1 | refine below_set ?_ GE531.out | refine below_set ?_ GE542.out | refine below_set ?_ GE547.out | refine below_set ?_ GE553.out) | exact HB.out)) hb); clear HO536; clear HO540; clear HO546; clear HO551; clear HO558; clear BK531; clear BK542; clear BK547; clear BK553; clear HT; clear HB; have HO536 := n0_; have HO540 := n1_; have HO546 := n2_; have HO551 := n3_; have HO558 := n4_; have BK531 := n5_; have BK542 := n6_; have BK547 := n7_; have BK553 := n8_; have HT := n9_; have HB := n10_; clear n0_ n1_ n2_ n3_ n4_ n5_ n6_ n7_ n8_ n9_ n10_; (try clear hb); (try clear hb2); (try clear hk); (try clear hi); have hcz76_0 : w75.cell? ⟨gb531, 0, none⟩ = some (.int .i64 a0_0) := (blk_cell BK531.out 0).trans rfl; have hcz76_1 : w75.cell? ⟨gb531, 1, none⟩ = some (.slice A0_1 l0_1.length c0_1) := (blk_cell BK531.out 1).trans rfl; have hfz76_0 := blk_frozen BK531.out 0; have hfz76_1 := blk_frozen BK531.out 1) | ((with_reducible refine gate_callee (f := 16) rfl ?_); refine goesL_ (some 82) rfl rfl Try.func16 (by kernel_rfl) rfl #[.agg #[.int .i64 a0_0, .slice A0_1 l0_1.length c0_1]] rfl (by (try simp only [List.map_toArray, List.map_cons, List.map_nil]); first | done | rfl | (simp only [List.length_drop, List.length_take]; rfl)) ?_; (with_reducible refine (laws_toMeeting.calls k a0_0 _ _ l0_1 t566 t567 _ ?side1 ?side2 A28.out).mono ?_); (case side1 => repeat (first | exact (Kd.C_below HR0_1.out HB.out) | (with_reducible refine Kd.C_alloc ?_ _) | (with_reducible refine Kd.C_drewN ?_ _) | (with_reducible refine Kd.C_drew ?_))); (case side2 => exact HC0_1.out); rintro e w77 ⟨v568, rfl, ho0, hb⟩; refine ⟨_, rfl, ?_⟩; obtain ⟨lo569, hi569, hle_, hrn_⟩ := rngSL (a := hi558) ho0 hb (by first | exact HT.out | (repeat (first | exact HT.out | (rw [sz_set]) | (rw [sz_drewN]) | (refine Nat.le_trans ?_ (sz_alloc _ _))))) (below_size (by repeat (first | (with_reducible first | exact HB.out | apply below_alloc | apply pw_below_drewN | apply below_drew1 | refine below_set ?_ GE531.out | refine below_set ?_ GE542.out | refine below_set ?_ GE547.out | refine below_set ?_ GE553.out) | exact HB.out))); have n0_ := Aside0.mk (Kd.S_below (by (with_reducible repeat (first | apply Kd.S_alloc | apply Kd.S_drewN | apply Kd.S_drew)); exact HO536.out) hb); have n1_ := Aside0.mk (Kd.S_below (by (with_reducible repeat (first | apply Kd.S_alloc | apply Kd.S_drewN | apply Kd.S_drew)); exact HO540.out) hb); have n2_ := Aside0.mk (Kd.S_below (by (with_reducible repeat (first | apply Kd.S_alloc | apply Kd.S_drewN | apply Kd.S_drew)); exact HO546.out) hb); have n3_ := Aside0.mk (Kd.S_below (by (with_reducible repeat (first | apply Kd.S_alloc | apply Kd.S_drewN | apply Kd.S_drew)); exact HO551.out) hb); have n4_ := Aside0.mk (Kd.S_below (by (with_reducible repeat (first | apply Kd.S_alloc | apply Kd.S_drewN | apply Kd.S_drew)); exact HO558.out) hb); have n5_ := Aside0.mk (hrn_); have n6_ := Aside0.mk (blk_below (g := gb531) (o := .cells #[.int .i64 a0_0, .slice A0_1 l0_1.length c0_1] 24 (0, 0)) (by (with_reducible repeat (first | refine blk_drewN ?_ _ | refine blk_drew ?_ | refine blk_alloc ?_ _)); exact BK531.out) hb); have n7_ := Aside0.mk (blk_below (g := gb542) (o := .cells #[.int .i64 t537, .slice Ao46 t538.length co46] 29 (0, 0)) (by (with_reducible repeat (first | refine blk_drewN ?_ _ | refine blk_drew ?_ | refine blk_alloc ?_ _)); exact BK542.out) hb); have n8_ := Aside0.mk (blk_below (g := gb547) (o := .cells #[.int .i64 t543, .slice Ao53 t544.length co53] 29 (0, 0)) (by (with_reducible repeat (first | refine blk_drewN ?_ _ | refine blk_drew ?_ | refine blk_alloc ?_ _)); exact BK547.out) hb); have n9_ := Aside0.mk (blk_below (g := gb553) (o := .cells #[.int .i64 t548, .slice Ao60 t549.length co60] 29 (0, 0)) (by (with_reducible repeat (first | refine blk_drewN ?_ _ | refine blk_drew ?_ | refine blk_alloc ?_ _)); exact BK553.out) hb); have n10_ := Aside0.mk (And.intro hle_.1 hle_.2.1); have n11_ := Aside0.mk (hle_.2.2); have n12_ := Aside0.mk (below_step (by repeat (first | (with_reducible first | exact HB.out | apply below_alloc | apply pw_below_drewN | apply below_drew1 | refine below_set ?_ GE531.out | refine below_set ?_ GE542.out | refine below_set ?_ GE547.out | refine below_set ?_ GE553.out) | exact HB.out)) hb); clear HO536; clear HO540; clear HO546; clear HO551; clear HO558; clear BK531; clear BK542; clear BK547; clear BK553; clear HT; clear HB; have HO536 := n0_; have HO540 := n1_; have HO546 := n2_; have HO551 := n3_; have HO558 := n4_; have HO569 := n5_; have BK531 := n6_; have BK542 := n7_; have BK547 := n8_; have BK553 := n9_; have LEw77 := n10_; have HT := n11_; have HB := n12_; clear n0_ n1_ n2_ n3_ n4_ n5_ n6_ n7_ n8_ n9_ n10_ n11_ n12_; (try clear hb); (try clear hb2); (try clear hk); (try clear hi); (try clear ho0); (try clear hle_); (try clear hrn_); obtain ⟨Ao78, co78, eo78⟩ := Kd.S_slice HO569.out; subst eo78) | ((with_reducible refine gate_callee (f := 36) rfl ?_); refine goesL_ (some 84) rfl rfl Try.func36 (by kernel_rfl) rfl #[.agg #[.int .i64 t566, .slice Ao78 t567.length co78], .string a1] rfl (by (try simp only [List.map_toArray, List.map_cons, List.map_nil]); first | done | rfl | (simp only [List.length_drop, List.length_take]; rfl)) ?_; (with_reducible refine (impl_AddMotion.calls k t566 _ _ t567 a1 t570 t571 t574 _ ?side1 ?side2 A29.out).mono ?_); (case side1 => repeat (first | exact (Kd.S_reads' HO569.out).2.2 | (with_reducible refine Kd.C_alloc ?_ _) | (with_reducible refine Kd.C_drewN ?_ _) | (with_reducible refine Kd.C_drew ?_))); (case side2 => exact (Kd.S_reads' HO569.out).2.1); rintro e w79 ⟨v572, rfl, ho0, hb⟩; refine ⟨_, rfl, ?_⟩; obtain ⟨lo573, hi573, hle_, hrn_⟩ := rngSL (a := hi569) ho0 hb (by first | exact HT.out | (repeat (first | exact HT.out | (rw [sz_set]) | (rw [sz_drewN]) | (refine Nat.le_trans ?_ (sz_alloc _ _))))) (below_size (by repeat (first | (with_reducible first | exact HB.out | apply below_alloc | apply pw_below_drewN | apply below_drew1 | refine below_set ?_ GE531.out | refine below_set ?_ GE542.out | refine below_set ?_ GE547.out | refine below_set ?_ GE553.out) | exact HB.out))); have n0_ := Aside0.mk (Kd.S_below (by (with_reducible repeat (first | apply Kd.S_alloc | apply Kd.S_drewN | apply Kd.S_drew)); exact HO536.out) hb); have n1_ := Aside0.mk (Kd.S_below (by (with_reducible repeat (first | apply Kd.S_alloc | apply Kd.S_drewN | apply Kd.S_drew)); exact HO540.out) hb); have n2_ := Aside0.mk (Kd.S_below (by (with_reducible repeat (first | apply Kd.S_alloc | apply Kd.S_drewN | apply Kd.S_drew)); exact HO546.out) hb); have n3_ := Aside0.mk (Kd.S_below (by (with_reducible repeat (first | apply Kd.S_alloc | apply Kd.S_drewN | apply Kd.S_drew)); exact HO551.out) hb); have n4_ := Aside0.mk (Kd.S_below (by (with_reducible repeat (first | apply Kd.S_alloc | apply Kd.S_drewN | apply Kd.S_drew)); exact HO558.out) hb); have n5_ := Aside0.mk (Kd.S_below (by (with_reducible repeat (first | apply Kd.S_alloc | apply Kd.S_drewN | apply Kd.S_drew)); exact HO569.out) hb); have n6_ := Aside0.mk (hrn_); have n7_ := Aside0.mk (blk_below (g := gb531) (o := .cells #[.int .i64 a0_0, .slice A0_1 l0_1.length c0_1] 24 (0, 0)) (by (with_reducible repeat (first | refine blk_drewN ?_ _ | refine blk_drew ?_ | refine blk_alloc ?_ _)); exact BK531.out) hb); have n8_ := Aside0.mk (blk_below (g := gb542) (o := .cells #[.int .i64 t537, .slice Ao46 t538.length co46] 29 (0, 0)) (by (with_reducible repeat (first | refine blk_drewN ?_ _ | refine blk_drew ?_ | refine blk_alloc ?_ _)); exact BK542.out) hb); have n9_ := Aside0.mk (blk_below (g := gb547) (o := .cells #[.int .i64 t543, .slice Ao53 t544.length co53] 29 (0, 0)) (by (with_reducible repeat (first | refine blk_drewN ?_ _ | refine blk_drew ?_ | refine blk_alloc ?_ _)); exact BK547.out) hb); have n10_ := Aside0.mk (blk_below (g := gb553) (o := .cells #[.int .i64 t548, .slice Ao60 t549.length co60] 29 (0, 0)) (by (with_reducible repeat (first | refine blk_drewN ?_ _ | refine blk_drew ?_ | refine blk_alloc ?_ _)); exact BK553.out) hb); have n11_ := Aside0.mk (And.intro hle_.1 hle_.2.1); have n12_ := Aside0.mk (hle_.2.2); have n13_ := Aside0.mk (below_step (by repeat (first | (with_reducible first | exact HB.out | apply below_alloc | apply pw_below_drewN | apply below_drew1 | refine below_set ?_ GE531.out | refine below_set ?_ GE542.out | refine below_set ?_ GE547.out | refine below_set ?_ GE553.out) | exact HB.out)) hb); clear HO536; clear HO540; clear HO546; clear HO551; clear HO558; clear HO569; clear BK531; clear BK542; clear BK547; clear BK553; clear HT; clear HB; have HO536 := n0_; have HO540 := n1_; have HO546 := n2_; have HO551 := n3_; have HO558 := n4_; have HO569 := n5_; have HO573 := n6_; have BK531 := n7_; have BK542 := n8_; have BK547 := n9_; have BK553 := n10_; have LEw79 := n11_; have HT := n12_; have HB := n13_; clear n0_ n1_ n2_ n3_ n4_ n5_ n6_ n7_ n8_ n9_ n10_ n11_ n12_ n13_; (try clear hb); (try clear hb2); (try clear hk); (try clear hi); (try clear ho0); (try clear hle_); (try clear hrn_)) | ((with_reducible refine gate_dst (N := 14) rfl ?_); refine box_event ?hg (N := 14) ?hd (cs := #[.int .i64 0, .slice none 0 0]) (t := 29) ?hr ?_; (case hd => rfl); (case hg => rfl); (case hr => first | (go_simp; done) | (go_simp; rfl)); intro gb575 hg w80 hbox hb; have n0_ := Aside0.mk (Kd.S_below (by (with_reducible repeat (first | apply Kd.S_alloc | apply Kd.S_drewN | apply Kd.S_drew)); exact HO536.out) hb); have n1_ := Aside0.mk (Kd.S_below (by (with_reducible repeat (first | apply Kd.S_alloc | apply Kd.S_drewN | apply Kd.S_drew)); exact HO540.out) hb); have n2_ := Aside0.mk (Kd.S_below (by (with_reducible repeat (first | apply Kd.S_alloc | apply Kd.S_drewN | apply Kd.S_drew)); exact HO546.out) hb); have n3_ := Aside0.mk (Kd.S_below (by (with_reducible repeat (first | apply Kd.S_alloc | apply Kd.S_drewN | apply Kd.S_drew)); exact HO551.out) hb); have n4_ := Aside0.mk (Kd.S_below (by (with_reducible repeat (first | apply Kd.S_alloc | apply Kd.S_drewN | apply Kd.S_drew)); exact HO558.out) hb); have n5_ := Aside0.mk (Kd.S_below (by (with_reducible repeat (first | apply Kd.S_alloc | apply Kd.S_drewN | apply Kd.S_drew)); exact HO569.out) hb); have n6_ := Aside0.mk (Kd.S_below (by (with_reducible repeat (first | apply Kd.S_alloc | apply Kd.S_drewN | apply Kd.S_drew)); exact HO573.out) hb); have n7_ := Aside0.mk (blk_below (g := gb531) (o := .cells #[.int .i64 a0_0, .slice A0_1 l0_1.length c0_1] 24 (0, 0)) (by (with_reducible repeat (first | refine blk_drewN ?_ _ | refine blk_drew ?_ | refine blk_alloc ?_ _)); exact BK531.out) hb); have n8_ := Aside0.mk (blk_below (g := gb542) (o := .cells #[.int .i64 t537, .slice Ao46 t538.length co46] 29 (0, 0)) (by (with_reducible repeat (first | refine blk_drewN ?_ _ | refine blk_drew ?_ | refine blk_alloc ?_ _)); exact BK542.out) hb); have n9_ := Aside0.mk (blk_below (g := gb547) (o := .cells #[.int .i64 t543, .slice Ao53 t544.length co53] 29 (0, 0)) (by (with_reducible repeat (first | refine blk_drewN ?_ _ | refine blk_drew ?_ | refine blk_alloc ?_ _)); exact BK547.out) hb); have n10_ := Aside0.mk (blk_below (g := gb553) (o := .cells #[.int .i64 t548, .slice Ao60 t549.length co60] 29 (0, 0)) (by (with_reducible repeat (first | refine blk_drewN ?_ _ | refine blk_drew ?_ | refine blk_alloc ?_ _)); exact BK553.out) hb); have n11_ := Aside0.mk (below_step (by repeat (first | (with_reducible first | exact HB.out | apply below_alloc | apply pw_below_drewN | apply below_drew1 | refine below_set ?_ GE531.out | refine below_set ?_ GE542.out | refine below_set ?_ GE547.out | refine below_set ?_ GE553.out) | exact HB.out)) hb); have n12_ := Aside0.mk (hbox); have n13_ := Aside0.mk ((by rw [hg]; exact (below_size (by repeat (first | (with_reducible first | exact HB.out | apply below_alloc | apply pw_below_drewN | apply below_drew1 | refine below_set ?_ GE531.out | refine below_set ?_ GE542.out | refine below_set ?_ GE547.out | refine below_set ?_ GE553.out) | exact HB.out))) : w.heap.size ≤ gb575)); have n14_ := Aside0.mk ((by rw [hg]; exact (below_size (by repeat (first | (with_reducible first | exact HB.out | apply below_alloc | apply pw_below_drewN | apply below_drew1 | refine below_set ?_ GE531.out | refine below_set ?_ GE542.out | refine below_set ?_ GE547.out | refine below_set ?_ GE553.out) | exact HB.out))) : w.heap.size ≤ gb575)); have n15_ := Aside0.mk ((by rw [hg]; exact Nat.ne_of_lt (blk_lt (g := gb531) (o := .cells #[.int .i64 a0_0, .slice A0_1 l0_1.length c0_1] 24 (0, 0)) (by (with_reducible repeat (first | refine blk_drewN ?_ _ | refine blk_drew ?_ | refine blk_alloc ?_ _)); exact BK531.out)) : gb531 ≠ gb575)); have n16_ := Aside0.mk ((by rw [hg]; exact Nat.ne_of_gt (blk_lt (g := gb531) (o := .cells #[.int .i64 a0_0, .slice A0_1 l0_1.length c0_1] 24 (0, 0)) (by (with_reducible repeat (first | refine blk_drewN ?_ _ | refine blk_drew ?_ | refine blk_alloc ?_ _)); exact BK531.out)) : gb575 ≠ gb531)); have n17_ := Aside0.mk ((by rw [hg]; exact Nat.ne_of_lt (blk_lt (g := gb542) (o := .cells #[.int .i64 t537, .slice Ao46 t538.length co46] 29 (0, 0)) (by (with_reducible repeat (first | refine blk_drewN ?_ _ | refine blk_drew ?_ | refine blk_alloc ?_ _)); exact BK542.out)) : gb542 ≠ gb575)); have n18_ := Aside0.mk ((by rw [hg]; exact Nat.ne_of_gt (blk_lt (g := gb542) (o := .cells #[.int .i64 t537, .slice Ao46 t538.length co46] 29 (0, 0)) (by (with_reducible repeat (first | refine blk_drewN ?_ _ | refine blk_drew ?_ | refine blk_alloc ?_ _)); exact BK542.out)) : gb575 ≠ gb542)); have n19_ := Aside0.mk ((by rw [hg]; exact Nat.ne_of_lt (blk_lt (g := gb547) (o := .cells #[.int .i64 t543, .slice Ao53 t544.length co53] 29 (0, 0)) (by (with_reducible repeat (first | refine blk_drewN ?_ _ | refine blk_drew ?_ | refine blk_alloc ?_ _)); exact BK547.out)) : gb547 ≠ gb575)); have n20_ := Aside0.mk ((by rw [hg]; exact Nat.ne_of_gt (blk_lt (g := gb547) (o := .cells #[.int .i64 t543, .slice Ao53 t544.length co53] 29 (0, 0)) (by (with_reducible repeat (first | refine blk_drewN ?_ _ | refine blk_drew ?_ | refine blk_alloc ?_ _)); exact BK547.out)) : gb575 ≠ gb547)); have n21_ := Aside0.mk ((by rw [hg]; exact Nat.ne_of_lt (blk_lt (g := gb553) (o := .cells #[.int .i64 t548, .slice Ao60 t549.length co60] 29 (0, 0)) (by (with_reducible repeat (first | refine blk_drewN ?_ _ | refine blk_drew ?_ | refine blk_alloc ?_ _)); exact BK553.out)) : gb553 ≠ gb575)); have n22_ := Aside0.mk ((by rw [hg]; exact Nat.ne_of_gt (blk_lt (g := gb553) (o := .cells #[.int .i64 t548, .slice Ao60 t549.length co60] 29 (0, 0)) (by (with_reducible repeat (first | refine blk_drewN ?_ _ | refine blk_drew ?_ | refine blk_alloc ?_ _)); exact BK553.out)) : gb575 ≠ gb553)); have n23_ := Aside0.mk ((by rw [hg]; first | exact HT.out | (repeat (first | exact HT.out | (rw [sz_set]) | (rw [sz_drewN]) | (refine Nat.le_trans ?_ (sz_alloc _ _)))) : hi573 ≤ gb575)); have n24_ := Aside0.mk ((blk_lt hbox : gb575 + 1 ≤ w80.heap.size)); clear HO536; clear HO540; clear HO546; clear HO551; clear HO558; clear HO569; clear HO573; clear BK531; clear BK542; clear BK547; clear BK553; clear HB; clear HT; have HO536 := n0_; have HO540 := n1_; have HO546 := n2_; have HO551 := n3_; have HO558 := n4_; have HO569 := n5_; have HO573 := n6_; have BK531 := n7_; have BK542 := n8_; have BK547 := n9_; have BK553 := n10_; have HB := n11_; have BK575 := n12_; have GW575 := n13_; have GE575 := n14_; have NB531_575 := n15_; have NB575_531 := n16_; have NB542_575 := n17_; have NB575_542 := n18_; have NB547_575 := n19_; have NB575_547 := n20_; have NB553_575 := n21_; have NB575_553 := n22_; have LEw80 := n23_; have HT := n24_; clear n0_ n1_ n2_ n3_ n4_ n5_ n6_ n7_ n8_ n9_ n10_ n11_ n12_ n13_ n14_ n15_ n16_ n17_ n18_ n19_ n20_ n21_ n22_ n23_ n24_; clear hb hbox hg; have hnb81 := NB575_531.out; have hnc81 := NB531_575.out; have hnb82 := NB575_542.out; have hnc82 := NB542_575.out; have hnb83 := NB575_547.out; have hnc83 := NB547_575.out; have hnb84 := NB575_553.out; have hnc84 := NB553_575.out; have hcz85_0 : w80.cell? ⟨gb575, 0, none⟩ = some (.int .i64 0) := (blk_cell BK575.out 0).trans rfl; have hcz85_1 : w80.cell? ⟨gb575, 1, none⟩ = some (.slice none 0 0) := (blk_cell BK575.out 1).trans rfl; have hfz85_0 := blk_frozen BK575.out 0; have hfz85_1 := blk_frozen BK575.out 1; obtain ⟨Ao86, co86, eo86⟩ := Kd.S_slice HO573.out; subst eo86; have hcz87_0 : w80.cell? ⟨gb542, 0, none⟩ = some (.int .i64 t537) := (blk_cell BK542.out 0).trans rfl; have hcz87_1 : w80.cell? ⟨gb542, 1, none⟩ = some (.slice Ao46 t538.length co46) := (blk_cell BK542.out 1).trans rfl; have hfz87_0 := blk_frozen BK542.out 0; have hfz87_1 := blk_frozen BK542.out 1) | ((with_reducible refine gate_callee (f := 18) rfl ?_); refine goesL_ (some 89) rfl rfl Try.func18 (by kernel_rfl) rfl #[.agg #[.int .i64 t570, .slice Ao86 t571.length co86], .agg #[.int .i64 t537, .slice Ao46 t538.length co46]] rfl (by (try simp only [List.map_toArray, List.map_cons, List.map_nil]); first | done | rfl | (simp only [List.length_drop, List.length_take]; rfl)) ?_; (with_reducible refine (laws_eqMeeting.calls k t570 _ _ t571 t537 _ _ t538 true _ ?side1 ?side2 ?side3 ?side4 A30.out).mono ?_); (case side1 => refine (Kd.S_reads' (e := 60) (base := w.heap.size) (ok := fun k_ => (lo573 ≤ k_ ∧ k_ < hi573)) (n := t571.length) (c := co86) ?_).2.2; exact (by (with_reducible repeat (first | apply Kd.S_alloc | apply Kd.S_drewN | apply Kd.S_drew)); exact (Kd.S_mono (Kd.S_far (p := ⟨gb575, 1, none⟩) (Kd.S_far (p := ⟨gb575, 0, none⟩) (Kd.S_types HO573.out BK575.out (by decide)) (fun _ hk => hk.2) (.int .i64 t570)) (fun _ hk => hk.2) (.slice Ao86 t571.length co86)) (fun _ h_ => h_.1)))); (case side2 => exact (Kd.S_reads' HO573.out).2.1); (case side3 => refine (Kd.S_reads' (e := 60) (base := w.heap.size) (ok := fun k_ => (lo540 ≤ k_ ∧ k_ < hi540)) (n := t538.length) (c := co46) ?_).2.2; exact (by (with_reducible repeat (first | apply Kd.S_alloc | apply Kd.S_drewN | apply Kd.S_drew)); exact (Kd.S_mono (Kd.S_far (p := ⟨gb575, 1, none⟩) (Kd.S_far (p := ⟨gb575, 0, none⟩) (Kd.S_types HO540.out BK575.out (by decide)) (fun _ hk => hk.2) (.int .i64 t570)) (fun _ hk => hk.2) (.slice Ao86 t571.length co86)) (fun _ h_ => h_.1)))); (case side4 => exact (Kd.S_reads' HO540.out).2.1); rintro e w88 ⟨rfl, hb⟩; refine ⟨_, rfl, ?_⟩; have n0_ := Aside0.mk (Kd.S_below (by (with_reducible repeat (first | apply Kd.S_alloc | apply Kd.S_drewN | apply Kd.S_drew)); exact (Kd.S_mono (Kd.S_far (p := ⟨gb575, 1, none⟩) (Kd.S_far (p := ⟨gb575, 0, none⟩) (Kd.S_types HO536.out BK575.out (by decide)) (fun _ hk => hk.2) (.int .i64 t570)) (fun _ hk => hk.2) (.slice Ao86 t571.length co86)) (fun _ h_ => h_.1))) hb); have n1_ := Aside0.mk (Kd.S_below (by (with_reducible repeat (first | apply Kd.S_alloc | apply Kd.S_drewN | apply Kd.S_drew)); exact (Kd.S_mono (Kd.S_far (p := ⟨gb575, 1, none⟩) (Kd.S_far (p := ⟨gb575, 0, none⟩) (Kd.S_types HO540.out BK575.out (by decide)) (fun _ hk => hk.2) (.int .i64 t570)) (fun _ hk => hk.2) (.slice Ao86 t571.length co86)) (fun _ h_ => h_.1))) hb); have n2_ := Aside0.mk (Kd.S_below (by (with_reducible repeat (first | apply Kd.S_alloc | apply Kd.S_drewN | apply Kd.S_drew)); exact (Kd.S_mono (Kd.S_far (p := ⟨gb575, 1, none⟩) (Kd.S_far (p := ⟨gb575, 0, none⟩) (Kd.S_types HO546.out BK575.out (by decide)) (fun _ hk => hk.2) (.int .i64 t570)) (fun _ hk => hk.2) (.slice Ao86 t571.length co86)) (fun _ h_ => h_.1))) hb); have n3_ := Aside0.mk (Kd.S_below (by (with_reducible repeat (first | apply Kd.S_alloc | apply Kd.S_drewN | apply Kd.S_drew)); exact (Kd.S_mono (Kd.S_far (p := ⟨gb575, 1, none⟩) (Kd.S_far (p := ⟨gb575, 0, none⟩) (Kd.S_types HO551.out BK575.out (by decide)) (fun _ hk => hk.2) (.int .i64 t570)) (fun _ hk => hk.2) (.slice Ao86 t571.length co86)) (fun _ h_ => h_.1))) hb); have n4_ := Aside0.mk (Kd.S_below (by (with_reducible repeat (first | apply Kd.S_alloc | apply Kd.S_drewN | apply Kd.S_drew)); exact (Kd.S_mono (Kd.S_far (p := ⟨gb575, 1, none⟩) (Kd.S_far (p := ⟨gb575, 0, none⟩) (Kd.S_types HO558.out BK575.out (by decide)) (fun _ hk => hk.2) (.int .i64 t570)) (fun _ hk => hk.2) (.slice Ao86 t571.length co86)) (fun _ h_ => h_.1))) hb); have n5_ := Aside0.mk (Kd.S_below (by (with_reducible repeat (first | apply Kd.S_alloc | apply Kd.S_drewN | apply Kd.S_drew)); exact (Kd.S_mono (Kd.S_far (p := ⟨gb575, 1, none⟩) (Kd.S_far (p := ⟨gb575, 0, none⟩) (Kd.S_types HO569.out BK575.out (by decide)) (fun _ hk => hk.2) (.int .i64 t570)) (fun _ hk => hk.2) (.slice Ao86 t571.length co86)) (fun _ h_ => h_.1))) hb); have n6_ := Aside0.mk (Kd.S_below (by (with_reducible repeat (first | apply Kd.S_alloc | apply Kd.S_drewN | apply Kd.S_drew)); exact (Kd.S_mono (Kd.S_far (p := ⟨gb575, 1, none⟩) (Kd.S_far (p := ⟨gb575, 0, none⟩) (Kd.S_types HO573.out BK575.out (by decide)) (fun _ hk => hk.2) (.int .i64 t570)) (fun _ hk => hk.2) (.slice Ao86 t571.length co86)) (fun _ h_ => h_.1))) hb); have n7_ := Aside0.mk (blk_below (g := gb531) (o := .cells #[.int .i64 a0_0, .slice A0_1 l0_1.length c0_1] 24 (0, 0)) (by (with_reducible repeat (first | refine blk_drewN ?_ _ | refine blk_drew ?_ | refine blk_alloc ?_ _)); refine blk_far ?_ NB531_575.out _; (with_reducible repeat (first | refine blk_drewN ?_ _ | refine blk_drew ?_ | refine blk_alloc ?_ _)); refine blk_far ?_ NB531_575.out _; (with_reducible repeat (first | refine blk_drewN ?_ _ | refine blk_drew ?_ | refine blk_alloc ?_ _)); exact BK531.out) hb); have n8_ := Aside0.mk (blk_below (g := gb542) (o := .cells #[.int .i64 t537, .slice Ao46 t538.length co46] 29 (0, 0)) (by (with_reducible repeat (first | refine blk_drewN ?_ _ | refine blk_drew ?_ | refine blk_alloc ?_ _)); refine blk_far ?_ NB542_575.out _; (with_reducible repeat (first | refine blk_drewN ?_ _ | refine blk_drew ?_ | refine blk_alloc ?_ _)); refine blk_far ?_ NB542_575.out _; (with_reducible repeat (first | refine blk_drewN ?_ _ | refine blk_drew ?_ | refine blk_alloc ?_ _)); exact BK542.out) hb); have n9_ := Aside0.mk (blk_below (g := gb547) (o := .cells #[.int .i64 t543, .slice Ao53 t544.length co53] 29 (0, 0)) (by (with_reducible repeat (first | refine blk_drewN ?_ _ | refine blk_drew ?_ | refine blk_alloc ?_ _)); refine blk_far ?_ NB547_575.out _; (with_reducible repeat (first | refine blk_drewN ?_ _ | refine blk_drew ?_ | refine blk_alloc ?_ _)); refine blk_far ?_ NB547_575.out _; (with_reducible repeat (first | refine blk_drewN ?_ _ | refine blk_drew ?_ | refine blk_alloc ?_ _)); exact BK547.out) hb); have n10_ := Aside0.mk (blk_below (g := gb553) (o := .cells #[.int .i64 t548, .slice Ao60 t549.length co60] 29 (0, 0)) (by (with_reducible repeat (first | refine blk_drewN ?_ _ | refine blk_drew ?_ | refine blk_alloc ?_ _)); refine blk_far ?_ NB553_575.out _; (with_reducible repeat (first | refine blk_drewN ?_ _ | refine blk_drew ?_ | refine blk_alloc ?_ _)); refine blk_far ?_ NB553_575.out _; (with_reducible repeat (first | refine blk_drewN ?_ _ | refine blk_drew ?_ | refine blk_alloc ?_ _)); exact BK553.out) hb); have n11_ := Aside0.mk (blk_below (g := gb575) (o := .cells #[.int .i64 t570, .slice Ao86 t571.length co86] 29 (0, 0)) (by (with_reducible repeat (first | refine blk_drewN ?_ _ | refine blk_drew ?_ | refine blk_alloc ?_ _)); refine blk_put (cs := #[.int .i64 t570, .slice none 0 0]) ?_ 1 _ rfl; (with_reducible repeat (first | refine blk_drewN ?_ _ | refine blk_drew ?_ | refine blk_alloc ?_ _)); refine blk_put (cs := #[.int .i64 0, .slice none 0 0]) ?_ 0 _ rfl; (with_reducible repeat (first | refine blk_drewN ?_ _ | refine blk_drew ?_ | refine blk_alloc ?_ _)); exact BK575.out) hb); have n12_ := Aside0.mk (Nat.le_trans (n := (gb575 + 1)) (by first | exact HT.out | (repeat (first | exact HT.out | (rw [sz_set]) | (rw [sz_drewN]) | (refine Nat.le_trans ?_ (sz_alloc _ _))))) hb.size); have n13_ := Aside0.mk (below_step (by repeat (first | (with_reducible first | exact HB.out | apply below_alloc | apply pw_below_drewN | apply below_drew1 | refine below_set ?_ GE531.out | refine below_set ?_ GE542.out | refine below_set ?_ GE547.out | refine below_set ?_ GE553.out | refine below_set ?_ GE575.out) | exact HB.out)) hb); clear HO536; clear HO540; clear HO546; clear HO551; clear HO558; clear HO569; clear HO573; clear BK531; clear BK542; clear BK547; clear BK553; clear BK575; clear HT; clear HB; have HO536 := n0_; have HO540 := n1_; have HO546 := n2_; have HO551 := n3_; have HO558 := n4_; have HO569 := n5_; have HO573 := n6_; have BK531 := n7_; have BK542 := n8_; have BK547 := n9_; have BK553 := n10_; have BK575 := n11_; have HT := n12_; have HB := n13_; clear n0_ n1_ n2_ n3_ n4_ n5_ n6_ n7_ n8_ n9_ n10_ n11_ n12_ n13_; (try clear hb); (try clear hb2); (try clear hk); (try clear hi); have hcz89_0 : w88.cell? ⟨gb553, 0, none⟩ = some (.int .i64 t548) := (blk_cell BK553.out 0).trans rfl; have hcz89_1 : w88.cell? ⟨gb553, 1, none⟩ = some (.slice Ao60 t549.length co60) := (blk_cell BK553.out 1).trans rfl; have hfz89_0 := blk_frozen BK553.out 0; have hfz89_1 := blk_frozen BK553.out 1) | ((with_reducible refine gate_callee (f := 37) rfl ?_); refine goesL_ (some 98) rfl rfl Try.func37 (by kernel_rfl) rfl #[.agg #[.int .i64 t548, .slice Ao60 t564.length co60], .int .i64 1] rfl (by (try simp only [List.map_toArray, List.map_cons, List.map_nil]); first | done | (rw [show t564.length = t549.length from (Kd.S_reads' HO551.out).1.symm] <;> rfl) | rfl | (simp only [List.length_drop, List.length_take]; rfl)) ?_; (with_reducible refine (laws_heldMeeting.calls k t548 _ _ t564 1 t577 _ ?side1 ?side2 A33.out).mono ?_); (case side1 => repeat (first | exact (Kd.S_reads' HO551.out).2.2 | (with_reducible refine Kd.C_alloc ?_ _) | (with_reducible refine Kd.C_drewN ?_ _) | (with_reducible refine Kd.C_drew ?_))); (case side2 => rw [show t564.length = t549.length from (Kd.S_reads' HO551.out).1.symm]; exact (Kd.S_reads' HO551.out).2.1); rintro e w90 ⟨rfl, hb⟩; refine ⟨_, rfl, ?_⟩; have n0_ := Aside0.mk (Kd.S_below (by (with_reducible repeat (first | apply Kd.S_alloc | apply Kd.S_drewN | apply Kd.S_drew)); exact HO536.out) hb); have n1_ := Aside0.mk (Kd.S_below (by (with_reducible repeat (first | apply Kd.S_alloc | apply Kd.S_drewN | apply Kd.S_drew)); exact HO540.out) hb); have n2_ := Aside0.mk (Kd.S_below (by (with_reducible repeat (first | apply Kd.S_alloc | apply Kd.S_drewN | apply Kd.S_drew)); exact HO546.out) hb); have n3_ := Aside0.mk (Kd.S_below (by (with_reducible repeat (first | apply Kd.S_alloc | apply Kd.S_drewN | apply Kd.S_drew)); exact HO551.out) hb); have n4_ := Aside0.mk (Kd.S_below (by (with_reducible repeat (first | apply Kd.S_alloc | apply Kd.S_drewN | apply Kd.S_drew)); exact HO558.out) hb); have n5_ := Aside0.mk (Kd.S_below (by (with_reducible repeat (first | apply Kd.S_alloc | apply Kd.S_drewN | apply Kd.S_drew)); exact HO569.out) hb); have n6_ := Aside0.mk (Kd.S_below (by (with_reducible repeat (first | apply Kd.S_alloc | apply Kd.S_drewN | apply Kd.S_drew)); exact HO573.out) hb); have n7_ := Aside0.mk (blk_below (g := gb531) (o := .cells #[.int .i64 a0_0, .slice A0_1 l0_1.length c0_1] 24 (0, 0)) (by (with_reducible repeat (first | refine blk_drewN ?_ _ | refine blk_drew ?_ | refine blk_alloc ?_ _)); exact BK531.out) hb); have n8_ := Aside0.mk (blk_below (g := gb542) (o := .cells #[.int .i64 t537, .slice Ao46 t538.length co46] 29 (0, 0)) (by (with_reducible repeat (first | refine blk_drewN ?_ _ | refine blk_drew ?_ | refine blk_alloc ?_ _)); exact BK542.out) hb); have n9_ := Aside0.mk (blk_below (g := gb547) (o := .cells #[.int .i64 t543, .slice Ao53 t544.length co53] 29 (0, 0)) (by (with_reducible repeat (first | refine blk_drewN ?_ _ | refine blk_drew ?_ | refine blk_alloc ?_ _)); exact BK547.out) hb); have n10_ := Aside0.mk (blk_below (g := gb553) (o := .cells #[.int .i64 t548, .slice Ao60 t549.length co60] 29 (0, 0)) (by (with_reducible repeat (first | refine blk_drewN ?_ _ | refine blk_drew ?_ | refine blk_alloc ?_ _)); exact BK553.out) hb); have n11_ := Aside0.mk (blk_below (g := gb575) (o := .cells #[.int .i64 t570, .slice Ao86 t571.length co86] 29 (0, 0)) (by (with_reducible repeat (first | refine blk_drewN ?_ _ | refine blk_drew ?_ | refine blk_alloc ?_ _)); exact BK575.out) hb); have n12_ := Aside0.mk (Nat.le_trans (n := (gb575 + 1)) (by first | exact HT.out | (repeat (first | exact HT.out | (rw [sz_set]) | (rw [sz_drewN]) | (refine Nat.le_trans ?_ (sz_alloc _ _))))) hb.size); have n13_ := Aside0.mk (below_step (by repeat (first | (with_reducible first | exact HB.out | apply below_alloc | apply pw_below_drewN | apply below_drew1 | refine below_set ?_ GE531.out | refine below_set ?_ GE542.out | refine below_set ?_ GE547.out | refine below_set ?_ GE553.out | refine below_set ?_ GE575.out) | exact HB.out)) hb); clear HO536; clear HO540; clear HO546; clear HO551; clear HO558; clear HO569; clear HO573; clear BK531; clear BK542; clear BK547; clear BK553; clear BK575; clear HT; clear HB; have HO536 := n0_; have HO540 := n1_; have HO546 := n2_; have HO551 := n3_; have HO558 := n4_; have HO569 := n5_; have HO573 := n6_; have BK531 := n7_; have BK542 := n8_; have BK547 := n9_; have BK553 := n10_; have BK575 := n11_; have HT := n12_; have HB := n13_; clear n0_ n1_ n2_ n3_ n4_ n5_ n6_ n7_ n8_ n9_ n10_ n11_ n12_ n13_; (try clear hb); (try clear hb2); (try clear hk); (try clear hi)))
              go_ret
              exact ⟨by first | rfl | (simp [errW_none, errW_some] <;> rfl) | (simp [*, errW_none, errW_some] <;> rfl), by repeat (first | (with_reducible first | exact HB.out | apply below_alloc | apply pw_below_drewN | apply below_drew1 | refine below_set ?_ GE531.out | refine below_set ?_ GE542.out | refine below_set ?_ GE547.out | refine below_set ?_ GE553.out | refine below_set ?_ GE575.out) | exact HB.out)⟩
             ·rw [if_neg c35] at H
              have c35b0 : (t577 == t563) = false := beq_eq_false_iff_ne.mpr c35
              have c35b1 : (t577 != t563) = true := bne_iff_ne.mpr c35
              exact absurd (Option.some.inj H) (by rw [hr_.out]; decide)
           ·rw [if_neg c32] at H
            have c32b0 : (t574 == t541) = false := beq_eq_false_iff_ne.mpr c32
            have c32b1 : (t574 != t541) = true := bne_iff_ne.mpr c32
            exact absurd (Option.some.inj H) (by rw [hr_.out]; decide)
          ·replace c31 := Bool.eq_false_iff.mpr c31
           subst c31
           have H1 : (some false) = some r := by rw [if_neg (show ¬ (false = true) by decide)] at H; exact H
           clear H
           have H := H1
           clear H1
           exact absurd (Option.some.inj H) (by rw [hr_.out]; decide)
         ·rw [if_neg c27] at H
          have c27b0 : (t565 == t563) = false := beq_eq_false_iff_ne.mpr c27
          have c27b1 : (t565 != t563) = true := bne_iff_ne.mpr c27
          exact absurd (Option.some.inj H) (by rw [hr_.out]; decide)
       ·replace c23 := Bool.eq_false_iff.mpr c23
        subst c23
        have H1 : (some false) = some r := by rw [if_neg (show ¬ (false = true) by decide)] at H; exact H
        clear H
        have H := H1
        clear H1
        exact absurd (Option.some.inj H) (by rw [hr_.out]; decide)
     ·replace c19 := Bool.eq_false_iff.mpr c19
      subst c19
      have H1 : (some false) = some r := by rw [if_neg (show ¬ (false = true) by decide)] at H; exact H
      clear H
      have H := H1
      clear H1
      exact absurd (Option.some.inj H) (by rw [hr_.out]; decide)
    ·rw [if_neg c16] at H
     have c16b0 : (t552 == t541) = false := beq_eq_false_iff_ne.mpr c16
     have c16b1 : (t552 != t541) = true := bne_iff_ne.mpr c16
     exact absurd (Option.some.inj H) (by rw [hr_.out]; decide)
   ·replace c15 := Bool.eq_false_iff.mpr c15
    subst c15
    have H1 : (some false) = some r := by rw [if_neg (show ¬ (false = true) by decide)] at H; exact H
    clear H
    have H := H1
    clear H1
    exact absurd (Option.some.inj H) (by rw [hr_.out]; decide)

end Go.Proofs.Ytfgfkmjpeffjbaa.X

/-! ## Rdr -/
/- How an argument that reads as data is given to the printed functions: whole numbers, bools, strings, slices and structs of these, of whatever depth. No condition. -/
namespace Go.Proofs.Ytfgfkmjpeffjbaa.Rdr
open Go.ChangeShapes Go.WideShapes Go.Deep Go.Proofs.YtfgfkmjpeffjbaaW.PrintWords

def I64 (n : Int) : Prop := -9223372036854775808 ≤ n ∧ n ≤ 9223372036854775807
def Str (s : ByteArray) : Prop := s.size ≤ 9223372036854775807
def Lst {α : Type} (Wf : α → Prop) (xs : List α) : Prop := xs.length ≤ 9223372036854775807 ∧ ∀ x ∈ xs, Wf x

structure Reads (P : Program) (t : TypeId) {α : Type} (κ : Kd α) (Wf : α → Prop) : Prop where
  size : P.cellsOf t = κ.sz
  read : ∀ {H : Type} {enc : TypeId × Value → H} {W : World} {base : Nat} {spare : Nat → Bool} {held : Bool} {fuel : Nat} {cs : List Value} {x : DataW H × List MemPlace}, DataW.trod enc P W base spare held fuel t cs = some x → ∃ a, κ.K W a cs ∧ Wf a

theorem reads_i64 {P : Program} {t : TypeId} (ht : P.underlying t = some (.int .i64)) (hc : P.cellsOf t = 1) : Reads P t (Kd.int .i64) I64 := by
  refine ⟨hc, ?_⟩
  intro H enc W base spare held fuel cs x h
  obtain ⟨n, rfl, _, hw⟩ := DataW.trod_int ht h
  refine ⟨n, rfl, ?_⟩
  have hb := bounds_i64 hw
  unfold I64
  omega
def U8 (n : Int) : Prop := 0 ≤ n ∧ n ≤ 255
theorem reads_u8 {P : Program} {t : TypeId} (ht : P.underlying t = some (.int .u8)) (hc : P.cellsOf t = 1) : Reads P t (Kd.int .u8) U8 := by
  refine ⟨hc, ?_⟩
  intro H enc W base spare held fuel cs x h
  obtain ⟨n, rfl, _, hw⟩ := DataW.trod_int ht h
  exact ⟨n, rfl, bounds_u8 hw⟩
theorem reads_bool {P : Program} {t : TypeId} (ht : P.underlying t = some .bool) (hc : P.cellsOf t = 1) : Reads P t Kd.bool (fun _ => True) := by
  refine ⟨hc, ?_⟩
  intro H enc W base spare held fuel cs x h
  obtain ⟨b, rfl, _⟩ := DataW.trod_bool ht h
  exact ⟨b, rfl, trivial⟩
theorem reads_str {P : Program} {t : TypeId} (ht : P.underlying t = some .string) (hc : P.cellsOf t = 1) : Reads P t Kd.string Str := by
  refine ⟨hc, ?_⟩
  intro H enc W base spare held fuel cs x h
  obtain ⟨s, rfl, _, hs⟩ := DataW.trod_string ht h
  exact ⟨s, rfl, hs⟩

theorem choose_any {α : Type} {n : Nat} {p : Nat → α → Prop} (h : ∀ i, i < n → ∃ x, p i x) : ∃ l : List α, l.length = n ∧ ∀ (j : Nat) (x : α), l[j]? = some x → p j x := by
  induction n with
  | zero => exact ⟨[], rfl, fun j x hj => by simp at hj⟩
  | succ n ih =>
    obtain ⟨l, hl, hp⟩ := ih (fun i hi => h i (by omega))
    obtain ⟨x, hx⟩ := h n (by omega)
    refine ⟨l ++ [x], by simp [hl], fun j y hj => ?_⟩
    rcases Nat.lt_or_ge j l.length with hj' | hj'
    · rw [List.getElem?_append_left hj'] at hj
      exact hp j y hj
    · have := (List.getElem?_eq_some_iff.1 hj).1
      rw [List.length_append, List.length_singleton] at this
      have e : j = l.length := by omega
      subst e
      have e2 : x = y := by simpa using hj
      subst e2
      rw [hl]
      exact hx

theorem reads_slice {P : Program} {t e : TypeId} {α : Type} {κ : Kd α} {Wf : α → Prop} (ht : P.underlying t = some (.slice e)) (hc : P.cellsOf t = 1) (he : Reads P e κ Wf) : Reads P t (Kd.slice e κ) (Lst Wf) := by
  refine ⟨hc, ?_⟩
  intro H enc W base spare held fuel cs x h
  rcases open_slice ht h with ⟨rfl, _⟩ | ⟨a, len, cap, m, n, D, Pl, rfl, hb, hl, hm, hmm, _, hx⟩
  · exact ⟨[], ⟨none, 0, rfl, Nat.le_refl _, rfl, by simp, fun h => by simp at h⟩, by simp [Lst]⟩
  · have hlm : len ≤ m := by rw [hmm]; split <;> omega
    obtain ⟨l, hll, hp⟩ := choose_any (α := α) (n := len) (p := fun i x => Wf x ∧ ∃ c, c.length = κ.sz ∧ κ.K W x c ∧ ∀ j u, c[j]? = some u → W.cell? (a.add (i * κ.sz + j)) = some u) (by
      intro i hi
      obtain ⟨c, hcells, htr⟩ := hx i (by omega)
      obtain ⟨y, hy, hw⟩ := he.read htr
      rw [he.size] at hcells
      obtain ⟨_, hlen, hcell⟩ := World.cells?_some hcells
      refine ⟨y, hw, c, hlen, hy, fun j u hj => ?_⟩
      have hjl := (List.getElem?_eq_some_iff.1 hj).1
      rw [← Go.Deep.add_add, hcell j (by omega)]
      exact hj)
    have hml : maxLen = 9223372036854775807 := by unfold maxLen; rfl
    refine ⟨l, ⟨some a, cap, by rw [hll], by omega, rfl, by omega, fun _ => ⟨a, rfl, fun j p hj => ?_⟩⟩, by omega, fun x hx' => ?_⟩
    · obtain ⟨_, c, h1, h2, h3⟩ := hp j p hj
      exact ⟨c, h1, h2, h3⟩
    · obtain ⟨j, hj⟩ := List.getElem?_of_mem hx'
      exact (hp j x hj).1

/-! The fields of a struct, from one on. -/
structure FReads (P : Program) (fs : List Field) (off : Nat) {α : Type} (κ : Kd α) (Wf : α → Prop) : Prop where
  read : ∀ {H : Type} {enc : TypeId × Value → H} {W : World} {base : Nat} {spare : Nat → Bool} {held : Bool} {n : Nat} (cs : List Value) (ys : List (DataW H × List MemPlace)), ys.length = fs.length →
    (∀ (i : Nat) (f : Field), fs[i]? = some f → DataW.trod enc P W base spare held n f.type ((cs.drop f.offset).take (P.cellsOf f.type)) = ys[i]?) → off + κ.sz = cs.length → ∃ a, κ.K W a (cs.drop off) ∧ Wf a

theorem freads_last {P : Program} {f : Field} {α : Type} {κ : Kd α} {Wf : α → Prop} {off : Nat} (ho : f.offset = off) (h : Reads P f.type κ Wf) : FReads P [f] off κ Wf := by
  constructor
  intro H enc W base spare held n cs ys hl hf hs
  have h0 := hf 0 f rfl
  have hy : 0 < ys.length := by rw [hl]; simp
  rw [List.getElem?_eq_getElem hy, ho, h.size, List.take_of_length_le (by rw [List.length_drop]; omega)] at h0
  exact h.read h0
theorem freads_cons {P : Program} {f : Field} {fs : List Field} {α β : Type} {κ : Kd α} {κ' : Kd β} {Wf : α → Prop} {Wf' : β → Prop} {off off' : Nat} (ho : f.offset = off) (h : Reads P f.type κ Wf) (hoff : off' = off + κ.sz) (h' : FReads P fs off' κ' Wf') :
    FReads P (f :: fs) off (Kd.pair κ κ') (fun x => Wf x.1 ∧ Wf' x.2) := by
  constructor
  intro H enc W base spare held n cs ys hl hf hs
  have hs' : off + (κ.sz + κ'.sz) = cs.length := hs
  have h0 := hf 0 f rfl
  have hy : 0 < ys.length := by rw [hl]; simp
  rw [List.getElem?_eq_getElem hy, ho, h.size] at h0
  obtain ⟨a, ha, hwa⟩ := h.read h0
  obtain ⟨b, hb, hwb⟩ := h'.read (H := H) (enc := enc) (W := W) (base := base) (spare := spare) (held := held) (n := n) cs ys.tail (by rw [List.length_tail, hl]; simp) (fun i g hg => by
    rw [List.getElem?_tail]
    exact hf (i + 1) g (by simpa using hg)) (by omega)
  refine ⟨(a, b), ⟨(cs.drop off).take κ.sz, cs.drop off', ?_, ha, hb⟩, hwa, hwb⟩
  rw [hoff, ← List.drop_drop, List.take_append_drop]
theorem reads_struct {P : Program} {t : TypeId} {fs : Array Field} {α : Type} {κ : Kd α} {Wf : α → Prop} (ht : P.underlying t = some (.struct fs)) (hc : P.cellsOf t = κ.sz) (h : FReads P fs.toList 0 κ Wf) : Reads P t κ Wf := by
  refine ⟨hc, ?_⟩
  intro H enc W base spare held fuel cs x hx
  obtain ⟨ys, n, _, _, hl, hyl, hf⟩ := DataW.trod_struct ht hx
  obtain ⟨a, ha, hw⟩ := h.read (H := H) (enc := enc) (W := W) (base := base) (spare := spare) (held := held) (n := n) cs ys (by simpa using hyl) (fun i f hi => hf i f (by simpa using hi)) (by rw [hl, hc]; omega)
  exact ⟨a, ha, hw⟩
theorem reads_iso {P : Program} {t : TypeId} {α β : Type} {κ : Kd α} {Wf : α → Prop} {f : β → α} (g : α → β) (hg : ∀ a, f (g a) = a) (h : Reads P t κ Wf) : Reads P t (Kd.iso κ f) (fun x => Wf (f x)) := by
  refine ⟨h.size, ?_⟩
  intro H enc W base spare held fuel cs x hx
  obtain ⟨a, ha, hw⟩ := h.read hx
  refine ⟨g a, ?_, ?_⟩
  · show κ.K W (f (g a)) cs
    rw [hg]
    exact ha
  · show Wf (f (g a))
    rw [hg]
    exact hw

end Go.Proofs.Ytfgfkmjpeffjbaa.Rdr

/-! ## SFnExactAddMotion -/
namespace Go.Proofs.Ytfgfkmjpeffjbaa.Say
open Go.RowKit Go.Proofs.Ytfgfkmjpeffjbaa.X
/-- The plain statement of laws_FnExactAddMotion. -/
def FnExactAddMotion : Prop := ∀ (a0_0 : Int) (l0_1 : List (S87)) (a1 : ByteArray), Rdr.I64 a0_0 → (Rdr.Lst (fun x : S87 => Rdr.Str x.f0 ∧ ((Rdr.Lst Rdr.I64) x.f1))) l0_1 → Rdr.Str a1 → ∃ k, laws_FnExactAddMotion.f k a0_0 l0_1 a1 = some true
end Go.Proofs.Ytfgfkmjpeffjbaa.Say
