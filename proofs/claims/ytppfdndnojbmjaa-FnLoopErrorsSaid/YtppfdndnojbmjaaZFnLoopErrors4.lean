/- A part of the proof of FnLoopErrors: walks of Go functions and plain laws that it uses. No condition of its own. -/
import Derived.Test.YtppfdndnojbmjaaZFnLoopErrors0
import Derived.Test.YtppfdndnojbmjaaZFnLoopErrors3
import Derived.Test.YtppfdndnojbmjaaZFnLoopErrors1
set_option linter.unusedVariables false
set_option linter.unusedSimpArgs false

/-! ## XSpecL02Share -/
namespace Go.Proofs.Ytppfdndnojbmjaa.X
open Go.RowKit Go.Proofs.Ytppfdndnojbmjaa.XV Go.Proofs.YtppfdndnojbmjaaW.PrintWords Go.Proofs.YtppfdndnojbmjaaW.PrintLast Go.Proofs.YtppfdndnojbmjaaW.PrintMore
attribute [local go_sem] max2_int min2_int max_two min_two max_three min_three max_four min_four

mutual
def spec_l02Share.l0 : Nat → Int → List Int → Int → List Int → List Int → Int → Int → Option (List Int)
 | 0, _, _, _, _, _, _, _ => none
 | k + 1, x0, x1, x2, x7, x8, x9, x10 => if x10 < (x1.length : Int) then (if 0 ≤ x10 then (if x2 = 0 then (none) else (if x7.length < 17592186044416 then (if x8.length < 17592186044416 then (spec_l02Share.l0 k x0 x1 x2 (x7 ++ [wrap64 (Int.tdiv (wrap64 (x0 * (rd x1 x10))) x2)]) (x8 ++ [Int.tmod (wrap64 (x0 * (rd x1 x10))) x2]) (wrap64 (x9 - (wrap64 (Int.tdiv (wrap64 (x0 * (rd x1 x10))) x2)))) (wrap64 (x10 + 1))) else (none)) else (none))) else (none)) else (spec_l02Share.l1 k x7 x8 x9)
def spec_l02Share.l1 : Nat → List Int → List Int → Int → Option (List Int)
 | 0, _, _, _ => none
 | k + 1, x7, x8, x9 => if x9 > 0 then (spec_l02Share.l2 k x7 x8 x9 0 1) else (some x7)
def spec_l02Share.l2 : Nat → List Int → List Int → Int → Int → Int → Option (List Int)
 | 0, _, _, _, _, _ => none
 | k + 1, x7, x8, x9, x12, x13 => if x13 < (x8.length : Int) then (if 0 ≤ x13 then (if 0 ≤ x12 then (if x12 < (x8.length : Int) then (if (rd x8 x13) > (rd x8 x12) then (spec_l02Share.l2 k x7 x8 x9 x13 (wrap64 (x13 + 1))) else (spec_l02Share.l2 k x7 x8 x9 x12 (wrap64 (x13 + 1)))) else (none)) else (none)) else (none)) else (if 0 ≤ x12 then (if x12 < (x7.length : Int) then (if x12 < (x8.length : Int) then (spec_l02Share.l1 k (x7.set (x12 : Int).toNat (wrap64 ((rd x7 x12) + 1))) (x8.set (x12 : Int).toNat (-1)) (wrap64 (x9 - 1))) else (none)) else (none)) else (none))
end
def spec_l02Share.f (k : Nat) (a0 : Int) (l1 : List Int) (a2 : Int) : Option (List Int) := spec_l02Share.l0 k a0 l1 a2 (([] : List Int)) (([] : List Int)) a0 0
theorem spec_l02Share.mono_l : ∀ k, (∀ y0 y1 y2 y3 y4 y5 y6, LeO (spec_l02Share.l0 k y0 y1 y2 y3 y4 y5 y6) (spec_l02Share.l0 (k + 1) y0 y1 y2 y3 y4 y5 y6)) ∧ (∀ y0 y1 y2, LeO (spec_l02Share.l1 k y0 y1 y2) (spec_l02Share.l1 (k + 1) y0 y1 y2)) ∧ (∀ y0 y1 y2 y3 y4, LeO (spec_l02Share.l2 k y0 y1 y2 y3 y4) (spec_l02Share.l2 (k + 1) y0 y1 y2 y3 y4))
 | 0 => ⟨fun _ _ _ _ _ _ _ r h => by simp [spec_l02Share.l0] at h, fun _ _ _ r h => by simp [spec_l02Share.l1] at h, fun _ _ _ _ _ r h => by simp [spec_l02Share.l2] at h⟩
 | k + 1 => by
  obtain ⟨ih0, ih1, ih2⟩ := spec_l02Share.mono_l k
  refine ⟨?_, ?_, ?_⟩
  ·intro y0 y1 y2 y3 y4 y5 y6
   unfold spec_l02Share.l0
   repeat' first
   | (with_reducible exact ih0 _ _ _ _ _ _ _)
   | (with_reducible exact ih1 _ _ _)
   | (with_reducible exact ih2 _ _ _ _ _)
   | (with_reducible exact LeO.refl _)
   | (with_reducible exact LeO.none _)
   | (with_reducible refine LeO.ite ?_ ?_)
   | (with_reducible refine LeO.bind ?_ (fun _ => ?_))
   | exact ih0 _ _ _ _ _ _ _
   | exact ih1 _ _ _
   | exact ih2 _ _ _ _ _
   | exact LeO.none _
   | refine LeO.ite ?_ ?_
   | refine LeO.bind ?_ (fun _ => ?_)
  ·intro y0 y1 y2
   unfold spec_l02Share.l1
   repeat' first
   | (with_reducible exact ih0 _ _ _ _ _ _ _)
   | (with_reducible exact ih1 _ _ _)
   | (with_reducible exact ih2 _ _ _ _ _)
   | (with_reducible exact LeO.refl _)
   | (with_reducible exact LeO.none _)
   | (with_reducible refine LeO.ite ?_ ?_)
   | (with_reducible refine LeO.bind ?_ (fun _ => ?_))
   | exact ih0 _ _ _ _ _ _ _
   | exact ih1 _ _ _
   | exact ih2 _ _ _ _ _
   | exact LeO.none _
   | refine LeO.ite ?_ ?_
   | refine LeO.bind ?_ (fun _ => ?_)
  ·intro y0 y1 y2 y3 y4
   unfold spec_l02Share.l2
   repeat' first
   | (with_reducible exact ih0 _ _ _ _ _ _ _)
   | (with_reducible exact ih1 _ _ _)
   | (with_reducible exact ih2 _ _ _ _ _)
   | (with_reducible exact LeO.refl _)
   | (with_reducible exact LeO.none _)
   | (with_reducible refine LeO.ite ?_ ?_)
   | (with_reducible refine LeO.bind ?_ (fun _ => ?_))
   | exact ih0 _ _ _ _ _ _ _
   | exact ih1 _ _ _
   | exact ih2 _ _ _ _ _
   | exact LeO.none _
   | refine LeO.ite ?_ ?_
   | refine LeO.bind ?_ (fun _ => ?_)
theorem spec_l02Share.mono : ∀ a0 a1 a2 k, LeO (spec_l02Share.f k a0 a1 a2) (spec_l02Share.f (k + 1) a0 a1 a2) := by
 intro a0 a1 a2 k
 obtain ⟨ih0, ih1, ih2⟩ := spec_l02Share.mono_l k
 unfold spec_l02Share.f
 repeat' first
   | (with_reducible exact ih0 _ _ _ _ _ _ _)
   | (with_reducible exact ih1 _ _ _)
   | (with_reducible exact ih2 _ _ _ _ _)
   | (with_reducible exact LeO.refl _)
   | (with_reducible exact LeO.none _)
   | (with_reducible refine LeO.ite ?_ ?_)
   | (with_reducible refine LeO.bind ?_ (fun _ => ?_))
   | exact ih0 _ _ _ _ _ _ _
   | exact ih1 _ _ _
   | exact ih2 _ _ _ _ _
   | exact LeO.none _
   | refine LeO.ite ?_ ?_
   | refine LeO.bind ?_ (fun _ => ?_)
set_option maxHeartbeats 8000000 in
set_option maxRecDepth 100000 in
theorem spec_l02Share.calls (k : Nat) (a0 : Int) (A1 : Option Addr) (c1 : Nat) (l1 : List Int) (a2 : Int) (r : List Int) (w : World) (hr1 : Kd.C (Kd.int .i64) w A1 l1.length l1) (hc1 : l1.length ≤ c1) (h : spec_l02Share.f k a0 l1 a2 = some r) :
  Calls Try.prog 79 #[.int .i64 a0, .slice A1 l1.length c1, .int .i64 a2] w fun e w' => ∃ v0_ : Value, e = .returned (v0_) ∧ Kd.R (Kd.int .i64) 2 w' w.heap.size (fun _ => True) v0_ r ∧ Below w.heap.size w w' := by
 have HR1 := Aside0.mk hr1
 have HC1 := Aside0.mk hc1
 clear hr1 hc1
 have HB := Aside0.mk (Below.refl w.heap.size w)
 have H : (spec_l02Share.l0 k a0 l1 a2 (([] : List Int)) (([] : List Int)) a0 0) = some r := h
 clear h
 obtain ⟨y111, hy111⟩ : ∃ y_ : List Int, y_ = (([] : List Int)) := ⟨_, rfl⟩
 replace H : (spec_l02Share.l0 k a0 l1 a2 y111 (([] : List Int)) a0 0) = some r := by first | (rw [hy111]; with_reducible exact H) | (have H2_ := (Option.bind_some _ _).symm.trans H; rw [hy111]; with_reducible exact H2_) | (have H2_ := (Option.bind_some _ _).symm.trans H; with_reducible exact H2_) | with_reducible exact H | (rw [hy111]; exact H) | exact H
 have Ny111 := Aside0.mk hy111
 clear hy111
 obtain ⟨y114, hy114⟩ : ∃ y_ : List Int, y_ = (([] : List Int)) := ⟨_, rfl⟩
 replace H : (spec_l02Share.l0 k a0 l1 a2 y111 y114 a0 0) = some r := by first | (rw [hy114]; with_reducible exact H) | (have H2_ := (Option.bind_some _ _).symm.trans H; rw [hy114]; with_reducible exact H2_) | (have H2_ := (Option.bind_some _ _).symm.trans H; with_reducible exact H2_) | with_reducible exact H | (rw [hy114]; exact H) | exact H
 have Ny114 := Aside0.mk hy114
 clear hy114
 have H' := Aside0.mk H
 clear H
 go_enter Try.func79, Try.ntmps79
 go_wp2_with (first | ((with_reducible refine gate_dst (N := 14) rfl ?_); refine Kd.R_lit (Kd.int .i64) _ 2 ?hg (N := 14) ?hd (xs := ([] : List Int)) (inner := []) (ok := fun _ => True) (okp := fun _ => True) ?hr ?hp (fun _ hk => hk) trivial (Below.refl _ _) (Nat.le_refl _) (by simp) ?_; (case hd => rfl); (case hg => rfl); (case hr => first | (go_simp; done) | (go_simp; rfl)); (case hp => exact (Reps.none _ _)); intro v112 w4 ho5 hb hg_ hnew_; clear hg_ hnew_; (first | rw [← Ny111.out] at ho5 | (simp only [Int.reduceToNat] at ho5; rw [← Ny111.out] at ho5)); have n0_ := Aside0.mk (Kd.R_lower ho5 (below_size (by repeat (first | (with_reducible first | exact HB.out | apply below_alloc | apply pw_below_drewN | apply below_drew1) | exact HB.out)))); have n1_ := Aside0.mk (below_step (by repeat (first | (with_reducible first | exact HB.out | apply below_alloc | apply pw_below_drewN | apply below_drew1) | exact HB.out)) hb); clear HB; have HO113 := n0_; have HB := n1_; clear n0_ n1_; clear hb ho5) | ((with_reducible refine gate_dst (N := 15) rfl ?_); refine Kd.R_lit (Kd.int .i64) _ 2 ?hg (N := 15) ?hd (xs := ([] : List Int)) (inner := []) (ok := fun _ => True) (okp := fun _ => True) ?hr ?hp (fun _ hk => hk) trivial (Below.refl _ _) (Nat.le_refl _) (by simp) ?_; (case hd => rfl); (case hg => rfl); (case hr => first | (go_simp; done) | (go_simp; rfl)); (case hp => exact (Reps.none _ _)); intro v115 w6 ho7 hb hg_ hnew_; clear hg_ hnew_; (first | rw [← Ny114.out] at ho7 | (simp only [Int.reduceToNat] at ho7; rw [← Ny114.out] at ho7)); have n0_ := Aside0.mk (Kd.R_elder' (by (with_reducible repeat (first | apply Kd.R_alloc | apply Kd.R_drewN | apply Kd.R_drew)); exact HO113.out) (Kd.R_base ho7) hb); have n1_ := Aside0.mk (Kd.R_lower (Kd.R_new' ho7 (Kd.R_lt (by (with_reducible repeat (first | apply Kd.R_alloc | apply Kd.R_drewN | apply Kd.R_drew)); exact HO113.out))) (below_size (by repeat (first | (with_reducible first | exact HB.out | apply below_alloc | apply pw_below_drewN | apply below_drew1) | exact HB.out)))); have n2_ := Aside0.mk (below_step (by repeat (first | (with_reducible first | exact HB.out | apply below_alloc | apply pw_below_drewN | apply below_drew1) | exact HB.out)) hb); clear HO113; clear HB; have HO113 := n0_; have HO116 := n1_; have HB := n2_; clear n0_ n1_ n2_; clear hb ho7))
 repeat (go_quiet (first | ((with_reducible refine gate_dst (N := 14) rfl ?_); refine Kd.R_lit (Kd.int .i64) _ 2 ?hg (N := 14) ?hd (xs := ([] : List Int)) (inner := []) (ok := fun _ => True) (okp := fun _ => True) ?hr ?hp (fun _ hk => hk) trivial (Below.refl _ _) (Nat.le_refl _) (by simp) ?_; (case hd => rfl); (case hg => rfl); (case hr => first | (go_simp; done) | (go_simp; rfl)); (case hp => exact (Reps.none _ _)); intro v112 w4 ho5 hb hg_ hnew_; clear hg_ hnew_; (first | rw [← Ny111.out] at ho5 | (simp only [Int.reduceToNat] at ho5; rw [← Ny111.out] at ho5)); have n0_ := Aside0.mk (Kd.R_lower ho5 (below_size (by repeat (first | (with_reducible first | exact HB.out | apply below_alloc | apply pw_below_drewN | apply below_drew1) | exact HB.out)))); have n1_ := Aside0.mk (below_step (by repeat (first | (with_reducible first | exact HB.out | apply below_alloc | apply pw_below_drewN | apply below_drew1) | exact HB.out)) hb); clear HB; have HO113 := n0_; have HB := n1_; clear n0_ n1_; clear hb ho5) | ((with_reducible refine gate_dst (N := 15) rfl ?_); refine Kd.R_lit (Kd.int .i64) _ 2 ?hg (N := 15) ?hd (xs := ([] : List Int)) (inner := []) (ok := fun _ => True) (okp := fun _ => True) ?hr ?hp (fun _ hk => hk) trivial (Below.refl _ _) (Nat.le_refl _) (by simp) ?_; (case hd => rfl); (case hg => rfl); (case hr => first | (go_simp; done) | (go_simp; rfl)); (case hp => exact (Reps.none _ _)); intro v115 w6 ho7 hb hg_ hnew_; clear hg_ hnew_; (first | rw [← Ny114.out] at ho7 | (simp only [Int.reduceToNat] at ho7; rw [← Ny114.out] at ho7)); have n0_ := Aside0.mk (Kd.R_elder' (by (with_reducible repeat (first | apply Kd.R_alloc | apply Kd.R_drewN | apply Kd.R_drew)); exact HO113.out) (Kd.R_base ho7) hb); have n1_ := Aside0.mk (Kd.R_lower (Kd.R_new' ho7 (Kd.R_lt (by (with_reducible repeat (first | apply Kd.R_alloc | apply Kd.R_drewN | apply Kd.R_drew)); exact HO113.out))) (below_size (by repeat (first | (with_reducible first | exact HB.out | apply below_alloc | apply pw_below_drewN | apply below_drew1) | exact HB.out)))); have n2_ := Aside0.mk (below_step (by repeat (first | (with_reducible first | exact HB.out | apply below_alloc | apply pw_below_drewN | apply below_drew1) | exact HB.out)) hb); clear HO113; clear HB; have HO113 := n0_; have HO116 := n1_; have HB := n2_; clear n0_ n1_ n2_; clear hb ho7)); try go_wp2_with (first | ((with_reducible refine gate_dst (N := 14) rfl ?_); refine Kd.R_lit (Kd.int .i64) _ 2 ?hg (N := 14) ?hd (xs := ([] : List Int)) (inner := []) (ok := fun _ => True) (okp := fun _ => True) ?hr ?hp (fun _ hk => hk) trivial (Below.refl _ _) (Nat.le_refl _) (by simp) ?_; (case hd => rfl); (case hg => rfl); (case hr => first | (go_simp; done) | (go_simp; rfl)); (case hp => exact (Reps.none _ _)); intro v112 w4 ho5 hb hg_ hnew_; clear hg_ hnew_; (first | rw [← Ny111.out] at ho5 | (simp only [Int.reduceToNat] at ho5; rw [← Ny111.out] at ho5)); have n0_ := Aside0.mk (Kd.R_lower ho5 (below_size (by repeat (first | (with_reducible first | exact HB.out | apply below_alloc | apply pw_below_drewN | apply below_drew1) | exact HB.out)))); have n1_ := Aside0.mk (below_step (by repeat (first | (with_reducible first | exact HB.out | apply below_alloc | apply pw_below_drewN | apply below_drew1) | exact HB.out)) hb); clear HB; have HO113 := n0_; have HB := n1_; clear n0_ n1_; clear hb ho5) | ((with_reducible refine gate_dst (N := 15) rfl ?_); refine Kd.R_lit (Kd.int .i64) _ 2 ?hg (N := 15) ?hd (xs := ([] : List Int)) (inner := []) (ok := fun _ => True) (okp := fun _ => True) ?hr ?hp (fun _ hk => hk) trivial (Below.refl _ _) (Nat.le_refl _) (by simp) ?_; (case hd => rfl); (case hg => rfl); (case hr => first | (go_simp; done) | (go_simp; rfl)); (case hp => exact (Reps.none _ _)); intro v115 w6 ho7 hb hg_ hnew_; clear hg_ hnew_; (first | rw [← Ny114.out] at ho7 | (simp only [Int.reduceToNat] at ho7; rw [← Ny114.out] at ho7)); have n0_ := Aside0.mk (Kd.R_elder' (by (with_reducible repeat (first | apply Kd.R_alloc | apply Kd.R_drewN | apply Kd.R_drew)); exact HO113.out) (Kd.R_base ho7) hb); have n1_ := Aside0.mk (Kd.R_lower (Kd.R_new' ho7 (Kd.R_lt (by (with_reducible repeat (first | apply Kd.R_alloc | apply Kd.R_drewN | apply Kd.R_drew)); exact HO113.out))) (below_size (by repeat (first | (with_reducible first | exact HB.out | apply below_alloc | apply pw_below_drewN | apply below_drew1) | exact HB.out)))); have n2_ := Aside0.mk (below_step (by repeat (first | (with_reducible first | exact HB.out | apply below_alloc | apply pw_below_drewN | apply below_drew1) | exact HB.out)) hb); clear HO113; clear HB; have HO113 := n0_; have HO116 := n1_; have HB := n2_; clear n0_ n1_ n2_; clear hb ho7)))
 go_loopg [7, 8, 9, 10] k (fun kq v7 v8 v9 v10 w' => ∃ (x7_1 : List Int) (x8_1 : List Int) (x9_1 : Int) (x10_1 : Int), v9 = .int .i64 x9_1 ∧ v10 = .int .i64 x10_1 ∧ Aside0 (spec_l02Share.l0 kq a0 l1 a2 x7_1 x8_1 x9_1 x10_1 = some r) ∧ Aside0 (kq ≤ k) ∧ Aside0 (Kd.R (Kd.int .i64) 2 w' w.heap.size (fun k_ => some k_ ≠ (v8 : Value).ownBlock) v7 x7_1) ∧ Aside0 (Kd.R (Kd.int .i64) 2 w' w.heap.size (fun k_ => some k_ ≠ (v7 : Value).ownBlock) v8 x8_1) ∧ Aside0 (Below w.heap.size w w'))
 case atStart => exact ⟨(y111), (y114), (a0), (0), (by first | rfl | (simp; done) | (simp [*]; done)), (by first | rfl | (simp; done) | (simp [*]; done)), H', ⟨Nat.le_refl _⟩, ⟨by (with_reducible repeat (first | apply Kd.R_alloc | apply Kd.R_drewN | apply Kd.R_drew)); exact Kd.R_mono HO113.out (fun _ hk => hk.2)⟩, ⟨by (with_reducible repeat (first | apply Kd.R_alloc | apply Kd.R_drewN | apply Kd.R_drew)); exact Kd.R_mono HO116.out (fun _ hk => hk.2)⟩, ⟨by repeat (first | (with_reducible first | exact HB.out | apply below_alloc | apply pw_below_drewN | apply below_drew1) | exact HB.out)⟩⟩
 case round =>
  clear H'
  try clear c1
  try clear p2
  try clear c7
  obtain ⟨x7_1, x8_1, x9_1, x10_1, rfl, rfl, HA, HK1, HO_7, HO_8, HB⟩ := hrel
  cases gk with
  | zero => exact absurd HA.out (by simp [spec_l02Share.l0])
  | succ k1 =>
   have H := HA.out
   clear HA
   simp only [spec_l02Share.l0] at H
   by_cases c8 : x10_1 < (l1.length : Int)
   ·rw [if_pos c8] at H
    have c8b0 : decide (x10_1 < (l1.length : Int)) = true := decide_eq_true c8
    clear c8
    by_cases c9 : 0 ≤ x10_1
    ·rw [if_pos c9] at H
     have c9b0 : decide (0 ≤ x10_1) = true := decide_eq_true c9
     clear c9
     by_cases c10 : a2 = 0
     ·rw [if_pos c10] at H
      exact absurd H (by simp)
     ·rw [if_neg c10] at H
      have c10b0 : (a2 == 0) = false := beq_eq_false_iff_ne.mpr c10
      have c10b1 : (a2 != 0) = true := bne_iff_ne.mpr c10
      by_cases c11 : x7_1.length < 17592186044416
      ·rw [if_pos c11] at H
       have LMc11 := Aside0.mk c11
       clear c11
       obtain ⟨y118, hy118⟩ : ∃ y_ : List Int, y_ = (x7_1 ++ [wrap64 (Int.tdiv (wrap64 (a0 * (rd l1 x10_1))) a2)]) := ⟨_, rfl⟩
       replace H : (if x8_1.length < 17592186044416 then (spec_l02Share.l0 k1 a0 l1 a2 y118 (x8_1 ++ [Int.tmod (wrap64 (a0 * (rd l1 x10_1))) a2]) (wrap64 (x9_1 - (wrap64 (Int.tdiv (wrap64 (a0 * (rd l1 x10_1))) a2)))) (wrap64 (x10_1 + 1))) else (none)) = some r := by first | (rw [hy118]; with_reducible exact H) | (have H2_ := (Option.bind_some _ _).symm.trans H; rw [hy118]; with_reducible exact H2_) | (have H2_ := (Option.bind_some _ _).symm.trans H; with_reducible exact H2_) | with_reducible exact H | (rw [hy118]; exact H) | exact H
       have Ny118 := Aside0.mk hy118
       clear hy118
       by_cases c12 : x8_1.length < 17592186044416
       ·rw [if_pos c12] at H
        have LMc12 := Aside0.mk c12
        clear c12
        obtain ⟨y121, hy121⟩ : ∃ y_ : List Int, y_ = (x8_1 ++ [Int.tmod (wrap64 (a0 * (rd l1 x10_1))) a2]) := ⟨_, rfl⟩
        replace H : (spec_l02Share.l0 k1 a0 l1 a2 y118 y121 (wrap64 (x9_1 - (wrap64 (Int.tdiv (wrap64 (a0 * (rd l1 x10_1))) a2)))) (wrap64 (x10_1 + 1))) = some r := by first | (rw [hy121]; with_reducible exact H) | (have H2_ := (Option.bind_some _ _).symm.trans H; rw [hy121]; with_reducible exact H2_) | (have H2_ := (Option.bind_some _ _).symm.trans H; with_reducible exact H2_) | with_reducible exact H | (rw [hy121]; exact H) | exact H
        have Ny121 := Aside0.mk hy121
        clear hy121
        have H' := Aside0.mk H
        clear H
        have p117 : 0 ≤ (x10_1 : Int) := of_decide_eq_true (by first | (with_reducible assumption) | assumption)
        have q117 : x10_1 < (l1.length : Int) := of_decide_eq_true (by first | (with_reducible assumption) | assumption)
        obtain ⟨ad117, e117, hx117_0⟩ := Kd.at_int HR1.out x10_1 p117 q117
        cases e117
        replace hx117_0 := (HB.out.cell (World.block_lt_of_cell? w _ hx117_0)).trans hx117_0
        replace p117 := eq_true p117
        replace q117 := eq_true q117
        go_wp2_with (first | ((with_reducible refine gate_builtin (b := .append) (xs := #[.tmp 29, .tmp 33]) rfl ?_); at_builtin; refine Kd.R_append (Kd.int .i64) (w0 := w) w.heap.size rfl (.tmp 29) (.tmp 33) 30 2 (.int .i64 0) 8 rfl Try.underlying30 info2 rfl (by decide) (by omega) u7 x7_1 (wrap64 (Int.tdiv (wrap64 (a0 * (rd l1 x10_1))) a2)) [.int .i64 (wrap64 (Int.tdiv (wrap64 (a0 * (rd l1 x10_1))) a2))] (fun k_ => some k_ ≠ (u8 : Value).ownBlock) (fun _ => False) rfl rfl ?aP (fun _ hk => hk.elim) ?aF ?aO ?aB ?aS ?aL ?_; (case aP => exact rfl); (case aB => exact (by repeat (first | (with_reducible first | exact HB.out | apply below_alloc | apply pw_below_drewN | apply below_drew1) | exact HB.out))); (case aF => exact (fun k_ hk => Kd.fresh' (Kd.R_lt (by (with_reducible repeat (first | apply Kd.R_alloc | apply Kd.R_drewN | apply Kd.R_drew)); exact HO_8.out)) k_ hk)); (case aO => exact (by (with_reducible repeat (first | apply Kd.R_alloc | apply Kd.R_drewN | apply Kd.R_drew)); exact HO_7.out)); (case aS => exact (below_size (by repeat (first | (with_reducible first | exact HB.out | apply below_alloc | apply pw_below_drewN | apply below_drew1) | exact HB.out)))); (case aL => have := LMc11.out; omega); intro v119 w13 ho hb hg hat; rw [← Ny118.out] at ho; have n0_ := Aside0.mk (Kd.R_after (ok := (fun _ => True)) (by (with_reducible repeat (first | apply Kd.R_alloc | apply Kd.R_drewN | apply Kd.R_drew)); exact Kd.R_mono HO_8.out (fun _ hk => ⟨trivial, hk⟩)) hg hat); have n1_ := Aside0.mk (hb); have n2_ := Aside0.mk (ho); clear HO_8; clear HB; clear HO_7; have HO_8 := n0_; have HB := n1_; have HO120 := n2_; clear n0_ n1_ n2_; clear ho hb hg hat) | ((with_reducible refine gate_builtin (b := .append) (xs := #[.tmp 35, .tmp 39]) rfl ?_); at_builtin; refine Kd.R_append (Kd.int .i64) (w0 := w) w.heap.size rfl (.tmp 35) (.tmp 39) 30 2 (.int .i64 0) 8 rfl Try.underlying30 info2 rfl (by decide) (by omega) u8 x8_1 (Int.tmod (wrap64 (a0 * (rd l1 x10_1))) a2) [.int .i64 (Int.tmod (wrap64 (a0 * (rd l1 x10_1))) a2)] (fun k_ => some k_ ≠ (v119 : Value).ownBlock) (fun _ => False) rfl rfl ?aP (fun _ hk => hk.elim) ?aF ?aO ?aB ?aS ?aL ?_; (case aP => exact rfl); (case aB => exact (by repeat (first | (with_reducible first | exact HB.out | apply below_alloc | apply pw_below_drewN | apply below_drew1) | exact HB.out))); (case aF => exact (fun k_ hk => Kd.fresh' (Kd.R_lt (by (with_reducible repeat (first | apply Kd.R_alloc | apply Kd.R_drewN | apply Kd.R_drew)); exact HO120.out)) k_ hk)); (case aO => exact (by (with_reducible repeat (first | apply Kd.R_alloc | apply Kd.R_drewN | apply Kd.R_drew)); exact Kd.R_mono HO_8.out (fun _ hk => hk.2))); (case aS => exact (below_size (by repeat (first | (with_reducible first | exact HB.out | apply below_alloc | apply pw_below_drewN | apply below_drew1) | exact HB.out)))); (case aL => have := LMc12.out; omega); intro v122 w14 ho hb hg hat; rw [← Ny121.out] at ho; have n0_ := Aside0.mk (Kd.R_after (ok := (fun _ => True)) (by (with_reducible repeat (first | apply Kd.R_alloc | apply Kd.R_drewN | apply Kd.R_drew)); exact Kd.R_mono HO120.out (fun _ hk => ⟨trivial, hk⟩)) hg hat); have n1_ := Aside0.mk (hb); have n2_ := Aside0.mk (ho); clear HO120; clear HB; clear HO_8; have HO120 := n0_; have HB := n1_; have HO123 := n2_; clear n0_ n1_ n2_; clear ho hb hg hat))
        repeat (go_quiet (first | ((with_reducible refine gate_builtin (b := .append) (xs := #[.tmp 29, .tmp 33]) rfl ?_); at_builtin; refine Kd.R_append (Kd.int .i64) (w0 := w) w.heap.size rfl (.tmp 29) (.tmp 33) 30 2 (.int .i64 0) 8 rfl Try.underlying30 info2 rfl (by decide) (by omega) u7 x7_1 (wrap64 (Int.tdiv (wrap64 (a0 * (rd l1 x10_1))) a2)) [.int .i64 (wrap64 (Int.tdiv (wrap64 (a0 * (rd l1 x10_1))) a2))] (fun k_ => some k_ ≠ (u8 : Value).ownBlock) (fun _ => False) rfl rfl ?aP (fun _ hk => hk.elim) ?aF ?aO ?aB ?aS ?aL ?_; (case aP => exact rfl); (case aB => exact (by repeat (first | (with_reducible first | exact HB.out | apply below_alloc | apply pw_below_drewN | apply below_drew1) | exact HB.out))); (case aF => exact (fun k_ hk => Kd.fresh' (Kd.R_lt (by (with_reducible repeat (first | apply Kd.R_alloc | apply Kd.R_drewN | apply Kd.R_drew)); exact HO_8.out)) k_ hk)); (case aO => exact (by (with_reducible repeat (first | apply Kd.R_alloc | apply Kd.R_drewN | apply Kd.R_drew)); exact HO_7.out)); (case aS => exact (below_size (by repeat (first | (with_reducible first | exact HB.out | apply below_alloc | apply pw_below_drewN | apply below_drew1) | exact HB.out)))); (case aL => have := LMc11.out; omega); intro v119 w13 ho hb hg hat; rw [← Ny118.out] at ho; have n0_ := Aside0.mk (Kd.R_after (ok := (fun _ => True)) (by (with_reducible repeat (first | apply Kd.R_alloc | apply Kd.R_drewN | apply Kd.R_drew)); exact Kd.R_mono HO_8.out (fun _ hk => ⟨trivial, hk⟩)) hg hat); have n1_ := Aside0.mk (hb); have n2_ := Aside0.mk (ho); clear HO_8; clear HB; clear HO_7; have HO_8 := n0_; have HB := n1_; have HO120 := n2_; clear n0_ n1_ n2_; clear ho hb hg hat) | ((with_reducible refine gate_builtin (b := .append) (xs := #[.tmp 35, .tmp 39]) rfl ?_); at_builtin; refine Kd.R_append (Kd.int .i64) (w0 := w) w.heap.size rfl (.tmp 35) (.tmp 39) 30 2 (.int .i64 0) 8 rfl Try.underlying30 info2 rfl (by decide) (by omega) u8 x8_1 (Int.tmod (wrap64 (a0 * (rd l1 x10_1))) a2) [.int .i64 (Int.tmod (wrap64 (a0 * (rd l1 x10_1))) a2)] (fun k_ => some k_ ≠ (v119 : Value).ownBlock) (fun _ => False) rfl rfl ?aP (fun _ hk => hk.elim) ?aF ?aO ?aB ?aS ?aL ?_; (case aP => exact rfl); (case aB => exact (by repeat (first | (with_reducible first | exact HB.out | apply below_alloc | apply pw_below_drewN | apply below_drew1) | exact HB.out))); (case aF => exact (fun k_ hk => Kd.fresh' (Kd.R_lt (by (with_reducible repeat (first | apply Kd.R_alloc | apply Kd.R_drewN | apply Kd.R_drew)); exact HO120.out)) k_ hk)); (case aO => exact (by (with_reducible repeat (first | apply Kd.R_alloc | apply Kd.R_drewN | apply Kd.R_drew)); exact Kd.R_mono HO_8.out (fun _ hk => hk.2))); (case aS => exact (below_size (by repeat (first | (with_reducible first | exact HB.out | apply below_alloc | apply pw_below_drewN | apply below_drew1) | exact HB.out)))); (case aL => have := LMc12.out; omega); intro v122 w14 ho hb hg hat; rw [← Ny121.out] at ho; have n0_ := Aside0.mk (Kd.R_after (ok := (fun _ => True)) (by (with_reducible repeat (first | apply Kd.R_alloc | apply Kd.R_drewN | apply Kd.R_drew)); exact Kd.R_mono HO120.out (fun _ hk => ⟨trivial, hk⟩)) hg hat); have n1_ := Aside0.mk (hb); have n2_ := Aside0.mk (ho); clear HO120; clear HB; clear HO_8; have HO120 := n0_; have HB := n1_; have HO123 := n2_; clear n0_ n1_ n2_; clear ho hb hg hat)); try go_wp2_with (first | ((with_reducible refine gate_builtin (b := .append) (xs := #[.tmp 29, .tmp 33]) rfl ?_); at_builtin; refine Kd.R_append (Kd.int .i64) (w0 := w) w.heap.size rfl (.tmp 29) (.tmp 33) 30 2 (.int .i64 0) 8 rfl Try.underlying30 info2 rfl (by decide) (by omega) u7 x7_1 (wrap64 (Int.tdiv (wrap64 (a0 * (rd l1 x10_1))) a2)) [.int .i64 (wrap64 (Int.tdiv (wrap64 (a0 * (rd l1 x10_1))) a2))] (fun k_ => some k_ ≠ (u8 : Value).ownBlock) (fun _ => False) rfl rfl ?aP (fun _ hk => hk.elim) ?aF ?aO ?aB ?aS ?aL ?_; (case aP => exact rfl); (case aB => exact (by repeat (first | (with_reducible first | exact HB.out | apply below_alloc | apply pw_below_drewN | apply below_drew1) | exact HB.out))); (case aF => exact (fun k_ hk => Kd.fresh' (Kd.R_lt (by (with_reducible repeat (first | apply Kd.R_alloc | apply Kd.R_drewN | apply Kd.R_drew)); exact HO_8.out)) k_ hk)); (case aO => exact (by (with_reducible repeat (first | apply Kd.R_alloc | apply Kd.R_drewN | apply Kd.R_drew)); exact HO_7.out)); (case aS => exact (below_size (by repeat (first | (with_reducible first | exact HB.out | apply below_alloc | apply pw_below_drewN | apply below_drew1) | exact HB.out)))); (case aL => have := LMc11.out; omega); intro v119 w13 ho hb hg hat; rw [← Ny118.out] at ho; have n0_ := Aside0.mk (Kd.R_after (ok := (fun _ => True)) (by (with_reducible repeat (first | apply Kd.R_alloc | apply Kd.R_drewN | apply Kd.R_drew)); exact Kd.R_mono HO_8.out (fun _ hk => ⟨trivial, hk⟩)) hg hat); have n1_ := Aside0.mk (hb); have n2_ := Aside0.mk (ho); clear HO_8; clear HB; clear HO_7; have HO_8 := n0_; have HB := n1_; have HO120 := n2_; clear n0_ n1_ n2_; clear ho hb hg hat) | ((with_reducible refine gate_builtin (b := .append) (xs := #[.tmp 35, .tmp 39]) rfl ?_); at_builtin; refine Kd.R_append (Kd.int .i64) (w0 := w) w.heap.size rfl (.tmp 35) (.tmp 39) 30 2 (.int .i64 0) 8 rfl Try.underlying30 info2 rfl (by decide) (by omega) u8 x8_1 (Int.tmod (wrap64 (a0 * (rd l1 x10_1))) a2) [.int .i64 (Int.tmod (wrap64 (a0 * (rd l1 x10_1))) a2)] (fun k_ => some k_ ≠ (v119 : Value).ownBlock) (fun _ => False) rfl rfl ?aP (fun _ hk => hk.elim) ?aF ?aO ?aB ?aS ?aL ?_; (case aP => exact rfl); (case aB => exact (by repeat (first | (with_reducible first | exact HB.out | apply below_alloc | apply pw_below_drewN | apply below_drew1) | exact HB.out))); (case aF => exact (fun k_ hk => Kd.fresh' (Kd.R_lt (by (with_reducible repeat (first | apply Kd.R_alloc | apply Kd.R_drewN | apply Kd.R_drew)); exact HO120.out)) k_ hk)); (case aO => exact (by (with_reducible repeat (first | apply Kd.R_alloc | apply Kd.R_drewN | apply Kd.R_drew)); exact Kd.R_mono HO_8.out (fun _ hk => hk.2))); (case aS => exact (below_size (by repeat (first | (with_reducible first | exact HB.out | apply below_alloc | apply pw_below_drewN | apply below_drew1) | exact HB.out)))); (case aL => have := LMc12.out; omega); intro v122 w14 ho hb hg hat; rw [← Ny121.out] at ho; have n0_ := Aside0.mk (Kd.R_after (ok := (fun _ => True)) (by (with_reducible repeat (first | apply Kd.R_alloc | apply Kd.R_drewN | apply Kd.R_drew)); exact Kd.R_mono HO120.out (fun _ hk => ⟨trivial, hk⟩)) hg hat); have n1_ := Aside0.mk (hb); have n2_ := Aside0.mk (ho); clear HO120; clear HB; clear HO_8; have HO120 := n0_; have HB := n1_; have HO123 := n2_; clear n0_ n1_ n2_; clear ho hb hg hat)))
        go_roundg k1
        case measure => have := HK1.out; omega
        case rel => exact ⟨(y118), (y121), (wrap64 (x9_1 - (wrap64 (Int.tdiv (wrap64 (a0 * (rd l1 x10_1))) a2)))), (wrap64 (x10_1 + 1)), (by first | rfl | (simp; done) | (simp [*]; done)), (by first | rfl | (simp; done) | (simp [*]; done)), H', ⟨by have := HK1.out; omega⟩, ⟨by (with_reducible repeat (first | apply Kd.R_alloc | apply Kd.R_drewN | apply Kd.R_drew)); exact Kd.R_mono HO120.out (fun _ hk => hk.2)⟩, ⟨by (with_reducible repeat (first | apply Kd.R_alloc | apply Kd.R_drewN | apply Kd.R_drew)); exact HO123.out⟩, ⟨by repeat (first | (with_reducible first | exact HB.out | apply below_alloc | apply pw_below_drewN | apply below_drew1) | exact HB.out)⟩⟩
       ·rw [if_neg c12] at H
        exact absurd H (by simp)
      ·rw [if_neg c11] at H
       exact absurd H (by simp)
    ·rw [if_neg c9] at H
     exact absurd H (by simp)
   ·rw [if_neg c8] at H
    have c8b0 : decide (x10_1 < (l1.length : Int)) = false := decide_eq_false c8
    clear c8
    have H' := Aside0.mk H
    clear H
    go_wp2
    repeat (go_quiet (fail); try go_wp2)
    go_loopg [9] k1 (fun kq v9 w' => ∃ (x7_2 : List Int) (x8_2 : List Int) (x9_2 : Int), v9 = .int .i64 x9_2 ∧ Aside0 (spec_l02Share.l1 kq x7_2 x8_2 x9_2 = some r) ∧ Aside0 (kq ≤ k1) ∧ Aside0 (Kd.R (Kd.int .i64) 2 w' w.heap.size (fun k_ => some k_ ≠ (u8 : Value).ownBlock) u7 x7_2) ∧ Aside0 (Kd.R (Kd.int .i64) 2 w' w.heap.size (fun k_ => some k_ ≠ (u7 : Value).ownBlock) u8 x8_2) ∧ Aside0 (Below w.heap.size w w'))
    case atStart => exact ⟨(x7_1), (x8_1), (x9_1), (by first | rfl | (simp; done) | (simp [*]; done)), H', ⟨Nat.le_refl _⟩, ⟨by (with_reducible repeat (first | apply Kd.R_alloc | apply Kd.R_drewN | apply Kd.R_drew)); exact HO_7.out⟩, ⟨by (with_reducible repeat (first | apply Kd.R_alloc | apply Kd.R_drewN | apply Kd.R_drew)); exact HO_8.out⟩, ⟨by repeat (first | (with_reducible first | exact HB.out | apply below_alloc | apply pw_below_drewN | apply below_drew1) | exact HB.out)⟩⟩
    case round =>
     clear H'
     try clear c1
     try clear p1
     try clear q1
     try clear hx1
     try clear p2
     try clear p6
     try clear c7
     try clear c8
     try clear c8b0
     try clear c9
     try clear c9b0
     try clear c10
     try clear c10b0
     try clear c10b1
     try clear c11
     try clear p11
     try clear q11
     try clear hx11
     try clear c12
     try clear hx117_0
     try clear p117
     try clear p2
     try clear q117
     obtain ⟨x7_2, x8_2, x9_2, rfl, HA, HK2, HO_7, HO_8, HB⟩ := hrel
     cases gk with
     | zero => exact absurd HA.out (by simp [spec_l02Share.l1])
     | succ k2 =>
      have H := HA.out
      clear HA
      simp only [spec_l02Share.l1] at H
      by_cases c15 : x9_2 > 0
      ·rw [if_pos c15] at H
       have c15b0 : decide (0 < x9_2) = true := decide_eq_true c15
       clear c15
       have H' := Aside0.mk H
       clear H
       go_wp2
       repeat (go_quiet (fail); try go_wp2)
       go_loopg [12, 13] k2 (fun kq v12 v13 w' => ∃ (x12_3 : Int) (x13_3 : Int), v12 = .int .i64 x12_3 ∧ v13 = .int .i64 x13_3 ∧ Aside0 (spec_l02Share.l2 kq x7_2 x8_2 x9_2 x12_3 x13_3 = some r) ∧ Aside0 (kq ≤ k2) ∧ Aside0 (Kd.R (Kd.int .i64) 2 w' w.heap.size (fun k_ => some k_ ≠ (u8 : Value).ownBlock) u7 x7_2) ∧ Aside0 (Kd.R (Kd.int .i64) 2 w' w.heap.size (fun k_ => some k_ ≠ (u7 : Value).ownBlock) u8 x8_2) ∧ Aside0 (Below w.heap.size w w'))
       case atStart => exact ⟨(0), (1), (by first | rfl | (simp; done) | (simp [*]; done)), (by first | rfl | (simp; done) | (simp [*]; done)), H', ⟨Nat.le_refl _⟩, ⟨by (with_reducible repeat (first | apply Kd.R_alloc | apply Kd.R_drewN | apply Kd.R_drew)); exact HO_7.out⟩, ⟨by (with_reducible repeat (first | apply Kd.R_alloc | apply Kd.R_drewN | apply Kd.R_drew)); exact HO_8.out⟩, ⟨by repeat (first | (with_reducible first | exact HB.out | apply below_alloc | apply pw_below_drewN | apply below_drew1) | exact HB.out)⟩⟩
       case round =>
        clear H'
        try clear c1
        try clear p1
        try clear q1
        try clear hx1
        try clear p2
        try clear p6
        try clear c7
        try clear c8
        try clear c8b0
        try clear c9
        try clear c9b0
        try clear c10
        try clear c10b0
        try clear c10b1
        try clear c11
        try clear p11
        try clear q11
        try clear hx11
        try clear c12
        try clear c15
        try clear c15b0
        try clear hx117_0
        try clear p1
        try clear p11
        try clear p117
        try clear p2
        try clear p6
        try clear q1
        try clear q11
        try clear q117
        obtain ⟨x12_3, x13_3, rfl, rfl, HA, HK3, HO_7, HO_8, HB⟩ := hrel
        cases gk with
        | zero => exact absurd HA.out (by simp [spec_l02Share.l2])
        | succ k3 =>
         have H := HA.out
         clear HA
         simp only [spec_l02Share.l2] at H
         by_cases c16 : x13_3 < (x8_2.length : Int)
         ·rw [if_pos c16] at H
          have c16b0 : decide (x13_3 < (x8_2.length : Int)) = true := decide_eq_true c16
          clear c16
          by_cases c17 : 0 ≤ x13_3
          ·rw [if_pos c17] at H
           have c17b0 : decide (0 ≤ x13_3) = true := decide_eq_true c17
           clear c17
           by_cases c18 : 0 ≤ x12_3
           ·rw [if_pos c18] at H
            have c18b0 : decide (0 ≤ x12_3) = true := decide_eq_true c18
            clear c18
            by_cases c19 : x12_3 < (x8_2.length : Int)
            ·rw [if_pos c19] at H
             have c19b0 : decide (x12_3 < (x8_2.length : Int)) = true := decide_eq_true c19
             clear c19
             by_cases c20 : (rd x8_2 x13_3) > (rd x8_2 x12_3)
             ·rw [if_pos c20] at H
              have c20b0 : decide ((rd x8_2 x12_3) < (rd x8_2 x13_3)) = true := decide_eq_true c20
              clear c20
              have H' := Aside0.mk H
              clear H
              obtain ⟨Ao21, co21, eo21⟩ := Kd.R_slice HO_8.out
              subst eo21
              have p124 : 0 ≤ (x13_3 : Int) := of_decide_eq_true (by first | (with_reducible assumption) | assumption)
              have q124 : x13_3 < (x8_2.length : Int) := of_decide_eq_true (by first | (with_reducible assumption) | assumption)
              obtain ⟨ad124, e124, hx124_0⟩ := Kd.at_int (Kd.R_reads' HO_8.out).2.2 x13_3 p124 q124
              cases e124
              replace p124 := eq_true p124
              replace q124 := eq_true q124
              have p125 : 0 ≤ (x12_3 : Int) := of_decide_eq_true (by first | (with_reducible assumption) | assumption)
              have q125 : x12_3 < (x8_2.length : Int) := of_decide_eq_true (by first | (with_reducible assumption) | assumption)
              obtain ⟨ad125, e125, hx125_0⟩ := Kd.at_int (Kd.R_reads' HO_8.out).2.2 x12_3 p125 q125
              obtain rfl : ad124 = ad125 := (by injection e125)
              replace p125 := eq_true p125
              replace q125 := eq_true q125
              go_wp2
              repeat (go_quiet (fail); try go_wp2)
              go_roundg k3
              case measure => have := HK1.out; have := HK2.out; have := HK3.out; omega
              case rel => exact ⟨(x13_3), (wrap64 (x13_3 + 1)), (by first | rfl | (simp; done) | (simp [*]; done)), (by first | rfl | (simp; done) | (simp [*]; done)), H', ⟨by have := HK1.out; have := HK2.out; have := HK3.out; omega⟩, ⟨by (with_reducible repeat (first | apply Kd.R_alloc | apply Kd.R_drewN | apply Kd.R_drew)); exact HO_7.out⟩, ⟨by (with_reducible repeat (first | apply Kd.R_alloc | apply Kd.R_drewN | apply Kd.R_drew)); exact HO_8.out⟩, ⟨by repeat (first | (with_reducible first | exact HB.out | apply below_alloc | apply pw_below_drewN | apply below_drew1) | exact HB.out)⟩⟩
             ·rw [if_neg c20] at H
              have c20b0 : decide ((rd x8_2 x12_3) < (rd x8_2 x13_3)) = false := decide_eq_false c20
              clear c20
              have H' := Aside0.mk H
              clear H
              obtain ⟨Ao22, co22, eo22⟩ := Kd.R_slice HO_8.out
              subst eo22
              have p124 : 0 ≤ (x13_3 : Int) := of_decide_eq_true (by first | (with_reducible assumption) | assumption)
              have q124 : x13_3 < (x8_2.length : Int) := of_decide_eq_true (by first | (with_reducible assumption) | assumption)
              obtain ⟨ad124, e124, hx124_0⟩ := Kd.at_int (Kd.R_reads' HO_8.out).2.2 x13_3 p124 q124
              cases e124
              replace p124 := eq_true p124
              replace q124 := eq_true q124
              have p125 : 0 ≤ (x12_3 : Int) := of_decide_eq_true (by first | (with_reducible assumption) | assumption)
              have q125 : x12_3 < (x8_2.length : Int) := of_decide_eq_true (by first | (with_reducible assumption) | assumption)
              obtain ⟨ad125, e125, hx125_0⟩ := Kd.at_int (Kd.R_reads' HO_8.out).2.2 x12_3 p125 q125
              obtain rfl : ad124 = ad125 := (by injection e125)
              replace p125 := eq_true p125
              replace q125 := eq_true q125
              go_wp2
              repeat (go_quiet (fail); try go_wp2)
              go_roundg k3
              case measure => have := HK1.out; have := HK2.out; have := HK3.out; omega
              case rel => exact ⟨(x12_3), (wrap64 (x13_3 + 1)), (by first | rfl | (simp; done) | (simp [*]; done)), (by first | rfl | (simp; done) | (simp [*]; done)), H', ⟨by have := HK1.out; have := HK2.out; have := HK3.out; omega⟩, ⟨by (with_reducible repeat (first | apply Kd.R_alloc | apply Kd.R_drewN | apply Kd.R_drew)); exact HO_7.out⟩, ⟨by (with_reducible repeat (first | apply Kd.R_alloc | apply Kd.R_drewN | apply Kd.R_drew)); exact HO_8.out⟩, ⟨by repeat (first | (with_reducible first | exact HB.out | apply below_alloc | apply pw_below_drewN | apply below_drew1) | exact HB.out)⟩⟩
            ·rw [if_neg c19] at H
             exact absurd H (by simp)
           ·rw [if_neg c18] at H
            exact absurd H (by simp)
          ·rw [if_neg c17] at H
           exact absurd H (by simp)
         ·rw [if_neg c16] at H
          have c16b0 : decide (x13_3 < (x8_2.length : Int)) = false := decide_eq_false c16
          clear c16
          by_cases c23 : 0 ≤ x12_3
          ·rw [if_pos c23] at H
           have c23b0 : decide (0 ≤ x12_3) = true := decide_eq_true c23
           clear c23
           by_cases c24 : x12_3 < (x7_2.length : Int)
           ·rw [if_pos c24] at H
            have c24b0 : decide (x12_3 < (x7_2.length : Int)) = true := decide_eq_true c24
            clear c24
            obtain ⟨y127, hy127⟩ : ∃ y_ : List Int, y_ = (x7_2.set (x12_3 : Int).toNat (wrap64 ((rd x7_2 x12_3) + 1))) := ⟨_, rfl⟩
            replace H : (if x12_3 < (x8_2.length : Int) then (spec_l02Share.l1 k3 y127 (x8_2.set (x12_3 : Int).toNat (-1)) (wrap64 (x9_2 - 1))) else (none)) = some r := by first | (rw [hy127]; with_reducible exact H) | (have H2_ := (Option.bind_some _ _).symm.trans H; rw [hy127]; with_reducible exact H2_) | (have H2_ := (Option.bind_some _ _).symm.trans H; with_reducible exact H2_) | with_reducible exact H | (rw [hy127]; exact H) | exact H
            have Ny127 := Aside0.mk hy127
            clear hy127
            by_cases c26 : x12_3 < (x8_2.length : Int)
            ·rw [if_pos c26] at H
             have c26b0 : decide (x12_3 < (x8_2.length : Int)) = true := decide_eq_true c26
             clear c26
             obtain ⟨y128, hy128⟩ : ∃ y_ : List Int, y_ = (x8_2.set (x12_3 : Int).toNat (-1)) := ⟨_, rfl⟩
             replace H : (spec_l02Share.l1 k3 y127 y128 (wrap64 (x9_2 - 1))) = some r := by first | (rw [hy128]; with_reducible exact H) | (have H2_ := (Option.bind_some _ _).symm.trans H; rw [hy128]; with_reducible exact H2_) | (have H2_ := (Option.bind_some _ _).symm.trans H; with_reducible exact H2_) | with_reducible exact H | (rw [hy128]; exact H) | exact H
             have Ny128 := Aside0.mk hy128
             clear hy128
             have H' := Aside0.mk H
             clear H
             obtain ⟨Ao28, co28, eo28⟩ := Kd.R_slice HO_8.out
             subst eo28
             obtain ⟨Ao29, co29, eo29⟩ := Kd.R_slice HO_7.out
             subst eo29
             have p126 : 0 ≤ (x12_3 : Int) := of_decide_eq_true (by first | (with_reducible assumption) | assumption)
             have q126 : x12_3 < (x7_2.length : Int) := of_decide_eq_true (by first | (with_reducible assumption) | assumption)
             obtain ⟨ad126, e126, hx126_0⟩ := Kd.at_int (Kd.R_reads' HO_7.out).2.2 x12_3 p126 q126
             cases e126
             replace p126 := eq_true p126
             replace q126 := eq_true q126
             have p25 : 0 ≤ (x12_3 : Int) := of_decide_eq_true (by first | (with_reducible assumption) | assumption)
             have q25 : (x12_3 : Int) < ((x7_2.length : Int) : Int) := of_decide_eq_true (by first | (with_reducible assumption) | assumption)
             obtain ⟨go25, co25, eo25, gb25, gl25, cl25, HG25⟩ := Kd.R_form HO_7.out (by omega)
             (first | cases eo25 | (injection eo25 with ea_ en_ ec_; (first | subst ea_ | (injection ea_ with ea_; subst ea_)); subst ec_; clear en_))
             have GB25 := Aside0.mk gb25
             have GG25 := Aside0.mk HG25
             clear gb25 gl25 HG25
             (first | simp only [add_plain] at hx126_0 | skip)
             obtain ⟨hx25_0, hf25_0⟩ := Kd.R_celln 0 HO_7.out (x12_3 : Int) p25 q25
             replace p25 := eq_true p25
             replace q25 := eq_true q25
             have HP30 := Kd.R_putg HO_7.out (x12_3 : Int) (wrap64 ((rd x7_2 x12_3) + 1))
             go_wp2_with (first | ((with_reducible refine gate_store (t := 2) (p := 71) rfl ?_); (try (rw [drewN_self wr]; generalize hq_ : World.drewN wr _ = wr; have n0_ := Aside0.mk (Kd.R_at hq_ HO_7.out); have n1_ := Aside0.mk (Kd.R_at hq_ HO_8.out); have n2_ := Aside0.mk (below_at hq_ HB.out); clear hq_ HO_7 HO_8 HB; have HO_7 := n0_; have HO_8 := n1_; have HB := n2_; clear n0_ n1_ n2_; (try (have HP30 := Kd.R_putg HO_7.out (x12_3 : Int) (wrap64 ((rd x7_2 x12_3) + 1)))))); refine store_event (t := 2) (p := 71) (v := ?vo_w31) (w1 := (wr.setCell ⟨go25, (x12_3 : Int).toNat, none⟩ (.int .i64 (wrap64 ((rd x7_2 x12_3) + 1))))) ?hg ?ho ?hn ?hr ?_; (case ho => rfl); (case hg => rfl); (case hn => rfl); (case hr => first | (go_simp; done) | (go_simp; rfl)); intro w31 hw; have hg : wr.grownBy w31 (some go25) := (by rw [hw]; exact HP30.2); have hp_ : Kd.R (Kd.int .i64) 2 w31 w.heap.size (fun k_ => some k_ ≠ (.slice Ao28 x8_2.length co28 : Value).ownBlock) (.slice (some ⟨go25, 0, none⟩) x7_2.length co29) y127 := (by rw [hw, Ny127.out]; exact HP30.1); clear HP30; have n0_ := Aside0.mk (hp_); have n1_ := Aside0.mk (Kd.R_after (v := (.slice (some ⟨go25, 0, none⟩) x7_2.length co29)) (v1 := (.slice (some ⟨go25, 0, none⟩) x7_2.length co29)) (ok := (fun _ => True)) (by (with_reducible repeat (first | apply Kd.R_alloc | apply Kd.R_drewN | apply Kd.R_drew)); exact Kd.R_mono HO_8.out (fun _ hk => ⟨trivial, hk⟩)) hg (.inl rfl)); have n2_ := Aside0.mk ((by rw [hw]; exact below_set (HB.out) GB25.out : Below w.heap.size w w31)); clear HO_7; clear HO_8; clear HB; have HO_7 := n0_; have HO_8 := n1_; have HB := n2_; clear n0_ n1_ n2_; clear hg hw hp_; have p27 : 0 ≤ (x12_3 : Int) := of_decide_eq_true (by first | (with_reducible assumption) | assumption); have q27 : (x12_3 : Int) < ((x8_2.length : Int) : Int) := of_decide_eq_true (by first | (with_reducible assumption) | assumption); obtain ⟨go27, co27, eo27, gb27, gl27, cl27, HG27⟩ := Kd.R_form HO_8.out (by omega); (first | cases eo27 | (injection eo27 with ea_ en_ ec_; (first | subst ea_ | (injection ea_ with ea_; subst ea_)); subst ec_; clear en_)); have GB27 := Aside0.mk gb27; have GG27 := Aside0.mk HG27; clear gb27 gl27 HG27; obtain ⟨hx27_0, hf27_0⟩ := Kd.R_celln 0 HO_8.out (x12_3 : Int) p27 q27; replace p27 := eq_true p27; replace q27 := eq_true q27; have n_ := Aside0.mk (Kd.R_mono (ok' := (fun k_ => some k_ ≠ (.slice (some ⟨go25, 0, none⟩) x7_2.length co29 : Value).ownBlock)) HO_8.out (fun k_ hk => hk.2)); clear HO_8; have HO_8 := n_; clear n_; obtain ⟨hy32_, hz32_⟩ := Kd.R_celln 0 HO_8.out (x12_3 : Int) (of_decide_eq_true (by first | (with_reducible assumption) | assumption)) (of_decide_eq_true (by first | (with_reducible assumption) | assumption)); have HP32 := Kd.R_putg HO_8.out (x12_3 : Int) (-1)) | ((with_reducible refine gate_store (t := 2) (p := 74) rfl ?_); (try (rw [drewN_self w31]; generalize hq_ : World.drewN w31 _ = w31; have n0_ := Aside0.mk (Kd.R_at hq_ HO_7.out); have n1_ := Aside0.mk (Kd.R_at hq_ HO_8.out); have n2_ := Aside0.mk (below_at hq_ HB.out); clear hq_ HO_7 HO_8 HB; have HO_7 := n0_; have HO_8 := n1_; have HB := n2_; clear n0_ n1_ n2_; (try (have n_ := Aside0.mk (Kd.R_mono (ok' := (fun k_ => some k_ ≠ (.slice (some ⟨go25, 0, none⟩) x7_2.length co29 : Value).ownBlock)) HO_8.out (fun k_ hk => hk.2)); clear HO_8; have HO_8 := n_; clear n_)); (try (obtain ⟨hy32_, hz32_⟩ := Kd.R_celln 0 HO_8.out (x12_3 : Int) (of_decide_eq_true (by first | (with_reducible assumption) | assumption)) (of_decide_eq_true (by first | (with_reducible assumption) | assumption)))); (try (have HP32 := Kd.R_putg HO_8.out (x12_3 : Int) (-1))))); refine store_event (t := 2) (p := 74) (v := ?vo_w33) (w1 := (w31.setCell ⟨go27, (x12_3 : Int).toNat, none⟩ (.int .i64 (-1)))) ?hg ?ho ?hn ?hr ?_; (case ho => rfl); (case hg => rfl); (case hn => rfl); (case hr => first | (go_simp; done) | (go_simp; rfl)); intro w33 hw; have hg : w31.grownBy w33 (some go27) := (by rw [hw]; exact HP32.2); have hp_ : Kd.R (Kd.int .i64) 2 w33 w.heap.size (fun k_ => some k_ ≠ (.slice (some ⟨go25, 0, none⟩) x7_2.length co29 : Value).ownBlock) (.slice (some ⟨go27, 0, none⟩) x8_2.length co28) y128 := (by rw [hw, Ny128.out]; exact HP32.1); clear HP32; have n0_ := Aside0.mk (Kd.R_after (v := (.slice (some ⟨go27, 0, none⟩) x8_2.length co28)) (v1 := (.slice (some ⟨go27, 0, none⟩) x8_2.length co28)) (ok := (fun _ => True)) (by (with_reducible repeat (first | apply Kd.R_alloc | apply Kd.R_drewN | apply Kd.R_drew)); exact Kd.R_mono HO_7.out (fun _ hk => ⟨trivial, hk⟩)) hg (.inl rfl)); have n1_ := Aside0.mk (hp_); have n2_ := Aside0.mk ((by rw [hw]; exact below_set (HB.out) GB27.out : Below w.heap.size w w33)); clear HO_7; clear HO_8; clear HB; have HO_7 := n0_; have HO_8 := n1_; have HB := n2_; clear n0_ n1_ n2_; clear hg hw hp_))
             repeat (go_quiet (first | ((with_reducible refine gate_store (t := 2) (p := 71) rfl ?_); (try (rw [drewN_self wr]; generalize hq_ : World.drewN wr _ = wr; have n0_ := Aside0.mk (Kd.R_at hq_ HO_7.out); have n1_ := Aside0.mk (Kd.R_at hq_ HO_8.out); have n2_ := Aside0.mk (below_at hq_ HB.out); clear hq_ HO_7 HO_8 HB; have HO_7 := n0_; have HO_8 := n1_; have HB := n2_; clear n0_ n1_ n2_; (try (have HP30 := Kd.R_putg HO_7.out (x12_3 : Int) (wrap64 ((rd x7_2 x12_3) + 1)))))); refine store_event (t := 2) (p := 71) (v := ?vo_w31) (w1 := (wr.setCell ⟨go25, (x12_3 : Int).toNat, none⟩ (.int .i64 (wrap64 ((rd x7_2 x12_3) + 1))))) ?hg ?ho ?hn ?hr ?_; (case ho => rfl); (case hg => rfl); (case hn => rfl); (case hr => first | (go_simp; done) | (go_simp; rfl)); intro w31 hw; have hg : wr.grownBy w31 (some go25) := (by rw [hw]; exact HP30.2); have hp_ : Kd.R (Kd.int .i64) 2 w31 w.heap.size (fun k_ => some k_ ≠ (.slice Ao28 x8_2.length co28 : Value).ownBlock) (.slice (some ⟨go25, 0, none⟩) x7_2.length co29) y127 := (by rw [hw, Ny127.out]; exact HP30.1); clear HP30; have n0_ := Aside0.mk (hp_); have n1_ := Aside0.mk (Kd.R_after (v := (.slice (some ⟨go25, 0, none⟩) x7_2.length co29)) (v1 := (.slice (some ⟨go25, 0, none⟩) x7_2.length co29)) (ok := (fun _ => True)) (by (with_reducible repeat (first | apply Kd.R_alloc | apply Kd.R_drewN | apply Kd.R_drew)); exact Kd.R_mono HO_8.out (fun _ hk => ⟨trivial, hk⟩)) hg (.inl rfl)); have n2_ := Aside0.mk ((by rw [hw]; exact below_set (HB.out) GB25.out : Below w.heap.size w w31)); clear HO_7; clear HO_8; clear HB; have HO_7 := n0_; have HO_8 := n1_; have HB := n2_; clear n0_ n1_ n2_; clear hg hw hp_; have p27 : 0 ≤ (x12_3 : Int) := of_decide_eq_true (by first | (with_reducible assumption) | assumption); have q27 : (x12_3 : Int) < ((x8_2.length : Int) : Int) := of_decide_eq_true (by first | (with_reducible assumption) | assumption); obtain ⟨go27, co27, eo27, gb27, gl27, cl27, HG27⟩ := Kd.R_form HO_8.out (by omega); (first | cases eo27 | (injection eo27 with ea_ en_ ec_; (first | subst ea_ | (injection ea_ with ea_; subst ea_)); subst ec_; clear en_)); have GB27 := Aside0.mk gb27; have GG27 := Aside0.mk HG27; clear gb27 gl27 HG27; obtain ⟨hx27_0, hf27_0⟩ := Kd.R_celln 0 HO_8.out (x12_3 : Int) p27 q27; replace p27 := eq_true p27; replace q27 := eq_true q27; have n_ := Aside0.mk (Kd.R_mono (ok' := (fun k_ => some k_ ≠ (.slice (some ⟨go25, 0, none⟩) x7_2.length co29 : Value).ownBlock)) HO_8.out (fun k_ hk => hk.2)); clear HO_8; have HO_8 := n_; clear n_; obtain ⟨hy32_, hz32_⟩ := Kd.R_celln 0 HO_8.out (x12_3 : Int) (of_decide_eq_true (by first | (with_reducible assumption) | assumption)) (of_decide_eq_true (by first | (with_reducible assumption) | assumption)); have HP32 := Kd.R_putg HO_8.out (x12_3 : Int) (-1)) | ((with_reducible refine gate_store (t := 2) (p := 74) rfl ?_); (try (rw [drewN_self w31]; generalize hq_ : World.drewN w31 _ = w31; have n0_ := Aside0.mk (Kd.R_at hq_ HO_7.out); have n1_ := Aside0.mk (Kd.R_at hq_ HO_8.out); have n2_ := Aside0.mk (below_at hq_ HB.out); clear hq_ HO_7 HO_8 HB; have HO_7 := n0_; have HO_8 := n1_; have HB := n2_; clear n0_ n1_ n2_; (try (have n_ := Aside0.mk (Kd.R_mono (ok' := (fun k_ => some k_ ≠ (.slice (some ⟨go25, 0, none⟩) x7_2.length co29 : Value).ownBlock)) HO_8.out (fun k_ hk => hk.2)); clear HO_8; have HO_8 := n_; clear n_)); (try (obtain ⟨hy32_, hz32_⟩ := Kd.R_celln 0 HO_8.out (x12_3 : Int) (of_decide_eq_true (by first | (with_reducible assumption) | assumption)) (of_decide_eq_true (by first | (with_reducible assumption) | assumption)))); (try (have HP32 := Kd.R_putg HO_8.out (x12_3 : Int) (-1))))); refine store_event (t := 2) (p := 74) (v := ?vo_w33) (w1 := (w31.setCell ⟨go27, (x12_3 : Int).toNat, none⟩ (.int .i64 (-1)))) ?hg ?ho ?hn ?hr ?_; (case ho => rfl); (case hg => rfl); (case hn => rfl); (case hr => first | (go_simp; done) | (go_simp; rfl)); intro w33 hw; have hg : w31.grownBy w33 (some go27) := (by rw [hw]; exact HP32.2); have hp_ : Kd.R (Kd.int .i64) 2 w33 w.heap.size (fun k_ => some k_ ≠ (.slice (some ⟨go25, 0, none⟩) x7_2.length co29 : Value).ownBlock) (.slice (some ⟨go27, 0, none⟩) x8_2.length co28) y128 := (by rw [hw, Ny128.out]; exact HP32.1); clear HP32; have n0_ := Aside0.mk (Kd.R_after (v := (.slice (some ⟨go27, 0, none⟩) x8_2.length co28)) (v1 := (.slice (some ⟨go27, 0, none⟩) x8_2.length co28)) (ok := (fun _ => True)) (by (with_reducible repeat (first | apply Kd.R_alloc | apply Kd.R_drewN | apply Kd.R_drew)); exact Kd.R_mono HO_7.out (fun _ hk => ⟨trivial, hk⟩)) hg (.inl rfl)); have n1_ := Aside0.mk (hp_); have n2_ := Aside0.mk ((by rw [hw]; exact below_set (HB.out) GB27.out : Below w.heap.size w w33)); clear HO_7; clear HO_8; clear HB; have HO_7 := n0_; have HO_8 := n1_; have HB := n2_; clear n0_ n1_ n2_; clear hg hw hp_)); try go_wp2_with (first | ((with_reducible refine gate_store (t := 2) (p := 71) rfl ?_); (try (rw [drewN_self wr]; generalize hq_ : World.drewN wr _ = wr; have n0_ := Aside0.mk (Kd.R_at hq_ HO_7.out); have n1_ := Aside0.mk (Kd.R_at hq_ HO_8.out); have n2_ := Aside0.mk (below_at hq_ HB.out); clear hq_ HO_7 HO_8 HB; have HO_7 := n0_; have HO_8 := n1_; have HB := n2_; clear n0_ n1_ n2_; (try (have HP30 := Kd.R_putg HO_7.out (x12_3 : Int) (wrap64 ((rd x7_2 x12_3) + 1)))))); refine store_event (t := 2) (p := 71) (v := ?vo_w31) (w1 := (wr.setCell ⟨go25, (x12_3 : Int).toNat, none⟩ (.int .i64 (wrap64 ((rd x7_2 x12_3) + 1))))) ?hg ?ho ?hn ?hr ?_; (case ho => rfl); (case hg => rfl); (case hn => rfl); (case hr => first | (go_simp; done) | (go_simp; rfl)); intro w31 hw; have hg : wr.grownBy w31 (some go25) := (by rw [hw]; exact HP30.2); have hp_ : Kd.R (Kd.int .i64) 2 w31 w.heap.size (fun k_ => some k_ ≠ (.slice Ao28 x8_2.length co28 : Value).ownBlock) (.slice (some ⟨go25, 0, none⟩) x7_2.length co29) y127 := (by rw [hw, Ny127.out]; exact HP30.1); clear HP30; have n0_ := Aside0.mk (hp_); have n1_ := Aside0.mk (Kd.R_after (v := (.slice (some ⟨go25, 0, none⟩) x7_2.length co29)) (v1 := (.slice (some ⟨go25, 0, none⟩) x7_2.length co29)) (ok := (fun _ => True)) (by (with_reducible repeat (first | apply Kd.R_alloc | apply Kd.R_drewN | apply Kd.R_drew)); exact Kd.R_mono HO_8.out (fun _ hk => ⟨trivial, hk⟩)) hg (.inl rfl)); have n2_ := Aside0.mk ((by rw [hw]; exact below_set (HB.out) GB25.out : Below w.heap.size w w31)); clear HO_7; clear HO_8; clear HB; have HO_7 := n0_; have HO_8 := n1_; have HB := n2_; clear n0_ n1_ n2_; clear hg hw hp_; have p27 : 0 ≤ (x12_3 : Int) := of_decide_eq_true (by first | (with_reducible assumption) | assumption); have q27 : (x12_3 : Int) < ((x8_2.length : Int) : Int) := of_decide_eq_true (by first | (with_reducible assumption) | assumption); obtain ⟨go27, co27, eo27, gb27, gl27, cl27, HG27⟩ := Kd.R_form HO_8.out (by omega); (first | cases eo27 | (injection eo27 with ea_ en_ ec_; (first | subst ea_ | (injection ea_ with ea_; subst ea_)); subst ec_; clear en_)); have GB27 := Aside0.mk gb27; have GG27 := Aside0.mk HG27; clear gb27 gl27 HG27; obtain ⟨hx27_0, hf27_0⟩ := Kd.R_celln 0 HO_8.out (x12_3 : Int) p27 q27; replace p27 := eq_true p27; replace q27 := eq_true q27; have n_ := Aside0.mk (Kd.R_mono (ok' := (fun k_ => some k_ ≠ (.slice (some ⟨go25, 0, none⟩) x7_2.length co29 : Value).ownBlock)) HO_8.out (fun k_ hk => hk.2)); clear HO_8; have HO_8 := n_; clear n_; obtain ⟨hy32_, hz32_⟩ := Kd.R_celln 0 HO_8.out (x12_3 : Int) (of_decide_eq_true (by first | (with_reducible assumption) | assumption)) (of_decide_eq_true (by first | (with_reducible assumption) | assumption)); have HP32 := Kd.R_putg HO_8.out (x12_3 : Int) (-1)) | ((with_reducible refine gate_store (t := 2) (p := 74) rfl ?_); (try (rw [drewN_self w31]; generalize hq_ : World.drewN w31 _ = w31; have n0_ := Aside0.mk (Kd.R_at hq_ HO_7.out); have n1_ := Aside0.mk (Kd.R_at hq_ HO_8.out); have n2_ := Aside0.mk (below_at hq_ HB.out); clear hq_ HO_7 HO_8 HB; have HO_7 := n0_; have HO_8 := n1_; have HB := n2_; clear n0_ n1_ n2_; (try (have n_ := Aside0.mk (Kd.R_mono (ok' := (fun k_ => some k_ ≠ (.slice (some ⟨go25, 0, none⟩) x7_2.length co29 : Value).ownBlock)) HO_8.out (fun k_ hk => hk.2)); clear HO_8; have HO_8 := n_; clear n_)); (try (obtain ⟨hy32_, hz32_⟩ := Kd.R_celln 0 HO_8.out (x12_3 : Int) (of_decide_eq_true (by first | (with_reducible assumption) | assumption)) (of_decide_eq_true (by first | (with_reducible assumption) | assumption)))); (try (have HP32 := Kd.R_putg HO_8.out (x12_3 : Int) (-1))))); refine store_event (t := 2) (p := 74) (v := ?vo_w33) (w1 := (w31.setCell ⟨go27, (x12_3 : Int).toNat, none⟩ (.int .i64 (-1)))) ?hg ?ho ?hn ?hr ?_; (case ho => rfl); (case hg => rfl); (case hn => rfl); (case hr => first | (go_simp; done) | (go_simp; rfl)); intro w33 hw; have hg : w31.grownBy w33 (some go27) := (by rw [hw]; exact HP32.2); have hp_ : Kd.R (Kd.int .i64) 2 w33 w.heap.size (fun k_ => some k_ ≠ (.slice (some ⟨go25, 0, none⟩) x7_2.length co29 : Value).ownBlock) (.slice (some ⟨go27, 0, none⟩) x8_2.length co28) y128 := (by rw [hw, Ny128.out]; exact HP32.1); clear HP32; have n0_ := Aside0.mk (Kd.R_after (v := (.slice (some ⟨go27, 0, none⟩) x8_2.length co28)) (v1 := (.slice (some ⟨go27, 0, none⟩) x8_2.length co28)) (ok := (fun _ => True)) (by (with_reducible repeat (first | apply Kd.R_alloc | apply Kd.R_drewN | apply Kd.R_drew)); exact Kd.R_mono HO_7.out (fun _ hk => ⟨trivial, hk⟩)) hg (.inl rfl)); have n1_ := Aside0.mk (hp_); have n2_ := Aside0.mk ((by rw [hw]; exact below_set (HB.out) GB27.out : Below w.heap.size w w33)); clear HO_7; clear HO_8; clear HB; have HO_7 := n0_; have HO_8 := n1_; have HB := n2_; clear n0_ n1_ n2_; clear hg hw hp_)))
             go_roundg k3
             case measure => have := HK1.out; have := HK2.out; have := HK3.out; omega
             case rel => exact ⟨(y127), (y128), (wrap64 (x9_2 - 1)), (by first | rfl | (simp; done) | (simp [*]; done)), H', ⟨by have := HK1.out; have := HK2.out; have := HK3.out; omega⟩, ⟨by (with_reducible repeat (first | apply Kd.R_alloc | apply Kd.R_drewN | apply Kd.R_drew)); exact Kd.R_mono HO_7.out (fun _ hk => hk.2)⟩, ⟨by (with_reducible repeat (first | apply Kd.R_alloc | apply Kd.R_drewN | apply Kd.R_drew)); exact HO_8.out⟩, ⟨by repeat (first | (with_reducible first | exact HB.out | apply below_alloc | apply pw_below_drewN | apply below_drew1) | exact HB.out)⟩⟩
            ·rw [if_neg c26] at H
             exact absurd H (by simp)
           ·rw [if_neg c24] at H
            exact absurd H (by simp)
          ·rw [if_neg c23] at H
           exact absurd H (by simp)
      ·rw [if_neg c15] at H
       have c15b0 : decide (0 < x9_2) = false := decide_eq_false c15
       clear c15
       obtain rfl := Option.some.inj H
       go_wp2
       repeat (go_quiet (fail); try go_wp2)
       go_ret
       exact ⟨_, by first | rfl | (simp [errW_none, errW_some] <;> rfl) | (simp [*, errW_none, errW_some] <;> rfl), by (with_reducible repeat (first | apply Kd.R_alloc | apply Kd.R_drewN | apply Kd.R_drew)); exact Kd.R_mono HO_7.out (fun _ hk => trivial), by repeat (first | (with_reducible first | exact HB.out | apply below_alloc | apply pw_below_drewN | apply below_drew1) | exact HB.out)⟩

end Go.Proofs.Ytppfdndnojbmjaa.X

/-! ## PShare -/
/- Plain laws of sharing out by the largest remainders: impl.shareOut (which sorts) and spec.l02Share (which looks for the greatest remainder again and again) tell the same. For a total and weights whose products fit, one weight at least and twenty at most, and their sum above 0. -/
namespace Go.Proofs.Ytppfdndnojbmjaa.PShare
open Go.RowKit Go.Proofs.YtppfdndnojbmjaaW.PrintWords Go.Proofs.Ytppfdndnojbmjaa.X Go.Proofs.Ytppfdndnojbmjaa.B Go.Proofs.Ytppfdndnojbmjaa.PSum Go.Proofs.Ytppfdndnojbmjaa.PSort
/-- The sum of f below m. -/
def psum (f : Nat → Int) : Nat → Int
  | 0 => 0
  | m + 1 => psum f m + f m
theorem sum64_psum (xs : List Int) (hb : ∀ i, i ≤ xs.length → -9223372036854775808 ≤ psum (fun j => rd xs (j : Int)) i ∧ psum (fun j => rd xs (j : Int)) i ≤ 9223372036854775807) : sum64 0 xs = psum (fun j => rd xs (j : Int)) xs.length := by
  have h : ∀ i, i ≤ xs.length → sum64 0 (xs.take i) = psum (fun j => rd xs (j : Int)) i := by
    intro i
    induction i with
    | zero => intro _; rfl
    | succ i ih =>
      intro hi
      have hi' : i < xs.length := by omega
      rw [sum64_take xs hi', ih (by omega)]
      have := hb (i + 1) hi
      simp only [psum, rd_at hi'] at this ⊢
      exact w64 this.1 this.2
  have := h xs.length (by omega)
  rwa [List.take_length] at this
theorem psum_congr {f g : Nat → Int} : ∀ {m : Nat}, (∀ j, j < m → f j = g j) → psum f m = psum g m
  | 0, _ => rfl
  | m + 1, h => by simp only [psum]; rw [psum_congr (fun j hj => h j (by omega)), h m (by omega)]
theorem psum_mono {f : Nat → Int} {n : Nat} (h : ∀ j, j < n → 0 ≤ f j) : ∀ {m : Nat}, m ≤ n → 0 ≤ psum f m ∧ psum f m ≤ psum f n := by
  have h0 : ∀ m, m ≤ n → 0 ≤ psum f m := by
    intro m
    induction m with
    | zero => intro _; exact Int.le_refl _
    | succ m ih => intro hm; have := ih (by omega); have := h m (by omega); simp only [psum]; omega
  have h1 : ∀ q m, m + q = n → psum f m ≤ psum f n := by
    intro q
    induction q with
    | zero => intro m hm; obtain rfl : m = n := by omega
              exact Int.le_refl _
    | succ q ih => intro m hm; have h2 := ih (m + 1) (by omega); have h3 := h m (by omega); simp only [psum] at h2; omega
  intro m hm
  exact ⟨h0 m hm, h1 (n - m) m (by omega)⟩
/-- What is asked of the total and the weights. -/
structure Fit (t : Int) (lw : List Int) (s : Int) : Prop where
  one : 1 ≤ lw.length
  some20 : lw.length ≤ 20
  tot : 0 ≤ t ∧ t ≤ 4611686018427387904
  pos : 0 < s
  w : ∀ i, i < lw.length → 0 ≤ rd lw (i : Int) ∧ t * rd lw (i : Int) ≤ 9223372036854775807
  sum : sum64 0 lw = s
  psm : psum (fun j => rd lw (j : Int)) lw.length = s
/-- A share, rounded down; what remains. -/
def Q (t : Int) (lw : List Int) (s : Int) (i : Nat) : Int := wrap64 (Int.tdiv (wrap64 (t * rd lw (i : Int))) s)
def R (t : Int) (lw : List Int) (s : Int) (i : Nat) : Int := Int.tmod (wrap64 (t * rd lw (i : Int))) s
section
variable {t s : Int} {lw : List Int}
theorem qr (h : Fit t lw s) {i : Nat} (hi : i < lw.length) : (0 ≤ R t lw s i ∧ R t lw s i < s) ∧ 0 ≤ Q t lw s i ∧ s * Q t lw s i + R t lw s i = t * rd lw (i : Int) := by
  obtain ⟨h0, h1⟩ := h.w i hi
  have hp := h.pos
  have ht := h.tot
  have hm : 0 ≤ t * rd lw (i : Int) := Int.mul_nonneg ht.1 h0
  unfold Q R
  rw [w64 (x := t * rd lw (i : Int)) (by omega) h1, Int.tmod_eq_emod_of_nonneg hm, Int.tdiv_eq_ediv_of_nonneg hm]
  have e := Int.mul_ediv_add_emod (t * rd lw (i : Int)) s
  have r0 := Int.emod_nonneg (t * rd lw (i : Int)) (by omega : s ≠ 0)
  have r1 := Int.emod_lt_of_pos (t * rd lw (i : Int)) hp
  have q0 := Int.ediv_nonneg hm (by omega : 0 ≤ s)
  have q1 : t * rd lw (i : Int) / s ≤ t * rd lw (i : Int) := Int.ediv_le_self _ hm
  rw [w64 (by omega) (by omega)]
  exact ⟨⟨r0, r1⟩, q0, e⟩
theorem sums (h : Fit t lw s) : ∀ {m : Nat}, m ≤ lw.length → s * psum (Q t lw s) m + psum (R t lw s) m = t * psum (fun j => rd lw (j : Int)) m
  | 0, _ => by simp [psum]
  | m + 1, hm => by
    have ih := sums h (m := m) (by omega)
    have e := (qr h (i := m) (by omega)).2.2
    simp only [psum, Int.mul_add]
    omega
theorem rsum (h : Fit t lw s) : ∀ {m : Nat}, m ≤ lw.length → 1 ≤ m → 0 ≤ psum (R t lw s) m ∧ psum (R t lw s) m < m * s
  | m + 1, hm, _ => by
    have e := (qr h (i := m) (by omega)).1
    simp only [psum]
    rcases Nat.eq_zero_or_pos m with rfl | hp
    · simp only [psum]; push_cast; omega
    · have ih := rsum h (m := m) (by omega) hp
      have : ((m + 1 : Nat) : Int) * s = m * s + s := by push_cast; rw [Int.add_mul]; omega
      omega
/-- How many are left over: fewer than there are weights. -/
theorem left_in (h : Fit t lw s) : 0 ≤ t - psum (Q t lw s) lw.length ∧ t - psum (Q t lw s) lw.length < lw.length := by
  have h1 := sums h (Nat.le_refl _)
  have h2 := rsum h (Nat.le_refl _) h.one
  rw [h.psm] at h1
  have hp := h.pos
  have e : s * (t - psum (Q t lw s) lw.length) = psum (R t lw s) lw.length := by
    rw [Int.mul_sub, Int.mul_comm s t]; omega
  constructor
  · by_cases c : 0 ≤ t - psum (Q t lw s) lw.length
    · exact c
    · have : s * (t - psum (Q t lw s) lw.length) ≤ s * (-1) := Int.mul_le_mul_of_nonneg_left (by omega) (by omega)
      omega
  · by_cases c : t - psum (Q t lw s) lw.length < lw.length
    · exact c
    · have : s * (lw.length : Int) ≤ s * (t - psum (Q t lw s) lw.length) := Int.mul_le_mul_of_nonneg_left (by omega) (by omega)
      rw [Int.mul_comm s (lw.length : Int)] at this
      omega
/-- The order of the indices. -/
def sg (t : Int) (lw : List Int) (s : Int) : List Nat := ord (R t lw s) (lw.length - 1)
theorem sg_sort (h : Fit t lw s) : shSort t lw s (ids lw.length) = (sg t lw s).map fun (j : Nat) => (j : Int) := by
  have e : lw.length = lw.length - 1 + 1 := by have := h.one; omega
  have el : (ids lw.length).length = lw.length - 1 + 1 := by rw [ids, upto_len]; exact e
  unfold shSort sg ord
  rw [el, List.map_map, show ids lw.length = ids (lw.length - 1 + 1) from congrArg ids e]
  rfl
theorem sg_holds (h : Fit t lw s) : (sg t lw s).Perm (List.range lw.length) ∧ ∀ i j (hj : j < (sg t lw s).length), (hij : i < j) → R t lw s (sg t lw s)[j] < R t lw s ((sg t lw s)[i]'(by omega)) ∨ (R t lw s (sg t lw s)[j] = R t lw s ((sg t lw s)[i]'(by omega)) ∧ (sg t lw s)[i]'(by omega) < (sg t lw s)[j]) := by
  have e : lw.length = lw.length - 1 + 1 := by have := h.one; omega
  have := ord_holds (R t lw s) (lw.length - 1)
  rw [← e] at this
  exact this
theorem sg_len (h : Fit t lw s) : (sg t lw s).length = lw.length := by rw [(sg_holds h).1.length_eq, List.length_range]
theorem sg_lt (h : Fit t lw s) {m : Nat} (hm : m < (sg t lw s).length) : (sg t lw s)[m] < lw.length := by
  have := (sg_holds h).1.mem_iff.1 (List.getElem_mem hm)
  simpa using this
theorem sg_nodup (h : Fit t lw s) : (sg t lw s).Nodup := (List.Perm.nodup_iff (sg_holds h).1).2 List.nodup_range
end
/-- One more at place p. -/
def inc (xs : List Int) (p : Nat) : List Int := xs.set p (wrap64 (rd xs (p : Int) + 1))
theorem inc_len (xs : List Int) (p : Nat) : (inc xs p).length = xs.length := by simp [inc]
/-- The shares once m are given out. -/
def F (t : Int) (lw : List Int) (s : Int) (m : Nat) : List Int := ((sg t lw s).take m).foldl inc (upto (Q t lw s) lw.length)
theorem F_zero (t : Int) (lw : List Int) (s : Int) : F t lw s 0 = upto (Q t lw s) lw.length := rfl
theorem F_succ (t : Int) (lw : List Int) (s : Int) {m : Nat} (h : m < (sg t lw s).length) : F t lw s (m + 1) = inc (F t lw s m) (sg t lw s)[m] := by
  unfold F
  rw [List.take_succ_eq_append_getElem h, List.foldl_append]
  rfl
theorem foldl_len (ps : List Nat) : ∀ xs : List Int, (ps.foldl inc xs).length = xs.length := by
  induction ps with
  | nil => intro xs; rfl
  | cons p ps ih => intro xs; rw [List.foldl_cons, ih, inc_len]
theorem F_len (t : Int) (lw : List Int) (s : Int) (m : Nat) : (F t lw s m).length = lw.length := by
  unfold F
  rw [foldl_len, upto_len]
/-- What remains once m are given out. -/
def G (t : Int) (lw : List Int) (s : Int) (m : Nat) : List Int := upto (fun j => if j ∈ (sg t lw s).take m then -1 else R t lw s j) lw.length
theorem G_len (t : Int) (lw : List Int) (s : Int) (m : Nat) : (G t lw s m).length = lw.length := upto_len _ _
section
variable {t s : Int} {lw : List Int}
theorem G_succ (h : Fit t lw s) {m : Nat} (hm : m < (sg t lw s).length) : (G t lw s m).set (sg t lw s)[m] (-1) = G t lw s (m + 1) := by
  apply List.ext_getElem
  · simp [G, upto]
  · intro i h1 h2
    have hi : i < lw.length := by rw [G_len] at h2; exact h2
    have hg : ∀ q (hq : i < (G t lw s q).length), (G t lw s q)[i] = if i ∈ (sg t lw s).take q then -1 else R t lw s i := fun q hq => by simp [G, upto]
    rw [List.getElem_set, hg, hg, List.take_succ_eq_append_getElem hm]
    by_cases e : (sg t lw s)[m] = i
    · rw [if_pos e, if_pos (by rw [e]; simp)]
    · rw [if_neg e]
      by_cases c : i ∈ (sg t lw s).take m
      · rw [if_pos c, if_pos (List.mem_append.2 (Or.inl c))]
      · rw [if_neg c, if_neg (fun h' => (List.mem_append.1 h').elim c (fun h'' => e (List.mem_singleton.1 h'').symm))]
/-- The next one: its remainder is the greatest, and the first such. -/
theorem best (h : Fit t lw s) {m : Nat} (hm : m < (sg t lw s).length) {j : Nat} (hj : j < lw.length) : rd (G t lw s m) (j : Int) ≤ rd (G t lw s m) (((sg t lw s)[m] : Nat) : Int) ∧ (j < (sg t lw s)[m] → rd (G t lw s m) (j : Int) < rd (G t lw s m) (((sg t lw s)[m] : Nat) : Int)) := by
  have hp := sg_lt h hm
  have nd := sg_nodup h
  have hnot : (sg t lw s)[m] ∉ (sg t lw s).take m := fun hin => by
    obtain ⟨k, hk, he⟩ := List.mem_iff_getElem.1 hin
    rw [List.getElem_take] at he
    have hk' : k < m := by rw [List.length_take] at hk; omega
    exact List.pairwise_iff_getElem.1 nd k m (by omega) hm hk' he
  have e1 : rd (G t lw s m) (((sg t lw s)[m] : Nat) : Int) = R t lw s (sg t lw s)[m] := by
    rw [G, upto_at _ hp, if_neg hnot]
  have r1 := (qr h hp).1.1
  rw [e1, G, upto_at _ hj]
  by_cases c : j ∈ (sg t lw s).take m
  · rw [if_pos c]; omega
  · rw [if_neg c]
    obtain ⟨k, hk, he⟩ := List.mem_iff_getElem.1 ((sg_holds h).1.mem_iff.2 (List.mem_range.2 hj))
    have hkm : m ≤ k := by
      by_cases q : m ≤ k
      · exact q
      · refine absurd ?_ c
        rw [← he]
        exact List.mem_iff_getElem.2 ⟨k, by rw [List.length_take]; omega, by rw [List.getElem_take]⟩
    rcases Nat.eq_or_lt_of_le hkm with q | q
    · subst q
      rw [he]
      omega
    · have := (sg_holds h).2 m k hk q
      rw [he] at this
      omega
theorem implShare_ev (h : Fit t lw s) : Ev (fun k => impl_shareOut.f k t lw) (F t lw s (t - psum (Q t lw s) lw.length).toNat) := by
  have hn := h.some20
  have h1 := h.one
  have hl := left_in h
  have ht := h.tot
  have hs0 : ¬ s = 0 := by have := h.pos; omega
  have hq : ∀ {m : Nat}, m ≤ lw.length → 0 ≤ psum (Q t lw s) m ∧ psum (Q t lw s) m ≤ psum (Q t lw s) lw.length := fun hm => psum_mono (fun j hj => (qr h hj).2.1) hm
  unfold impl_shareOut.f
  have hsum := implSum_ev lw (by omega)
  rw [h.sum] at hsum
  refine Ev.bindE hsum ?_
  refine scanI (fun k i => impl_shareOut.l0 k (upto (Q t lw s) i) lw (lw.length : Int) (i : Int) t lw s (ids i)) lw.length (fun _ => F t lw s (t - psum (Q t lw s) lw.length).toNat) (Ev.up (g := fun k => impl_shareOut.l0 k (upto (Q t lw s) lw.length) lw (lw.length : Int) (lw.length : Int) t lw s (ids lw.length)) ?_) (fun i hi ih => ?_) 0 (by omega)
  · have hok : shOk lw s (ids lw.length) = true := by
      simp only [shOk, Bool.and_eq_true, decide_eq_true_eq, List.all_eq_true]
      refine ⟨by rw [ids, upto_len]; exact h1, by rw [ids, upto_len]; exact hn, hs0, fun x hx => ?_⟩
      simp only [ids, upto, List.mem_map, List.mem_range] at hx
      obtain ⟨a, ha, rfl⟩ := hx
      omega
    have hqs : sum64 0 (upto (Q t lw s) lw.length) = psum (Q t lw s) lw.length := by
      have e : ∀ i, i ≤ lw.length → psum (fun j => rd (upto (Q t lw s) lw.length) (j : Int)) i = psum (Q t lw s) i := fun i hi => psum_congr fun j hj => upto_at _ (by omega)
      rw [sum64_psum _ (fun i hi => by
        rw [upto_len] at hi
        rw [e i hi]
        have := hq hi
        omega), upto_len, e _ (Nat.le_refl _)]
    have hil : (ids lw.length).length = lw.length := upto_len _ _
    have his := implSum_ev (upto (Q t lw s) lw.length) (by rw [upto_len]; omega)
    rw [hqs] at his
    have hw : wrap64 (t - psum (Q t lw s) lw.length) = t - psum (Q t lw s) lw.length := w64 (by have := hq (Nat.le_refl _); omega) (by have := hq (Nat.le_refl _); omega)
    simp only [impl_shareOut.l0, Option.bind_some]
    refine Ev.ifNeg (by omega) (Ev.ifPos hok (Ev.bindE his ?_))
    rw [hw, hil]
    refine Ev.ifPos hl.1 (Ev.ifPos (by omega) ?_)
    rw [sg_sort h]
    obtain ⟨L, hL⟩ : ∃ L : Nat, t - psum (Q t lw s) lw.length = (L : Int) := ⟨(t - psum (Q t lw s) lw.length).toNat, by omega⟩
    rw [hL, Int.toNat_natCast]
    have hLn : L < lw.length := by omega
    have hsl := sg_len h
    have htl : (((sg t lw s).map fun (j : Nat) => (j : Int)).take L).length = L := by rw [List.length_take, List.length_map]; omega
    rw [htl]
    refine scanI (fun k i => impl_shareOut.l1 k (F t lw s i) (((sg t lw s).map fun (j : Nat) => (j : Int)).take L) (L : Int) (i : Int)) L (fun _ => F t lw s L) (Ev.up (g := fun k => impl_shareOut.l1 k (F t lw s L) (((sg t lw s).map fun (j : Nat) => (j : Int)).take L) (L : Int) (L : Int)) (Ev.const fun k => by
      simp only [impl_shareOut.l1]
      rw [if_neg (by omega)])) (fun i hi ih => ?_) 0 (by omega)
    have hi' : i < (sg t lw s).length := by omega
    have hrd : rd (((sg t lw s).map fun (j : Nat) => (j : Int)).take L) (i : Int) = (((sg t lw s)[i] : Nat) : Int) := by
      rw [rd_at (by omega)]; simp
    have hlt := sg_lt h hi'
    have hFl := F_len t lw s i
    refine Ev.up (g := fun k => impl_shareOut.l1 k (F t lw s i) (((sg t lw s).map fun (j : Nat) => (j : Int)).take L) (L : Int) (i : Int)) ?_
    simp only [impl_shareOut.l1, hrd, htl, hFl, wnext hi (by omega : (L : Int) ≤ _), Int.toNat_natCast]
    refine Ev.ifPos (by omega) (Ev.ifPos (by omega) (Ev.ifPos (by omega) (Ev.ifPos (by omega) (Ev.ifPos (by omega) ?_))))
    rw [F_succ t lw s hi'] at ih
    exact ih
  · refine Ev.up (g := fun k => impl_shareOut.l0 k (upto (Q t lw s) i) lw (lw.length : Int) (i : Int) t lw s (ids i)) ?_
    have a1 : (upto (Q t lw s) i).length = i := upto_len _ _
    have a2 : (ids i).length = i := upto_len _ _
    simp only [impl_shareOut.l0, Option.bind_some, a1, a2, List.length_cons, List.length_nil, wnext hi (by omega : (lw.length : Int) ≤ _)]
    refine Ev.ifPos (by omega) (Ev.ifPos (by omega) (Ev.ifPos (by omega) (Ev.ifNeg hs0 (Ev.ifPos (by omega) (Ev.ifPos (by omega) ?_)))))
    rw [upto_succ, ids, upto_succ] at ih
    exact ih
theorem specShare_ev (h : Fit t lw s) : Ev (fun k => spec_l02Share.f k t lw s) (F t lw s (t - psum (Q t lw s) lw.length).toNat) := by
  have hn := h.some20
  have h1 := h.one
  have hl := left_in h
  have ht := h.tot
  have hs0 : ¬ s = 0 := by have := h.pos; omega
  have hq : ∀ {m : Nat}, m ≤ lw.length → 0 ≤ psum (Q t lw s) m ∧ psum (Q t lw s) m ≤ psum (Q t lw s) lw.length := fun hm => psum_mono (fun j hj => (qr h hj).2.1) hm
  have hsl := sg_len h
  unfold spec_l02Share.f
  have e0 : t = t - psum (Q t lw s) 0 := by simp [psum]
  conv => arg 1; intro k; rw [show spec_l02Share.l0 k t lw s [] [] t 0 = spec_l02Share.l0 k t lw s (upto (Q t lw s) 0) (upto (R t lw s) 0) (t - psum (Q t lw s) 0) ((0 : Nat) : Int) by rw [← e0]; rfl]
  refine scanI (fun k i => spec_l02Share.l0 k t lw s (upto (Q t lw s) i) (upto (R t lw s) i) (t - psum (Q t lw s) i) (i : Int)) lw.length (fun _ => F t lw s (t - psum (Q t lw s) lw.length).toNat) (Ev.up (g := fun k => spec_l02Share.l0 k t lw s (upto (Q t lw s) lw.length) (upto (R t lw s) lw.length) (t - psum (Q t lw s) lw.length) (lw.length : Int)) ?_) (fun i hi ih => ?_) 0 (by omega)
  · simp only [spec_l02Share.l0]
    refine Ev.ifNeg (by omega) ?_
    obtain ⟨L, hL⟩ : ∃ L : Nat, t - psum (Q t lw s) lw.length = (L : Int) := ⟨(t - psum (Q t lw s) lw.length).toNat, by omega⟩
    rw [hL, Int.toNat_natCast]
    have hLn : L < lw.length := by omega
    have g0 : upto (R t lw s) lw.length = G t lw s 0 := by unfold G; simp
    rw [g0, ← F_zero]
    have key : ∀ m i, i + m = L → Ev (fun k => spec_l02Share.l1 k (F t lw s i) (G t lw s i) (m : Int)) (F t lw s L) := by
      intro m
      induction m with
      | zero =>
        intro i hi
        obtain rfl : i = L := by omega
        refine Ev.up (g := fun k => spec_l02Share.l1 k (F t lw s i) (G t lw s i) ((0 : Nat) : Int)) (Ev.const fun k => ?_)
        simp only [spec_l02Share.l1]
        rw [if_neg (by omega)]
      | succ m ih =>
        intro i hi
        have hi' : i < (sg t lw s).length := by omega
        have hp := sg_lt h hi'
        have hFl := F_len t lw s i
        have hGl := G_len t lw s i
        refine Ev.up (g := fun k => spec_l02Share.l1 k (F t lw s i) (G t lw s i) ((m + 1 : Nat) : Int)) ?_
        simp only [spec_l02Share.l1]
        refine Ev.ifPos (by omega) ?_
        have inner : ∀ q j (b : Nat), j + q = lw.length → 1 ≤ j → b < j → ((sg t lw s)[i] < j → b = (sg t lw s)[i]) → Ev (fun k => spec_l02Share.l2 k (F t lw s i) (G t lw s i) ((m + 1 : Nat) : Int) (b : Int) (j : Int)) (F t lw s L) := by
          intro q
          induction q with
          | zero =>
            intro j b hj _ hb hbp
            obtain rfl : j = lw.length := by omega
            obtain rfl := hbp hp
            refine Ev.up (g := fun k => spec_l02Share.l2 k (F t lw s i) (G t lw s i) ((m + 1 : Nat) : Int) (((sg t lw s)[i] : Nat) : Int) (lw.length : Int)) ?_
            have ih' := ih (i + 1) (by omega)
            rw [F_succ t lw s hi', ← G_succ h hi'] at ih'
            simp only [spec_l02Share.l2, hFl, hGl, Int.toNat_natCast, w64 (x := ((m + 1 : Nat) : Int) - 1) (by omega) (by omega)]
            refine Ev.ifNeg (by omega) (Ev.ifPos (by omega) (Ev.ifPos (by omega) (Ev.ifPos (by omega) ?_)))
            rw [show ((m + 1 : Nat) : Int) - 1 = (m : Int) by omega]
            exact ih'
          | succ q ihq =>
            intro j b hj hj1 hb hbp
            have hjn : j < lw.length := by omega
            refine Ev.up (g := fun k => spec_l02Share.l2 k (F t lw s i) (G t lw s i) ((m + 1 : Nat) : Int) (b : Int) (j : Int)) ?_
            simp only [spec_l02Share.l2, hGl, wnext hjn (by omega : (lw.length : Int) ≤ _)]
            refine Ev.ifPos (by omega) (Ev.ifPos (by omega) (Ev.ifPos (by omega) (Ev.ifPos (by omega) (Ev.ite (fun c => ?_) (fun c => ?_)))))
            · refine ihq (j + 1) j (by omega) (by omega) (by omega) fun hlt => ?_
              by_cases e : j = (sg t lw s)[i]
              · exact e
              · have := hbp (by omega)
                subst this
                have := (best h hi' hjn).1
                omega
            · refine ihq (j + 1) b (by omega) (by omega) (by omega) fun hlt => ?_
              by_cases e : (sg t lw s)[i] < j
              · exact hbp e
              · have e2 : (sg t lw s)[i] = j := by omega
                have := (best h hi' (j := b) (by omega)).2 (by omega)
                rw [e2] at this
                omega
        exact inner (lw.length - 1) 1 0 (by omega) (by omega) (by omega) (by omega)
    exact key L 0 (by omega)
  · refine Ev.up (g := fun k => spec_l02Share.l0 k t lw s (upto (Q t lw s) i) (upto (R t lw s) i) (t - psum (Q t lw s) i) (i : Int)) ?_
    have a1 : (upto (Q t lw s) i).length = i := upto_len _ _
    have a2 : (upto (R t lw s) i).length = i := upto_len _ _
    have b1 := hq (m := i) (by omega)
    have b2 := hq (m := i + 1) (by omega)
    simp only [psum] at b2
    have e : wrap64 (t - psum (Q t lw s) i - wrap64 (Int.tdiv (wrap64 (t * rd lw (i : Int))) s)) = t - psum (Q t lw s) (i + 1) := by
      show wrap64 (t - psum (Q t lw s) i - Q t lw s i) = t - (psum (Q t lw s) i + Q t lw s i)
      rw [w64 (by omega) (by omega)]
      omega
    simp only [spec_l02Share.l0, a1, a2, e, wnext hi (by omega : (lw.length : Int) ≤ _)]
    refine Ev.ifPos (by omega) (Ev.ifPos (by omega) (Ev.ifNeg hs0 (Ev.ifPos (by omega) (Ev.ifPos (by omega) ?_))))
    rw [upto_succ, upto_succ] at ih
    exact ih
end
end Go.Proofs.Ytppfdndnojbmjaa.PShare

/-! ## XSpecL02Size -/
namespace Go.Proofs.Ytppfdndnojbmjaa.X
open Go.RowKit Go.Proofs.Ytppfdndnojbmjaa.XV Go.Proofs.YtppfdndnojbmjaaW.PrintWords Go.Proofs.YtppfdndnojbmjaaW.PrintLast Go.Proofs.YtppfdndnojbmjaaW.PrintMore
attribute [local go_sem] max2_int min2_int max_two min_two max_three min_three max_four min_four

def spec_l02Size.f (a0 : Int) : Option (Int) := if a0 < 0 then (some (wrap64 (-a0))) else (some a0)
set_option maxHeartbeats 8000000 in
set_option maxRecDepth 100000 in
theorem spec_l02Size.calls (a0 : Int) (r : Int) (w : World) (h : spec_l02Size.f a0 = some r) :
  Calls Try.prog 80 #[.int .i64 a0] w fun e w' => e = .returned (.int .i64 r) ∧ Drawn0 w w' := by
 have H : (if a0 < 0 then (some (wrap64 (-a0))) else (some a0)) = some r := h
 clear h
 by_cases c2 : a0 < 0
 ·rw [if_pos c2] at H
  have c2b0 : decide (a0 < 0) = true := decide_eq_true c2
  clear c2
  obtain rfl := Option.some.inj H
  go_enter Try.func80, Try.ntmps80
  go_wp2
  go_ret
  exact ⟨by first | rfl | (simp; done) | (simp [*]; done), by repeat (first | exact Drawn0.refl _ | apply Drawn0.step)⟩
 ·rw [if_neg c2] at H
  have c2b0 : decide (a0 < 0) = false := decide_eq_false c2
  clear c2
  obtain rfl := Option.some.inj H
  go_enter Try.func80, Try.ntmps80
  go_wp2
  go_ret
  exact ⟨by first | rfl | (simp; done) | (simp [*]; done), by repeat (first | exact Drawn0.refl _ | apply Drawn0.step)⟩


/-! ## XSpecL26Shared -/

def spec_l26Shared.l0 : Nat → List Int → Int → List Int → List Int → Int → Option (List Int)
 | 0, _, _, _, _, _ => none
 | k + 1, x0, x2, x7, x8, x9 => if x9 < (x0.length : Int) then (if x2 < 0 then (if 0 ≤ x9 then (if x9 < (x7.length : Int) then (if x8.length < 17592186044416 then (spec_l26Shared.l0 k x0 x2 x7 (x8 ++ [wrap64 ((rd x0 x9) + (rd x7 x9))]) (wrap64 (x9 + 1))) else (none)) else (none)) else (none)) else (if 0 ≤ x9 then (if x9 < (x7.length : Int) then (if x8.length < 17592186044416 then (spec_l26Shared.l0 k x0 x2 x7 (x8 ++ [wrap64 ((rd x0 x9) - (rd x7 x9))]) (wrap64 (x9 + 1))) else (none)) else (none)) else (none))) else (some x8)
def spec_l26Shared.f (k : Nat) (l0 : List Int) (l1 : List Int) (a2 : Int) : Option (List Int) := (spec_l02Size.f a2).bind fun t129 => ((spec_l02Sum.f k l1).bind fun t130 => ((spec_l02Share.f k t129 l1 t130).bind fun t131 => (spec_l26Shared.l0 k l0 a2 t131 (([] : List Int)) 0)))
theorem spec_l26Shared.mono_l : ∀ k, (∀ y0 y1 y2 y3 y4, LeO (spec_l26Shared.l0 k y0 y1 y2 y3 y4) (spec_l26Shared.l0 (k + 1) y0 y1 y2 y3 y4))
 | 0 => fun _ _ _ _ _ r h => by simp [spec_l26Shared.l0] at h
 | k + 1 => by
  have ih0 := spec_l26Shared.mono_l k
  ·intro y0 y1 y2 y3 y4
   unfold spec_l26Shared.l0
   repeat' first
   | (with_reducible exact ih0 _ _ _ _ _)
   | (with_reducible exact spec_l02Share.mono _ _ _ _)
   | (with_reducible exact spec_l02Sum.mono _ _)
   | (with_reducible exact LeO.refl _)
   | (with_reducible exact LeO.none _)
   | (with_reducible refine LeO.ite ?_ ?_)
   | (with_reducible refine LeO.bind ?_ (fun _ => ?_))
   | exact ih0 _ _ _ _ _
   | exact spec_l02Share.mono _ _ _ _
   | exact spec_l02Sum.mono _ _
   | exact LeO.none _
   | refine LeO.ite ?_ ?_
   | refine LeO.bind ?_ (fun _ => ?_)
theorem spec_l26Shared.mono : ∀ a0 a1 a2 k, LeO (spec_l26Shared.f k a0 a1 a2) (spec_l26Shared.f (k + 1) a0 a1 a2) := by
 intro a0 a1 a2 k
 have ih0 := spec_l26Shared.mono_l k
 unfold spec_l26Shared.f
 repeat' first
   | (with_reducible exact ih0 _ _ _ _ _)
   | (with_reducible exact spec_l02Share.mono _ _ _ _)
   | (with_reducible exact spec_l02Sum.mono _ _)
   | (with_reducible exact LeO.refl _)
   | (with_reducible exact LeO.none _)
   | (with_reducible refine LeO.ite ?_ ?_)
   | (with_reducible refine LeO.bind ?_ (fun _ => ?_))
   | exact ih0 _ _ _ _ _
   | exact spec_l02Share.mono _ _ _ _
   | exact spec_l02Sum.mono _ _
   | exact LeO.none _
   | refine LeO.ite ?_ ?_
   | refine LeO.bind ?_ (fun _ => ?_)
def spec_l26Shared.T7 : Bool × List (List Nat × List Nat) := (true, [([], []), ([], []), ([], []), ([1, 2], [1, 2]), ([3], [3]), ([], []), ([], []), ([5, 6], [5, 6]), ([7], [7]), ([4, 8], [4, 8]), ([9], [9]), ([0, 10], [0, 10]), ([11, 11, 0, 1, 2, 3, 4, 5, 6, 7, 8, 9, 10, 11], [0, 11])])
def spec_l26Shared.B7 : List Nat := [0, 0, 0, 6, 14, 0, 0, 96, 224, 510, 1022, 2047, 4095]
theorem spec_l26Shared.tab7 : rtab .any (opsOf Try.f57 7) = spec_l26Shared.T7 := by kernel_rfl
theorem spec_l26Shared.bits7 : waitsOk spec_l26Shared.T7.2 spec_l26Shared.B7 = true := by kernel_rfl
def spec_l26Shared.T8 : Bool × List (List Nat × List Nat) := (true, [([], []), ([], []), ([], []), ([1, 2], [1, 2]), ([3], [3]), ([], []), ([], []), ([5, 6], [5, 6]), ([7], [7]), ([4, 8], [4, 8]), ([9], [9]), ([0, 10], [0, 10]), ([11, 11, 0, 1, 2, 3, 4, 5, 6, 7, 8, 9, 10, 11], [0, 11])])
def spec_l26Shared.B8 : List Nat := [0, 0, 0, 6, 14, 0, 0, 96, 224, 510, 1022, 2047, 4095]
theorem spec_l26Shared.tab8 : rtab .any (opsOf Try.f57 8) = spec_l26Shared.T8 := by kernel_rfl
theorem spec_l26Shared.bits8 : waitsOk spec_l26Shared.T8.2 spec_l26Shared.B8 = true := by kernel_rfl
set_option maxHeartbeats 8000000 in
set_option maxRecDepth 100000 in
theorem spec_l26Shared.calls (k : Nat) (A0 : Option Addr) (c0 : Nat) (l0 : List Int) (A1 : Option Addr) (c1 : Nat) (l1 : List Int) (a2 : Int) (r : List Int) (w : World) (hr0 : Kd.C (Kd.int .i64) w A0 l0.length l0) (hc0 : l0.length ≤ c0) (hr1 : Kd.C (Kd.int .i64) w A1 l1.length l1) (hc1 : l1.length ≤ c1) (h : spec_l26Shared.f k l0 l1 a2 = some r) :
  Calls Try.prog 57 #[.slice A0 l0.length c0, .slice A1 l1.length c1, .int .i64 a2] w fun e w' => ∃ v0_ : Value, e = .returned (v0_) ∧ Kd.R (Kd.int .i64) 2 w' w.heap.size (fun _ => True) v0_ r ∧ Below w.heap.size w w' := by
 have HR0 := Aside0.mk hr0
 have HC0 := Aside0.mk hc0
 clear hr0 hc0
 have HR1 := Aside0.mk hr1
 have HC1 := Aside0.mk hc1
 clear hr1 hc1
 have HB := Aside0.mk (Below.refl w.heap.size w)
 have H : ((spec_l02Size.f a2).bind fun t129 => ((spec_l02Sum.f k l1).bind fun t130 => ((spec_l02Share.f k t129 l1 t130).bind fun t131 => (spec_l26Shared.l0 k l0 a2 t131 (([] : List Int)) 0)))) = some r := h
 clear h
 replace H := Option.bind_eq_some_iff.mp H
 obtain ⟨t129, A40, H⟩ := H
 replace H : ((spec_l02Sum.f k l1).bind fun t130 => ((spec_l02Share.f k t129 l1 t130).bind fun t131 => (spec_l26Shared.l0 k l0 a2 t131 (([] : List Int)) 0))) = some r := H
 have A4 := Aside0.mk A40
 clear A40
 replace H := Option.bind_eq_some_iff.mp H
 obtain ⟨t130, A50, H⟩ := H
 replace H : ((spec_l02Share.f k t129 l1 t130).bind fun t131 => (spec_l26Shared.l0 k l0 a2 t131 (([] : List Int)) 0)) = some r := H
 have A5 := Aside0.mk A50
 clear A50
 replace H := Option.bind_eq_some_iff.mp H
 obtain ⟨t131, A60, H⟩ := H
 replace H : (spec_l26Shared.l0 k l0 a2 t131 (([] : List Int)) 0) = some r := H
 have A6 := Aside0.mk A60
 clear A60
 obtain ⟨y134, hy134⟩ : ∃ y_ : List Int, y_ = (([] : List Int)) := ⟨_, rfl⟩
 replace H : (spec_l26Shared.l0 k l0 a2 t131 y134 0) = some r := by first | (rw [hy134]; with_reducible exact H) | (have H2_ := (Option.bind_some _ _).symm.trans H; rw [hy134]; with_reducible exact H2_) | (have H2_ := (Option.bind_some _ _).symm.trans H; with_reducible exact H2_) | with_reducible exact H | (rw [hy134]; exact H) | exact H
 have Ny134 := Aside0.mk hy134
 clear hy134
 have H' := Aside0.mk H
 clear H
 go_enter Try.func57, Try.ntmps57
 go_wp2_with (first | ((with_reducible refine gate_callee (f := 80) rfl ?_); refine goesL_ (some 11) rfl rfl Try.func80 (by kernel_rfl) rfl #[.int .i64 a2] rfl (by (try simp only [List.map_toArray, List.map_cons, List.map_nil]); first | done | rfl | (simp only [List.length_drop, List.length_take]; rfl)) ?_; (with_reducible refine (spec_l02Size.calls a2 t129 _ A4.out).mono ?_); rintro e w' ⟨rfl, ⟨nd, rfl⟩⟩; refine ⟨_, rfl, ?_⟩) | ((with_reducible refine gate_callee (f := 51) rfl ?_); refine goesL_ (some 14) rfl rfl Try.func51 (by kernel_rfl) rfl #[.slice A1 l1.length c1] rfl (by (try simp only [List.map_toArray, List.map_cons, List.map_nil]); first | done | rfl | (simp only [List.length_drop, List.length_take]; rfl)) ?_; (with_reducible refine (spec_l02Sum.calls k _ _ l1 t130 _ ?side1 ?side2 A5.out).mono ?_); (case side1 => repeat (first | exact HR1.out | (with_reducible refine Kd.C_alloc ?_ _) | (with_reducible refine Kd.C_drewN ?_ _) | (with_reducible refine Kd.C_drew ?_))); (case side2 => exact HC1.out); rintro e w' ⟨rfl, ⟨nd, rfl⟩⟩; refine ⟨_, rfl, ?_⟩) | ((with_reducible refine gate_callee (f := 79) rfl ?_); refine goesL_ (some 15) rfl rfl Try.func79 (by kernel_rfl) rfl #[.int .i64 t129, .slice A1 l1.length c1, .int .i64 t130] rfl (by (try simp only [List.map_toArray, List.map_cons, List.map_nil]); first | done | rfl | (simp only [List.length_drop, List.length_take]; rfl)) ?_; (with_reducible refine (spec_l02Share.calls k t129 _ _ l1 t130 t131 _ ?side1 ?side2 A6.out).mono ?_); (case side1 => repeat (first | exact HR1.out | (with_reducible refine Kd.C_alloc ?_ _) | (with_reducible refine Kd.C_drewN ?_ _) | (with_reducible refine Kd.C_drew ?_))); (case side2 => exact HC1.out); rintro e w7 ⟨v132, rfl, ho0, hb⟩; refine ⟨_, rfl, ?_⟩; have n0_ := Aside0.mk (Kd.R_lower ho0 (below_size (by repeat (first | (with_reducible first | exact HB.out | apply below_alloc | apply pw_below_drewN | apply below_drew1) | exact HB.out)))); have n1_ := Aside0.mk (below_step (by repeat (first | (with_reducible first | exact HB.out | apply below_alloc | apply pw_below_drewN | apply below_drew1) | exact HB.out)) hb); clear HB; have HO133 := n0_; have HB := n1_; clear n0_ n1_; (try clear hb); (try clear hb2); (try clear hk); (try clear hi); (try clear ho0)) | ((with_reducible refine gate_dst (N := 16) rfl ?_); refine Kd.R_lit (Kd.int .i64) _ 2 ?hg (N := 16) ?hd (xs := ([] : List Int)) (inner := []) (ok := fun _ => True) (okp := fun _ => True) ?hr ?hp (fun _ hk => hk) trivial (Below.refl _ _) (Nat.le_refl _) (by simp) ?_; (case hd => rfl); (case hg => rfl); (case hr => first | (go_simp; done) | (go_simp; rfl)); (case hp => exact (Reps.none _ _)); intro v135 w8 ho9 hb hg_ hnew_; clear hg_ hnew_; (first | rw [← Ny134.out] at ho9 | (simp only [Int.reduceToNat] at ho9; rw [← Ny134.out] at ho9)); have n0_ := Aside0.mk (Kd.R_elder' (by (with_reducible repeat (first | apply Kd.R_alloc | apply Kd.R_drewN | apply Kd.R_drew)); exact HO133.out) (Kd.R_base ho9) hb); have n1_ := Aside0.mk (Kd.R_lower (Kd.R_new' ho9 (Kd.R_lt (by (with_reducible repeat (first | apply Kd.R_alloc | apply Kd.R_drewN | apply Kd.R_drew)); exact HO133.out))) (below_size (by repeat (first | (with_reducible first | exact HB.out | apply below_alloc | apply pw_below_drewN | apply below_drew1) | exact HB.out)))); have n2_ := Aside0.mk (below_step (by repeat (first | (with_reducible first | exact HB.out | apply below_alloc | apply pw_below_drewN | apply below_drew1) | exact HB.out)) hb); clear HO133; clear HB; have HO133 := n0_; have HO136 := n1_; have HB := n2_; clear n0_ n1_ n2_; clear hb ho9))
 go_loopg [8, 9] k (fun kq v8 v9 w' => ∃ (x8_1 : List Int) (x9_1 : Int), v9 = .int .i64 x9_1 ∧ Aside0 (spec_l26Shared.l0 kq l0 a2 t131 x8_1 x9_1 = some r) ∧ Aside0 (kq ≤ k) ∧ Aside0 (Kd.R (Kd.int .i64) 2 w' w.heap.size (fun k_ => some k_ ≠ (v8 : Value).ownBlock) v132 t131) ∧ Aside0 (Kd.R (Kd.int .i64) 2 w' w.heap.size (fun k_ => some k_ ≠ (v132 : Value).ownBlock) v8 x8_1) ∧ Aside0 (Below w.heap.size w w'))
 case atStart => exact ⟨(y134), (0), (by first | rfl | (simp; done) | (simp [*]; done)), H', ⟨Nat.le_refl _⟩, ⟨by (with_reducible repeat (first | apply Kd.R_alloc | apply Kd.R_drewN | apply Kd.R_drew)); exact Kd.R_mono HO133.out (fun _ hk => hk.2)⟩, ⟨by (with_reducible repeat (first | apply Kd.R_alloc | apply Kd.R_drewN | apply Kd.R_drew)); exact Kd.R_mono HO136.out (fun _ hk => hk.2)⟩, ⟨by repeat (first | (with_reducible first | exact HB.out | apply below_alloc | apply pw_below_drewN | apply below_drew1) | exact HB.out)⟩⟩
 case round =>
  clear H'
  try clear c1
  try clear p2
  try clear c5
  try clear c7
  try clear c8
  obtain ⟨x8_1, x9_1, rfl, HA, HK1, HO_7, HO_8, HB⟩ := hrel
  cases gk with
  | zero => exact absurd HA.out (by simp [spec_l26Shared.l0])
  | succ k1 =>
   have H := HA.out
   clear HA
   simp only [spec_l26Shared.l0] at H
   by_cases c10 : x9_1 < (l0.length : Int)
   ·rw [if_pos c10] at H
    have c10b0 : decide (x9_1 < (l0.length : Int)) = true := decide_eq_true c10
    clear c10
    by_cases c11 : a2 < 0
    ·rw [if_pos c11] at H
     have c11b0 : decide (a2 < 0) = true := decide_eq_true c11
     clear c11
     by_cases c12 : 0 ≤ x9_1
     ·rw [if_pos c12] at H
      have c12b0 : decide (0 ≤ x9_1) = true := decide_eq_true c12
      clear c12
      by_cases c13 : x9_1 < (t131.length : Int)
      ·rw [if_pos c13] at H
       have c13b0 : decide (x9_1 < (t131.length : Int)) = true := decide_eq_true c13
       clear c13
       by_cases c14 : x8_1.length < 17592186044416
       ·rw [if_pos c14] at H
        have LMc14 := Aside0.mk c14
        clear c14
        obtain ⟨y139, hy139⟩ : ∃ y_ : List Int, y_ = (x8_1 ++ [wrap64 ((rd l0 x9_1) + (rd t131 x9_1))]) := ⟨_, rfl⟩
        replace H : (spec_l26Shared.l0 k1 l0 a2 t131 y139 (wrap64 (x9_1 + 1))) = some r := by first | (rw [hy139]; with_reducible exact H) | (have H2_ := (Option.bind_some _ _).symm.trans H; rw [hy139]; with_reducible exact H2_) | (have H2_ := (Option.bind_some _ _).symm.trans H; with_reducible exact H2_) | with_reducible exact H | (rw [hy139]; exact H) | exact H
        have Ny139 := Aside0.mk hy139
        clear hy139
        have H' := Aside0.mk H
        clear H
        try go_wp2
        have n0_ := Aside0.mk (Kd.R_drew HO_7.out)
        have n1_ := Aside0.mk (Kd.R_drew HO_8.out)
        have n2_ := Aside0.mk (below_drew1 HB.out)
        clear HO_7
        clear HO_8
        clear HB
        have HO_7 := n0_
        have HO_8 := n1_
        have HB := n2_
        clear n0_ n1_ n2_
        have p137 : 0 ≤ (x9_1 : Int) := of_decide_eq_true (by first | (with_reducible assumption) | assumption)
        have q137 : x9_1 < (l0.length : Int) := of_decide_eq_true (by first | (with_reducible assumption) | assumption)
        obtain ⟨ad137, e137, hx137_0⟩ := Kd.at_int HR0.out x9_1 p137 q137
        have hw137_0 := hx137_0
        cases e137
        replace hx137_0 := (HB.out.cell (World.block_lt_of_cell? w _ hx137_0)).trans hx137_0
        replace p137 := eq_true p137
        replace q137 := eq_true q137
        obtain ⟨Ao16, co16, eo16⟩ := Kd.R_slice HO_7.out
        (first | subst eo16 | (injection eo16 with f1_ f2_ f3_; have f4_ := f1_.symm; have f5_ := f3_.symm; clear f1_ f2_ f3_; subst f4_; subst f5_))
        have p138 : 0 ≤ (x9_1 : Int) := of_decide_eq_true (by first | (with_reducible assumption) | assumption)
        have q138 : x9_1 < (t131.length : Int) := of_decide_eq_true (by first | (with_reducible assumption) | assumption)
        obtain ⟨ad138, e138, hx138_0⟩ := Kd.at_int (Kd.R_reads' HO_7.out).2.2 x9_1 p138 q138
        cases e138
        replace p138 := eq_true p138
        replace q138 := eq_true q138
        refine start_ (n := 13) (S := fun w' => w'.cell? (ad137.add (x9_1).toNat) = some (.int .i64 (rd l0 x9_1)) ∧ w'.cell? (ad138.add (x9_1).toNat) = some (.int .i64 (rd t131 x9_1))) (ds := [10, 11]) #[false, false, false, false, false, false, false, false, false, false, false, false, false] (by kernel_rfl) rfl rfl ⟨((HB.out.cell (World.block_lt_of_cell? w _ hw137_0)).trans hw137_0), hx138_0⟩ (fun hHeld => ?_); refine with_tabW spec_l26Shared.tab7 spec_l26Shared.bits7 (fun HT_ HW_ => ?_)
        generalize wr.drew = w15 at HO_7 HO_8 HB hx137_0 hx138_0 hHeld ⊢
        refine pure_ (i := 0) (N := some 25) (v := ?_) (a' := ?_) #[true, false, false, false, false, false, false, false, false, false, false, false, false] rfl rfl (any_of HT_.out (by kernel_rfl)) (fun _ _ _ h => h) (Or.inl ⟨by rfl, ?_⟩) ?_ ?_
        rotate_left
        ·intro w'
         go_simp
         with_reducible rfl
        rotate_left
        ·simp only [Act.put, List.setIfInBounds_toArray, List.set_cons_zero, List.set_cons_succ, i64_w, i32_w]; rfl
        refine pure_ (i := 1) (N := some 26) (v := ?_) (a' := ?_) #[true, true, false, false, false, false, false, false, false, false, false, false, false] rfl rfl (any_of HT_.out (by kernel_rfl)) (fun _ _ _ h => h) (Or.inl ⟨by rfl, ?_⟩) ?_ ?_
        rotate_left
        ·intro w'
         go_simp
         with_reducible rfl
        rotate_left
        ·simp only [Act.put, List.setIfInBounds_toArray, List.set_cons_zero, List.set_cons_succ, i64_w, i32_w]; rfl
        refine pure_ (i := 2) (N := some 27) (v := ?_) (a' := ?_) #[true, true, true, false, false, false, false, false, false, false, false, false, false] rfl rfl (any_of HT_.out (by kernel_rfl)) (fun _ _ _ h => h) (Or.inl ⟨by rfl, ?_⟩) ?_ ?_
        rotate_left
        ·intro w'
         go_simp
         with_reducible rfl
        rotate_left
        ·simp only [Act.put, List.setIfInBounds_toArray, List.set_cons_zero, List.set_cons_succ, i64_w, i32_w]; rfl
        refine pure_ (i := 3) (N := some 28) (v := ?_) (a' := ?_) #[true, true, true, true, false, false, false, false, false, false, false, false, false] rfl rfl (any_of HT_.out (by kernel_rfl)) (fun _ _ _ h => h) (Or.inl ⟨by rfl, ?_⟩) ?_ ?_
        rotate_left
        ·intro w'
         go_simp
         with_reducible rfl
        rotate_left
        ·simp only [Act.put, List.setIfInBounds_toArray, List.set_cons_zero, List.set_cons_succ, i64_w, i32_w]; rfl
        refine pure_ (i := 5) (N := some 30) (v := ?_) (a' := ?_) #[true, true, true, true, false, true, false, false, false, false, false, false, false] rfl rfl (any_of HT_.out (by kernel_rfl)) (fun _ _ _ h => h) (Or.inl ⟨by rfl, ?_⟩) ?_ ?_
        rotate_left
        ·intro w'
         go_simp
         with_reducible rfl
        rotate_left
        ·simp only [Act.put, List.setIfInBounds_toArray, List.set_cons_zero, List.set_cons_succ, i64_w, i32_w]; rfl
        refine pure_ (i := 6) (N := some 31) (v := ?_) (a' := ?_) #[true, true, true, true, false, true, true, false, false, false, false, false, false] rfl rfl (any_of HT_.out (by kernel_rfl)) (fun _ _ _ h => h) (Or.inl ⟨by rfl, ?_⟩) ?_ ?_
        rotate_left
        ·intro w'
         go_simp
         with_reducible rfl
        rotate_left
        ·simp only [Act.put, List.setIfInBounds_toArray, List.set_cons_zero, List.set_cons_succ, i64_w, i32_w]; rfl
        refine pure_ (i := 7) (N := some 32) (v := ?_) (a' := ?_) #[true, true, true, true, false, true, true, true, false, false, false, false, false] rfl rfl (any_of HT_.out (by kernel_rfl)) (fun _ _ _ h => h) (Or.inl ⟨by rfl, ?_⟩) ?_ ?_
        rotate_left
        ·intro w'
         go_simp
         with_reducible rfl
        rotate_left
        ·simp only [Act.put, List.setIfInBounds_toArray, List.set_cons_zero, List.set_cons_succ, i64_w, i32_w]; rfl
        refine take_ (i := 4) (N := some 29) (v := ?_) (a' := ?_) #[true, true, true, true, true, true, true, true, false, false, false, false, false] rfl rfl (take_ofW HT_.out HW_.out (by kernel_rfl)) (fun _ _ _ h => h) (Or.inl ⟨by rfl, ?_⟩) hHeld ?_ ?_
        rotate_left
        ·rintro w' ⟨s0, s1⟩
         go_simp
         with_reducible rfl
        rotate_left
        ·simp only [Act.put, List.setIfInBounds_toArray, List.set_cons_zero, List.set_cons_succ, i64_w, i32_w]; rfl
        refine take_ (i := 8) (N := some 33) (v := ?_) (a' := ?_) #[true, true, true, true, true, true, true, true, true, false, false, false, false] rfl rfl (take_ofW HT_.out HW_.out (by kernel_rfl)) (fun _ _ _ h => h) (Or.inl ⟨by rfl, ?_⟩) hHeld ?_ ?_
        rotate_left
        ·rintro w' ⟨s0, s1⟩
         go_simp
         with_reducible rfl
        rotate_left
        ·simp only [Act.put, List.setIfInBounds_toArray, List.set_cons_zero, List.set_cons_succ, i64_w, i32_w]; rfl
        refine pure_ (i := 9) (N := some 34) (v := ?_) (a' := ?_) #[true, true, true, true, true, true, true, true, true, true, false, false, false] rfl rfl (any_of HT_.out (by kernel_rfl)) (fun _ _ _ h => h) (Or.inl ⟨by rfl, ?_⟩) ?_ ?_
        rotate_left
        ·intro w'
         go_simp
         with_reducible rfl
        rotate_left
        ·simp only [Act.put, List.setIfInBounds_toArray, List.set_cons_zero, List.set_cons_succ, i64_w, i32_w]; rfl
        refine last_ (i := 10) (N := some 35) #[true, true, true, true, true, true, true, true, true, true, true, false, false] rfl rfl (one_of HT_.out (by kernel_rfl)) (by decide) (fun K hK => ?_)
        refine value_ (w1 := ?_) (v := ?_) (by rfl) rfl ?_ ?_
        rotate_left 2
        ·go_simp
         constructor
         ·rfl
         ·rfl
        refine hK.out _ _ ?_
        clear hK K
        refine norm_ (a' := ?_) ?_ ?_
        rotate_left
        ·show Act.put _ (some 35) _ = _
         simp only [Act.put, List.setIfInBounds_toArray, List.set_cons_zero, List.set_cons_succ, i64_w, i32_w]
         rfl
        refine last_ (i := 11) (N := some 36) #[true, true, true, true, true, true, true, true, true, true, true, true, false] rfl rfl (one_of HT_.out (by kernel_rfl)) (by decide) (fun K hK => ?_)
        refine Kd.R_append_step (Kd.int .i64) (w0 := w) w.heap.size (by rfl) (.tmp 25) (.tmp 35) 30 2 (.int .i64 0) 8 rfl Try.underlying30 info2 rfl (by decide) (by omega) u8 x8_1 (wrap64 ((rd l0 x9_1) + (rd t131 x9_1))) [.int .i64 (wrap64 ((rd l0 x9_1) + (rd t131 x9_1)))] (fun k_ => some k_ ≠ (.slice (some ad138) t131.length co16 : Value).ownBlock) (fun _ => False) rfl rfl ?aP (fun _ hk => hk.elim) ?aF ?aO ?aB ?aS ?aL ?_
        (case aP => exact rfl)
        (case aB => exact (by repeat (first | (with_reducible first | exact HB.out | apply below_alloc | apply pw_below_drewN | apply below_drew1) | exact HB.out)))
        (case aF => exact (fun k_ hk => Kd.fresh' (Kd.R_lt (by (with_reducible repeat (first | apply Kd.R_alloc | apply Kd.R_drewN | apply Kd.R_drew)); exact HO_7.out)) k_ hk))
        (case aO => exact (by (with_reducible repeat (first | apply Kd.R_alloc | apply Kd.R_drewN | apply Kd.R_drew)); exact HO_8.out))
        (case aS => exact (below_size (by repeat (first | (with_reducible first | exact HB.out | apply below_alloc | apply pw_below_drewN | apply below_drew1) | exact HB.out))))
        (case aL => have := LMc14.out; omega)
        intro v140 w17 ho hb hg hat
        rw [← Ny139.out] at ho
        have n0_ := Aside0.mk (Kd.R_after (ok := (fun _ => True)) (by (with_reducible repeat (first | apply Kd.R_alloc | apply Kd.R_drewN | apply Kd.R_drew)); exact Kd.R_mono HO_7.out (fun _ hk => ⟨trivial, hk⟩)) hg hat)
        have n1_ := Aside0.mk (hb)
        have n2_ := Aside0.mk (ho)
        clear HO_7
        clear HB
        clear HO_8
        have HO_7 := n0_
        have HB := n1_
        have HO141 := n2_
        clear n0_ n1_ n2_
        clear ho hb hg hat
        refine hK.out _ _ ?_
        clear hK K
        refine norm_ (a' := ?_) ?_ ?_
        rotate_left
        ·show Act.put _ (some 36) _ = _
         simp only [Act.put, List.setIfInBounds_toArray, List.set_cons_zero, List.set_cons_succ, i64_w, i32_w]
         rfl
        refine pure_ (i := 12) (N := some 8) (v := ?_) (a' := ?_) #[true, true, true, true, true, true, true, true, true, true, true, true, true] rfl rfl (any_of HT_.out (by kernel_rfl)) (fun _ _ _ h => h) (Or.inl ⟨by rfl, ?_⟩) ?_ ?_
        rotate_left
        ·intro w'
         go_simp
         with_reducible rfl
        rotate_left
        ·simp only [Act.put, List.setIfInBounds_toArray, List.set_cons_zero, List.set_cons_succ, i64_w, i32_w]; rfl
        refine done_ (done_of HT_.out (by kernel_rfl)) ?_
        try go_wp2
        go_roundg k1
        case measure => have := HK1.out; omega
        case rel => exact ⟨(y139), (wrap64 (x9_1 + 1)), (by first | rfl | (simp; done) | (simp [*]; done)), H', ⟨by have := HK1.out; omega⟩, ⟨by (with_reducible repeat (first | apply Kd.R_alloc | apply Kd.R_drewN | apply Kd.R_drew)); exact Kd.R_mono HO_7.out (fun _ hk => hk.2)⟩, ⟨by (with_reducible repeat (first | apply Kd.R_alloc | apply Kd.R_drewN | apply Kd.R_drew)); exact HO141.out⟩, ⟨by repeat (first | (with_reducible first | exact HB.out | apply below_alloc | apply pw_below_drewN | apply below_drew1) | exact HB.out)⟩⟩
       ·rw [if_neg c14] at H
        exact absurd H (by simp)
      ·rw [if_neg c13] at H
       exact absurd H (by simp)
     ·rw [if_neg c12] at H
      exact absurd H (by simp)
    ·rw [if_neg c11] at H
     have c11b0 : decide (a2 < 0) = false := decide_eq_false c11
     clear c11
     by_cases c18 : 0 ≤ x9_1
     ·rw [if_pos c18] at H
      have c18b0 : decide (0 ≤ x9_1) = true := decide_eq_true c18
      clear c18
      by_cases c19 : x9_1 < (t131.length : Int)
      ·rw [if_pos c19] at H
       have c19b0 : decide (x9_1 < (t131.length : Int)) = true := decide_eq_true c19
       clear c19
       by_cases c20 : x8_1.length < 17592186044416
       ·rw [if_pos c20] at H
        have LMc20 := Aside0.mk c20
        clear c20
        obtain ⟨y144, hy144⟩ : ∃ y_ : List Int, y_ = (x8_1 ++ [wrap64 ((rd l0 x9_1) - (rd t131 x9_1))]) := ⟨_, rfl⟩
        replace H : (spec_l26Shared.l0 k1 l0 a2 t131 y144 (wrap64 (x9_1 + 1))) = some r := by first | (rw [hy144]; with_reducible exact H) | (have H2_ := (Option.bind_some _ _).symm.trans H; rw [hy144]; with_reducible exact H2_) | (have H2_ := (Option.bind_some _ _).symm.trans H; with_reducible exact H2_) | with_reducible exact H | (rw [hy144]; exact H) | exact H
        have Ny144 := Aside0.mk hy144
        clear hy144
        have H' := Aside0.mk H
        clear H
        try go_wp2
        have n0_ := Aside0.mk (Kd.R_drew HO_7.out)
        have n1_ := Aside0.mk (Kd.R_drew HO_8.out)
        have n2_ := Aside0.mk (below_drew1 HB.out)
        clear HO_7
        clear HO_8
        clear HB
        have HO_7 := n0_
        have HO_8 := n1_
        have HB := n2_
        clear n0_ n1_ n2_
        have p142 : 0 ≤ (x9_1 : Int) := of_decide_eq_true (by first | (with_reducible assumption) | assumption)
        have q142 : x9_1 < (l0.length : Int) := of_decide_eq_true (by first | (with_reducible assumption) | assumption)
        obtain ⟨ad142, e142, hx142_0⟩ := Kd.at_int HR0.out x9_1 p142 q142
        have hw142_0 := hx142_0
        cases e142
        replace hx142_0 := (HB.out.cell (World.block_lt_of_cell? w _ hx142_0)).trans hx142_0
        replace p142 := eq_true p142
        replace q142 := eq_true q142
        obtain ⟨Ao22, co22, eo22⟩ := Kd.R_slice HO_7.out
        (first | subst eo22 | (injection eo22 with f1_ f2_ f3_; have f4_ := f1_.symm; have f5_ := f3_.symm; clear f1_ f2_ f3_; subst f4_; subst f5_))
        have p143 : 0 ≤ (x9_1 : Int) := of_decide_eq_true (by first | (with_reducible assumption) | assumption)
        have q143 : x9_1 < (t131.length : Int) := of_decide_eq_true (by first | (with_reducible assumption) | assumption)
        obtain ⟨ad143, e143, hx143_0⟩ := Kd.at_int (Kd.R_reads' HO_7.out).2.2 x9_1 p143 q143
        cases e143
        replace p143 := eq_true p143
        replace q143 := eq_true q143
        refine start_ (n := 13) (S := fun w' => w'.cell? (ad142.add (x9_1).toNat) = some (.int .i64 (rd l0 x9_1)) ∧ w'.cell? (ad143.add (x9_1).toNat) = some (.int .i64 (rd t131 x9_1))) (ds := [10, 11]) #[false, false, false, false, false, false, false, false, false, false, false, false, false] (by kernel_rfl) rfl rfl ⟨((HB.out.cell (World.block_lt_of_cell? w _ hw142_0)).trans hw142_0), hx143_0⟩ (fun hHeld => ?_); refine with_tabW spec_l26Shared.tab8 spec_l26Shared.bits8 (fun HT_ HW_ => ?_)
        generalize wr.drew = w21 at HO_7 HO_8 HB hx142_0 hx143_0 hHeld ⊢
        refine pure_ (i := 0) (N := some 37) (v := ?_) (a' := ?_) #[true, false, false, false, false, false, false, false, false, false, false, false, false] rfl rfl (any_of HT_.out (by kernel_rfl)) (fun _ _ _ h => h) (Or.inl ⟨by rfl, ?_⟩) ?_ ?_
        rotate_left
        ·intro w'
         go_simp
         with_reducible rfl
        rotate_left
        ·simp only [Act.put, List.setIfInBounds_toArray, List.set_cons_zero, List.set_cons_succ, i64_w, i32_w]; rfl
        refine pure_ (i := 1) (N := some 38) (v := ?_) (a' := ?_) #[true, true, false, false, false, false, false, false, false, false, false, false, false] rfl rfl (any_of HT_.out (by kernel_rfl)) (fun _ _ _ h => h) (Or.inl ⟨by rfl, ?_⟩) ?_ ?_
        rotate_left
        ·intro w'
         go_simp
         with_reducible rfl
        rotate_left
        ·simp only [Act.put, List.setIfInBounds_toArray, List.set_cons_zero, List.set_cons_succ, i64_w, i32_w]; rfl
        refine pure_ (i := 2) (N := some 39) (v := ?_) (a' := ?_) #[true, true, true, false, false, false, false, false, false, false, false, false, false] rfl rfl (any_of HT_.out (by kernel_rfl)) (fun _ _ _ h => h) (Or.inl ⟨by rfl, ?_⟩) ?_ ?_
        rotate_left
        ·intro w'
         go_simp
         with_reducible rfl
        rotate_left
        ·simp only [Act.put, List.setIfInBounds_toArray, List.set_cons_zero, List.set_cons_succ, i64_w, i32_w]; rfl
        refine pure_ (i := 3) (N := some 40) (v := ?_) (a' := ?_) #[true, true, true, true, false, false, false, false, false, false, false, false, false] rfl rfl (any_of HT_.out (by kernel_rfl)) (fun _ _ _ h => h) (Or.inl ⟨by rfl, ?_⟩) ?_ ?_
        rotate_left
        ·intro w'
         go_simp
         with_reducible rfl
        rotate_left
        ·simp only [Act.put, List.setIfInBounds_toArray, List.set_cons_zero, List.set_cons_succ, i64_w, i32_w]; rfl
        refine pure_ (i := 5) (N := some 42) (v := ?_) (a' := ?_) #[true, true, true, true, false, true, false, false, false, false, false, false, false] rfl rfl (any_of HT_.out (by kernel_rfl)) (fun _ _ _ h => h) (Or.inl ⟨by rfl, ?_⟩) ?_ ?_
        rotate_left
        ·intro w'
         go_simp
         with_reducible rfl
        rotate_left
        ·simp only [Act.put, List.setIfInBounds_toArray, List.set_cons_zero, List.set_cons_succ, i64_w, i32_w]; rfl
        refine pure_ (i := 6) (N := some 43) (v := ?_) (a' := ?_) #[true, true, true, true, false, true, true, false, false, false, false, false, false] rfl rfl (any_of HT_.out (by kernel_rfl)) (fun _ _ _ h => h) (Or.inl ⟨by rfl, ?_⟩) ?_ ?_
        rotate_left
        ·intro w'
         go_simp
         with_reducible rfl
        rotate_left
        ·simp only [Act.put, List.setIfInBounds_toArray, List.set_cons_zero, List.set_cons_succ, i64_w, i32_w]; rfl
        refine pure_ (i := 7) (N := some 44) (v := ?_) (a' := ?_) #[true, true, true, true, false, true, true, true, false, false, false, false, false] rfl rfl (any_of HT_.out (by kernel_rfl)) (fun _ _ _ h => h) (Or.inl ⟨by rfl, ?_⟩) ?_ ?_
        rotate_left
        ·intro w'
         go_simp
         with_reducible rfl
        rotate_left
        ·simp only [Act.put, List.setIfInBounds_toArray, List.set_cons_zero, List.set_cons_succ, i64_w, i32_w]; rfl
        refine take_ (i := 4) (N := some 41) (v := ?_) (a' := ?_) #[true, true, true, true, true, true, true, true, false, false, false, false, false] rfl rfl (take_ofW HT_.out HW_.out (by kernel_rfl)) (fun _ _ _ h => h) (Or.inl ⟨by rfl, ?_⟩) hHeld ?_ ?_
        rotate_left
        ·rintro w' ⟨s0, s1⟩
         go_simp
         with_reducible rfl
        rotate_left
        ·simp only [Act.put, List.setIfInBounds_toArray, List.set_cons_zero, List.set_cons_succ, i64_w, i32_w]; rfl
        refine take_ (i := 8) (N := some 45) (v := ?_) (a' := ?_) #[true, true, true, true, true, true, true, true, true, false, false, false, false] rfl rfl (take_ofW HT_.out HW_.out (by kernel_rfl)) (fun _ _ _ h => h) (Or.inl ⟨by rfl, ?_⟩) hHeld ?_ ?_
        rotate_left
        ·rintro w' ⟨s0, s1⟩
         go_simp
         with_reducible rfl
        rotate_left
        ·simp only [Act.put, List.setIfInBounds_toArray, List.set_cons_zero, List.set_cons_succ, i64_w, i32_w]; rfl
        refine pure_ (i := 9) (N := some 46) (v := ?_) (a' := ?_) #[true, true, true, true, true, true, true, true, true, true, false, false, false] rfl rfl (any_of HT_.out (by kernel_rfl)) (fun _ _ _ h => h) (Or.inl ⟨by rfl, ?_⟩) ?_ ?_
        rotate_left
        ·intro w'
         go_simp
         with_reducible rfl
        rotate_left
        ·simp only [Act.put, List.setIfInBounds_toArray, List.set_cons_zero, List.set_cons_succ, i64_w, i32_w]; rfl
        refine last_ (i := 10) (N := some 47) #[true, true, true, true, true, true, true, true, true, true, true, false, false] rfl rfl (one_of HT_.out (by kernel_rfl)) (by decide) (fun K hK => ?_)
        refine value_ (w1 := ?_) (v := ?_) (by rfl) rfl ?_ ?_
        rotate_left 2
        ·go_simp
         constructor
         ·rfl
         ·rfl
        refine hK.out _ _ ?_
        clear hK K
        refine norm_ (a' := ?_) ?_ ?_
        rotate_left
        ·show Act.put _ (some 47) _ = _
         simp only [Act.put, List.setIfInBounds_toArray, List.set_cons_zero, List.set_cons_succ, i64_w, i32_w]
         rfl
        refine last_ (i := 11) (N := some 48) #[true, true, true, true, true, true, true, true, true, true, true, true, false] rfl rfl (one_of HT_.out (by kernel_rfl)) (by decide) (fun K hK => ?_)
        refine Kd.R_append_step (Kd.int .i64) (w0 := w) w.heap.size (by rfl) (.tmp 37) (.tmp 47) 30 2 (.int .i64 0) 8 rfl Try.underlying30 info2 rfl (by decide) (by omega) u8 x8_1 (wrap64 ((rd l0 x9_1) - (rd t131 x9_1))) [.int .i64 (wrap64 ((rd l0 x9_1) - (rd t131 x9_1)))] (fun k_ => some k_ ≠ (.slice (some ad143) t131.length co22 : Value).ownBlock) (fun _ => False) rfl rfl ?aP (fun _ hk => hk.elim) ?aF ?aO ?aB ?aS ?aL ?_
        (case aP => exact rfl)
        (case aB => exact (by repeat (first | (with_reducible first | exact HB.out | apply below_alloc | apply pw_below_drewN | apply below_drew1) | exact HB.out)))
        (case aF => exact (fun k_ hk => Kd.fresh' (Kd.R_lt (by (with_reducible repeat (first | apply Kd.R_alloc | apply Kd.R_drewN | apply Kd.R_drew)); exact HO_7.out)) k_ hk))
        (case aO => exact (by (with_reducible repeat (first | apply Kd.R_alloc | apply Kd.R_drewN | apply Kd.R_drew)); exact HO_8.out))
        (case aS => exact (below_size (by repeat (first | (with_reducible first | exact HB.out | apply below_alloc | apply pw_below_drewN | apply below_drew1) | exact HB.out))))
        (case aL => have := LMc20.out; omega)
        intro v145 w23 ho hb hg hat
        rw [← Ny144.out] at ho
        have n0_ := Aside0.mk (Kd.R_after (ok := (fun _ => True)) (by (with_reducible repeat (first | apply Kd.R_alloc | apply Kd.R_drewN | apply Kd.R_drew)); exact Kd.R_mono HO_7.out (fun _ hk => ⟨trivial, hk⟩)) hg hat)
        have n1_ := Aside0.mk (hb)
        have n2_ := Aside0.mk (ho)
        clear HO_7
        clear HB
        clear HO_8
        have HO_7 := n0_
        have HB := n1_
        have HO146 := n2_
        clear n0_ n1_ n2_
        clear ho hb hg hat
        refine hK.out _ _ ?_
        clear hK K
        refine norm_ (a' := ?_) ?_ ?_
        rotate_left
        ·show Act.put _ (some 48) _ = _
         simp only [Act.put, List.setIfInBounds_toArray, List.set_cons_zero, List.set_cons_succ, i64_w, i32_w]
         rfl
        refine pure_ (i := 12) (N := some 8) (v := ?_) (a' := ?_) #[true, true, true, true, true, true, true, true, true, true, true, true, true] rfl rfl (any_of HT_.out (by kernel_rfl)) (fun _ _ _ h => h) (Or.inl ⟨by rfl, ?_⟩) ?_ ?_
        rotate_left
        ·intro w'
         go_simp
         with_reducible rfl
        rotate_left
        ·simp only [Act.put, List.setIfInBounds_toArray, List.set_cons_zero, List.set_cons_succ, i64_w, i32_w]; rfl
        refine done_ (done_of HT_.out (by kernel_rfl)) ?_
        try go_wp2
        go_roundg k1
        case measure => have := HK1.out; omega
        case rel => exact ⟨(y144), (wrap64 (x9_1 + 1)), (by first | rfl | (simp; done) | (simp [*]; done)), H', ⟨by have := HK1.out; omega⟩, ⟨by (with_reducible repeat (first | apply Kd.R_alloc | apply Kd.R_drewN | apply Kd.R_drew)); exact Kd.R_mono HO_7.out (fun _ hk => hk.2)⟩, ⟨by (with_reducible repeat (first | apply Kd.R_alloc | apply Kd.R_drewN | apply Kd.R_drew)); exact HO146.out⟩, ⟨by repeat (first | (with_reducible first | exact HB.out | apply below_alloc | apply pw_below_drewN | apply below_drew1) | exact HB.out)⟩⟩
       ·rw [if_neg c20] at H
        exact absurd H (by simp)
      ·rw [if_neg c19] at H
       exact absurd H (by simp)
     ·rw [if_neg c18] at H
      exact absurd H (by simp)
   ·rw [if_neg c10] at H
    have c10b0 : decide (x9_1 < (l0.length : Int)) = false := decide_eq_false c10
    clear c10
    obtain rfl := Option.some.inj H
    go_wp2
    go_ret
    exact ⟨_, by first | rfl | (simp [errW_none, errW_some] <;> rfl) | (simp [*, errW_none, errW_some] <;> rfl), by (with_reducible repeat (first | apply Kd.R_alloc | apply Kd.R_drewN | apply Kd.R_drew)); exact Kd.R_mono HO_8.out (fun _ hk => trivial), by repeat (first | (with_reducible first | exact HB.out | apply below_alloc | apply pw_below_drewN | apply below_drew1) | exact HB.out)⟩

end Go.Proofs.Ytppfdndnojbmjaa.X

/-! ## PClosed -/
/- Plain laws of closing a loop: both take from each rise its share of the closing error. For errors of at most 1000000000 and sizes of 1 to 10000, twenty at most. -/
namespace Go.Proofs.Ytppfdndnojbmjaa.PClosed
open Go.RowKit Go.Proofs.YtppfdndnojbmjaaW.PrintWords Go.Proofs.Ytppfdndnojbmjaa.X Go.Proofs.Ytppfdndnojbmjaa.B Go.Proofs.Ytppfdndnojbmjaa.PSum Go.Proofs.Ytppfdndnojbmjaa.PSort Go.Proofs.Ytppfdndnojbmjaa.PShare
def ab (c : Int) : Int := if c < 0 then -c else c
theorem implAbs_eq {c : Int} (h : -1000000000 ≤ c ∧ c ≤ 1000000000) : impl_abs.f c = some (ab c) := by
  unfold impl_abs.f ab mx
  rw [w64 (by omega) (by omega)]
  congr 1
  split <;> split <;> omega
theorem specAbs_eq {c : Int} (h : -1000000000 ≤ c ∧ c ≤ 1000000000) : spec_l02Size.f c = some (ab c) := by
  unfold spec_l02Size.f ab
  rw [w64 (by omega) (by omega)]
  split <;> rfl
theorem sizes_fit {ss : List Int} {c : Int} (h1 : 1 ≤ ss.length) (h20 : ss.length ≤ 20) (hw : ∀ i, i < ss.length → 1 ≤ rd ss (i : Int) ∧ rd ss (i : Int) ≤ 10000) (hc : -1000000000 ≤ c ∧ c ≤ 1000000000) : Fit (ab c) ss (sum64 0 ss) := by
  have hb : ∀ i, i ≤ ss.length → (i : Int) ≤ psum (fun j => rd ss (j : Int)) i ∧ psum (fun j => rd ss (j : Int)) i ≤ 10000 * i := by
    intro i
    induction i with
    | zero => intro _; simp [psum]
    | succ i ih =>
      intro hi
      have h1 := ih (by omega)
      have h2 := hw i (by omega)
      simp only [psum]
      push_cast
      omega
  have e := sum64_psum ss fun i hi => by have := hb i hi; omega
  have hp := hb ss.length (Nat.le_refl _)
  have ha : 0 ≤ ab c ∧ ab c ≤ 1000000000 := by unfold ab; split <;> omega
  refine ⟨h1, h20, by omega, by omega, fun i hi => ⟨by have := hw i hi; omega, ?_⟩, rfl, e.symm⟩
  have h2 := hw i hi
  have := Int.mul_le_mul ha.2 h2.2 (by omega) (by omega : (0 : Int) ≤ 1000000000)
  omega
/-- The shares of an error. -/
def parts (ss : List Int) (c : Int) : List Int := F (ab c) ss (sum64 0 ss) (ab c - psum (Q (ab c) ss (sum64 0 ss)) ss.length).toNat
theorem parts_len (ss : List Int) (c : Int) : (parts ss c).length = ss.length := F_len _ _ _ _
def less1 (rs ss : List Int) (c : Int) (i : Nat) : Int := if c < 0 then wrap64 (rd rs (i : Int) + rd (parts ss c) (i : Int)) else wrap64 (rd rs (i : Int) - rd (parts ss c) (i : Int))
/-- The rises, less their shares. -/
def closed (rs ss : List Int) (c : Int) : List Int := upto (less1 rs ss c) rs.length
theorem closed_len (rs ss : List Int) (c : Int) : (closed rs ss c).length = rs.length := upto_len _ _
theorem wrap_neg (a b : Int) : wrap64 (a - wrap64 (-b)) = wrap64 (a + b) := by
  unfold wrap64
  omega
section
variable {rs ss : List Int} {c : Int}
theorem implClosed_ev (hl : rs.length = ss.length) (h1 : 1 ≤ ss.length) (h20 : ss.length ≤ 20) (hw : ∀ i, i < ss.length → 1 ≤ rd ss (i : Int) ∧ rd ss (i : Int) ≤ 10000) (hc : -1000000000 ≤ c ∧ c ≤ 1000000000) : Ev (fun k => impl_closed.f k rs ss c) (closed rs ss c) := by
  have hp := parts_len ss c
  unfold impl_closed.f
  rw [implAbs_eq hc]
  simp only [Option.bind_some]
  refine Ev.bindE (implShare_ev (sizes_fit h1 h20 hw hc)) ?_
  show Ev (fun k => impl_closed.l0 k rs c [] (parts ss c) ((parts ss c).length : Int) 0) (closed rs ss c)
  rw [hp, ← hl]
  refine scanI (fun k i => impl_closed.l0 k rs c (upto (less1 rs ss c) i) (parts ss c) (rs.length : Int) (i : Int)) rs.length (fun _ => closed rs ss c) (Ev.up (g := fun k => impl_closed.l0 k rs c (upto (less1 rs ss c) rs.length) (parts ss c) (rs.length : Int) (rs.length : Int)) (Ev.const fun k => by
    simp only [impl_closed.l0]
    rw [if_neg (by omega)]
    rfl)) (fun i hi ih => ?_) 0 (by omega)
  have a1 : (upto (less1 rs ss c) i).length = i := upto_len _ _
  refine Ev.up (g := fun k => impl_closed.l0 k rs c (upto (less1 rs ss c) i) (parts ss c) (rs.length : Int) (i : Int)) ?_
  simp only [impl_closed.l0, a1, wrap_neg, wnext hi (by omega : (rs.length : Int) ≤ _)]
  rw [upto_succ] at ih
  refine Ev.ifPos (by omega) (Ev.ifPos (by omega) (Ev.ifPos (by omega) (Ev.ite (fun d => ?_) (fun d => ?_))))
  · refine Ev.ifPos (by omega) (Ev.ifPos (by omega) ?_)
    unfold less1 at ih; simp only [if_pos d] at ih ⊢
    unfold less1; simp only [if_pos d]
    exact ih
  · refine Ev.ifPos (by omega) (Ev.ifPos (by omega) ?_)
    unfold less1 at ih; simp only [if_neg d] at ih ⊢
    unfold less1; simp only [if_neg d]
    exact ih
theorem specClosed_ev (hl : rs.length = ss.length) (h1 : 1 ≤ ss.length) (h20 : ss.length ≤ 20) (hw : ∀ i, i < ss.length → 1 ≤ rd ss (i : Int) ∧ rd ss (i : Int) ≤ 10000) (hc : -1000000000 ≤ c ∧ c ≤ 1000000000) : Ev (fun k => spec_l26Shared.f k rs ss c) (closed rs ss c) := by
  have hp := parts_len ss c
  unfold spec_l26Shared.f
  rw [specAbs_eq hc]
  simp only [Option.bind_some]
  refine Ev.bindE (specSum_ev ss (by omega)) (Ev.bindE (specShare_ev (sizes_fit h1 h20 hw hc)) ?_)
  show Ev (fun k => spec_l26Shared.l0 k rs c (parts ss c) [] 0) (closed rs ss c)
  refine scanI (fun k i => spec_l26Shared.l0 k rs c (parts ss c) (upto (less1 rs ss c) i) (i : Int)) rs.length (fun _ => closed rs ss c) (Ev.up (g := fun k => spec_l26Shared.l0 k rs c (parts ss c) (upto (less1 rs ss c) rs.length) (rs.length : Int)) (Ev.const fun k => by
    simp only [spec_l26Shared.l0]
    rw [if_neg (by omega)]
    rfl)) (fun i hi ih => ?_) 0 (by omega)
  have a1 : (upto (less1 rs ss c) i).length = i := upto_len _ _
  refine Ev.up (g := fun k => spec_l26Shared.l0 k rs c (parts ss c) (upto (less1 rs ss c) i) (i : Int)) ?_
  simp only [spec_l26Shared.l0, a1, wnext hi (by omega : (rs.length : Int) ≤ _)]
  rw [upto_succ] at ih
  refine Ev.ifPos (by omega) (Ev.ite (fun d => ?_) (fun d => ?_))
  · refine Ev.ifPos (by omega) (Ev.ifPos (by omega) (Ev.ifPos (by omega) ?_))
    unfold less1 at ih; simp only [if_pos d] at ih ⊢
    unfold less1; simp only [if_pos d]
    exact ih
  · refine Ev.ifPos (by omega) (Ev.ifPos (by omega) (Ev.ifPos (by omega) ?_))
    unfold less1 at ih; simp only [if_neg d] at ih ⊢
    unfold less1; simp only [if_neg d]
    exact ih
end
end Go.Proofs.Ytppfdndnojbmjaa.PClosed

/-! ## PBetween -/
/- Plain laws of impl.BetweenMarks: what it answers, said plainly. No condition but lengths that fit. -/
namespace Go.Proofs.Ytppfdndnojbmjaa.PBetween
open Go.RowKit Go.Proofs.YtppfdndnojbmjaaW.PrintWords Go.Proofs.Ytppfdndnojbmjaa.X Go.Proofs.Ytppfdndnojbmjaa.B Go.Proofs.Ytppfdndnojbmjaa.PSum Go.Proofs.Ytppfdndnojbmjaa.PSort Go.Proofs.Ytppfdndnojbmjaa.PShare Go.Proofs.Ytppfdndnojbmjaa.PClosed
theorem implIn_eq (a b c : Int) : impl_in.f a b c = some (decide (b ≤ a ∧ a ≤ c)) := by
  unfold impl_in.f
  by_cases h : a ≥ b <;> by_cases h' : a ≤ c <;> simp [h, h'] <;> omega
def riseIn (rs : List Int) (j : Nat) : Bool := decide (-100000 ≤ rd rs (j : Int) ∧ rd rs (j : Int) ≤ 100000)
def sizeIn (ss : List Int) (j : Nat) : Bool := decide (1 ≤ rd ss (j : Int) ∧ rd ss (j : Int) ≤ 10000)
def markIn (a : Int) : Bool := decide (-1000000 ≤ a ∧ a ≤ 1000000)
def head (a b : Int) (rs ss : List Int) : Bool := markIn a && (markIn b && (decide (1 ≤ (rs.length : Int) ∧ (rs.length : Int) ≤ 12) && decide ((ss.length : Int) = rs.length)))
def both (rs ss : List Int) (j : Nat) : Bool := riseIn rs j && sizeIn ss j
/-- The heights, one behind the other. -/
def run (a : Int) (xs : List Int) : Nat → Int
  | 0 => a
  | i + 1 => wrap64 (run a xs i + rd xs (i : Int))
def heights (a : Int) (xs : List Int) : List Int := upto (fun i => run a xs (i + 1)) xs.length
def shut (a b : Int) (rs ss : List Int) : List Int := closed rs ss (wrap64 (wrap64 (a + sum64 0 rs) - b))
def told (a b : Int) (rs ss : List Int) : List Int × Int := if (head a b rs ss && allFrom (both rs ss) 0 rs.length) = true then (heights a (shut a b rs ss), 0) else ([], 2)
theorem all_two (p q : Nat → Bool) (n : Nat) : (allFrom p 0 n && allFrom q 0 n) = allFrom (fun j => p j && q j) 0 n := by
  rw [Bool.eq_iff_iff]
  simp only [Bool.and_eq_true, allFrom_iff]
  exact ⟨fun h j h1 h2 => ⟨h.1 j h1 h2, h.2 j h1 h2⟩, fun h => ⟨fun j h1 h2 => (h j h1 h2).1, fun j h1 h2 => (h j h1 h2).2⟩⟩
section
variable {a b : Int} {rs ss : List Int}
theorem fits (hh : head a b rs ss = true) (ha : allFrom (both rs ss) 0 rs.length = true) : rs.length = ss.length ∧ (1 ≤ ss.length ∧ ss.length ≤ 20) ∧ (∀ i, i < ss.length → 1 ≤ rd ss (i : Int) ∧ rd ss (i : Int) ≤ 10000) ∧ (-1000000000 ≤ wrap64 (wrap64 (a + sum64 0 rs) - b) ∧ wrap64 (wrap64 (a + sum64 0 rs) - b) ≤ 1000000000) := by
  simp only [head, markIn, Bool.and_eq_true, decide_eq_true_eq] at hh
  obtain ⟨h1, h2, h3, h4⟩ := hh
  have hw : ∀ i, i < rs.length → (-100000 ≤ rd rs (i : Int) ∧ rd rs (i : Int) ≤ 100000) ∧ 1 ≤ rd ss (i : Int) ∧ rd ss (i : Int) ≤ 10000 := by
    intro i hi
    have := (allFrom_iff _ _ _).1 ha i (by omega) hi
    simpa [both, riseIn, sizeIn] using this
  have hb : ∀ i, i ≤ rs.length → -(100000 * (i : Int)) ≤ psum (fun j => rd rs (j : Int)) i ∧ psum (fun j => rd rs (j : Int)) i ≤ 100000 * i := by
    intro i
    induction i with
    | zero => intro _; simp [psum]
    | succ i ih =>
      intro hi
      have h1 := ih (by omega)
      have h2 := (hw i (by omega)).1
      simp only [psum]
      push_cast
      omega
  have e := sum64_psum rs fun i hi => by have := hb i hi; omega
  have hn := hb rs.length (Nat.le_refl _)
  rw [e, w64 (x := a + psum (fun j => rd rs (j : Int)) rs.length) (by omega) (by omega), w64 (by omega) (by omega)]
  exact ⟨by omega, by omega, fun i hi => (hw i (by omega)).2, by omega⟩
theorem implHeights_ev (xs : List Int) (hx : xs.length ≤ 1048576) : Ev (fun k => impl_BetweenMarks.l0 k [] a xs (xs.length : Int) 0) (heights a xs, (0 : Int)) := by
  refine scanI (fun k i => impl_BetweenMarks.l0 k (upto (fun i => run a xs (i + 1)) i) (run a xs i) xs (xs.length : Int) (i : Int)) xs.length (fun _ => (heights a xs, (0 : Int))) (Ev.up (g := fun k => impl_BetweenMarks.l0 k (upto (fun i => run a xs (i + 1)) xs.length) (run a xs xs.length) xs (xs.length : Int) (xs.length : Int)) (Ev.const fun k => by
    simp only [impl_BetweenMarks.l0]
    rw [if_neg (by omega)]
    rfl)) (fun i hi ih => ?_) 0 (by omega)
  have a1 : (upto (fun i => run a xs (i + 1)) i).length = i := upto_len _ _
  refine Ev.up (g := fun k => impl_BetweenMarks.l0 k (upto (fun i => run a xs (i + 1)) i) (run a xs i) xs (xs.length : Int) (i : Int)) ?_
  simp only [impl_BetweenMarks.l0, a1, wnext hi (by omega : (xs.length : Int) ≤ _)]
  rw [upto_succ] at ih
  exact Ev.ifPos (by omega) (Ev.ifPos (by omega) (Ev.ifPos (by omega) (Ev.ifPos (by omega) ih)))
theorem implJ_ev (c : Bool) (hc : c = !(head a b rs ss && allFrom (both rs ss) 0 rs.length)) : Ev (fun k => impl_BetweenMarks.j0 k a b rs ss c) (told a b rs ss) := by
  refine Ev.up (g := fun k => impl_BetweenMarks.j0 k a b rs ss c) ?_
  simp only [impl_BetweenMarks.j0]
  unfold told
  by_cases h : (head a b rs ss && allFrom (both rs ss) 0 rs.length) = true
  · rw [h] at hc
    subst hc
    have h' := h
    simp only [Bool.and_eq_true] at h'
    obtain ⟨e, l, hw, hcl⟩ := fits h'.1 h'.2
    rw [if_pos h]
    refine Ev.ifNeg (by simp) (Ev.bindE (implSum_ev rs (by omega)) (Ev.bindE (implClosed_ev e l.1 l.2 hw hcl) ?_))
    exact implHeights_ev (shut a b rs ss) (by unfold shut; rw [closed_len]; omega)
  · rw [Bool.eq_false_iff.2 h] at hc
    subst hc
    rw [if_neg h]
    exact Ev.ifPos rfl (Ev.const fun _ => rfl)
theorem implRises_ev (rs : List Int) (hn : rs.length ≤ 1048576) : Ev (fun k => impl_all_int64__impl_BetweenMarks_2.f k rs) (allFrom (riseIn rs) 0 rs.length) := by
  have h := allScan (fun k i => impl_all_int64__impl_BetweenMarks_2.l0 k rs (rs.length : Int) (i : Int)) rs.length (riseIn rs) true (Ev.const fun k => by
      simp only [impl_all_int64__impl_BetweenMarks_2.l0]
      rw [if_neg (by omega)]) (by
    intro i hi
    refine EvEq.now fun k => ?_
    simp only [impl_all_int64__impl_BetweenMarks_2.l0, impl_BetweenMarks_2.f, implIn_eq, Option.bind_some]
    rw [if_pos (by omega), if_pos (by omega), if_pos (by omega), wnext hi (by omega)]
    rfl) 0 (by omega)
  rw [Bool.and_true] at h
  exact h
theorem implSizes_ev (ss : List Int) (hn : ss.length ≤ 1048576) : Ev (fun k => impl_all_int64__impl_BetweenMarks_3.f k ss) (allFrom (sizeIn ss) 0 ss.length) := by
  have h := allScan (fun k i => impl_all_int64__impl_BetweenMarks_3.l0 k ss (ss.length : Int) (i : Int)) ss.length (sizeIn ss) true (Ev.const fun k => by
      simp only [impl_all_int64__impl_BetweenMarks_3.l0]
      rw [if_neg (by omega)]) (by
    intro i hi
    refine EvEq.now fun k => ?_
    simp only [impl_all_int64__impl_BetweenMarks_3.l0, impl_BetweenMarks_3.f, implIn_eq, Option.bind_some]
    rw [if_pos (by omega), if_pos (by omega), if_pos (by omega), wnext hi (by omega)]
    rfl) 0 (by omega)
  rw [Bool.and_true] at h
  exact h
theorem implTold_ev (a b : Int) (rs ss : List Int) (hs : rs.length ≤ 1048576) : Ev (fun k => impl_BetweenMarks.f k a b rs ss) (told a b rs ss) := by
  unfold impl_BetweenMarks.f
  simp only [impl_BetweenMarks_1.f, impl_size_int64.f, implIn_eq, Option.bind_some]
  refine Ev.ite (fun c1 => Ev.ite (fun c2 => Ev.ite (fun c3 => Ev.ite (fun c4 => ?_) (fun c4 => implJ_ev _ ?_)) (fun c3 => implJ_ev _ ?_)) (fun c2 => implJ_ev _ ?_)) (fun c1 => implJ_ev _ ?_)
  · have hh : head a b rs ss = true := by
      unfold head markIn
      rw [c1, c2, c3, decide_eq_true c4]; rfl
    refine Ev.bindE (implRises_ev rs hs) (Ev.ite (fun c5 => Ev.bindE (implSizes_ev ss (by omega)) (implJ_ev _ ?_)) (fun c5 => implJ_ev _ ?_))
    · have e : allFrom (both rs ss) 0 rs.length = allFrom (sizeIn ss) 0 ss.length := by
        have := all_two (riseIn rs) (sizeIn ss) rs.length
        rw [c5, Bool.true_and] at this
        rw [show ss.length = rs.length by omega, this]
        rfl
      rw [hh, Bool.true_and, e]
    · have e : allFrom (both rs ss) 0 rs.length = false := by
        have := all_two (riseIn rs) (sizeIn ss) rs.length
        rw [Bool.eq_false_iff.2 c5, Bool.false_and] at this
        exact this.symm
      rw [e, Bool.and_false]; rfl
  · unfold head markIn; rw [c1, c2, c3, decide_eq_false c4]; rfl
  · unfold head markIn; rw [c1, c2, Bool.eq_false_iff.2 c3]; rfl
  · unfold head markIn; rw [c1, Bool.eq_false_iff.2 c2]; rfl
  · unfold head markIn; rw [Bool.eq_false_iff.2 c1]; rfl
theorem told_len (a b : Int) (rs ss : List Int) (hs : rs.length ≤ 1048576) : (told a b rs ss).1.length ≤ 1048576 := by
  unfold told
  split
  · simp only [heights, upto_len, shut, closed_len]; exact hs
  · simp
end
end Go.Proofs.Ytppfdndnojbmjaa.PBetween

/-! ## Conv -/
/- Plain words for the laws' own helpers: measuring an argument, copying it, comparing it with itself, marking a result and finding the marks again. No condition but the lengths that fit. -/
namespace Go.Proofs.Ytppfdndnojbmjaa.B
open Go.RowKit Go.Proofs.YtppfdndnojbmjaaW.PrintWords

def sumOf {α : Type} (f : α → Int) (xs : List α) : Int := (xs.map f).sum
theorem sumOf_nil {α : Type} (f : α → Int) : sumOf f [] = 0 := rfl
theorem sumOf_cons {α : Type} (f : α → Int) (x : α) (xs : List α) : sumOf f (x :: xs) = f x + sumOf f xs := by simp [sumOf]
theorem sumOf_nonneg {α : Type} {f : α → Int} {xs : List α} (h : ∀ x ∈ xs, 0 ≤ f x) : 0 ≤ sumOf f xs := by
  induction xs with
  | nil => simp [sumOf]
  | cons x xs ih =>
    rw [sumOf_cons]
    have h1 := h x (List.mem_cons_self ..)
    have h2 := ih fun y hy => h y (List.mem_cons_of_mem _ hy)
    omega
theorem sumOf_mem {α : Type} {f : α → Int} {xs : List α} (h : ∀ x ∈ xs, 0 ≤ f x) : ∀ x ∈ xs, f x ≤ sumOf f xs := by
  induction xs with
  | nil => intro x hx; cases hx
  | cons y xs ih =>
    intro x hx
    rw [sumOf_cons]
    have h1 := h y (List.mem_cons_self ..)
    have h2 := sumOf_nonneg (f := f) (xs := xs) fun z hz => h z (List.mem_cons_of_mem _ hz)
    rcases List.mem_cons.1 hx with rfl | hx
    · omega
    · have := ih (fun z hz => h z (List.mem_cons_of_mem _ hz)) x hx
      omega

/-- g takes s off what is left, or tells -1 if there is less. -/
def Sz (g : Int → Nat → Option Int) (s : Int) : Prop := 0 ≤ s ∧ ∀ left, 0 ≤ left → left ≤ 1048576 → Ev (fun k => g left k) (if s ≤ left then left - s else -1)
theorem Sz.id : Sz (fun left _ => some left) 0 := ⟨by omega, fun left h h' => Ev.const fun k => by show some left = _; rw [if_pos h, show left - 0 = left by omega]⟩
theorem Sz.seq {g h : Int → Nat → Option Int} {s t : Int} (a : Sz g s) (b : Sz h t) : Sz (fun left k => (g left k).bind fun u => if u < 0 then some (-1) else h u k) (s + t) := by
  refine ⟨by have := a.1; have := b.1; omega, fun left h0 h1 => ?_⟩
  have hs := a.1
  have ht := b.1
  refine Ev.bindE (a.2 left h0 h1) ?_
  by_cases c : s ≤ left
  · simp only [if_pos c]
    refine Ev.ifNeg (by omega) ?_
    have := b.2 (left - s) (by omega) (by omega)
    by_cases d : t ≤ left - s
    · rw [if_pos (by omega)]
      rw [if_pos d] at this
      have e : left - s - t = left - (s + t) := by omega
      rwa [e] at this
    · rw [if_neg (by omega)]
      rwa [if_neg d] at this
  · simp only [if_neg c]
    rw [if_neg (by omega)]
    exact Ev.ifPos (by omega) (Ev.const fun _ => rfl)
theorem Sz.len {n : Nat} (hn : n ≤ 9223372036854775807) {h : Int → Nat → Option Int} {t : Int} (b : Sz h t) : Sz (fun left k => if wrap64 (left - (n : Int)) < 0 then some (-1) else h (wrap64 (left - (n : Int))) k) ((n : Int) + t) := by
  have ht := b.1
  refine ⟨by omega, fun left h0 h1 => ?_⟩
  have e : wrap64 (left - (n : Int)) = left - n := w64 (by omega) (by omega)
  simp only [e]
  by_cases c : (n : Int) ≤ left
  · refine Ev.ifNeg (by omega) ?_
    have := b.2 (left - n) (by omega) (by omega)
    by_cases d : t ≤ left - n
    · rw [if_pos (by omega)]
      rw [if_pos d] at this
      have e : left - n - t = left - (n + t) := by omega
      rwa [e] at this
    · rw [if_neg (by omega)]
      rwa [if_neg d] at this
  · rw [if_neg (by omega)]
    exact Ev.ifPos (by omega) (Ev.const fun _ => rfl)
/-- A row: its length, then each element in turn. -/
theorem Sz.list {α : Type} {xs : List α} {rdx : Int → α} {e : α → Int → Nat → Option Int} {s : α → Int} {L : Nat → Int → Int → Option Int} (hn : xs.length ≤ 9223372036854775807)
    (hrd : ∀ (i : Nat) (h : i < xs.length), rdx (i : Int) = xs[i]) (he : ∀ x ∈ xs, Sz (e x) (s x))
    (hL : ∀ k l i, L (k + 1) l i = if i < (xs.length : Int) then (if 0 ≤ i then ((e (rdx i) l k).bind fun u => if u < 0 then some (-1) else L k u (wrap64 (i + 1))) else none) else some l) :
    Sz (fun left k => if wrap64 (left - (xs.length : Int)) < 0 then some (-1) else L k (wrap64 (left - (xs.length : Int))) 0) ((xs.length : Int) + sumOf s xs) := by
  refine Sz.len hn (h := fun left k => L k left 0) ⟨sumOf_nonneg fun x hx => (he x hx).1, ?_⟩
  have key : ∀ (suf pre : List α), xs = pre ++ suf → ∀ left, 0 ≤ left → left ≤ 1048576 → Ev (fun k => L k left (pre.length : Int)) (if sumOf s suf ≤ left then left - sumOf s suf else -1) := by
    intro suf
    induction suf with
    | nil =>
      intro pre hx left h0 h1
      refine Ev.up (g := fun k => L k left (pre.length : Int)) (Ev.const fun k => ?_)
      have : xs.length = pre.length := by rw [hx]; simp
      rw [hL, if_neg (by omega), sumOf_nil, if_pos h0]
      congr 1; omega
    | cons x suf ih =>
      intro pre hx left h0 h1
      have hlen : xs.length = pre.length + (suf.length + 1) := by rw [hx]; simp
      have hi : pre.length < xs.length := by omega
      have hxi : xs[pre.length] = x := by simp [hx]
      have hm : x ∈ xs := by rw [hx]; simp
      have hs := (he x hm).1
      have hss : 0 ≤ sumOf s suf := sumOf_nonneg fun y hy => (he y (by rw [hx]; simp [hy])).1
      refine Ev.up (g := fun k => L k left (pre.length : Int)) ?_
      simp only [hL, hrd _ hi, hxi]
      refine Ev.ifPos (by omega) (Ev.ifPos (by omega) (Ev.bindE ((he x hm).2 left h0 h1) ?_))
      rw [sumOf_cons]
      by_cases c : s x ≤ left
      · simp only [if_pos c]
        refine Ev.ifNeg (by omega) ?_
        have h' := ih (pre ++ [x]) (by rw [hx]; simp) (left - s x) (by omega) (by omega)
        have e1 : ((pre ++ [x]).length : Int) = wrap64 ((pre.length : Int) + 1) := by rw [wnext hi (by omega)]; simp
        rw [e1] at h'
        by_cases d : sumOf s suf ≤ left - s x
        · rw [if_pos (by omega)]
          rw [if_pos d] at h'
          have e : left - s x - sumOf s suf = left - (s x + sumOf s suf) := by omega
          rwa [e] at h'
        · rw [if_neg (by omega)]
          rwa [if_neg d] at h'
      · simp only [if_neg c]
        rw [if_neg (by omega)]
        exact Ev.ifPos (by omega) (Ev.const fun _ => rfl)
  exact key xs [] rfl

/-- Copying a row, element by element. -/
theorem Cv.list {α β τ : Type} {xs : List α} {rdx : Int → α} {e : Nat → α → Option τ} {mk : τ → β} {c : α → β} {t : α → τ} {z : β} {L : Nat → List β → Int → Option (List β)} {lim : Nat}
    (hlim : xs.length ≤ lim) (hbig : xs.length ≤ 9223372036854775807) (hrd : ∀ (i : Nat) (h : i < xs.length), rdx (i : Int) = xs[i]) (he : ∀ x ∈ xs, Ev (fun k => e k x) (t x)) (hc : ∀ x, mk (t x) = c x)
    (hL : ∀ k ys i, L (k + 1) ys i = if i < (xs.length : Int) then (if 0 ≤ i then ((e k (rdx i)).bind fun bt => if i < (ys.length : Int) then L k (ys.set i.toNat (mk bt)) (wrap64 (i + 1)) else none) else none) else some ys) :
    Ev (fun k => if 0 ≤ (xs.length : Int) then (if ((xs.length : Int)).toNat ≤ lim then L k (List.replicate ((xs.length : Int)).toNat z) 0 else none) else none) (xs.map c) := by
  refine Ev.ifPos (by omega) (Ev.ifPos (by omega) ?_)
  have h := scanI (fun k i => L k ((xs.map c).take i ++ List.replicate (xs.length - i) z) (i : Int)) xs.length (fun _ => xs.map c) (Ev.up (g := fun k => L k ((xs.map c).take xs.length ++ List.replicate (xs.length - xs.length) z) (xs.length : Int)) (Ev.const fun k => by
      rw [hL, if_neg (by omega)]
      simp [List.take_of_length_le])) (by
      intro i hi ih
      refine Ev.up (g := fun k => L k ((xs.map c).take i ++ List.replicate (xs.length - i) z) (i : Int)) ?_
      have hl : ((xs.map c).take i ++ List.replicate (xs.length - i) z).length = xs.length := by simp; omega
      simp only [hL, hrd _ hi]
      refine Ev.ifPos (by omega) (Ev.ifPos (by omega) (Ev.bindE (he _ (List.getElem_mem hi)) (Ev.ifPos (by rw [hl]; omega) ?_)))
      have hs := fill_set (xs.map c) z (i := i) (n := xs.length) hi (by simp)
      rw [hc, Int.toNat_natCast, wnext hi (by omega)]
      rw [List.getElem_map] at hs
      rw [hs]
      exact ih) 0 (by omega)
  simpa using h
theorem Cv.plain {α : Type} {xs : List α} {rdx : Int → α} {z : α} {L : Nat → List α → Int → Option (List α)} {lim : Nat}
    (hlim : xs.length ≤ lim) (hbig : xs.length ≤ 9223372036854775807) (hrd : ∀ (i : Nat) (h : i < xs.length), rdx (i : Int) = xs[i])
    (hL : ∀ k ys i, L (k + 1) ys i = if i < (xs.length : Int) then (if 0 ≤ i then (if i < (ys.length : Int) then L k (ys.set i.toNat (rdx i)) (wrap64 (i + 1)) else none) else none) else some ys) :
    Ev (fun k => if 0 ≤ (xs.length : Int) then (if ((xs.length : Int)).toNat ≤ lim then L k (List.replicate ((xs.length : Int)).toNat z) 0 else none) else none) xs := by
  have h := Cv.list (xs := xs) (rdx := rdx) (e := fun _ x => some x) (mk := fun x => x) (c := fun x => x) (t := fun x => x) (z := z) (L := L) hlim hbig hrd (fun x _ => Ev.const fun _ => rfl) (fun _ => rfl) hL
  simpa using h

/-- Comparing a row with itself. -/
theorem Eq.list {α : Type} {xs : List α} {rdx : Int → α} {e : Nat → α → Option Bool} {L : Nat → Int → Option Bool}
    (hbig : xs.length ≤ 9223372036854775807) (hrd : ∀ (i : Nat) (h : i < xs.length), rdx (i : Int) = xs[i]) (he : ∀ x ∈ xs, Ev (fun k => e k x) true)
    (hL : ∀ k i, L (k + 1) i = if i < (xs.length : Int) then (if 0 ≤ i then (if i < (xs.length : Int) then ((e k (rdx i)).bind fun u => if u = true then L k (wrap64 (i + 1)) else some false) else none) else none) else some true) :
    Ev (fun k => if (xs.length : Int) = (xs.length : Int) then L k 0 else some false) true := by
  refine Ev.ifPos rfl ?_
  exact scanI (fun k i => L k (i : Int)) xs.length (fun _ => true) (Ev.up (g := fun k => L k (xs.length : Int)) (Ev.const fun k => by rw [hL, if_neg (by omega)])) (by
    intro i hi ih
    refine Ev.up (g := fun k => L k (i : Int)) ?_
    simp only [hL, hrd _ hi]
    refine Ev.ifPos (by omega) (Ev.ifPos (by omega) (Ev.ifPos (by omega) (Ev.bindE (he _ (List.getElem_mem hi)) (Ev.ifPos rfl ?_))))
    rw [wnext hi (by omega)]
    exact ih) 0 (by omega)

theorem Eq.flat {α : Type} {xs : List α} {P : Int → Prop} [DecidablePred P] {L : Nat → Int → Option Bool}
    (hbig : xs.length ≤ 9223372036854775807) (hP : ∀ x, P x)
    (hL : ∀ k i, L (k + 1) i = if i < (xs.length : Int) then (if 0 ≤ i then (if i < (xs.length : Int) then (if P i then L k (wrap64 (i + 1)) else some false) else none) else none) else some true) :
    Ev (fun k => if (xs.length : Int) = (xs.length : Int) then L k 0 else some false) true := by
  refine Ev.ifPos rfl ?_
  exact scanI (fun k i => L k (i : Int)) xs.length (fun _ => true) (Ev.up (g := fun k => L k (xs.length : Int)) (Ev.const fun k => by rw [hL, if_neg (by omega)])) (by
    intro i hi ih
    refine Ev.up (g := fun k => L k (i : Int)) ?_
    simp only [hL]
    refine Ev.ifPos (by omega) (Ev.ifPos (by omega) (Ev.ifPos (by omega) (Ev.ifPos (hP _) ?_)))
    rw [wnext hi (by omega)]
    exact ih) 0 (by omega)

/-- Marks from c on, put into each element in turn. -/
def markAll {α : Type} (E : α → Int → α) (cost : α → Int) : List α → Int → List α
  | [], _ => []
  | x :: xs, c => E x c :: markAll E cost xs (c + cost x)
theorem markAll_len {α : Type} (E : α → Int → α) (cost : α → Int) (xs : List α) : ∀ c, (markAll E cost xs c).length = xs.length := by
  induction xs with
  | nil => intro c; rfl
  | cons x xs ih => intro c; simp [markAll, ih]
theorem Mk.list {α : Type} {E : α → Int → α} {cost : α → Int} {L : Nat → List α → Int → Int → Option (Int × List α)} {n : Nat} (hbig : n ≤ 1048576) (hcost : ∀ x, 0 ≤ cost x)
    (hend : ∀ k ys c, ys.length = n → L (k + 1) ys c (n : Int) = some (c, ys))
    (hstep : ∀ ys c (i : Nat) (h : i < ys.length), ys.length = n → 0 ≤ c → c + cost ys[i] ≤ 4611686018427387904 → EvEq (fun k => L (k + 1) ys c (i : Int)) (fun k => L k (ys.set i (E ys[i] c)) (c + cost ys[i]) ((i + 1 : Nat) : Int))) :
    ∀ xs : List α, xs.length = n → ∀ c, 0 ≤ c → c + sumOf cost xs ≤ 4611686018427387904 → Ev (fun k => L k xs c 0) (c + sumOf cost xs, markAll E cost xs c) := by
  have key : ∀ (suf pre : List α) (c : Int), (pre ++ suf).length = n → 0 ≤ c → c + sumOf cost suf ≤ 4611686018427387904 → Ev (fun k => L k (pre ++ suf) c (pre.length : Int)) (c + sumOf cost suf, pre ++ markAll E cost suf c) := by
    intro suf
    induction suf with
    | nil =>
      intro pre c hl h0 h1
      refine Ev.up (g := fun k => L k (pre ++ []) c (pre.length : Int)) (Ev.const fun k => ?_)
      have e : (pre.length : Int) = (n : Int) := by rw [← hl]; simp
      rw [e, hend k _ c hl, sumOf_nil]
      simp [markAll]
    | cons x suf ih =>
      intro pre c hl h0 h1
      rw [sumOf_cons] at h1 ⊢
      have hc := hcost x
      have hs : 0 ≤ sumOf cost suf := sumOf_nonneg fun y _ => hcost y
      have hi : pre.length < (pre ++ x :: suf).length := by simp
      have hx : (pre ++ x :: suf)[pre.length] = x := by simp
      refine Ev.up (g := fun k => L k (pre ++ x :: suf) c (pre.length : Int)) ?_
      have st := hstep (pre ++ x :: suf) c pre.length hi hl h0 (by rw [hx]; omega)
      rw [hx] at st
      refine Ev.ofEq st ?_
      have h' := ih (pre ++ [E x c]) (c + cost x) (by simpa using hl) (by omega) (by omega)
      have e1 : (pre ++ x :: suf).set pre.length (E x c) = pre ++ [E x c] ++ suf := by
        rw [List.set_append_right _ _ (by omega), Nat.sub_self]
        simp
      have e2 : ((pre ++ [E x c]).length : Int) = ((pre.length + 1 : Nat) : Int) := by simp
      rw [e1, ← e2]
      have e3 : c + (cost x + sumOf cost suf) = c + cost x + sumOf cost suf := by omega
      rw [e3]
      simpa [markAll] using h'
  intro xs hn c h0 h1
  exact key xs [] c (by simpa using hn) h0 h1
theorem Hd.list {α : Type} {E : α → Int → α} {cost : α → Int} {L : Nat → List α → Int → Int → Option Int} {n : Nat} (hcost : ∀ x, 0 ≤ cost x)
    (hend : ∀ k ys c, ys.length = n → L (k + 1) ys c (n : Int) = some c)
    (hstep : ∀ ys c (i : Nat) (h : i < ys.length) x, ys[i] = E x c → ys.length = n → 0 ≤ c → c + cost x ≤ 4611686018427387904 → EvEq (fun k => L (k + 1) ys c (i : Int)) (fun k => L k ys (c + cost x) ((i + 1 : Nat) : Int))) :
    ∀ xs : List α, xs.length = n → ∀ c, 0 ≤ c → c + sumOf cost xs ≤ 4611686018427387904 → Ev (fun k => L k (markAll E cost xs c) c 0) (c + sumOf cost xs) := by
  have key : ∀ (suf pre : List α) (c : Int), (pre ++ suf).length = n → 0 ≤ c → c + sumOf cost suf ≤ 4611686018427387904 → Ev (fun k => L k (pre ++ markAll E cost suf c) c (pre.length : Int)) (c + sumOf cost suf) := by
    intro suf
    induction suf with
    | nil =>
      intro pre c hl h0 h1
      refine Ev.up (g := fun k => L k (pre ++ markAll E cost [] c) c (pre.length : Int)) (Ev.const fun k => ?_)
      have e : (pre.length : Int) = (n : Int) := by rw [← hl]; simp
      rw [e, hend k _ c (by simpa [markAll] using hl), sumOf_nil]
      simp
    | cons x suf ih =>
      intro pre c hl h0 h1
      rw [sumOf_cons] at h1 ⊢
      have hc := hcost x
      have hs : 0 ≤ sumOf cost suf := sumOf_nonneg fun y _ => hcost y
      have hi : pre.length < (pre ++ markAll E cost (x :: suf) c).length := by simp [markAll]
      have hx : (pre ++ markAll E cost (x :: suf) c)[pre.length] = E x c := by simp [markAll]
      refine Ev.up (g := fun k => L k (pre ++ markAll E cost (x :: suf) c) c (pre.length : Int)) ?_
      have hln : (pre ++ markAll E cost (x :: suf) c).length = n := by
        rw [← hl]; simp [markAll_len]
      refine Ev.ofEq (hstep _ c pre.length hi x hx hln h0 (by omega)) ?_
      have h' := ih (pre ++ [E x c]) (c + cost x) (by simpa using hl) (by omega) (by omega)
      have e2 : ((pre ++ [E x c]).length : Int) = ((pre.length + 1 : Nat) : Int) := by simp
      rw [← e2]
      have e3 : c + (cost x + sumOf cost suf) = c + cost x + sumOf cost suf := by omega
      rw [e3]
      simpa [markAll] using h'
  intro xs hn c h0 h1
  exact key xs [] c (by simpa using hn) h0 h1
end Go.Proofs.Ytppfdndnojbmjaa.B

/-! ## XLawsToLine -/
namespace Go.Proofs.Ytppfdndnojbmjaa.X
open Go.RowKit Go.Proofs.Ytppfdndnojbmjaa.XV Go.Proofs.YtppfdndnojbmjaaW.PrintWords Go.Proofs.YtppfdndnojbmjaaW.PrintLast Go.Proofs.YtppfdndnojbmjaaW.PrintMore
attribute [local go_sem] max2_int min2_int max_two min_two max_three min_three max_four min_four

def laws_toLine.f (a0_0 : Int) (a0_1 : Int) (a0_2 : Int) (a0_3 : Int) : Option (Int × Int × Int × Int) := some (a0_0, a0_1, a0_2, a0_3)
set_option maxHeartbeats 8000000 in
set_option maxRecDepth 100000 in
theorem laws_toLine.calls (a0_0 : Int) (a0_1 : Int) (a0_2 : Int) (a0_3 : Int) (r1 : Int) (r2 : Int) (r3 : Int) (r4 : Int) (w : World) (h : laws_toLine.f a0_0 a0_1 a0_2 a0_3 = some (r1, r2, r3, r4)) :
  Calls Try.prog 41 #[.agg #[.int .i64 a0_0, .int .i64 a0_1, .int .i64 a0_2, .int .i64 a0_3]] w fun e w' => e = .returned (.agg #[.int .i64 r1, .int .i64 r2, .int .i64 r3, .int .i64 r4]) ∧ Below w.heap.size w w' := by
 have hu60 := Try.underlying60
 have hu51 := Try.underlying51
 have HB := Aside0.mk (Below.refl w.heap.size w)
 have H : (some (a0_0, a0_1, a0_2, a0_3)) = some (r1, r2, r3, r4) := h
 clear h
 simp only [Option.some.injEq, Prod.mk.injEq] at H
 obtain ⟨rfl, rfl, rfl, rfl⟩ := H
 go_enter Try.func41, Try.ntmps41
 go_wp2_with (first | ((with_reducible refine gate_dst (N := 1) rfl ?_); refine box_event ?hg (N := 1) ?hd (cs := #[.int .i64 a0_0, .int .i64 a0_1, .int .i64 a0_2, .int .i64 a0_3]) (t := 60) ?hr ?_; (case hd => rfl); (case hg => rfl); (case hr => first | (go_simp; done) | (go_simp; rfl)); intro gb295 hg w2 hbox hb; have n0_ := Aside0.mk (below_step (by repeat (first | (with_reducible first | exact HB.out | apply below_alloc | apply pw_below_drewN | apply below_drew1) | exact HB.out)) hb); have n1_ := Aside0.mk (hbox); have n2_ := Aside0.mk ((by rw [hg]; exact (below_size (by repeat (first | (with_reducible first | exact HB.out | apply below_alloc | apply pw_below_drewN | apply below_drew1) | exact HB.out))) : w.heap.size ≤ gb295)); have n3_ := Aside0.mk ((by rw [hg]; exact (below_size (by repeat (first | (with_reducible first | exact HB.out | apply below_alloc | apply pw_below_drewN | apply below_drew1) | exact HB.out))) : w.heap.size ≤ gb295)); clear HB; have HB := n0_; have BK295 := n1_; have GW295 := n2_; have GE295 := n3_; clear n0_ n1_ n2_ n3_; clear hb hbox hg) | ((with_reducible refine gate_dst (N := 2) rfl ?_); refine box_event ?hg (N := 2) ?hd (cs := #[.int .i64 0, .int .i64 0, .int .i64 0, .int .i64 0]) (t := 51) ?hr ?_; (case hd => rfl); (case hg => rfl); (case hr => first | (go_simp; done) | (go_simp; rfl)); intro gb296 hg w3 hbox hb; have n0_ := Aside0.mk (blk_below (g := gb295) (o := .cells #[.int .i64 a0_0, .int .i64 a0_1, .int .i64 a0_2, .int .i64 a0_3] 60 (0, 0)) (by (with_reducible repeat (first | refine blk_drewN ?_ _ | refine blk_drew ?_ | refine blk_alloc ?_ _)); exact BK295.out) hb); have n1_ := Aside0.mk (below_step (by repeat (first | (with_reducible first | exact HB.out | apply below_alloc | apply pw_below_drewN | apply below_drew1 | refine below_set ?_ GE295.out) | exact HB.out)) hb); have n2_ := Aside0.mk (hbox); have n3_ := Aside0.mk ((by rw [hg]; exact (below_size (by repeat (first | (with_reducible first | exact HB.out | apply below_alloc | apply pw_below_drewN | apply below_drew1 | refine below_set ?_ GE295.out) | exact HB.out))) : w.heap.size ≤ gb296)); have n4_ := Aside0.mk ((by rw [hg]; exact (below_size (by repeat (first | (with_reducible first | exact HB.out | apply below_alloc | apply pw_below_drewN | apply below_drew1 | refine below_set ?_ GE295.out) | exact HB.out))) : w.heap.size ≤ gb296)); have n5_ := Aside0.mk ((by rw [hg]; exact Nat.ne_of_lt (blk_lt (g := gb295) (o := .cells #[.int .i64 a0_0, .int .i64 a0_1, .int .i64 a0_2, .int .i64 a0_3] 60 (0, 0)) (by (with_reducible repeat (first | refine blk_drewN ?_ _ | refine blk_drew ?_ | refine blk_alloc ?_ _)); exact BK295.out)) : gb295 ≠ gb296)); have n6_ := Aside0.mk ((by rw [hg]; exact Nat.ne_of_gt (blk_lt (g := gb295) (o := .cells #[.int .i64 a0_0, .int .i64 a0_1, .int .i64 a0_2, .int .i64 a0_3] 60 (0, 0)) (by (with_reducible repeat (first | refine blk_drewN ?_ _ | refine blk_drew ?_ | refine blk_alloc ?_ _)); exact BK295.out)) : gb296 ≠ gb295)); clear BK295; clear HB; have BK295 := n0_; have HB := n1_; have BK296 := n2_; have GW296 := n3_; have GE296 := n4_; have NB295_296 := n5_; have NB296_295 := n6_; clear n0_ n1_ n2_ n3_ n4_ n5_ n6_; clear hb hbox hg) | ((with_reducible refine gate_dst (N := 3) rfl ?_); refine box_event ?hg (N := 3) ?hd (cs := #[.int .i64 0, .int .i64 0, .int .i64 0, .int .i64 0]) (t := 51) ?hr ?_; (case hd => rfl); (case hg => rfl); (case hr => first | (go_simp; done) | (go_simp; rfl)); intro gb297 hg w4 hbox hb; have n0_ := Aside0.mk (blk_below (g := gb295) (o := .cells #[.int .i64 a0_0, .int .i64 a0_1, .int .i64 a0_2, .int .i64 a0_3] 60 (0, 0)) (by (with_reducible repeat (first | refine blk_drewN ?_ _ | refine blk_drew ?_ | refine blk_alloc ?_ _)); exact BK295.out) hb); have n1_ := Aside0.mk (blk_below (g := gb296) (o := .cells #[.int .i64 0, .int .i64 0, .int .i64 0, .int .i64 0] 51 (0, 0)) (by (with_reducible repeat (first | refine blk_drewN ?_ _ | refine blk_drew ?_ | refine blk_alloc ?_ _)); exact BK296.out) hb); have n2_ := Aside0.mk (below_step (by repeat (first | (with_reducible first | exact HB.out | apply below_alloc | apply pw_below_drewN | apply below_drew1 | refine below_set ?_ GE295.out | refine below_set ?_ GE296.out) | exact HB.out)) hb); have n3_ := Aside0.mk (hbox); have n4_ := Aside0.mk ((by rw [hg]; exact (below_size (by repeat (first | (with_reducible first | exact HB.out | apply below_alloc | apply pw_below_drewN | apply below_drew1 | refine below_set ?_ GE295.out | refine below_set ?_ GE296.out) | exact HB.out))) : w.heap.size ≤ gb297)); have n5_ := Aside0.mk ((by rw [hg]; exact (below_size (by repeat (first | (with_reducible first | exact HB.out | apply below_alloc | apply pw_below_drewN | apply below_drew1 | refine below_set ?_ GE295.out | refine below_set ?_ GE296.out) | exact HB.out))) : w.heap.size ≤ gb297)); have n6_ := Aside0.mk ((by rw [hg]; exact Nat.ne_of_lt (blk_lt (g := gb295) (o := .cells #[.int .i64 a0_0, .int .i64 a0_1, .int .i64 a0_2, .int .i64 a0_3] 60 (0, 0)) (by (with_reducible repeat (first | refine blk_drewN ?_ _ | refine blk_drew ?_ | refine blk_alloc ?_ _)); exact BK295.out)) : gb295 ≠ gb297)); have n7_ := Aside0.mk ((by rw [hg]; exact Nat.ne_of_gt (blk_lt (g := gb295) (o := .cells #[.int .i64 a0_0, .int .i64 a0_1, .int .i64 a0_2, .int .i64 a0_3] 60 (0, 0)) (by (with_reducible repeat (first | refine blk_drewN ?_ _ | refine blk_drew ?_ | refine blk_alloc ?_ _)); exact BK295.out)) : gb297 ≠ gb295)); have n8_ := Aside0.mk ((by rw [hg]; exact Nat.ne_of_lt (blk_lt (g := gb296) (o := .cells #[.int .i64 0, .int .i64 0, .int .i64 0, .int .i64 0] 51 (0, 0)) (by (with_reducible repeat (first | refine blk_drewN ?_ _ | refine blk_drew ?_ | refine blk_alloc ?_ _)); exact BK296.out)) : gb296 ≠ gb297)); have n9_ := Aside0.mk ((by rw [hg]; exact Nat.ne_of_gt (blk_lt (g := gb296) (o := .cells #[.int .i64 0, .int .i64 0, .int .i64 0, .int .i64 0] 51 (0, 0)) (by (with_reducible repeat (first | refine blk_drewN ?_ _ | refine blk_drew ?_ | refine blk_alloc ?_ _)); exact BK296.out)) : gb297 ≠ gb296)); clear BK295; clear BK296; clear HB; have BK295 := n0_; have BK296 := n1_; have HB := n2_; have BK297 := n3_; have GW297 := n4_; have GE297 := n5_; have NB295_297 := n6_; have NB297_295 := n7_; have NB296_297 := n8_; have NB297_296 := n9_; clear n0_ n1_ n2_ n3_ n4_ n5_ n6_ n7_ n8_ n9_; clear hb hbox hg; have hnb5 := NB295_296.out; have hnc5 := NB296_295.out; have hnb6 := NB295_297.out; have hnc6 := NB297_295.out; have hcz7_0 : w4.cell? ⟨gb295, 0, none⟩ = some (.int .i64 a0_0) := (blk_cell BK295.out 0).trans rfl; have hcz7_1 : w4.cell? ⟨gb295, 1, none⟩ = some (.int .i64 a0_1) := (blk_cell BK295.out 1).trans rfl; have hcz7_2 : w4.cell? ⟨gb295, 2, none⟩ = some (.int .i64 a0_2) := (blk_cell BK295.out 2).trans rfl; have hcz7_3 : w4.cell? ⟨gb295, 3, none⟩ = some (.int .i64 a0_3) := (blk_cell BK295.out 3).trans rfl; have hfz7_0 := blk_frozen BK295.out 0; have hfz7_1 := blk_frozen BK295.out 1; have hfz7_2 := blk_frozen BK295.out 2; have hfz7_3 := blk_frozen BK295.out 3; have hnb8 := NB297_296.out; have hnc8 := NB296_297.out; have hcz9_0 : w4.cell? ⟨gb297, 0, none⟩ = some (.int .i64 0) := (blk_cell BK297.out 0).trans rfl; have hcz9_1 : w4.cell? ⟨gb297, 1, none⟩ = some (.int .i64 0) := (blk_cell BK297.out 1).trans rfl; have hcz9_2 : w4.cell? ⟨gb297, 2, none⟩ = some (.int .i64 0) := (blk_cell BK297.out 2).trans rfl; have hcz9_3 : w4.cell? ⟨gb297, 3, none⟩ = some (.int .i64 0) := (blk_cell BK297.out 3).trans rfl; have hfz9_0 := blk_frozen BK297.out 0; have hfz9_1 := blk_frozen BK297.out 1; have hfz9_2 := blk_frozen BK297.out 2; have hfz9_3 := blk_frozen BK297.out 3; have hcz10_0 : w4.cell? ⟨gb296, 0, none⟩ = some (.int .i64 0) := (blk_cell BK296.out 0).trans rfl; have hcz10_1 : w4.cell? ⟨gb296, 1, none⟩ = some (.int .i64 0) := (blk_cell BK296.out 1).trans rfl; have hcz10_2 : w4.cell? ⟨gb296, 2, none⟩ = some (.int .i64 0) := (blk_cell BK296.out 2).trans rfl; have hcz10_3 : w4.cell? ⟨gb296, 3, none⟩ = some (.int .i64 0) := (blk_cell BK296.out 3).trans rfl; have hfz10_0 := blk_frozen BK296.out 0; have hfz10_1 := blk_frozen BK296.out 1; have hfz10_2 := blk_frozen BK296.out 2; have hfz10_3 := blk_frozen BK296.out 3))
 refine bodyPost_ret (results_cell_row rfl _ _ gb296 51 #[.int .i64 a0_0, .int .i64 a0_1, .int .i64 a0_2, .int .i64 a0_3] (0, 0) _ rfl (by (with_reducible repeat (first | refine blk_drewN ?_ _ | refine blk_drew ?_ | refine blk_alloc ?_ _)); refine blk_put (cs := #[.int .i64 a0_0, .int .i64 a0_1, .int .i64 a0_2, .int .i64 0]) ?_ 3 _ rfl; (with_reducible repeat (first | refine blk_drewN ?_ _ | refine blk_drew ?_ | refine blk_alloc ?_ _)); refine blk_put (cs := #[.int .i64 a0_0, .int .i64 a0_1, .int .i64 0, .int .i64 0]) ?_ 2 _ rfl; (with_reducible repeat (first | refine blk_drewN ?_ _ | refine blk_drew ?_ | refine blk_alloc ?_ _)); refine blk_put (cs := #[.int .i64 a0_0, .int .i64 0, .int .i64 0, .int .i64 0]) ?_ 1 _ rfl; (with_reducible repeat (first | refine blk_drewN ?_ _ | refine blk_drew ?_ | refine blk_alloc ?_ _)); refine blk_put (cs := #[.int .i64 0, .int .i64 0, .int .i64 0, .int .i64 0]) ?_ 0 _ rfl; (with_reducible repeat (first | refine blk_drewN ?_ _ | refine blk_drew ?_ | refine blk_alloc ?_ _)); refine blk_far ?_ NB296_297.out _; (with_reducible repeat (first | refine blk_drewN ?_ _ | refine blk_drew ?_ | refine blk_alloc ?_ _)); refine blk_far ?_ NB296_297.out _; (with_reducible repeat (first | refine blk_drewN ?_ _ | refine blk_drew ?_ | refine blk_alloc ?_ _)); refine blk_far ?_ NB296_297.out _; (with_reducible repeat (first | refine blk_drewN ?_ _ | refine blk_drew ?_ | refine blk_alloc ?_ _)); refine blk_far ?_ NB296_297.out _; (with_reducible repeat (first | refine blk_drewN ?_ _ | refine blk_drew ?_ | refine blk_alloc ?_ _)); exact BK296.out) Try.underlying51 rfl (by kernel_rfl)) rfl ?_
 exact ⟨by first | rfl | (simp [errW_none, errW_some] <;> rfl) | (simp [*, errW_none, errW_some] <;> rfl), by repeat (first | (with_reducible first | exact HB.out | apply below_alloc | apply pw_below_drewN | apply below_drew1 | refine below_set ?_ GE295.out | refine below_set ?_ GE296.out | refine below_set ?_ GE297.out) | exact HB.out)⟩


/-! ## XLawsEqLine -/

def laws_eqLine.f (a0_0 : Int) (a0_1 : Int) (a0_2 : Int) (a0_3 : Int) (a1_0 : Int) (a1_1 : Int) (a1_2 : Int) (a1_3 : Int) : Option (Bool) := if a0_0 = a1_0 then (if a0_1 = a1_1 then (if a0_2 = a1_2 then (if a0_3 = a1_3 then (some true) else (some false)) else (some false)) else (some false)) else (some false)
set_option maxHeartbeats 8000000 in
set_option maxRecDepth 100000 in
theorem laws_eqLine.calls (a0_0 : Int) (a0_1 : Int) (a0_2 : Int) (a0_3 : Int) (a1_0 : Int) (a1_1 : Int) (a1_2 : Int) (a1_3 : Int) (r : Bool) (w : World) (h : laws_eqLine.f a0_0 a0_1 a0_2 a0_3 a1_0 a1_1 a1_2 a1_3 = some r) :
  Calls Try.prog 44 #[.agg #[.int .i64 a0_0, .int .i64 a0_1, .int .i64 a0_2, .int .i64 a0_3], .agg #[.int .i64 a1_0, .int .i64 a1_1, .int .i64 a1_2, .int .i64 a1_3]] w fun e w' => e = .returned (.bool r) ∧ Below w.heap.size w w' := by
 have hu51 := Try.underlying51
 have HB := Aside0.mk (Below.refl w.heap.size w)
 have H : (if a0_0 = a1_0 then (if a0_1 = a1_1 then (if a0_2 = a1_2 then (if a0_3 = a1_3 then (some true) else (some false)) else (some false)) else (some false)) else (some false)) = some r := h
 clear h
 by_cases c3 : a0_0 = a1_0
 ·rw [if_pos c3] at H
  have c3b0 : (a0_0 == a1_0) = true := beq_iff_eq.mpr c3
  have c3b1 : (a0_0 != a1_0) = false := bne_eq_false_iff_eq.mpr c3
  clear c3
  by_cases c4 : a0_1 = a1_1
  ·rw [if_pos c4] at H
   have c4b0 : (a0_1 == a1_1) = true := beq_iff_eq.mpr c4
   have c4b1 : (a0_1 != a1_1) = false := bne_eq_false_iff_eq.mpr c4
   clear c4
   by_cases c5 : a0_2 = a1_2
   ·rw [if_pos c5] at H
    have c5b0 : (a0_2 == a1_2) = true := beq_iff_eq.mpr c5
    have c5b1 : (a0_2 != a1_2) = false := bne_eq_false_iff_eq.mpr c5
    clear c5
    by_cases c6 : a0_3 = a1_3
    ·rw [if_pos c6] at H
     have c6b0 : (a0_3 == a1_3) = true := beq_iff_eq.mpr c6
     have c6b1 : (a0_3 != a1_3) = false := bne_eq_false_iff_eq.mpr c6
     clear c6
     obtain rfl := Option.some.inj H
     go_enter Try.func44, Try.ntmps44
     go_wp2_with (first | ((with_reducible refine gate_dst (N := 2) rfl ?_); refine box_event ?hg (N := 2) ?hd (cs := #[.int .i64 a0_0, .int .i64 a0_1, .int .i64 a0_2, .int .i64 a0_3]) (t := 51) ?hr ?_; (case hd => rfl); (case hg => rfl); (case hr => first | (go_simp; done) | (go_simp; rfl)); intro gb307 hg w7 hbox hb; have n0_ := Aside0.mk (below_step (by repeat (first | (with_reducible first | exact HB.out | apply below_alloc | apply pw_below_drewN | apply below_drew1) | exact HB.out)) hb); have n1_ := Aside0.mk (hbox); have n2_ := Aside0.mk ((by rw [hg]; exact (below_size (by repeat (first | (with_reducible first | exact HB.out | apply below_alloc | apply pw_below_drewN | apply below_drew1) | exact HB.out))) : w.heap.size ≤ gb307)); have n3_ := Aside0.mk ((by rw [hg]; exact (below_size (by repeat (first | (with_reducible first | exact HB.out | apply below_alloc | apply pw_below_drewN | apply below_drew1) | exact HB.out))) : w.heap.size ≤ gb307)); clear HB; have HB := n0_; have BK307 := n1_; have GW307 := n2_; have GE307 := n3_; clear n0_ n1_ n2_ n3_; clear hb hbox hg) | ((with_reducible refine gate_dst (N := 3) rfl ?_); refine box_event ?hg (N := 3) ?hd (cs := #[.int .i64 a1_0, .int .i64 a1_1, .int .i64 a1_2, .int .i64 a1_3]) (t := 51) ?hr ?_; (case hd => rfl); (case hg => rfl); (case hr => first | (go_simp; done) | (go_simp; rfl)); intro gb308 hg w8 hbox hb; have n0_ := Aside0.mk (blk_below (g := gb307) (o := .cells #[.int .i64 a0_0, .int .i64 a0_1, .int .i64 a0_2, .int .i64 a0_3] 51 (0, 0)) (by (with_reducible repeat (first | refine blk_drewN ?_ _ | refine blk_drew ?_ | refine blk_alloc ?_ _)); exact BK307.out) hb); have n1_ := Aside0.mk (below_step (by repeat (first | (with_reducible first | exact HB.out | apply below_alloc | apply pw_below_drewN | apply below_drew1 | refine below_set ?_ GE307.out) | exact HB.out)) hb); have n2_ := Aside0.mk (hbox); have n3_ := Aside0.mk ((by rw [hg]; exact (below_size (by repeat (first | (with_reducible first | exact HB.out | apply below_alloc | apply pw_below_drewN | apply below_drew1 | refine below_set ?_ GE307.out) | exact HB.out))) : w.heap.size ≤ gb308)); have n4_ := Aside0.mk ((by rw [hg]; exact (below_size (by repeat (first | (with_reducible first | exact HB.out | apply below_alloc | apply pw_below_drewN | apply below_drew1 | refine below_set ?_ GE307.out) | exact HB.out))) : w.heap.size ≤ gb308)); have n5_ := Aside0.mk ((by rw [hg]; exact Nat.ne_of_lt (blk_lt (g := gb307) (o := .cells #[.int .i64 a0_0, .int .i64 a0_1, .int .i64 a0_2, .int .i64 a0_3] 51 (0, 0)) (by (with_reducible repeat (first | refine blk_drewN ?_ _ | refine blk_drew ?_ | refine blk_alloc ?_ _)); exact BK307.out)) : gb307 ≠ gb308)); have n6_ := Aside0.mk ((by rw [hg]; exact Nat.ne_of_gt (blk_lt (g := gb307) (o := .cells #[.int .i64 a0_0, .int .i64 a0_1, .int .i64 a0_2, .int .i64 a0_3] 51 (0, 0)) (by (with_reducible repeat (first | refine blk_drewN ?_ _ | refine blk_drew ?_ | refine blk_alloc ?_ _)); exact BK307.out)) : gb308 ≠ gb307)); clear BK307; clear HB; have BK307 := n0_; have HB := n1_; have BK308 := n2_; have GW308 := n3_; have GE308 := n4_; have NB307_308 := n5_; have NB308_307 := n6_; clear n0_ n1_ n2_ n3_ n4_ n5_ n6_; clear hb hbox hg; have hnb9 := NB307_308.out; have hnc9 := NB308_307.out; have hcz10_0 : w8.cell? ⟨gb307, 0, none⟩ = some (.int .i64 a0_0) := (blk_cell BK307.out 0).trans rfl; have hcz10_1 : w8.cell? ⟨gb307, 1, none⟩ = some (.int .i64 a0_1) := (blk_cell BK307.out 1).trans rfl; have hcz10_2 : w8.cell? ⟨gb307, 2, none⟩ = some (.int .i64 a0_2) := (blk_cell BK307.out 2).trans rfl; have hcz10_3 : w8.cell? ⟨gb307, 3, none⟩ = some (.int .i64 a0_3) := (blk_cell BK307.out 3).trans rfl; have hfz10_0 := blk_frozen BK307.out 0; have hfz10_1 := blk_frozen BK307.out 1; have hfz10_2 := blk_frozen BK307.out 2; have hfz10_3 := blk_frozen BK307.out 3; have hcz11_0 : w8.cell? ⟨gb308, 0, none⟩ = some (.int .i64 a1_0) := (blk_cell BK308.out 0).trans rfl; have hcz11_1 : w8.cell? ⟨gb308, 1, none⟩ = some (.int .i64 a1_1) := (blk_cell BK308.out 1).trans rfl; have hcz11_2 : w8.cell? ⟨gb308, 2, none⟩ = some (.int .i64 a1_2) := (blk_cell BK308.out 2).trans rfl; have hcz11_3 : w8.cell? ⟨gb308, 3, none⟩ = some (.int .i64 a1_3) := (blk_cell BK308.out 3).trans rfl; have hfz11_0 := blk_frozen BK308.out 0; have hfz11_1 := blk_frozen BK308.out 1; have hfz11_2 := blk_frozen BK308.out 2; have hfz11_3 := blk_frozen BK308.out 3))
     go_ret
     exact ⟨by first | rfl | (simp [errW_none, errW_some] <;> rfl) | (simp [*, errW_none, errW_some] <;> rfl), by repeat (first | (with_reducible first | exact HB.out | apply below_alloc | apply pw_below_drewN | apply below_drew1 | refine below_set ?_ GE307.out | refine below_set ?_ GE308.out) | exact HB.out)⟩
    ·rw [if_neg c6] at H
     have c6b0 : (a0_3 == a1_3) = false := beq_eq_false_iff_ne.mpr c6
     have c6b1 : (a0_3 != a1_3) = true := bne_iff_ne.mpr c6
     obtain rfl := Option.some.inj H
     go_enter Try.func44, Try.ntmps44
     go_wp2_with (first | ((with_reducible refine gate_dst (N := 2) rfl ?_); refine box_event ?hg (N := 2) ?hd (cs := #[.int .i64 a0_0, .int .i64 a0_1, .int .i64 a0_2, .int .i64 a0_3]) (t := 51) ?hr ?_; (case hd => rfl); (case hg => rfl); (case hr => first | (go_simp; done) | (go_simp; rfl)); intro gb307 hg w12 hbox hb; have n0_ := Aside0.mk (below_step (by repeat (first | (with_reducible first | exact HB.out | apply below_alloc | apply pw_below_drewN | apply below_drew1) | exact HB.out)) hb); have n1_ := Aside0.mk (hbox); have n2_ := Aside0.mk ((by rw [hg]; exact (below_size (by repeat (first | (with_reducible first | exact HB.out | apply below_alloc | apply pw_below_drewN | apply below_drew1) | exact HB.out))) : w.heap.size ≤ gb307)); have n3_ := Aside0.mk ((by rw [hg]; exact (below_size (by repeat (first | (with_reducible first | exact HB.out | apply below_alloc | apply pw_below_drewN | apply below_drew1) | exact HB.out))) : w.heap.size ≤ gb307)); clear HB; have HB := n0_; have BK307 := n1_; have GW307 := n2_; have GE307 := n3_; clear n0_ n1_ n2_ n3_; clear hb hbox hg) | ((with_reducible refine gate_dst (N := 3) rfl ?_); refine box_event ?hg (N := 3) ?hd (cs := #[.int .i64 a1_0, .int .i64 a1_1, .int .i64 a1_2, .int .i64 a1_3]) (t := 51) ?hr ?_; (case hd => rfl); (case hg => rfl); (case hr => first | (go_simp; done) | (go_simp; rfl)); intro gb308 hg w13 hbox hb; have n0_ := Aside0.mk (blk_below (g := gb307) (o := .cells #[.int .i64 a0_0, .int .i64 a0_1, .int .i64 a0_2, .int .i64 a0_3] 51 (0, 0)) (by (with_reducible repeat (first | refine blk_drewN ?_ _ | refine blk_drew ?_ | refine blk_alloc ?_ _)); exact BK307.out) hb); have n1_ := Aside0.mk (below_step (by repeat (first | (with_reducible first | exact HB.out | apply below_alloc | apply pw_below_drewN | apply below_drew1 | refine below_set ?_ GE307.out) | exact HB.out)) hb); have n2_ := Aside0.mk (hbox); have n3_ := Aside0.mk ((by rw [hg]; exact (below_size (by repeat (first | (with_reducible first | exact HB.out | apply below_alloc | apply pw_below_drewN | apply below_drew1 | refine below_set ?_ GE307.out) | exact HB.out))) : w.heap.size ≤ gb308)); have n4_ := Aside0.mk ((by rw [hg]; exact (below_size (by repeat (first | (with_reducible first | exact HB.out | apply below_alloc | apply pw_below_drewN | apply below_drew1 | refine below_set ?_ GE307.out) | exact HB.out))) : w.heap.size ≤ gb308)); have n5_ := Aside0.mk ((by rw [hg]; exact Nat.ne_of_lt (blk_lt (g := gb307) (o := .cells #[.int .i64 a0_0, .int .i64 a0_1, .int .i64 a0_2, .int .i64 a0_3] 51 (0, 0)) (by (with_reducible repeat (first | refine blk_drewN ?_ _ | refine blk_drew ?_ | refine blk_alloc ?_ _)); exact BK307.out)) : gb307 ≠ gb308)); have n6_ := Aside0.mk ((by rw [hg]; exact Nat.ne_of_gt (blk_lt (g := gb307) (o := .cells #[.int .i64 a0_0, .int .i64 a0_1, .int .i64 a0_2, .int .i64 a0_3] 51 (0, 0)) (by (with_reducible repeat (first | refine blk_drewN ?_ _ | refine blk_drew ?_ | refine blk_alloc ?_ _)); exact BK307.out)) : gb308 ≠ gb307)); clear BK307; clear HB; have BK307 := n0_; have HB := n1_; have BK308 := n2_; have GW308 := n3_; have GE308 := n4_; have NB307_308 := n5_; have NB308_307 := n6_; clear n0_ n1_ n2_ n3_ n4_ n5_ n6_; clear hb hbox hg; have hnb14 := NB307_308.out; have hnc14 := NB308_307.out; have hcz15_0 : w13.cell? ⟨gb307, 0, none⟩ = some (.int .i64 a0_0) := (blk_cell BK307.out 0).trans rfl; have hcz15_1 : w13.cell? ⟨gb307, 1, none⟩ = some (.int .i64 a0_1) := (blk_cell BK307.out 1).trans rfl; have hcz15_2 : w13.cell? ⟨gb307, 2, none⟩ = some (.int .i64 a0_2) := (blk_cell BK307.out 2).trans rfl; have hcz15_3 : w13.cell? ⟨gb307, 3, none⟩ = some (.int .i64 a0_3) := (blk_cell BK307.out 3).trans rfl; have hfz15_0 := blk_frozen BK307.out 0; have hfz15_1 := blk_frozen BK307.out 1; have hfz15_2 := blk_frozen BK307.out 2; have hfz15_3 := blk_frozen BK307.out 3; have hcz16_0 : w13.cell? ⟨gb308, 0, none⟩ = some (.int .i64 a1_0) := (blk_cell BK308.out 0).trans rfl; have hcz16_1 : w13.cell? ⟨gb308, 1, none⟩ = some (.int .i64 a1_1) := (blk_cell BK308.out 1).trans rfl; have hcz16_2 : w13.cell? ⟨gb308, 2, none⟩ = some (.int .i64 a1_2) := (blk_cell BK308.out 2).trans rfl; have hcz16_3 : w13.cell? ⟨gb308, 3, none⟩ = some (.int .i64 a1_3) := (blk_cell BK308.out 3).trans rfl; have hfz16_0 := blk_frozen BK308.out 0; have hfz16_1 := blk_frozen BK308.out 1; have hfz16_2 := blk_frozen BK308.out 2; have hfz16_3 := blk_frozen BK308.out 3))
     go_ret
     exact ⟨by first | rfl | (simp [errW_none, errW_some] <;> rfl) | (simp [*, errW_none, errW_some] <;> rfl), by repeat (first | (with_reducible first | exact HB.out | apply below_alloc | apply pw_below_drewN | apply below_drew1 | refine below_set ?_ GE307.out | refine below_set ?_ GE308.out) | exact HB.out)⟩
   ·rw [if_neg c5] at H
    have c5b0 : (a0_2 == a1_2) = false := beq_eq_false_iff_ne.mpr c5
    have c5b1 : (a0_2 != a1_2) = true := bne_iff_ne.mpr c5
    obtain rfl := Option.some.inj H
    go_enter Try.func44, Try.ntmps44
    go_wp2_with (first | ((with_reducible refine gate_dst (N := 2) rfl ?_); refine box_event ?hg (N := 2) ?hd (cs := #[.int .i64 a0_0, .int .i64 a0_1, .int .i64 a0_2, .int .i64 a0_3]) (t := 51) ?hr ?_; (case hd => rfl); (case hg => rfl); (case hr => first | (go_simp; done) | (go_simp; rfl)); intro gb307 hg w17 hbox hb; have n0_ := Aside0.mk (below_step (by repeat (first | (with_reducible first | exact HB.out | apply below_alloc | apply pw_below_drewN | apply below_drew1) | exact HB.out)) hb); have n1_ := Aside0.mk (hbox); have n2_ := Aside0.mk ((by rw [hg]; exact (below_size (by repeat (first | (with_reducible first | exact HB.out | apply below_alloc | apply pw_below_drewN | apply below_drew1) | exact HB.out))) : w.heap.size ≤ gb307)); have n3_ := Aside0.mk ((by rw [hg]; exact (below_size (by repeat (first | (with_reducible first | exact HB.out | apply below_alloc | apply pw_below_drewN | apply below_drew1) | exact HB.out))) : w.heap.size ≤ gb307)); clear HB; have HB := n0_; have BK307 := n1_; have GW307 := n2_; have GE307 := n3_; clear n0_ n1_ n2_ n3_; clear hb hbox hg) | ((with_reducible refine gate_dst (N := 3) rfl ?_); refine box_event ?hg (N := 3) ?hd (cs := #[.int .i64 a1_0, .int .i64 a1_1, .int .i64 a1_2, .int .i64 a1_3]) (t := 51) ?hr ?_; (case hd => rfl); (case hg => rfl); (case hr => first | (go_simp; done) | (go_simp; rfl)); intro gb308 hg w18 hbox hb; have n0_ := Aside0.mk (blk_below (g := gb307) (o := .cells #[.int .i64 a0_0, .int .i64 a0_1, .int .i64 a0_2, .int .i64 a0_3] 51 (0, 0)) (by (with_reducible repeat (first | refine blk_drewN ?_ _ | refine blk_drew ?_ | refine blk_alloc ?_ _)); exact BK307.out) hb); have n1_ := Aside0.mk (below_step (by repeat (first | (with_reducible first | exact HB.out | apply below_alloc | apply pw_below_drewN | apply below_drew1 | refine below_set ?_ GE307.out) | exact HB.out)) hb); have n2_ := Aside0.mk (hbox); have n3_ := Aside0.mk ((by rw [hg]; exact (below_size (by repeat (first | (with_reducible first | exact HB.out | apply below_alloc | apply pw_below_drewN | apply below_drew1 | refine below_set ?_ GE307.out) | exact HB.out))) : w.heap.size ≤ gb308)); have n4_ := Aside0.mk ((by rw [hg]; exact (below_size (by repeat (first | (with_reducible first | exact HB.out | apply below_alloc | apply pw_below_drewN | apply below_drew1 | refine below_set ?_ GE307.out) | exact HB.out))) : w.heap.size ≤ gb308)); have n5_ := Aside0.mk ((by rw [hg]; exact Nat.ne_of_lt (blk_lt (g := gb307) (o := .cells #[.int .i64 a0_0, .int .i64 a0_1, .int .i64 a0_2, .int .i64 a0_3] 51 (0, 0)) (by (with_reducible repeat (first | refine blk_drewN ?_ _ | refine blk_drew ?_ | refine blk_alloc ?_ _)); exact BK307.out)) : gb307 ≠ gb308)); have n6_ := Aside0.mk ((by rw [hg]; exact Nat.ne_of_gt (blk_lt (g := gb307) (o := .cells #[.int .i64 a0_0, .int .i64 a0_1, .int .i64 a0_2, .int .i64 a0_3] 51 (0, 0)) (by (with_reducible repeat (first | refine blk_drewN ?_ _ | refine blk_drew ?_ | refine blk_alloc ?_ _)); exact BK307.out)) : gb308 ≠ gb307)); clear BK307; clear HB; have BK307 := n0_; have HB := n1_; have BK308 := n2_; have GW308 := n3_; have GE308 := n4_; have NB307_308 := n5_; have NB308_307 := n6_; clear n0_ n1_ n2_ n3_ n4_ n5_ n6_; clear hb hbox hg; have hnb19 := NB307_308.out; have hnc19 := NB308_307.out; have hcz20_0 : w18.cell? ⟨gb307, 0, none⟩ = some (.int .i64 a0_0) := (blk_cell BK307.out 0).trans rfl; have hcz20_1 : w18.cell? ⟨gb307, 1, none⟩ = some (.int .i64 a0_1) := (blk_cell BK307.out 1).trans rfl; have hcz20_2 : w18.cell? ⟨gb307, 2, none⟩ = some (.int .i64 a0_2) := (blk_cell BK307.out 2).trans rfl; have hcz20_3 : w18.cell? ⟨gb307, 3, none⟩ = some (.int .i64 a0_3) := (blk_cell BK307.out 3).trans rfl; have hfz20_0 := blk_frozen BK307.out 0; have hfz20_1 := blk_frozen BK307.out 1; have hfz20_2 := blk_frozen BK307.out 2; have hfz20_3 := blk_frozen BK307.out 3; have hcz21_0 : w18.cell? ⟨gb308, 0, none⟩ = some (.int .i64 a1_0) := (blk_cell BK308.out 0).trans rfl; have hcz21_1 : w18.cell? ⟨gb308, 1, none⟩ = some (.int .i64 a1_1) := (blk_cell BK308.out 1).trans rfl; have hcz21_2 : w18.cell? ⟨gb308, 2, none⟩ = some (.int .i64 a1_2) := (blk_cell BK308.out 2).trans rfl; have hcz21_3 : w18.cell? ⟨gb308, 3, none⟩ = some (.int .i64 a1_3) := (blk_cell BK308.out 3).trans rfl; have hfz21_0 := blk_frozen BK308.out 0; have hfz21_1 := blk_frozen BK308.out 1; have hfz21_2 := blk_frozen BK308.out 2; have hfz21_3 := blk_frozen BK308.out 3))
    go_ret
    exact ⟨by first | rfl | (simp [errW_none, errW_some] <;> rfl) | (simp [*, errW_none, errW_some] <;> rfl), by repeat (first | (with_reducible first | exact HB.out | apply below_alloc | apply pw_below_drewN | apply below_drew1 | refine below_set ?_ GE307.out | refine below_set ?_ GE308.out) | exact HB.out)⟩
  ·rw [if_neg c4] at H
   have c4b0 : (a0_1 == a1_1) = false := beq_eq_false_iff_ne.mpr c4
   have c4b1 : (a0_1 != a1_1) = true := bne_iff_ne.mpr c4
   obtain rfl := Option.some.inj H
   go_enter Try.func44, Try.ntmps44
   go_wp2_with (first | ((with_reducible refine gate_dst (N := 2) rfl ?_); refine box_event ?hg (N := 2) ?hd (cs := #[.int .i64 a0_0, .int .i64 a0_1, .int .i64 a0_2, .int .i64 a0_3]) (t := 51) ?hr ?_; (case hd => rfl); (case hg => rfl); (case hr => first | (go_simp; done) | (go_simp; rfl)); intro gb307 hg w22 hbox hb; have n0_ := Aside0.mk (below_step (by repeat (first | (with_reducible first | exact HB.out | apply below_alloc | apply pw_below_drewN | apply below_drew1) | exact HB.out)) hb); have n1_ := Aside0.mk (hbox); have n2_ := Aside0.mk ((by rw [hg]; exact (below_size (by repeat (first | (with_reducible first | exact HB.out | apply below_alloc | apply pw_below_drewN | apply below_drew1) | exact HB.out))) : w.heap.size ≤ gb307)); have n3_ := Aside0.mk ((by rw [hg]; exact (below_size (by repeat (first | (with_reducible first | exact HB.out | apply below_alloc | apply pw_below_drewN | apply below_drew1) | exact HB.out))) : w.heap.size ≤ gb307)); clear HB; have HB := n0_; have BK307 := n1_; have GW307 := n2_; have GE307 := n3_; clear n0_ n1_ n2_ n3_; clear hb hbox hg) | ((with_reducible refine gate_dst (N := 3) rfl ?_); refine box_event ?hg (N := 3) ?hd (cs := #[.int .i64 a1_0, .int .i64 a1_1, .int .i64 a1_2, .int .i64 a1_3]) (t := 51) ?hr ?_; (case hd => rfl); (case hg => rfl); (case hr => first | (go_simp; done) | (go_simp; rfl)); intro gb308 hg w23 hbox hb; have n0_ := Aside0.mk (blk_below (g := gb307) (o := .cells #[.int .i64 a0_0, .int .i64 a0_1, .int .i64 a0_2, .int .i64 a0_3] 51 (0, 0)) (by (with_reducible repeat (first | refine blk_drewN ?_ _ | refine blk_drew ?_ | refine blk_alloc ?_ _)); exact BK307.out) hb); have n1_ := Aside0.mk (below_step (by repeat (first | (with_reducible first | exact HB.out | apply below_alloc | apply pw_below_drewN | apply below_drew1 | refine below_set ?_ GE307.out) | exact HB.out)) hb); have n2_ := Aside0.mk (hbox); have n3_ := Aside0.mk ((by rw [hg]; exact (below_size (by repeat (first | (with_reducible first | exact HB.out | apply below_alloc | apply pw_below_drewN | apply below_drew1 | refine below_set ?_ GE307.out) | exact HB.out))) : w.heap.size ≤ gb308)); have n4_ := Aside0.mk ((by rw [hg]; exact (below_size (by repeat (first | (with_reducible first | exact HB.out | apply below_alloc | apply pw_below_drewN | apply below_drew1 | refine below_set ?_ GE307.out) | exact HB.out))) : w.heap.size ≤ gb308)); have n5_ := Aside0.mk ((by rw [hg]; exact Nat.ne_of_lt (blk_lt (g := gb307) (o := .cells #[.int .i64 a0_0, .int .i64 a0_1, .int .i64 a0_2, .int .i64 a0_3] 51 (0, 0)) (by (with_reducible repeat (first | refine blk_drewN ?_ _ | refine blk_drew ?_ | refine blk_alloc ?_ _)); exact BK307.out)) : gb307 ≠ gb308)); have n6_ := Aside0.mk ((by rw [hg]; exact Nat.ne_of_gt (blk_lt (g := gb307) (o := .cells #[.int .i64 a0_0, .int .i64 a0_1, .int .i64 a0_2, .int .i64 a0_3] 51 (0, 0)) (by (with_reducible repeat (first | refine blk_drewN ?_ _ | refine blk_drew ?_ | refine blk_alloc ?_ _)); exact BK307.out)) : gb308 ≠ gb307)); clear BK307; clear HB; have BK307 := n0_; have HB := n1_; have BK308 := n2_; have GW308 := n3_; have GE308 := n4_; have NB307_308 := n5_; have NB308_307 := n6_; clear n0_ n1_ n2_ n3_ n4_ n5_ n6_; clear hb hbox hg; have hnb24 := NB307_308.out; have hnc24 := NB308_307.out; have hcz25_0 : w23.cell? ⟨gb307, 0, none⟩ = some (.int .i64 a0_0) := (blk_cell BK307.out 0).trans rfl; have hcz25_1 : w23.cell? ⟨gb307, 1, none⟩ = some (.int .i64 a0_1) := (blk_cell BK307.out 1).trans rfl; have hcz25_2 : w23.cell? ⟨gb307, 2, none⟩ = some (.int .i64 a0_2) := (blk_cell BK307.out 2).trans rfl; have hcz25_3 : w23.cell? ⟨gb307, 3, none⟩ = some (.int .i64 a0_3) := (blk_cell BK307.out 3).trans rfl; have hfz25_0 := blk_frozen BK307.out 0; have hfz25_1 := blk_frozen BK307.out 1; have hfz25_2 := blk_frozen BK307.out 2; have hfz25_3 := blk_frozen BK307.out 3; have hcz26_0 : w23.cell? ⟨gb308, 0, none⟩ = some (.int .i64 a1_0) := (blk_cell BK308.out 0).trans rfl; have hcz26_1 : w23.cell? ⟨gb308, 1, none⟩ = some (.int .i64 a1_1) := (blk_cell BK308.out 1).trans rfl; have hcz26_2 : w23.cell? ⟨gb308, 2, none⟩ = some (.int .i64 a1_2) := (blk_cell BK308.out 2).trans rfl; have hcz26_3 : w23.cell? ⟨gb308, 3, none⟩ = some (.int .i64 a1_3) := (blk_cell BK308.out 3).trans rfl; have hfz26_0 := blk_frozen BK308.out 0; have hfz26_1 := blk_frozen BK308.out 1; have hfz26_2 := blk_frozen BK308.out 2; have hfz26_3 := blk_frozen BK308.out 3))
   go_ret
   exact ⟨by first | rfl | (simp [errW_none, errW_some] <;> rfl) | (simp [*, errW_none, errW_some] <;> rfl), by repeat (first | (with_reducible first | exact HB.out | apply below_alloc | apply pw_below_drewN | apply below_drew1 | refine below_set ?_ GE307.out | refine below_set ?_ GE308.out) | exact HB.out)⟩
 ·rw [if_neg c3] at H
  have c3b0 : (a0_0 == a1_0) = false := beq_eq_false_iff_ne.mpr c3
  have c3b1 : (a0_0 != a1_0) = true := bne_iff_ne.mpr c3
  obtain rfl := Option.some.inj H
  go_enter Try.func44, Try.ntmps44
  go_wp2_with (first | ((with_reducible refine gate_dst (N := 2) rfl ?_); refine box_event ?hg (N := 2) ?hd (cs := #[.int .i64 a0_0, .int .i64 a0_1, .int .i64 a0_2, .int .i64 a0_3]) (t := 51) ?hr ?_; (case hd => rfl); (case hg => rfl); (case hr => first | (go_simp; done) | (go_simp; rfl)); intro gb307 hg w27 hbox hb; have n0_ := Aside0.mk (below_step (by repeat (first | (with_reducible first | exact HB.out | apply below_alloc | apply pw_below_drewN | apply below_drew1) | exact HB.out)) hb); have n1_ := Aside0.mk (hbox); have n2_ := Aside0.mk ((by rw [hg]; exact (below_size (by repeat (first | (with_reducible first | exact HB.out | apply below_alloc | apply pw_below_drewN | apply below_drew1) | exact HB.out))) : w.heap.size ≤ gb307)); have n3_ := Aside0.mk ((by rw [hg]; exact (below_size (by repeat (first | (with_reducible first | exact HB.out | apply below_alloc | apply pw_below_drewN | apply below_drew1) | exact HB.out))) : w.heap.size ≤ gb307)); clear HB; have HB := n0_; have BK307 := n1_; have GW307 := n2_; have GE307 := n3_; clear n0_ n1_ n2_ n3_; clear hb hbox hg) | ((with_reducible refine gate_dst (N := 3) rfl ?_); refine box_event ?hg (N := 3) ?hd (cs := #[.int .i64 a1_0, .int .i64 a1_1, .int .i64 a1_2, .int .i64 a1_3]) (t := 51) ?hr ?_; (case hd => rfl); (case hg => rfl); (case hr => first | (go_simp; done) | (go_simp; rfl)); intro gb308 hg w28 hbox hb; have n0_ := Aside0.mk (blk_below (g := gb307) (o := .cells #[.int .i64 a0_0, .int .i64 a0_1, .int .i64 a0_2, .int .i64 a0_3] 51 (0, 0)) (by (with_reducible repeat (first | refine blk_drewN ?_ _ | refine blk_drew ?_ | refine blk_alloc ?_ _)); exact BK307.out) hb); have n1_ := Aside0.mk (below_step (by repeat (first | (with_reducible first | exact HB.out | apply below_alloc | apply pw_below_drewN | apply below_drew1 | refine below_set ?_ GE307.out) | exact HB.out)) hb); have n2_ := Aside0.mk (hbox); have n3_ := Aside0.mk ((by rw [hg]; exact (below_size (by repeat (first | (with_reducible first | exact HB.out | apply below_alloc | apply pw_below_drewN | apply below_drew1 | refine below_set ?_ GE307.out) | exact HB.out))) : w.heap.size ≤ gb308)); have n4_ := Aside0.mk ((by rw [hg]; exact (below_size (by repeat (first | (with_reducible first | exact HB.out | apply below_alloc | apply pw_below_drewN | apply below_drew1 | refine below_set ?_ GE307.out) | exact HB.out))) : w.heap.size ≤ gb308)); have n5_ := Aside0.mk ((by rw [hg]; exact Nat.ne_of_lt (blk_lt (g := gb307) (o := .cells #[.int .i64 a0_0, .int .i64 a0_1, .int .i64 a0_2, .int .i64 a0_3] 51 (0, 0)) (by (with_reducible repeat (first | refine blk_drewN ?_ _ | refine blk_drew ?_ | refine blk_alloc ?_ _)); exact BK307.out)) : gb307 ≠ gb308)); have n6_ := Aside0.mk ((by rw [hg]; exact Nat.ne_of_gt (blk_lt (g := gb307) (o := .cells #[.int .i64 a0_0, .int .i64 a0_1, .int .i64 a0_2, .int .i64 a0_3] 51 (0, 0)) (by (with_reducible repeat (first | refine blk_drewN ?_ _ | refine blk_drew ?_ | refine blk_alloc ?_ _)); exact BK307.out)) : gb308 ≠ gb307)); clear BK307; clear HB; have BK307 := n0_; have HB := n1_; have BK308 := n2_; have GW308 := n3_; have GE308 := n4_; have NB307_308 := n5_; have NB308_307 := n6_; clear n0_ n1_ n2_ n3_ n4_ n5_ n6_; clear hb hbox hg; have hnb29 := NB307_308.out; have hnc29 := NB308_307.out; have hcz30_0 : w28.cell? ⟨gb307, 0, none⟩ = some (.int .i64 a0_0) := (blk_cell BK307.out 0).trans rfl; have hcz30_1 : w28.cell? ⟨gb307, 1, none⟩ = some (.int .i64 a0_1) := (blk_cell BK307.out 1).trans rfl; have hcz30_2 : w28.cell? ⟨gb307, 2, none⟩ = some (.int .i64 a0_2) := (blk_cell BK307.out 2).trans rfl; have hcz30_3 : w28.cell? ⟨gb307, 3, none⟩ = some (.int .i64 a0_3) := (blk_cell BK307.out 3).trans rfl; have hfz30_0 := blk_frozen BK307.out 0; have hfz30_1 := blk_frozen BK307.out 1; have hfz30_2 := blk_frozen BK307.out 2; have hfz30_3 := blk_frozen BK307.out 3; have hcz31_0 : w28.cell? ⟨gb308, 0, none⟩ = some (.int .i64 a1_0) := (blk_cell BK308.out 0).trans rfl; have hcz31_1 : w28.cell? ⟨gb308, 1, none⟩ = some (.int .i64 a1_1) := (blk_cell BK308.out 1).trans rfl; have hcz31_2 : w28.cell? ⟨gb308, 2, none⟩ = some (.int .i64 a1_2) := (blk_cell BK308.out 2).trans rfl; have hcz31_3 : w28.cell? ⟨gb308, 3, none⟩ = some (.int .i64 a1_3) := (blk_cell BK308.out 3).trans rfl; have hfz31_0 := blk_frozen BK308.out 0; have hfz31_1 := blk_frozen BK308.out 1; have hfz31_2 := blk_frozen BK308.out 2; have hfz31_3 := blk_frozen BK308.out 3))
  go_ret
  exact ⟨by first | rfl | (simp [errW_none, errW_some] <;> rfl) | (simp [*, errW_none, errW_some] <;> rfl), by repeat (first | (with_reducible first | exact HB.out | apply below_alloc | apply pw_below_drewN | apply below_drew1 | refine below_set ?_ GE307.out | refine below_set ?_ GE308.out) | exact HB.out)⟩

end Go.Proofs.Ytppfdndnojbmjaa.X

/-! ## CLine -/
/- Generated by conv.py: what the laws' helpers do with values of type Line. No condition but the lengths that fit. -/
namespace Go.Proofs.Ytppfdndnojbmjaa.C
open Go.RowKit Go.Proofs.YtppfdndnojbmjaaW.PrintWords Go.Proofs.Ytppfdndnojbmjaa.X Go.Proofs.Ytppfdndnojbmjaa.B
theorem rdat_T51 {xs : List S51} {i : Nat} (h : i < xs.length) : rd_T51 xs (i : Int) = xs[i] := by unfold rd_T51; rw [Int.toNat_natCast]; exact getD_at h _
theorem rdat_T60 {xs : List S60} {i : Nat} (h : i < xs.length) : rd_T60 xs (i : Int) = xs[i] := by unfold rd_T60; rw [Int.toNat_natCast]; exact getD_at h _
def c_Line (x : S60) : S51 := ⟨x.f0, x.f1, x.f2, x.f3⟩
theorem to_Line (v0 : Int) (v1 : Int) (v2 : Int) (v3 : Int) : Ev (fun k => laws_toLine.f v0 v1 v2 v3) (v0, v1, v2, v3) := by
  exact (Ev.const fun _ => rfl)
theorem eq_Line (v0 : Int) (v1 : Int) (v2 : Int) (v3 : Int) : Ev (fun k => laws_eqLine.f v0 v1 v2 v3 v0 v1 v2 v3) true := by
  unfold laws_eqLine.f
  refine Ev.ifPos rfl ?_
  refine Ev.ifPos rfl ?_
  refine Ev.ifPos rfl ?_
  refine Ev.ifPos rfl ?_
  exact Ev.const fun _ => rfl
end Go.Proofs.Ytppfdndnojbmjaa.C

/-! ## XLawsSzLineS -/
namespace Go.Proofs.Ytppfdndnojbmjaa.X
open Go.RowKit Go.Proofs.Ytppfdndnojbmjaa.XV Go.Proofs.YtppfdndnojbmjaaW.PrintWords Go.Proofs.YtppfdndnojbmjaaW.PrintLast Go.Proofs.YtppfdndnojbmjaaW.PrintMore
attribute [local go_sem] max2_int min2_int max_two min_two max_three min_three max_four min_four

def laws_szLineS.f (l0 : List (S60)) (a1 : Int) : Option (Int) := if (wrap64 (a1 - (l0.length : Int))) < 0 then (some (-1)) else (some (wrap64 (a1 - (l0.length : Int))))
set_option maxHeartbeats 8000000 in
set_option maxRecDepth 100000 in
theorem laws_szLineS.calls (A0 : Option Addr) (c0 : Nat) (l0 : List (S60)) (a1 : Int) (r : Int) (w : World) (hr0 : Kd.C k60 w A0 l0.length l0) (hc0 : l0.length ≤ c0) (h : laws_szLineS.f l0 a1 = some r) :
  Calls Try.prog 11 #[.slice A0 l0.length c0, .int .i64 a1] w fun e w' => e = .returned (.int .i64 r) ∧ Drawn0 w w' := by
 have HR0 := Aside0.mk hr0
 have HC0 := Aside0.mk hc0
 clear hr0 hc0
 have H : (if (wrap64 (a1 - (l0.length : Int))) < 0 then (some (-1)) else (some (wrap64 (a1 - (l0.length : Int))))) = some r := h
 clear h
 by_cases c3 : (wrap64 (a1 - (l0.length : Int))) < 0
 ·rw [if_pos c3] at H
  have c3b0 : decide ((wrap64 (a1 - (l0.length : Int))) < 0) = true := decide_eq_true c3
  clear c3
  obtain rfl := Option.some.inj H
  go_enter Try.func11, Try.ntmps11
  go_wp2
  go_ret
  exact ⟨by first | rfl | (simp; done) | (simp [*]; done), by repeat (first | exact Drawn0.refl _ | apply Drawn0.step)⟩
 ·rw [if_neg c3] at H
  have c3b0 : decide ((wrap64 (a1 - (l0.length : Int))) < 0) = false := decide_eq_false c3
  clear c3
  obtain rfl := Option.some.inj H
  go_enter Try.func11, Try.ntmps11
  go_wp2
  go_ret
  exact ⟨by first | rfl | (simp; done) | (simp [*]; done), by repeat (first | exact Drawn0.refl _ | apply Drawn0.step)⟩


/-! ## XLawsToLineS -/

def laws_toLineS.l0 : Nat → List (S60) → List (S51) → Int → Option ((List (S51)))
 | 0, _, _, _ => none
 | k + 1, x0, x3, x4 => if x4 < (x0.length : Int) then (if 0 ≤ x4 then ((laws_toLine.f ((rd_T60 x0 x4).f0) ((rd_T60 x0 x4).f1) ((rd_T60 x0 x4).f2) ((rd_T60 x0 x4).f3)).bind fun bt302 => (if x4 < (x3.length : Int) then (laws_toLineS.l0 k x0 (x3.set (x4 : Int).toNat (⟨bt302.1, bt302.2.1, bt302.2.2.1, bt302.2.2.2⟩ : S51)) (wrap64 (x4 + 1))) else (none))) else (none)) else (some x3)
def laws_toLineS.f (k : Nat) (l0 : List (S60)) : Option ((List (S51))) := if 0 ≤ (l0.length : Int) then (if ((l0.length : Int) : Int).toNat ≤ 8796093022208 then (laws_toLineS.l0 k l0 (List.replicate ((l0.length : Int) : Int).toNat z51) 0) else (none)) else (none)
theorem laws_toLineS.mono_l : ∀ k, (∀ y0 y1 y2, LeO (laws_toLineS.l0 k y0 y1 y2) (laws_toLineS.l0 (k + 1) y0 y1 y2))
 | 0 => fun _ _ _ r h => by simp [laws_toLineS.l0] at h
 | k + 1 => by
  have ih0 := laws_toLineS.mono_l k
  ·intro y0 y1 y2
   unfold laws_toLineS.l0
   repeat' first
   | (with_reducible exact ih0 _ _ _)
   | (with_reducible exact LeO.refl _)
   | (with_reducible exact LeO.none _)
   | (with_reducible refine LeO.ite ?_ ?_)
   | (with_reducible refine LeO.bind ?_ (fun _ => ?_))
   | exact ih0 _ _ _
   | exact LeO.none _
   | refine LeO.ite ?_ ?_
   | refine LeO.bind ?_ (fun _ => ?_)
theorem laws_toLineS.mono : ∀ a0 k, LeO (laws_toLineS.f k a0) (laws_toLineS.f (k + 1) a0) := by
 intro a0 k
 have ih0 := laws_toLineS.mono_l k
 unfold laws_toLineS.f
 repeat' first
   | (with_reducible exact ih0 _ _ _)
   | (with_reducible exact LeO.refl _)
   | (with_reducible exact LeO.none _)
   | (with_reducible refine LeO.ite ?_ ?_)
   | (with_reducible refine LeO.bind ?_ (fun _ => ?_))
   | exact ih0 _ _ _
   | exact LeO.none _
   | refine LeO.ite ?_ ?_
   | refine LeO.bind ?_ (fun _ => ?_)
set_option maxHeartbeats 8000000 in
set_option maxRecDepth 100000 in
theorem laws_toLineS.calls (k : Nat) (A0 : Option Addr) (c0 : Nat) (l0 : List (S60)) (r : List (S51)) (w : World) (hr0 : Kd.C k60 w A0 l0.length l0) (hc0 : l0.length ≤ c0) (h : laws_toLineS.f k l0 = some r) :
  Calls Try.prog 13 #[.slice A0 l0.length c0] w fun e w' => ∃ v0_ : Value, e = .returned (v0_) ∧ Kd.R k51 51 w' w.heap.size (fun _ => True) v0_ r ∧ Below w.heap.size w w' := by
 have hu60 := Try.underlying60
 have hu51 := Try.underlying51
 have HR0 := Aside0.mk hr0
 have HC0 := Aside0.mk hc0
 clear hr0 hc0
 have HB := Aside0.mk (Below.refl w.heap.size w)
 have H : (if 0 ≤ (l0.length : Int) then (if ((l0.length : Int) : Int).toNat ≤ 8796093022208 then (laws_toLineS.l0 k l0 (List.replicate ((l0.length : Int) : Int).toNat z51) 0) else (none)) else (none)) = some r := h
 clear h
 by_cases c2 : 0 ≤ (l0.length : Int)
 ·rw [if_pos c2] at H
  have c2b0 := eq_true c2
  have c2b1 : decide (0 ≤ (l0.length : Int)) = true := decide_eq_true c2
  clear c2
  by_cases c3 : ((l0.length : Int) : Int).toNat ≤ 8796093022208
  ·rw [if_pos c3] at H
   have c3b0 := eq_true c3
   have c3b1 : decide (((l0.length : Int) : Int).toNat ≤ 8796093022208) = true := decide_eq_true c3
   clear c3
   obtain ⟨y298, hy298⟩ : ∃ y_ : List (S51), y_ = (List.replicate ((l0.length : Int) : Int).toNat z51) := ⟨_, rfl⟩
   replace H : (laws_toLineS.l0 k l0 y298 0) = some r := by first | (rw [hy298]; with_reducible exact H) | (have H2_ := (Option.bind_some _ _).symm.trans H; rw [hy298]; with_reducible exact H2_) | (have H2_ := (Option.bind_some _ _).symm.trans H; with_reducible exact H2_) | with_reducible exact H | (rw [hy298]; exact H) | exact H
   have Ny298 := Aside0.mk hy298
   clear hy298
   have H' := Aside0.mk H
   clear H
   go_enter Try.func13, Try.ntmps13
   go_wp2_with (first | ((with_reducible refine gate_dst (N := 7) rfl ?_); refine Kd.R_make k51 _ 51 rfl (N := 7) rfl 26 _ _ rfl (l0.length : Int) rfl rfl Try.underlying26 (.agg #[(.int .i64 0), (.int .i64 0), (.int .i64 0), (.int .i64 0)]) 32 info51 rfl (by decide) (by omega) z51 (ok := fun _ => True) (okp := fun _ => True) (k51_mkM _ _ _ z51 ) (fun _ hk => hk) trivial (of_decide_eq_true (by first | (with_reducible assumption) | assumption)) (Nat.le_trans (Nat.mul_le_mul_right _ (of_decide_eq_true (by first | (with_reducible assumption) | assumption) : (l0.length : Int).toNat ≤ 8796093022208)) (by omega)) (Below.refl _ _) (Nat.le_refl _) ?_; intro v299 w4 ho5 hb hg_ hnew_; clear hg_ hnew_; (first | rw [← Ny298.out] at ho5 | (simp only [Int.reduceToNat] at ho5; rw [← Ny298.out] at ho5)); have n0_ := Aside0.mk (Kd.R_lower ho5 (below_size (by repeat (first | (with_reducible first | exact HB.out | apply below_alloc | apply pw_below_drewN | apply below_drew1) | exact HB.out)))); have n1_ := Aside0.mk (below_step (by repeat (first | (with_reducible first | exact HB.out | apply below_alloc | apply pw_below_drewN | apply below_drew1) | exact HB.out)) hb); clear HB; have HO300 := n0_; have HB := n1_; clear n0_ n1_; clear hb ho5))
   go_loopg [4] k (fun kq v4 w' => ∃ (x3_1 : List (S51)) (x4_1 : Int), v4 = .int .i64 x4_1 ∧ Aside0 (laws_toLineS.l0 kq l0 x3_1 x4_1 = some r) ∧ Aside0 (kq ≤ k) ∧ Aside0 (Kd.R k51 51 w' w.heap.size (fun _ => True) v299 x3_1) ∧ Aside0 (Below w.heap.size w w'))
   case atStart => exact ⟨(y298), (0), (by first | rfl | (simp; done) | (simp [*]; done)), H', ⟨Nat.le_refl _⟩, ⟨by (with_reducible repeat (first | apply Kd.R_alloc | apply Kd.R_drewN | apply Kd.R_drew)); exact HO300.out⟩, ⟨by repeat (first | (with_reducible first | exact HB.out | apply below_alloc | apply pw_below_drewN | apply below_drew1) | exact HB.out)⟩⟩
   case round =>
    clear H'
    try clear c1
    try clear c2
    try clear c2b0
    try clear c2b1
    try clear p2
    try clear c3
    try clear c3b0
    try clear c3b1
    obtain ⟨x3_1, x4_1, rfl, HA, HK1, HO_3, HB⟩ := hrel
    cases gk with
    | zero => exact absurd HA.out (by simp [laws_toLineS.l0])
    | succ k1 =>
     have H := HA.out
     clear HA
     simp only [laws_toLineS.l0] at H
     by_cases c6 : x4_1 < (l0.length : Int)
     ·rw [if_pos c6] at H
      have c6b0 : decide (x4_1 < (l0.length : Int)) = true := decide_eq_true c6
      clear c6
      by_cases c7 : 0 ≤ x4_1
      ·rw [if_pos c7] at H
       have c7b0 : decide (0 ≤ x4_1) = true := decide_eq_true c7
       clear c7
       replace H := Option.bind_eq_some_iff.mp H
       obtain ⟨⟨t302, t303, t304, t305⟩, A80, H⟩ := H
       replace H : (if x4_1 < (x3_1.length : Int) then (laws_toLineS.l0 k1 l0 (x3_1.set (x4_1 : Int).toNat (⟨t302, t303, t304, t305⟩ : S51)) (wrap64 (x4_1 + 1))) else (none)) = some r := H
       have A8 := Aside0.mk A80
       clear A80
       by_cases c9 : x4_1 < (x3_1.length : Int)
       ·rw [if_pos c9] at H
        have c9b0 : decide (x4_1 < (x3_1.length : Int)) = true := decide_eq_true c9
        clear c9
        obtain ⟨y306, hy306⟩ : ∃ y_ : List (S51), y_ = (x3_1.set (x4_1 : Int).toNat (⟨t302, t303, t304, t305⟩ : S51)) := ⟨_, rfl⟩
        replace H : (laws_toLineS.l0 k1 l0 y306 (wrap64 (x4_1 + 1))) = some r := by first | (rw [hy306]; with_reducible exact H) | (have H2_ := (Option.bind_some _ _).symm.trans H; rw [hy306]; with_reducible exact H2_) | (have H2_ := (Option.bind_some _ _).symm.trans H; with_reducible exact H2_) | with_reducible exact H | (rw [hy306]; exact H) | exact H
        have Ny306 := Aside0.mk hy306
        clear hy306
        have H' := Aside0.mk H
        clear H
        have p301 : 0 ≤ (x4_1 : Int) := of_decide_eq_true (by first | (with_reducible assumption) | assumption)
        have q301 : x4_1 < (l0.length : Int) := of_decide_eq_true (by first | (with_reducible assumption) | assumption)
        obtain ⟨ad301, e301, hx301_0, hx301_1, hx301_2, hx301_3⟩ := at_T60 HR0.out x4_1 p301 q301
        cases e301
        replace hx301_0 := (HB.out.cell (World.block_lt_of_cell? w _ hx301_0)).trans hx301_0
        replace hx301_1 := (HB.out.cell (World.block_lt_of_cell? w _ hx301_1)).trans hx301_1
        replace hx301_2 := (HB.out.cell (World.block_lt_of_cell? w _ hx301_2)).trans hx301_2
        replace hx301_3 := (HB.out.cell (World.block_lt_of_cell? w _ hx301_3)).trans hx301_3
        replace p301 := eq_true p301
        replace q301 := eq_true q301
        go_wp2_with (first | ((with_reducible refine gate_callee (f := 41) rfl ?_); refine goesL_ (some 20) rfl rfl Try.func41 (by kernel_rfl) rfl #[.agg #[.int .i64 ((rd_T60 l0 x4_1).f0), .int .i64 ((rd_T60 l0 x4_1).f1), .int .i64 ((rd_T60 l0 x4_1).f2), .int .i64 ((rd_T60 l0 x4_1).f3)]] rfl (by (try simp only [List.map_toArray, List.map_cons, List.map_nil]); first | done | rfl | (simp only [List.length_drop, List.length_take]; rfl)) ?_; (with_reducible refine (laws_toLine.calls ((rd_T60 l0 x4_1).f0) ((rd_T60 l0 x4_1).f1) ((rd_T60 l0 x4_1).f2) ((rd_T60 l0 x4_1).f3) t302 t303 t304 t305 _ A8.out).mono ?_); rintro e w11 ⟨rfl, hb⟩; refine ⟨_, rfl, ?_⟩; have n0_ := Aside0.mk (Kd.R_below (by (with_reducible repeat (first | apply Kd.R_alloc | apply Kd.R_drewN | apply Kd.R_drew)); exact HO_3.out) hb); have n1_ := Aside0.mk (below_step (by repeat (first | (with_reducible first | exact HB.out | apply below_alloc | apply pw_below_drewN | apply below_drew1) | exact HB.out)) hb); clear HO_3; clear HB; have HO_3 := n0_; have HB := n1_; clear n0_ n1_; (try clear hb); (try clear hb2); (try clear hk); (try clear hi); have p10 : 0 ≤ (x4_1 : Int) := of_decide_eq_true (by first | (with_reducible assumption) | assumption); have q10 : (x4_1 : Int) < ((x3_1.length : Int) : Int) := of_decide_eq_true (by first | (with_reducible assumption) | assumption); obtain ⟨go10, co10, eo10, gb10, gl10, cl10, HG10⟩ := Kd.R_form HO_3.out (by omega); (first | cases eo10 | (injection eo10 with ea_ en_ ec_; (first | subst ea_ | (injection ea_ with ea_; subst ea_)); subst ec_; clear en_)); have GB10 := Aside0.mk gb10; have GG10 := Aside0.mk HG10; clear gb10 gl10 HG10; obtain ⟨ce10, hcl10, hM10, hcc10, hfr10⟩ := Kd.R_elem HO_3.out z51 (x4_1 : Int) p10 q10; obtain rfl := k51_openM hM10; have hx10_0 : w11.cell? ⟨go10, (x4_1 : Int).toNat * 4, none⟩ = some (.int .i64 ((rd_T51 x3_1 x4_1).f0)) := hcc10 0 _ rfl; have hx10_1 : w11.cell? ⟨go10, (x4_1 : Int).toNat * 4 + 1, none⟩ = some (.int .i64 ((rd_T51 x3_1 x4_1).f1)) := hcc10 1 _ rfl; have hx10_2 : w11.cell? ⟨go10, (x4_1 : Int).toNat * 4 + 2, none⟩ = some (.int .i64 ((rd_T51 x3_1 x4_1).f2)) := hcc10 2 _ rfl; have hx10_3 : w11.cell? ⟨go10, (x4_1 : Int).toNat * 4 + 3, none⟩ = some (.int .i64 ((rd_T51 x3_1 x4_1).f3)) := hcc10 3 _ rfl; have hf10_0 : w11.frozen? ⟨go10, (x4_1 : Int).toNat * 4, none⟩ = false := hfr10 0; have hf10_1 : w11.frozen? ⟨go10, (x4_1 : Int).toNat * 4 + 1, none⟩ = false := hfr10 1; have hf10_2 : w11.frozen? ⟨go10, (x4_1 : Int).toNat * 4 + 2, none⟩ = false := hfr10 2; have hf10_3 : w11.frozen? ⟨go10, (x4_1 : Int).toNat * 4 + 3, none⟩ = false := hfr10 3; clear hcl10 hcc10 hfr10 hM10; replace p10 := eq_true p10; replace q10 := eq_true q10; have HX12 := Aside0.mk (show Kd.R k51 51 w11 w.heap.size (fun _ => True) (.slice (some ⟨go10, 0, none⟩) x3_1.length co10) x3_1 from (by (with_reducible repeat (first | apply Kd.R_alloc | apply Kd.R_drewN | apply Kd.R_drew)); exact HO_3.out)); obtain ⟨ce12, hcl12, hM12, hcc12, hfr12⟩ := Kd.R_elem HX12.out z51 (x4_1 : Int) (of_decide_eq_true (by first | (with_reducible assumption) | assumption)) (by have h_ : (x4_1 : Int) < ((x3_1.length : Int) : Int) := of_decide_eq_true (by first | (with_reducible assumption) | assumption); first | exact h_ | (have e_ := (Kd.R_reads' HO_3.out).1; omega) | simpa using h_); obtain rfl := k51_openM hM12; have HP12 := Kd.R_seg HX12.out (x4_1 : Int) (of_decide_eq_true (by first | (with_reducible assumption) | assumption)) (by have h_ : (x4_1 : Int) < ((x3_1.length : Int) : Int) := of_decide_eq_true (by first | (with_reducible assumption) | assumption); first | exact h_ | (have e_ := (Kd.R_reads' HO_3.out).1; omega) | simpa using h_) (seg := [.int .i64 t302, .int .i64 t303, .int .i64 t304, .int .i64 t305]) (j := 0) hcl12 hcc12 (show 4 ≤ 4 from by decide) (x' := (⟨t302, t303, t304, t305⟩ : S51)) (k51_mkM _ _ _ (⟨t302, t303, t304, t305⟩ : S51) ) (fun _ hk => hk); have hx12_0 := hcc12 0 _ rfl; (try simp only [show (k51).sz = 4 from rfl, Nat.mul_one, Nat.add_zero] at hx12_0); have hf12_0 := hfr12 0; (try simp only [show (k51).sz = 4 from rfl, Nat.mul_one, Nat.add_zero] at hf12_0); have hx12_1 := hcc12 1 _ rfl; (try simp only [show (k51).sz = 4 from rfl, Nat.mul_one, Nat.add_zero] at hx12_1); have hf12_1 := hfr12 1; (try simp only [show (k51).sz = 4 from rfl, Nat.mul_one, Nat.add_zero] at hf12_1); have hx12_2 := hcc12 2 _ rfl; (try simp only [show (k51).sz = 4 from rfl, Nat.mul_one, Nat.add_zero] at hx12_2); have hf12_2 := hfr12 2; (try simp only [show (k51).sz = 4 from rfl, Nat.mul_one, Nat.add_zero] at hf12_2); have hx12_3 := hcc12 3 _ rfl; (try simp only [show (k51).sz = 4 from rfl, Nat.mul_one, Nat.add_zero] at hx12_3); have hf12_3 := hfr12 3; (try simp only [show (k51).sz = 4 from rfl, Nat.mul_one, Nat.add_zero] at hf12_3); clear hcl12 hcc12 hfr12 hM12) | ((with_reducible refine gate_store (t := 51) (p := 21) rfl ?_); refine store_event (t := 51) (p := 21) (v := ?vo_w13) (w1 := ((((w11.setCell ⟨go10, (x4_1 : Int).toNat * 4, none⟩ (.int .i64 t302)).setCell ⟨go10, (x4_1 : Int).toNat * 4 + 1, none⟩ (.int .i64 t303)).setCell ⟨go10, (x4_1 : Int).toNat * 4 + 2, none⟩ (.int .i64 t304)).setCell ⟨go10, (x4_1 : Int).toNat * 4 + 3, none⟩ (.int .i64 t305))) ?hg ?ho ?hn ?hr ?_; (case ho => rfl); (case hg => rfl); (case hn => rfl); (case hr => first | (go_simp; done) | (go_simp; rfl)); intro w13 hw; have hg : w11.grownBy w13 (some go10) := (by rw [hw]; exact HP12.2); have hp_ : Kd.R k51 51 w13 w.heap.size (fun _ => True) (.slice (some ⟨go10, 0, none⟩) x3_1.length co10) y306 := (by rw [hw, Ny306.out]; exact HP12.1); clear HP12; have n0_ := Aside0.mk (hp_); have n1_ := Aside0.mk ((by rw [hw]; exact below_set (below_set (below_set (below_set (HB.out) GB10.out) GB10.out) GB10.out) GB10.out : Below w.heap.size w w13)); clear HO_3; clear HB; have HO_3 := n0_; have HB := n1_; clear n0_ n1_; clear hg hw hp_))
        go_roundg k1
        case measure => have := HK1.out; omega
        case rel => exact ⟨(y306), (wrap64 (x4_1 + 1)), (by first | rfl | (simp; done) | (simp [*]; done)), H', ⟨by have := HK1.out; omega⟩, ⟨by (with_reducible repeat (first | apply Kd.R_alloc | apply Kd.R_drewN | apply Kd.R_drew)); exact HO_3.out⟩, ⟨by repeat (first | (with_reducible first | exact HB.out | apply below_alloc | apply pw_below_drewN | apply below_drew1) | exact HB.out)⟩⟩
       ·rw [if_neg c9] at H
        exact absurd H (by simp)
      ·rw [if_neg c7] at H
       exact absurd H (by simp)
     ·rw [if_neg c6] at H
      have c6b0 : decide (x4_1 < (l0.length : Int)) = false := decide_eq_false c6
      clear c6
      obtain rfl := Option.some.inj H
      go_wp2
      go_ret
      exact ⟨_, by first | rfl | (simp [errW_none, errW_some] <;> rfl) | (simp [*, errW_none, errW_some] <;> rfl), by (with_reducible repeat (first | apply Kd.R_alloc | apply Kd.R_drewN | apply Kd.R_drew)); exact HO_3.out, by repeat (first | (with_reducible first | exact HB.out | apply below_alloc | apply pw_below_drewN | apply below_drew1) | exact HB.out)⟩
  ·rw [if_neg c3] at H
   exact absurd H (by simp)
 ·rw [if_neg c2] at H
  exact absurd H (by simp)


/-! ## XLawsEqLineS -/

def laws_eqLineS.l0 : Nat → List (S51) → List (S51) → Int → Option (Bool)
 | 0, _, _, _ => none
 | k + 1, x0, x1, x5 => if x5 < (x0.length : Int) then (if 0 ≤ x5 then (if x5 < (x1.length : Int) then ((laws_eqLine.f ((rd_T51 x0 x5).f0) ((rd_T51 x0 x5).f1) ((rd_T51 x0 x5).f2) ((rd_T51 x0 x5).f3) ((rd_T51 x1 x5).f0) ((rd_T51 x1 x5).f1) ((rd_T51 x1 x5).f2) ((rd_T51 x1 x5).f3)).bind fun t311 => (if t311 = true then (laws_eqLineS.l0 k x0 x1 (wrap64 (x5 + 1))) else (some false))) else (none)) else (none)) else (some true)
def laws_eqLineS.f (k : Nat) (l0 : List (S51)) (l1 : List (S51)) : Option (Bool) := if (l0.length : Int) = (l1.length : Int) then (laws_eqLineS.l0 k l0 l1 0) else (some false)
theorem laws_eqLineS.mono_l : ∀ k, (∀ y0 y1 y2, LeO (laws_eqLineS.l0 k y0 y1 y2) (laws_eqLineS.l0 (k + 1) y0 y1 y2))
 | 0 => fun _ _ _ r h => by simp [laws_eqLineS.l0] at h
 | k + 1 => by
  have ih0 := laws_eqLineS.mono_l k
  ·intro y0 y1 y2
   unfold laws_eqLineS.l0
   repeat' first
   | (with_reducible exact ih0 _ _ _)
   | (with_reducible exact LeO.refl _)
   | (with_reducible exact LeO.none _)
   | (with_reducible refine LeO.ite ?_ ?_)
   | (with_reducible refine LeO.bind ?_ (fun _ => ?_))
   | exact ih0 _ _ _
   | exact LeO.none _
   | refine LeO.ite ?_ ?_
   | refine LeO.bind ?_ (fun _ => ?_)
theorem laws_eqLineS.mono : ∀ a0 a1 k, LeO (laws_eqLineS.f k a0 a1) (laws_eqLineS.f (k + 1) a0 a1) := by
 intro a0 a1 k
 have ih0 := laws_eqLineS.mono_l k
 unfold laws_eqLineS.f
 repeat' first
   | (with_reducible exact ih0 _ _ _)
   | (with_reducible exact LeO.refl _)
   | (with_reducible exact LeO.none _)
   | (with_reducible refine LeO.ite ?_ ?_)
   | (with_reducible refine LeO.bind ?_ (fun _ => ?_))
   | exact ih0 _ _ _
   | exact LeO.none _
   | refine LeO.ite ?_ ?_
   | refine LeO.bind ?_ (fun _ => ?_)
def laws_eqLineS.T6 : Bool × List (List Nat × List Nat) := (true, [([], []), ([], []), ([0, 1], [0, 1]), ([2], [2]), ([], []), ([], []), ([4, 5], [4, 5]), ([6], [6]), ([3, 7], [3, 7]), ([8], [8])])
def laws_eqLineS.B6 : List Nat := [0, 0, 3, 7, 0, 0, 48, 112, 255, 511]
theorem laws_eqLineS.tab6 : rtab .any (opsOf Try.f15 6) = laws_eqLineS.T6 := by kernel_rfl
theorem laws_eqLineS.bits6 : waitsOk laws_eqLineS.T6.2 laws_eqLineS.B6 = true := by kernel_rfl
set_option maxHeartbeats 8000000 in
set_option maxRecDepth 100000 in
theorem laws_eqLineS.calls (k : Nat) (A0 : Option Addr) (c0 : Nat) (l0 : List (S51)) (A1 : Option Addr) (c1 : Nat) (l1 : List (S51)) (r : Bool) (w : World) (hr0 : Kd.C k51 w A0 l0.length l0) (hc0 : l0.length ≤ c0) (hr1 : Kd.C k51 w A1 l1.length l1) (hc1 : l1.length ≤ c1) (h : laws_eqLineS.f k l0 l1 = some r) :
  Calls Try.prog 15 #[.slice A0 l0.length c0, .slice A1 l1.length c1] w fun e w' => e = .returned (.bool r) ∧ Below w.heap.size w w' := by
 have hu51 := Try.underlying51
 have HR0 := Aside0.mk hr0
 have HC0 := Aside0.mk hc0
 clear hr0 hc0
 have HR1 := Aside0.mk hr1
 have HC1 := Aside0.mk hc1
 clear hr1 hc1
 have HB := Aside0.mk (Below.refl w.heap.size w)
 have H : (if (l0.length : Int) = (l1.length : Int) then (laws_eqLineS.l0 k l0 l1 0) else (some false)) = some r := h
 clear h
 by_cases c3 : (l0.length : Int) = (l1.length : Int)
 ·rw [if_pos c3] at H
  have c3b0 : ((l0.length : Int) == (l1.length : Int)) = true := beq_iff_eq.mpr c3
  have c3b1 : ((l0.length : Int) != (l1.length : Int)) = false := bne_eq_false_iff_eq.mpr c3
  have c3b2 : (l0.length == l1.length) = true := by first | simpa using c3 | (simp at c3 ⊢; omega)
  clear c3
  have H' := Aside0.mk H
  clear H
  go_enter Try.func15, Try.ntmps15
  go_wp2
  go_loopg [5] k (fun kq v5 w' => ∃ (x5_1 : Int), v5 = .int .i64 x5_1 ∧ Aside0 (laws_eqLineS.l0 kq l0 l1 x5_1 = some r) ∧ Aside0 (kq ≤ k) ∧ Aside0 (Below w.heap.size w w'))
  case atStart => exact ⟨(0), (by first | rfl | (simp; done) | (simp [*]; done)), H', ⟨Nat.le_refl _⟩, ⟨by repeat (first | (with_reducible first | exact HB.out | apply below_alloc | apply pw_below_drewN | apply below_drew1) | exact HB.out)⟩⟩
  case round =>
   clear H'
   try clear c1
   try clear p2
   try clear c3
   try clear c3b0
   try clear c3b1
   try clear c3b2
   obtain ⟨x5_1, rfl, HA, HK1, HB⟩ := hrel
   cases gk with
   | zero => exact absurd HA.out (by simp [laws_eqLineS.l0])
   | succ k1 =>
    have H := HA.out
    clear HA
    simp only [laws_eqLineS.l0] at H
    by_cases c4 : x5_1 < (l0.length : Int)
    ·rw [if_pos c4] at H
     have c4b0 : decide (x5_1 < (l0.length : Int)) = true := decide_eq_true c4
     clear c4
     by_cases c5 : 0 ≤ x5_1
     ·rw [if_pos c5] at H
      have c5b0 : decide (0 ≤ x5_1) = true := decide_eq_true c5
      clear c5
      by_cases c6 : x5_1 < (l1.length : Int)
      ·rw [if_pos c6] at H
       have c6b0 : decide (x5_1 < (l1.length : Int)) = true := decide_eq_true c6
       clear c6
       replace H := Option.bind_eq_some_iff.mp H
       obtain ⟨t311, A70, H⟩ := H
       replace H : (if t311 = true then (laws_eqLineS.l0 k1 l0 l1 (wrap64 (x5_1 + 1))) else (some false)) = some r := H
       have A7 := Aside0.mk A70
       clear A70
       by_cases c8 : t311 = true
       ·subst c8
        have H1 : (laws_eqLineS.l0 k1 l0 l1 (wrap64 (x5_1 + 1))) = some r := by rw [if_pos rfl] at H; exact H
        clear H
        have H := H1
        clear H1
        have H' := Aside0.mk H
        clear H
        try go_wp2
        have n0_ := Aside0.mk (below_drew1 HB.out)
        clear HB
        have HB := n0_
        clear n0_
        have p309 : 0 ≤ (x5_1 : Int) := of_decide_eq_true (by first | (with_reducible assumption) | assumption)
        have q309 : x5_1 < (l0.length : Int) := of_decide_eq_true (by first | (with_reducible assumption) | assumption)
        obtain ⟨ad309, e309, hx309_0, hx309_1, hx309_2, hx309_3⟩ := at_T51 HR0.out x5_1 p309 q309
        have hw309_3 := hx309_3
        have hw309_2 := hx309_2
        have hw309_1 := hx309_1
        have hw309_0 := hx309_0
        cases e309
        replace hx309_0 := (HB.out.cell (World.block_lt_of_cell? w _ hx309_0)).trans hx309_0
        replace hx309_1 := (HB.out.cell (World.block_lt_of_cell? w _ hx309_1)).trans hx309_1
        replace hx309_2 := (HB.out.cell (World.block_lt_of_cell? w _ hx309_2)).trans hx309_2
        replace hx309_3 := (HB.out.cell (World.block_lt_of_cell? w _ hx309_3)).trans hx309_3
        replace p309 := eq_true p309
        replace q309 := eq_true q309
        have p310 : 0 ≤ (x5_1 : Int) := of_decide_eq_true (by first | (with_reducible assumption) | assumption)
        have q310 : x5_1 < (l1.length : Int) := of_decide_eq_true (by first | (with_reducible assumption) | assumption)
        obtain ⟨ad310, e310, hx310_0, hx310_1, hx310_2, hx310_3⟩ := at_T51 HR1.out x5_1 p310 q310
        have hw310_3 := hx310_3
        have hw310_2 := hx310_2
        have hw310_1 := hx310_1
        have hw310_0 := hx310_0
        cases e310
        replace hx310_0 := (HB.out.cell (World.block_lt_of_cell? w _ hx310_0)).trans hx310_0
        replace hx310_1 := (HB.out.cell (World.block_lt_of_cell? w _ hx310_1)).trans hx310_1
        replace hx310_2 := (HB.out.cell (World.block_lt_of_cell? w _ hx310_2)).trans hx310_2
        replace hx310_3 := (HB.out.cell (World.block_lt_of_cell? w _ hx310_3)).trans hx310_3
        replace p310 := eq_true p310
        replace q310 := eq_true q310
        refine start_ (n := 10) (S := fun w' => w'.cell? (ad309.add ((x5_1).toNat * 4)) = some (.int .i64 ((rd_T51 l0 x5_1).f0)) ∧ w'.cell? ⟨(ad309.add ((x5_1).toNat * 4)).block, (ad309.add ((x5_1).toNat * 4)).off + 1, none⟩ = some (.int .i64 ((rd_T51 l0 x5_1).f1)) ∧ w'.cell? ⟨(ad309.add ((x5_1).toNat * 4)).block, (ad309.add ((x5_1).toNat * 4)).off + 2, none⟩ = some (.int .i64 ((rd_T51 l0 x5_1).f2)) ∧ w'.cell? ⟨(ad309.add ((x5_1).toNat * 4)).block, (ad309.add ((x5_1).toNat * 4)).off + 3, none⟩ = some (.int .i64 ((rd_T51 l0 x5_1).f3)) ∧ w'.cell? (ad310.add ((x5_1).toNat * 4)) = some (.int .i64 ((rd_T51 l1 x5_1).f0)) ∧ w'.cell? ⟨(ad310.add ((x5_1).toNat * 4)).block, (ad310.add ((x5_1).toNat * 4)).off + 1, none⟩ = some (.int .i64 ((rd_T51 l1 x5_1).f1)) ∧ w'.cell? ⟨(ad310.add ((x5_1).toNat * 4)).block, (ad310.add ((x5_1).toNat * 4)).off + 2, none⟩ = some (.int .i64 ((rd_T51 l1 x5_1).f2)) ∧ w'.cell? ⟨(ad310.add ((x5_1).toNat * 4)).block, (ad310.add ((x5_1).toNat * 4)).off + 3, none⟩ = some (.int .i64 ((rd_T51 l1 x5_1).f3))) (ds := []) #[false, false, false, false, false, false, false, false, false, false] (by kernel_rfl) rfl rfl ⟨((HB.out.cell (World.block_lt_of_cell? w _ hw309_0)).trans hw309_0), ((HB.out.cell (World.block_lt_of_cell? w _ hw309_1)).trans hw309_1), ((HB.out.cell (World.block_lt_of_cell? w _ hw309_2)).trans hw309_2), ((HB.out.cell (World.block_lt_of_cell? w _ hw309_3)).trans hw309_3), ((HB.out.cell (World.block_lt_of_cell? w _ hw310_0)).trans hw310_0), ((HB.out.cell (World.block_lt_of_cell? w _ hw310_1)).trans hw310_1), ((HB.out.cell (World.block_lt_of_cell? w _ hw310_2)).trans hw310_2), ((HB.out.cell (World.block_lt_of_cell? w _ hw310_3)).trans hw310_3)⟩ (fun hHeld => ?_); refine with_tabW laws_eqLineS.tab6 laws_eqLineS.bits6 (fun HT_ HW_ => ?_)
        generalize wr.drew = w9 at HB hx309_0 hx309_1 hx309_2 hx309_3 hx310_0 hx310_1 hx310_2 hx310_3 hHeld ⊢
        refine pure_ (i := 0) (N := some 17) (v := ?_) (a' := ?_) #[true, false, false, false, false, false, false, false, false, false] rfl rfl (any_of HT_.out (by kernel_rfl)) (fun _ _ _ h => h) (Or.inl ⟨by rfl, ?_⟩) ?_ ?_
        rotate_left
        ·intro w'
         go_simp
         with_reducible rfl
        rotate_left
        ·simp only [Act.put, List.setIfInBounds_toArray, List.set_cons_zero, List.set_cons_succ, i64_w, i32_w]; rfl
        refine pure_ (i := 1) (N := some 18) (v := ?_) (a' := ?_) #[true, true, false, false, false, false, false, false, false, false] rfl rfl (any_of HT_.out (by kernel_rfl)) (fun _ _ _ h => h) (Or.inl ⟨by rfl, ?_⟩) ?_ ?_
        rotate_left
        ·intro w'
         go_simp
         with_reducible rfl
        rotate_left
        ·simp only [Act.put, List.setIfInBounds_toArray, List.set_cons_zero, List.set_cons_succ, i64_w, i32_w]; rfl
        refine pure_ (i := 2) (N := some 19) (v := ?_) (a' := ?_) #[true, true, true, false, false, false, false, false, false, false] rfl rfl (any_of HT_.out (by kernel_rfl)) (fun _ _ _ h => h) (Or.inl ⟨by rfl, ?_⟩) ?_ ?_
        rotate_left
        ·intro w'
         go_simp
         with_reducible rfl
        rotate_left
        ·simp only [Act.put, List.setIfInBounds_toArray, List.set_cons_zero, List.set_cons_succ, i64_w, i32_w]; rfl
        refine pure_ (i := 4) (N := some 21) (v := ?_) (a' := ?_) #[true, true, true, false, true, false, false, false, false, false] rfl rfl (any_of HT_.out (by kernel_rfl)) (fun _ _ _ h => h) (Or.inl ⟨by rfl, ?_⟩) ?_ ?_
        rotate_left
        ·intro w'
         go_simp
         with_reducible rfl
        rotate_left
        ·simp only [Act.put, List.setIfInBounds_toArray, List.set_cons_zero, List.set_cons_succ, i64_w, i32_w]; rfl
        refine pure_ (i := 5) (N := some 22) (v := ?_) (a' := ?_) #[true, true, true, false, true, true, false, false, false, false] rfl rfl (any_of HT_.out (by kernel_rfl)) (fun _ _ _ h => h) (Or.inl ⟨by rfl, ?_⟩) ?_ ?_
        rotate_left
        ·intro w'
         go_simp
         with_reducible rfl
        rotate_left
        ·simp only [Act.put, List.setIfInBounds_toArray, List.set_cons_zero, List.set_cons_succ, i64_w, i32_w]; rfl
        refine pure_ (i := 6) (N := some 23) (v := ?_) (a' := ?_) #[true, true, true, false, true, true, true, false, false, false] rfl rfl (any_of HT_.out (by kernel_rfl)) (fun _ _ _ h => h) (Or.inl ⟨by rfl, ?_⟩) ?_ ?_
        rotate_left
        ·intro w'
         go_simp
         with_reducible rfl
        rotate_left
        ·simp only [Act.put, List.setIfInBounds_toArray, List.set_cons_zero, List.set_cons_succ, i64_w, i32_w]; rfl
        refine take_ (i := 3) (N := some 20) (v := ?_) (a' := ?_) #[true, true, true, true, true, true, true, false, false, false] rfl rfl (take_ofW HT_.out HW_.out (by kernel_rfl)) (fun _ _ _ h => h) (Or.inl ⟨by rfl, ?_⟩) hHeld ?_ ?_
        rotate_left
        ·rintro w' ⟨s0, s1, s2, s3, s4, s5, s6, s7⟩
         go_simp
         with_reducible rfl
        rotate_left
        ·simp only [Act.put, List.setIfInBounds_toArray, List.set_cons_zero, List.set_cons_succ, i64_w, i32_w]; rfl
        refine take_ (i := 7) (N := some 24) (v := ?_) (a' := ?_) #[true, true, true, true, true, true, true, true, false, false] rfl rfl (take_ofW HT_.out HW_.out (by kernel_rfl)) (fun _ _ _ h => h) (Or.inl ⟨by rfl, ?_⟩) hHeld ?_ ?_
        rotate_left
        ·rintro w' ⟨s0, s1, s2, s3, s4, s5, s6, s7⟩
         go_simp
         with_reducible rfl
        rotate_left
        ·simp only [Act.put, List.setIfInBounds_toArray, List.set_cons_zero, List.set_cons_succ, i64_w, i32_w]; rfl
        refine one_ (i := 8) (N := some 25) #[true, true, true, true, true, true, true, true, true, false] rfl rfl (one_of HT_.out (by kernel_rfl)) (by decide) (fun K hK => ?_)
        refine goes_ Try.func44 (by kernel_rfl) rfl #[.agg #[.int .i64 ((rd_T51 l0 x5_1).f0), .int .i64 ((rd_T51 l0 x5_1).f1), .int .i64 ((rd_T51 l0 x5_1).f2), .int .i64 ((rd_T51 l0 x5_1).f3)], .agg #[.int .i64 ((rd_T51 l1 x5_1).f0), .int .i64 ((rd_T51 l1 x5_1).f1), .int .i64 ((rd_T51 l1 x5_1).f2), .int .i64 ((rd_T51 l1 x5_1).f3)]] (by rfl) rfl rfl (by (try simp only [List.map_toArray, List.map_cons, List.map_nil]); first | done | rfl | (simp only [List.length_drop, List.length_take]; rfl)) ?_
        with_reducible refine (laws_eqLine.calls ((rd_T51 l0 x5_1).f0) ((rd_T51 l0 x5_1).f1) ((rd_T51 l0 x5_1).f2) ((rd_T51 l0 x5_1).f3) ((rd_T51 l1 x5_1).f0) ((rd_T51 l1 x5_1).f1) ((rd_T51 l1 x5_1).f2) ((rd_T51 l1 x5_1).f3) true _ A7.out).mono ?_
        rintro e w10 ⟨rfl, hb⟩
        refine ⟨_, rfl, ?_⟩
        have n0_ := Aside0.mk (below_step (by repeat (first | (with_reducible first | exact HB.out | apply below_alloc | apply pw_below_drewN | apply below_drew1) | exact HB.out)) hb)
        clear HB
        have HB := n0_
        clear n0_
        (try clear hb)
        (try clear hb2)
        (try clear hk)
        (try clear hi)
        refine hK.out _ _ ⟨((HB.out.cell (World.block_lt_of_cell? w _ hw309_0)).trans hw309_0), ((HB.out.cell (World.block_lt_of_cell? w _ hw309_1)).trans hw309_1), ((HB.out.cell (World.block_lt_of_cell? w _ hw309_2)).trans hw309_2), ((HB.out.cell (World.block_lt_of_cell? w _ hw309_3)).trans hw309_3), ((HB.out.cell (World.block_lt_of_cell? w _ hw310_0)).trans hw310_0), ((HB.out.cell (World.block_lt_of_cell? w _ hw310_1)).trans hw310_1), ((HB.out.cell (World.block_lt_of_cell? w _ hw310_2)).trans hw310_2), ((HB.out.cell (World.block_lt_of_cell? w _ hw310_3)).trans hw310_3)⟩ (fun hHeld => ?_)
        clear hK K
        refine norm_ (a' := ?_) ?_ ?_
        rotate_left
        ·show Act.put _ (some 25) _ = _
         simp only [Act.put, List.setIfInBounds_toArray, List.set_cons_zero, List.set_cons_succ, i64_w, i32_w]
         rfl
        refine pure_ (i := 9) (N := some 26) (v := ?_) (a' := ?_) #[true, true, true, true, true, true, true, true, true, true] rfl rfl (any_of HT_.out (by kernel_rfl)) (fun _ _ _ h => h) (Or.inl ⟨by rfl, ?_⟩) ?_ ?_
        rotate_left
        ·intro w'
         go_simp
         with_reducible rfl
        rotate_left
        ·simp only [Act.put, List.setIfInBounds_toArray, List.set_cons_zero, List.set_cons_succ, i64_w, i32_w]; rfl
        refine done_ (done_of HT_.out (by kernel_rfl)) ?_
        try go_wp2
        go_roundg k1
        case measure => have := HK1.out; omega
        case rel => exact ⟨(wrap64 (x5_1 + 1)), (by first | rfl | (simp; done) | (simp [*]; done)), H', ⟨by have := HK1.out; omega⟩, ⟨by repeat (first | (with_reducible first | exact HB.out | apply below_alloc | apply pw_below_drewN | apply below_drew1) | exact HB.out)⟩⟩
       ·replace c8 := Bool.eq_false_iff.mpr c8
        subst c8
        have H1 : (some false) = some r := by rw [if_neg (show ¬ (false = true) by decide)] at H; exact H
        clear H
        have H := H1
        clear H1
        obtain rfl := Option.some.inj H
        try go_wp2
        have n0_ := Aside0.mk (below_drew1 HB.out)
        clear HB
        have HB := n0_
        clear n0_
        have p309 : 0 ≤ (x5_1 : Int) := of_decide_eq_true (by first | (with_reducible assumption) | assumption)
        have q309 : x5_1 < (l0.length : Int) := of_decide_eq_true (by first | (with_reducible assumption) | assumption)
        obtain ⟨ad309, e309, hx309_0, hx309_1, hx309_2, hx309_3⟩ := at_T51 HR0.out x5_1 p309 q309
        have hw309_3 := hx309_3
        have hw309_2 := hx309_2
        have hw309_1 := hx309_1
        have hw309_0 := hx309_0
        cases e309
        replace hx309_0 := (HB.out.cell (World.block_lt_of_cell? w _ hx309_0)).trans hx309_0
        replace hx309_1 := (HB.out.cell (World.block_lt_of_cell? w _ hx309_1)).trans hx309_1
        replace hx309_2 := (HB.out.cell (World.block_lt_of_cell? w _ hx309_2)).trans hx309_2
        replace hx309_3 := (HB.out.cell (World.block_lt_of_cell? w _ hx309_3)).trans hx309_3
        replace p309 := eq_true p309
        replace q309 := eq_true q309
        have p310 : 0 ≤ (x5_1 : Int) := of_decide_eq_true (by first | (with_reducible assumption) | assumption)
        have q310 : x5_1 < (l1.length : Int) := of_decide_eq_true (by first | (with_reducible assumption) | assumption)
        obtain ⟨ad310, e310, hx310_0, hx310_1, hx310_2, hx310_3⟩ := at_T51 HR1.out x5_1 p310 q310
        have hw310_3 := hx310_3
        have hw310_2 := hx310_2
        have hw310_1 := hx310_1
        have hw310_0 := hx310_0
        cases e310
        replace hx310_0 := (HB.out.cell (World.block_lt_of_cell? w _ hx310_0)).trans hx310_0
        replace hx310_1 := (HB.out.cell (World.block_lt_of_cell? w _ hx310_1)).trans hx310_1
        replace hx310_2 := (HB.out.cell (World.block_lt_of_cell? w _ hx310_2)).trans hx310_2
        replace hx310_3 := (HB.out.cell (World.block_lt_of_cell? w _ hx310_3)).trans hx310_3
        replace p310 := eq_true p310
        replace q310 := eq_true q310
        refine start_ (n := 10) (S := fun w' => w'.cell? (ad309.add ((x5_1).toNat * 4)) = some (.int .i64 ((rd_T51 l0 x5_1).f0)) ∧ w'.cell? ⟨(ad309.add ((x5_1).toNat * 4)).block, (ad309.add ((x5_1).toNat * 4)).off + 1, none⟩ = some (.int .i64 ((rd_T51 l0 x5_1).f1)) ∧ w'.cell? ⟨(ad309.add ((x5_1).toNat * 4)).block, (ad309.add ((x5_1).toNat * 4)).off + 2, none⟩ = some (.int .i64 ((rd_T51 l0 x5_1).f2)) ∧ w'.cell? ⟨(ad309.add ((x5_1).toNat * 4)).block, (ad309.add ((x5_1).toNat * 4)).off + 3, none⟩ = some (.int .i64 ((rd_T51 l0 x5_1).f3)) ∧ w'.cell? (ad310.add ((x5_1).toNat * 4)) = some (.int .i64 ((rd_T51 l1 x5_1).f0)) ∧ w'.cell? ⟨(ad310.add ((x5_1).toNat * 4)).block, (ad310.add ((x5_1).toNat * 4)).off + 1, none⟩ = some (.int .i64 ((rd_T51 l1 x5_1).f1)) ∧ w'.cell? ⟨(ad310.add ((x5_1).toNat * 4)).block, (ad310.add ((x5_1).toNat * 4)).off + 2, none⟩ = some (.int .i64 ((rd_T51 l1 x5_1).f2)) ∧ w'.cell? ⟨(ad310.add ((x5_1).toNat * 4)).block, (ad310.add ((x5_1).toNat * 4)).off + 3, none⟩ = some (.int .i64 ((rd_T51 l1 x5_1).f3))) (ds := []) #[false, false, false, false, false, false, false, false, false, false] (by kernel_rfl) rfl rfl ⟨((HB.out.cell (World.block_lt_of_cell? w _ hw309_0)).trans hw309_0), ((HB.out.cell (World.block_lt_of_cell? w _ hw309_1)).trans hw309_1), ((HB.out.cell (World.block_lt_of_cell? w _ hw309_2)).trans hw309_2), ((HB.out.cell (World.block_lt_of_cell? w _ hw309_3)).trans hw309_3), ((HB.out.cell (World.block_lt_of_cell? w _ hw310_0)).trans hw310_0), ((HB.out.cell (World.block_lt_of_cell? w _ hw310_1)).trans hw310_1), ((HB.out.cell (World.block_lt_of_cell? w _ hw310_2)).trans hw310_2), ((HB.out.cell (World.block_lt_of_cell? w _ hw310_3)).trans hw310_3)⟩ (fun hHeld => ?_); refine with_tabW laws_eqLineS.tab6 laws_eqLineS.bits6 (fun HT_ HW_ => ?_)
        generalize wr.drew = w11 at HB hx309_0 hx309_1 hx309_2 hx309_3 hx310_0 hx310_1 hx310_2 hx310_3 hHeld ⊢
        refine pure_ (i := 0) (N := some 17) (v := ?_) (a' := ?_) #[true, false, false, false, false, false, false, false, false, false] rfl rfl (any_of HT_.out (by kernel_rfl)) (fun _ _ _ h => h) (Or.inl ⟨by rfl, ?_⟩) ?_ ?_
        rotate_left
        ·intro w'
         go_simp
         with_reducible rfl
        rotate_left
        ·simp only [Act.put, List.setIfInBounds_toArray, List.set_cons_zero, List.set_cons_succ, i64_w, i32_w]; rfl
        refine pure_ (i := 1) (N := some 18) (v := ?_) (a' := ?_) #[true, true, false, false, false, false, false, false, false, false] rfl rfl (any_of HT_.out (by kernel_rfl)) (fun _ _ _ h => h) (Or.inl ⟨by rfl, ?_⟩) ?_ ?_
        rotate_left
        ·intro w'
         go_simp
         with_reducible rfl
        rotate_left
        ·simp only [Act.put, List.setIfInBounds_toArray, List.set_cons_zero, List.set_cons_succ, i64_w, i32_w]; rfl
        refine pure_ (i := 2) (N := some 19) (v := ?_) (a' := ?_) #[true, true, true, false, false, false, false, false, false, false] rfl rfl (any_of HT_.out (by kernel_rfl)) (fun _ _ _ h => h) (Or.inl ⟨by rfl, ?_⟩) ?_ ?_
        rotate_left
        ·intro w'
         go_simp
         with_reducible rfl
        rotate_left
        ·simp only [Act.put, List.setIfInBounds_toArray, List.set_cons_zero, List.set_cons_succ, i64_w, i32_w]; rfl
        refine pure_ (i := 4) (N := some 21) (v := ?_) (a' := ?_) #[true, true, true, false, true, false, false, false, false, false] rfl rfl (any_of HT_.out (by kernel_rfl)) (fun _ _ _ h => h) (Or.inl ⟨by rfl, ?_⟩) ?_ ?_
        rotate_left
        ·intro w'
         go_simp
         with_reducible rfl
        rotate_left
        ·simp only [Act.put, List.setIfInBounds_toArray, List.set_cons_zero, List.set_cons_succ, i64_w, i32_w]; rfl
        refine pure_ (i := 5) (N := some 22) (v := ?_) (a' := ?_) #[true, true, true, false, true, true, false, false, false, false] rfl rfl (any_of HT_.out (by kernel_rfl)) (fun _ _ _ h => h) (Or.inl ⟨by rfl, ?_⟩) ?_ ?_
        rotate_left
        ·intro w'
         go_simp
         with_reducible rfl
        rotate_left
        ·simp only [Act.put, List.setIfInBounds_toArray, List.set_cons_zero, List.set_cons_succ, i64_w, i32_w]; rfl
        refine pure_ (i := 6) (N := some 23) (v := ?_) (a' := ?_) #[true, true, true, false, true, true, true, false, false, false] rfl rfl (any_of HT_.out (by kernel_rfl)) (fun _ _ _ h => h) (Or.inl ⟨by rfl, ?_⟩) ?_ ?_
        rotate_left
        ·intro w'
         go_simp
         with_reducible rfl
        rotate_left
        ·simp only [Act.put, List.setIfInBounds_toArray, List.set_cons_zero, List.set_cons_succ, i64_w, i32_w]; rfl
        refine take_ (i := 3) (N := some 20) (v := ?_) (a' := ?_) #[true, true, true, true, true, true, true, false, false, false] rfl rfl (take_ofW HT_.out HW_.out (by kernel_rfl)) (fun _ _ _ h => h) (Or.inl ⟨by rfl, ?_⟩) hHeld ?_ ?_
        rotate_left
        ·rintro w' ⟨s0, s1, s2, s3, s4, s5, s6, s7⟩
         go_simp
         with_reducible rfl
        rotate_left
        ·simp only [Act.put, List.setIfInBounds_toArray, List.set_cons_zero, List.set_cons_succ, i64_w, i32_w]; rfl
        refine take_ (i := 7) (N := some 24) (v := ?_) (a' := ?_) #[true, true, true, true, true, true, true, true, false, false] rfl rfl (take_ofW HT_.out HW_.out (by kernel_rfl)) (fun _ _ _ h => h) (Or.inl ⟨by rfl, ?_⟩) hHeld ?_ ?_
        rotate_left
        ·rintro w' ⟨s0, s1, s2, s3, s4, s5, s6, s7⟩
         go_simp
         with_reducible rfl
        rotate_left
        ·simp only [Act.put, List.setIfInBounds_toArray, List.set_cons_zero, List.set_cons_succ, i64_w, i32_w]; rfl
        refine one_ (i := 8) (N := some 25) #[true, true, true, true, true, true, true, true, true, false] rfl rfl (one_of HT_.out (by kernel_rfl)) (by decide) (fun K hK => ?_)
        refine goes_ Try.func44 (by kernel_rfl) rfl #[.agg #[.int .i64 ((rd_T51 l0 x5_1).f0), .int .i64 ((rd_T51 l0 x5_1).f1), .int .i64 ((rd_T51 l0 x5_1).f2), .int .i64 ((rd_T51 l0 x5_1).f3)], .agg #[.int .i64 ((rd_T51 l1 x5_1).f0), .int .i64 ((rd_T51 l1 x5_1).f1), .int .i64 ((rd_T51 l1 x5_1).f2), .int .i64 ((rd_T51 l1 x5_1).f3)]] (by rfl) rfl rfl (by (try simp only [List.map_toArray, List.map_cons, List.map_nil]); first | done | rfl | (simp only [List.length_drop, List.length_take]; rfl)) ?_
        with_reducible refine (laws_eqLine.calls ((rd_T51 l0 x5_1).f0) ((rd_T51 l0 x5_1).f1) ((rd_T51 l0 x5_1).f2) ((rd_T51 l0 x5_1).f3) ((rd_T51 l1 x5_1).f0) ((rd_T51 l1 x5_1).f1) ((rd_T51 l1 x5_1).f2) ((rd_T51 l1 x5_1).f3) false _ A7.out).mono ?_
        rintro e w12 ⟨rfl, hb⟩
        refine ⟨_, rfl, ?_⟩
        have n0_ := Aside0.mk (below_step (by repeat (first | (with_reducible first | exact HB.out | apply below_alloc | apply pw_below_drewN | apply below_drew1) | exact HB.out)) hb)
        clear HB
        have HB := n0_
        clear n0_
        (try clear hb)
        (try clear hb2)
        (try clear hk)
        (try clear hi)
        refine hK.out _ _ ⟨((HB.out.cell (World.block_lt_of_cell? w _ hw309_0)).trans hw309_0), ((HB.out.cell (World.block_lt_of_cell? w _ hw309_1)).trans hw309_1), ((HB.out.cell (World.block_lt_of_cell? w _ hw309_2)).trans hw309_2), ((HB.out.cell (World.block_lt_of_cell? w _ hw309_3)).trans hw309_3), ((HB.out.cell (World.block_lt_of_cell? w _ hw310_0)).trans hw310_0), ((HB.out.cell (World.block_lt_of_cell? w _ hw310_1)).trans hw310_1), ((HB.out.cell (World.block_lt_of_cell? w _ hw310_2)).trans hw310_2), ((HB.out.cell (World.block_lt_of_cell? w _ hw310_3)).trans hw310_3)⟩ (fun hHeld => ?_)
        clear hK K
        refine norm_ (a' := ?_) ?_ ?_
        rotate_left
        ·show Act.put _ (some 25) _ = _
         simp only [Act.put, List.setIfInBounds_toArray, List.set_cons_zero, List.set_cons_succ, i64_w, i32_w]
         rfl
        refine pure_ (i := 9) (N := some 26) (v := ?_) (a' := ?_) #[true, true, true, true, true, true, true, true, true, true] rfl rfl (any_of HT_.out (by kernel_rfl)) (fun _ _ _ h => h) (Or.inl ⟨by rfl, ?_⟩) ?_ ?_
        rotate_left
        ·intro w'
         go_simp
         with_reducible rfl
        rotate_left
        ·simp only [Act.put, List.setIfInBounds_toArray, List.set_cons_zero, List.set_cons_succ, i64_w, i32_w]; rfl
        refine done_ (done_of HT_.out (by kernel_rfl)) ?_
        try go_wp2
        go_ret
        exact ⟨by first | rfl | (simp [errW_none, errW_some] <;> rfl) | (simp [*, errW_none, errW_some] <;> rfl), by repeat (first | (with_reducible first | exact HB.out | apply below_alloc | apply pw_below_drewN | apply below_drew1) | exact HB.out)⟩
      ·rw [if_neg c6] at H
       exact absurd H (by simp)
     ·rw [if_neg c5] at H
      exact absurd H (by simp)
    ·rw [if_neg c4] at H
     have c4b0 : decide (x5_1 < (l0.length : Int)) = false := decide_eq_false c4
     clear c4
     obtain rfl := Option.some.inj H
     go_wp2
     go_ret
     exact ⟨by first | rfl | (simp [errW_none, errW_some] <;> rfl) | (simp [*, errW_none, errW_some] <;> rfl), by repeat (first | (with_reducible first | exact HB.out | apply below_alloc | apply pw_below_drewN | apply below_drew1) | exact HB.out)⟩
 ·rw [if_neg c3] at H
  have c3b0 : ((l0.length : Int) == (l1.length : Int)) = false := beq_eq_false_iff_ne.mpr c3
  have c3b1 : ((l0.length : Int) != (l1.length : Int)) = true := bne_iff_ne.mpr c3
  have c3b2 : (l0.length == l1.length) = false := by first | simpa using c3 | (simp at c3 ⊢; omega)
  obtain rfl := Option.some.inj H
  go_enter Try.func15, Try.ntmps15
  go_wp2
  go_ret
  exact ⟨by first | rfl | (simp [errW_none, errW_some] <;> rfl) | (simp [*, errW_none, errW_some] <;> rfl), by repeat (first | (with_reducible first | exact HB.out | apply below_alloc | apply pw_below_drewN | apply below_drew1) | exact HB.out)⟩

end Go.Proofs.Ytppfdndnojbmjaa.X

/-! ## CLineS -/
/- Generated by conv.py: what the laws' helpers do with values of type LineS. No condition but the lengths that fit. -/
namespace Go.Proofs.Ytppfdndnojbmjaa.C
open Go.RowKit Go.Proofs.YtppfdndnojbmjaaW.PrintWords Go.Proofs.Ytppfdndnojbmjaa.X Go.Proofs.Ytppfdndnojbmjaa.B
def szv_LineS (xs : List S60) : Int := (xs.length : Int) + 0
theorem szv_LineS_nonneg (xs : List S60) : 0 ≤ szv_LineS xs := by
  unfold szv_LineS
  omega
theorem szv_LineS_len (xs : List S60) : (xs.length : Int) ≤ szv_LineS xs := by
  unfold szv_LineS
  omega
theorem sz_LineS (xs : List S60) (h : (Rdr.Lst (fun x : S60 => Rdr.I64 x.f0 ∧ (Rdr.I64 x.f1 ∧ (Rdr.I64 x.f2 ∧ (Rdr.I64 x.f3))))) xs) : Sz (fun left k => laws_szLineS.f xs left) (szv_LineS xs) :=
  Sz.len h.1 Sz.id
theorem to_LineS (xs : List S60) (h : szv_LineS xs ≤ 1048576) : Ev (fun k => laws_toLineS.f k xs) (xs.map c_Line) :=
  Cv.list (rdx := rd_T60 xs) (e := fun k x => laws_toLine.f (x.f0) (x.f1) (x.f2) (x.f3)) (mk := fun bt => (⟨bt.1, bt.2.1, bt.2.2.1, bt.2.2.2⟩ : S51)) (t := fun x => (x.f0, x.f1, x.f2, x.f3)) (L := fun k ys i => laws_toLineS.l0 k xs ys i) (by have := szv_LineS_len xs; omega) (by have := szv_LineS_len xs; omega) (fun i hi => rdat_T60 hi) (fun x hx => to_Line (x.f0) (x.f1) (x.f2) (x.f3)) (fun _ => rfl) (fun _ _ _ => rfl)
def c_LineS (xs : List S60) : List S51 := xs.map c_Line
def fit_LineS (xs : List S51) : Prop := xs.length ≤ 9223372036854775807
theorem fitc_LineS (xs : List S60) (h : szv_LineS xs ≤ 1048576) : fit_LineS (xs.map c_Line) := by
  have hl := szv_LineS_len xs
  unfold fit_LineS
  simp only [List.length_map]; omega
theorem eq_LineS (xs : List S51) (h : fit_LineS xs) : Ev (fun k => laws_eqLineS.f k xs xs) true :=
  Eq.list (xs := xs) (rdx := rd_T51 xs) (e := fun k x => laws_eqLine.f (x.f0) (x.f1) (x.f2) (x.f3) (x.f0) (x.f1) (x.f2) (x.f3)) (L := fun k i => laws_eqLineS.l0 k xs xs i) h (fun i hi => rdat_T51 hi) (fun x hx => eq_Line (x.f0) (x.f1) (x.f2) (x.f3)) (fun _ _ => rfl)
end Go.Proofs.Ytppfdndnojbmjaa.C

/-! ## XSpecL00In -/
namespace Go.Proofs.Ytppfdndnojbmjaa.X
open Go.RowKit Go.Proofs.Ytppfdndnojbmjaa.XV Go.Proofs.YtppfdndnojbmjaaW.PrintWords Go.Proofs.YtppfdndnojbmjaaW.PrintLast Go.Proofs.YtppfdndnojbmjaaW.PrintMore
attribute [local go_sem] max2_int min2_int max_two min_two max_three min_three max_four min_four

def spec_l00In.f (a0 : Int) (a1 : Int) (a2 : Int) : Option (Bool) := if a0 ≥ a1 then (some (decide (a0 ≤ a2))) else (some false)
set_option maxHeartbeats 8000000 in
set_option maxRecDepth 100000 in
theorem spec_l00In.calls (a0 : Int) (a1 : Int) (a2 : Int) (r : Bool) (w : World) (h : spec_l00In.f a0 a1 a2 = some r) :
  Calls Try.prog 47 #[.int .i64 a0, .int .i64 a1, .int .i64 a2] w fun e w' => e = .returned (.bool r) ∧ Drawn0 w w' := by
 have H : (if a0 ≥ a1 then (some (decide (a0 ≤ a2))) else (some false)) = some r := h
 clear h
 by_cases c4 : a0 ≥ a1
 ·rw [if_pos c4] at H
  have c4b0 : decide (a1 ≤ a0) = true := decide_eq_true c4
  clear c4
  obtain rfl := Option.some.inj H
  go_enter Try.func47, Try.ntmps47
  go_wp2
  go_ret
  exact ⟨by first | rfl | (simp; done) | (simp [*]; done), by repeat (first | exact Drawn0.refl _ | apply Drawn0.step)⟩
 ·rw [if_neg c4] at H
  have c4b0 : decide (a1 ≤ a0) = false := decide_eq_false c4
  clear c4
  obtain rfl := Option.some.inj H
  go_enter Try.func47, Try.ntmps47
  go_wp2
  go_ret
  exact ⟨by first | rfl | (simp; done) | (simp [*]; done), by repeat (first | exact Drawn0.refl _ | apply Drawn0.step)⟩


/-! ## XSpecL26One -/

def spec_l26One.f (a0_0 : Int) (a0_1 : Int) (a0_2 : Int) (a0_3 : Int) (a1 : Int) : Option (Bool) := (spec_l00In.f a0_0 0 (wrap64 (a1 - 1))).bind fun t317 => (if t317 = true then ((spec_l00In.f a0_1 0 (wrap64 (a1 - 1))).bind fun t318 => (if t318 = true then (if a0_0 = a0_1 then (some false) else ((spec_l00In.f a0_2 (-100000) 100000).bind fun t319 => (if t319 = true then ((spec_l00In.f a0_3 1 10000).bind fun t320 => (some t320)) else (some false)))) else (some false))) else (some false))
set_option maxHeartbeats 8000000 in
set_option maxRecDepth 100000 in
theorem spec_l26One.calls (a0_0 : Int) (a0_1 : Int) (a0_2 : Int) (a0_3 : Int) (a1 : Int) (r : Bool) (w : World) (h : spec_l26One.f a0_0 a0_1 a0_2 a0_3 a1 = some r) :
  Calls Try.prog 68 #[.agg #[.int .i64 a0_0, .int .i64 a0_1, .int .i64 a0_2, .int .i64 a0_3], .int .i64 a1] w fun e w' => e = .returned (.bool r) ∧ Below w.heap.size w w' := by
 have hu51 := Try.underlying51
 have HB := Aside0.mk (Below.refl w.heap.size w)
 have H : ((spec_l00In.f a0_0 0 (wrap64 (a1 - 1))).bind fun t317 => (if t317 = true then ((spec_l00In.f a0_1 0 (wrap64 (a1 - 1))).bind fun t318 => (if t318 = true then (if a0_0 = a0_1 then (some false) else ((spec_l00In.f a0_2 (-100000) 100000).bind fun t319 => (if t319 = true then ((spec_l00In.f a0_3 1 10000).bind fun t320 => (some t320)) else (some false)))) else (some false))) else (some false))) = some r := h
 clear h
 replace H := Option.bind_eq_some_iff.mp H
 obtain ⟨t317, A30, H⟩ := H
 replace H : (if t317 = true then ((spec_l00In.f a0_1 0 (wrap64 (a1 - 1))).bind fun t318 => (if t318 = true then (if a0_0 = a0_1 then (some false) else ((spec_l00In.f a0_2 (-100000) 100000).bind fun t319 => (if t319 = true then ((spec_l00In.f a0_3 1 10000).bind fun t320 => (some t320)) else (some false)))) else (some false))) else (some false)) = some r := H
 have A3 := Aside0.mk A30
 clear A30
 by_cases c4 : t317 = true
 ·subst c4
  have H1 : ((spec_l00In.f a0_1 0 (wrap64 (a1 - 1))).bind fun t318 => (if t318 = true then (if a0_0 = a0_1 then (some false) else ((spec_l00In.f a0_2 (-100000) 100000).bind fun t319 => (if t319 = true then ((spec_l00In.f a0_3 1 10000).bind fun t320 => (some t320)) else (some false)))) else (some false))) = some r := by rw [if_pos rfl] at H; exact H
  clear H
  have H := H1
  clear H1
  replace H := Option.bind_eq_some_iff.mp H
  obtain ⟨t318, A50, H⟩ := H
  replace H : (if t318 = true then (if a0_0 = a0_1 then (some false) else ((spec_l00In.f a0_2 (-100000) 100000).bind fun t319 => (if t319 = true then ((spec_l00In.f a0_3 1 10000).bind fun t320 => (some t320)) else (some false)))) else (some false)) = some r := H
  have A5 := Aside0.mk A50
  clear A50
  by_cases c6 : t318 = true
  ·subst c6
   have H1 : (if a0_0 = a0_1 then (some false) else ((spec_l00In.f a0_2 (-100000) 100000).bind fun t319 => (if t319 = true then ((spec_l00In.f a0_3 1 10000).bind fun t320 => (some t320)) else (some false)))) = some r := by rw [if_pos rfl] at H; exact H
   clear H
   have H := H1
   clear H1
   by_cases c7 : a0_0 = a0_1
   ·rw [if_pos c7] at H
    have c7b0 : (a0_0 == a0_1) = true := beq_iff_eq.mpr c7
    have c7b1 : (a0_0 != a0_1) = false := bne_eq_false_iff_eq.mpr c7
    clear c7
    obtain rfl := Option.some.inj H
    go_enter Try.func68, Try.ntmps68
    go_wp2_with (first | ((with_reducible refine gate_dst (N := 2) rfl ?_); refine box_event ?hg (N := 2) ?hd (cs := #[.int .i64 a0_0, .int .i64 a0_1, .int .i64 a0_2, .int .i64 a0_3]) (t := 51) ?hr ?_; (case hd => rfl); (case hg => rfl); (case hr => first | (go_simp; done) | (go_simp; rfl)); intro gb316 hg w8 hbox hb; have n0_ := Aside0.mk (below_step (by repeat (first | (with_reducible first | exact HB.out | apply below_alloc | apply pw_below_drewN | apply below_drew1) | exact HB.out)) hb); have n1_ := Aside0.mk (hbox); have n2_ := Aside0.mk ((by rw [hg]; exact (below_size (by repeat (first | (with_reducible first | exact HB.out | apply below_alloc | apply pw_below_drewN | apply below_drew1) | exact HB.out))) : w.heap.size ≤ gb316)); have n3_ := Aside0.mk ((by rw [hg]; exact (below_size (by repeat (first | (with_reducible first | exact HB.out | apply below_alloc | apply pw_below_drewN | apply below_drew1) | exact HB.out))) : w.heap.size ≤ gb316)); clear HB; have HB := n0_; have BK316 := n1_; have GW316 := n2_; have GE316 := n3_; clear n0_ n1_ n2_ n3_; clear hb hbox hg; have hcz9_0 : w8.cell? ⟨gb316, 0, none⟩ = some (.int .i64 a0_0) := (blk_cell BK316.out 0).trans rfl; have hcz9_1 : w8.cell? ⟨gb316, 1, none⟩ = some (.int .i64 a0_1) := (blk_cell BK316.out 1).trans rfl; have hcz9_2 : w8.cell? ⟨gb316, 2, none⟩ = some (.int .i64 a0_2) := (blk_cell BK316.out 2).trans rfl; have hcz9_3 : w8.cell? ⟨gb316, 3, none⟩ = some (.int .i64 a0_3) := (blk_cell BK316.out 3).trans rfl; have hfz9_0 := blk_frozen BK316.out 0; have hfz9_1 := blk_frozen BK316.out 1; have hfz9_2 := blk_frozen BK316.out 2; have hfz9_3 := blk_frozen BK316.out 3) | ((with_reducible refine gate_callee (f := 47) rfl ?_); refine goesL_ (some 9) rfl rfl Try.func47 (by kernel_rfl) rfl #[.int .i64 a0_0, .int .i64 0, .int .i64 (wrap64 (a1 - 1))] rfl (by (try simp only [List.map_toArray, List.map_cons, List.map_nil]); first | done | rfl | (simp only [List.length_drop, List.length_take]; rfl)) ?_; (with_reducible refine (spec_l00In.calls a0_0 0 (wrap64 (a1 - 1)) true _ A3.out).mono ?_); rintro e w' ⟨rfl, ⟨nd, rfl⟩⟩; refine ⟨_, rfl, ?_⟩) | (go_at_call 47; (with_reducible refine (spec_l00In.calls a0_1 0 (wrap64 (a1 - 1)) true _ A5.out).mono ?_); rintro e w' ⟨rfl, ⟨nd, rfl⟩⟩))
    go_ret
    exact ⟨by first | rfl | (simp [errW_none, errW_some] <;> rfl) | (simp [*, errW_none, errW_some] <;> rfl), by repeat (first | (with_reducible first | exact HB.out | apply below_alloc | apply pw_below_drewN | apply below_drew1 | refine below_set ?_ GE316.out) | exact HB.out)⟩
   ·rw [if_neg c7] at H
    have c7b0 : (a0_0 == a0_1) = false := beq_eq_false_iff_ne.mpr c7
    have c7b1 : (a0_0 != a0_1) = true := bne_iff_ne.mpr c7
    replace H := Option.bind_eq_some_iff.mp H
    obtain ⟨t319, A100, H⟩ := H
    replace H : (if t319 = true then ((spec_l00In.f a0_3 1 10000).bind fun t320 => (some t320)) else (some false)) = some r := H
    have A10 := Aside0.mk A100
    clear A100
    by_cases c11 : t319 = true
    ·subst c11
     have H1 : ((spec_l00In.f a0_3 1 10000).bind fun t320 => (some t320)) = some r := by rw [if_pos rfl] at H; exact H
     clear H
     have H := H1
     clear H1
     replace H := Option.bind_eq_some_iff.mp H
     obtain ⟨t320, A120, H⟩ := H
     replace H : (some t320) = some r := H
     have A12 := Aside0.mk A120
     clear A120
     obtain rfl := Option.some.inj H
     go_enter Try.func68, Try.ntmps68
     go_wp2_with (first | ((with_reducible refine gate_dst (N := 2) rfl ?_); refine box_event ?hg (N := 2) ?hd (cs := #[.int .i64 a0_0, .int .i64 a0_1, .int .i64 a0_2, .int .i64 a0_3]) (t := 51) ?hr ?_; (case hd => rfl); (case hg => rfl); (case hr => first | (go_simp; done) | (go_simp; rfl)); intro gb316 hg w13 hbox hb; have n0_ := Aside0.mk (below_step (by repeat (first | (with_reducible first | exact HB.out | apply below_alloc | apply pw_below_drewN | apply below_drew1) | exact HB.out)) hb); have n1_ := Aside0.mk (hbox); have n2_ := Aside0.mk ((by rw [hg]; exact (below_size (by repeat (first | (with_reducible first | exact HB.out | apply below_alloc | apply pw_below_drewN | apply below_drew1) | exact HB.out))) : w.heap.size ≤ gb316)); have n3_ := Aside0.mk ((by rw [hg]; exact (below_size (by repeat (first | (with_reducible first | exact HB.out | apply below_alloc | apply pw_below_drewN | apply below_drew1) | exact HB.out))) : w.heap.size ≤ gb316)); clear HB; have HB := n0_; have BK316 := n1_; have GW316 := n2_; have GE316 := n3_; clear n0_ n1_ n2_ n3_; clear hb hbox hg; have hcz14_0 : w13.cell? ⟨gb316, 0, none⟩ = some (.int .i64 a0_0) := (blk_cell BK316.out 0).trans rfl; have hcz14_1 : w13.cell? ⟨gb316, 1, none⟩ = some (.int .i64 a0_1) := (blk_cell BK316.out 1).trans rfl; have hcz14_2 : w13.cell? ⟨gb316, 2, none⟩ = some (.int .i64 a0_2) := (blk_cell BK316.out 2).trans rfl; have hcz14_3 : w13.cell? ⟨gb316, 3, none⟩ = some (.int .i64 a0_3) := (blk_cell BK316.out 3).trans rfl; have hfz14_0 := blk_frozen BK316.out 0; have hfz14_1 := blk_frozen BK316.out 1; have hfz14_2 := blk_frozen BK316.out 2; have hfz14_3 := blk_frozen BK316.out 3) | ((with_reducible refine gate_callee (f := 47) rfl ?_); refine goesL_ (some 9) rfl rfl Try.func47 (by kernel_rfl) rfl #[.int .i64 a0_0, .int .i64 0, .int .i64 (wrap64 (a1 - 1))] rfl (by (try simp only [List.map_toArray, List.map_cons, List.map_nil]); first | done | rfl | (simp only [List.length_drop, List.length_take]; rfl)) ?_; (with_reducible refine (spec_l00In.calls a0_0 0 (wrap64 (a1 - 1)) true _ A3.out).mono ?_); rintro e w' ⟨rfl, ⟨nd, rfl⟩⟩; refine ⟨_, rfl, ?_⟩) | (go_at_call 47; (with_reducible refine (spec_l00In.calls a0_1 0 (wrap64 (a1 - 1)) true _ A5.out).mono ?_); rintro e w' ⟨rfl, ⟨nd, rfl⟩⟩) | (go_at_call 47; (with_reducible refine (spec_l00In.calls a0_2 (-100000) 100000 true _ A10.out).mono ?_); rintro e w' ⟨rfl, ⟨nd, rfl⟩⟩) | (go_at_call 47; (with_reducible refine (spec_l00In.calls a0_3 1 10000 t320 _ A12.out).mono ?_); rintro e w' ⟨rfl, ⟨nd, rfl⟩⟩))
     go_ret
     exact ⟨by first | rfl | (simp [errW_none, errW_some] <;> rfl) | (simp [*, errW_none, errW_some] <;> rfl), by repeat (first | (with_reducible first | exact HB.out | apply below_alloc | apply pw_below_drewN | apply below_drew1 | refine below_set ?_ GE316.out) | exact HB.out)⟩
    ·replace c11 := Bool.eq_false_iff.mpr c11
     subst c11
     have H1 : (some false) = some r := by rw [if_neg (show ¬ (false = true) by decide)] at H; exact H
     clear H
     have H := H1
     clear H1
     obtain rfl := Option.some.inj H
     go_enter Try.func68, Try.ntmps68
     go_wp2_with (first | ((with_reducible refine gate_dst (N := 2) rfl ?_); refine box_event ?hg (N := 2) ?hd (cs := #[.int .i64 a0_0, .int .i64 a0_1, .int .i64 a0_2, .int .i64 a0_3]) (t := 51) ?hr ?_; (case hd => rfl); (case hg => rfl); (case hr => first | (go_simp; done) | (go_simp; rfl)); intro gb316 hg w15 hbox hb; have n0_ := Aside0.mk (below_step (by repeat (first | (with_reducible first | exact HB.out | apply below_alloc | apply pw_below_drewN | apply below_drew1) | exact HB.out)) hb); have n1_ := Aside0.mk (hbox); have n2_ := Aside0.mk ((by rw [hg]; exact (below_size (by repeat (first | (with_reducible first | exact HB.out | apply below_alloc | apply pw_below_drewN | apply below_drew1) | exact HB.out))) : w.heap.size ≤ gb316)); have n3_ := Aside0.mk ((by rw [hg]; exact (below_size (by repeat (first | (with_reducible first | exact HB.out | apply below_alloc | apply pw_below_drewN | apply below_drew1) | exact HB.out))) : w.heap.size ≤ gb316)); clear HB; have HB := n0_; have BK316 := n1_; have GW316 := n2_; have GE316 := n3_; clear n0_ n1_ n2_ n3_; clear hb hbox hg; have hcz16_0 : w15.cell? ⟨gb316, 0, none⟩ = some (.int .i64 a0_0) := (blk_cell BK316.out 0).trans rfl; have hcz16_1 : w15.cell? ⟨gb316, 1, none⟩ = some (.int .i64 a0_1) := (blk_cell BK316.out 1).trans rfl; have hcz16_2 : w15.cell? ⟨gb316, 2, none⟩ = some (.int .i64 a0_2) := (blk_cell BK316.out 2).trans rfl; have hcz16_3 : w15.cell? ⟨gb316, 3, none⟩ = some (.int .i64 a0_3) := (blk_cell BK316.out 3).trans rfl; have hfz16_0 := blk_frozen BK316.out 0; have hfz16_1 := blk_frozen BK316.out 1; have hfz16_2 := blk_frozen BK316.out 2; have hfz16_3 := blk_frozen BK316.out 3) | ((with_reducible refine gate_callee (f := 47) rfl ?_); refine goesL_ (some 9) rfl rfl Try.func47 (by kernel_rfl) rfl #[.int .i64 a0_0, .int .i64 0, .int .i64 (wrap64 (a1 - 1))] rfl (by (try simp only [List.map_toArray, List.map_cons, List.map_nil]); first | done | rfl | (simp only [List.length_drop, List.length_take]; rfl)) ?_; (with_reducible refine (spec_l00In.calls a0_0 0 (wrap64 (a1 - 1)) true _ A3.out).mono ?_); rintro e w' ⟨rfl, ⟨nd, rfl⟩⟩; refine ⟨_, rfl, ?_⟩) | (go_at_call 47; (with_reducible refine (spec_l00In.calls a0_1 0 (wrap64 (a1 - 1)) true _ A5.out).mono ?_); rintro e w' ⟨rfl, ⟨nd, rfl⟩⟩) | (go_at_call 47; (with_reducible refine (spec_l00In.calls a0_2 (-100000) 100000 false _ A10.out).mono ?_); rintro e w' ⟨rfl, ⟨nd, rfl⟩⟩))
     go_ret
     exact ⟨by first | rfl | (simp [errW_none, errW_some] <;> rfl) | (simp [*, errW_none, errW_some] <;> rfl), by repeat (first | (with_reducible first | exact HB.out | apply below_alloc | apply pw_below_drewN | apply below_drew1 | refine below_set ?_ GE316.out) | exact HB.out)⟩
  ·replace c6 := Bool.eq_false_iff.mpr c6
   subst c6
   have H1 : (some false) = some r := by rw [if_neg (show ¬ (false = true) by decide)] at H; exact H
   clear H
   have H := H1
   clear H1
   obtain rfl := Option.some.inj H
   go_enter Try.func68, Try.ntmps68
   go_wp2_with (first | ((with_reducible refine gate_dst (N := 2) rfl ?_); refine box_event ?hg (N := 2) ?hd (cs := #[.int .i64 a0_0, .int .i64 a0_1, .int .i64 a0_2, .int .i64 a0_3]) (t := 51) ?hr ?_; (case hd => rfl); (case hg => rfl); (case hr => first | (go_simp; done) | (go_simp; rfl)); intro gb316 hg w17 hbox hb; have n0_ := Aside0.mk (below_step (by repeat (first | (with_reducible first | exact HB.out | apply below_alloc | apply pw_below_drewN | apply below_drew1) | exact HB.out)) hb); have n1_ := Aside0.mk (hbox); have n2_ := Aside0.mk ((by rw [hg]; exact (below_size (by repeat (first | (with_reducible first | exact HB.out | apply below_alloc | apply pw_below_drewN | apply below_drew1) | exact HB.out))) : w.heap.size ≤ gb316)); have n3_ := Aside0.mk ((by rw [hg]; exact (below_size (by repeat (first | (with_reducible first | exact HB.out | apply below_alloc | apply pw_below_drewN | apply below_drew1) | exact HB.out))) : w.heap.size ≤ gb316)); clear HB; have HB := n0_; have BK316 := n1_; have GW316 := n2_; have GE316 := n3_; clear n0_ n1_ n2_ n3_; clear hb hbox hg; have hcz18_0 : w17.cell? ⟨gb316, 0, none⟩ = some (.int .i64 a0_0) := (blk_cell BK316.out 0).trans rfl; have hcz18_1 : w17.cell? ⟨gb316, 1, none⟩ = some (.int .i64 a0_1) := (blk_cell BK316.out 1).trans rfl; have hcz18_2 : w17.cell? ⟨gb316, 2, none⟩ = some (.int .i64 a0_2) := (blk_cell BK316.out 2).trans rfl; have hcz18_3 : w17.cell? ⟨gb316, 3, none⟩ = some (.int .i64 a0_3) := (blk_cell BK316.out 3).trans rfl; have hfz18_0 := blk_frozen BK316.out 0; have hfz18_1 := blk_frozen BK316.out 1; have hfz18_2 := blk_frozen BK316.out 2; have hfz18_3 := blk_frozen BK316.out 3) | ((with_reducible refine gate_callee (f := 47) rfl ?_); refine goesL_ (some 9) rfl rfl Try.func47 (by kernel_rfl) rfl #[.int .i64 a0_0, .int .i64 0, .int .i64 (wrap64 (a1 - 1))] rfl (by (try simp only [List.map_toArray, List.map_cons, List.map_nil]); first | done | rfl | (simp only [List.length_drop, List.length_take]; rfl)) ?_; (with_reducible refine (spec_l00In.calls a0_0 0 (wrap64 (a1 - 1)) true _ A3.out).mono ?_); rintro e w' ⟨rfl, ⟨nd, rfl⟩⟩; refine ⟨_, rfl, ?_⟩) | (go_at_call 47; (with_reducible refine (spec_l00In.calls a0_1 0 (wrap64 (a1 - 1)) false _ A5.out).mono ?_); rintro e w' ⟨rfl, ⟨nd, rfl⟩⟩))
   go_ret
   exact ⟨by first | rfl | (simp [errW_none, errW_some] <;> rfl) | (simp [*, errW_none, errW_some] <;> rfl), by repeat (first | (with_reducible first | exact HB.out | apply below_alloc | apply pw_below_drewN | apply below_drew1 | refine below_set ?_ GE316.out) | exact HB.out)⟩
 ·replace c4 := Bool.eq_false_iff.mpr c4
  subst c4
  have H1 : (some false) = some r := by rw [if_neg (show ¬ (false = true) by decide)] at H; exact H
  clear H
  have H := H1
  clear H1
  obtain rfl := Option.some.inj H
  go_enter Try.func68, Try.ntmps68
  go_wp2_with (first | ((with_reducible refine gate_dst (N := 2) rfl ?_); refine box_event ?hg (N := 2) ?hd (cs := #[.int .i64 a0_0, .int .i64 a0_1, .int .i64 a0_2, .int .i64 a0_3]) (t := 51) ?hr ?_; (case hd => rfl); (case hg => rfl); (case hr => first | (go_simp; done) | (go_simp; rfl)); intro gb316 hg w19 hbox hb; have n0_ := Aside0.mk (below_step (by repeat (first | (with_reducible first | exact HB.out | apply below_alloc | apply pw_below_drewN | apply below_drew1) | exact HB.out)) hb); have n1_ := Aside0.mk (hbox); have n2_ := Aside0.mk ((by rw [hg]; exact (below_size (by repeat (first | (with_reducible first | exact HB.out | apply below_alloc | apply pw_below_drewN | apply below_drew1) | exact HB.out))) : w.heap.size ≤ gb316)); have n3_ := Aside0.mk ((by rw [hg]; exact (below_size (by repeat (first | (with_reducible first | exact HB.out | apply below_alloc | apply pw_below_drewN | apply below_drew1) | exact HB.out))) : w.heap.size ≤ gb316)); clear HB; have HB := n0_; have BK316 := n1_; have GW316 := n2_; have GE316 := n3_; clear n0_ n1_ n2_ n3_; clear hb hbox hg; have hcz20_0 : w19.cell? ⟨gb316, 0, none⟩ = some (.int .i64 a0_0) := (blk_cell BK316.out 0).trans rfl; have hcz20_1 : w19.cell? ⟨gb316, 1, none⟩ = some (.int .i64 a0_1) := (blk_cell BK316.out 1).trans rfl; have hcz20_2 : w19.cell? ⟨gb316, 2, none⟩ = some (.int .i64 a0_2) := (blk_cell BK316.out 2).trans rfl; have hcz20_3 : w19.cell? ⟨gb316, 3, none⟩ = some (.int .i64 a0_3) := (blk_cell BK316.out 3).trans rfl; have hfz20_0 := blk_frozen BK316.out 0; have hfz20_1 := blk_frozen BK316.out 1; have hfz20_2 := blk_frozen BK316.out 2; have hfz20_3 := blk_frozen BK316.out 3) | ((with_reducible refine gate_callee (f := 47) rfl ?_); refine goesL_ (some 9) rfl rfl Try.func47 (by kernel_rfl) rfl #[.int .i64 a0_0, .int .i64 0, .int .i64 (wrap64 (a1 - 1))] rfl (by (try simp only [List.map_toArray, List.map_cons, List.map_nil]); first | done | rfl | (simp only [List.length_drop, List.length_take]; rfl)) ?_; (with_reducible refine (spec_l00In.calls a0_0 0 (wrap64 (a1 - 1)) false _ A3.out).mono ?_); rintro e w' ⟨rfl, ⟨nd, rfl⟩⟩; refine ⟨_, rfl, ?_⟩))
  go_ret
  exact ⟨by first | rfl | (simp [errW_none, errW_some] <;> rfl) | (simp [*, errW_none, errW_some] <;> rfl), by repeat (first | (with_reducible first | exact HB.out | apply below_alloc | apply pw_below_drewN | apply below_drew1 | refine below_set ?_ GE316.out) | exact HB.out)⟩


/-! ## XSpecL26Ok -/

def spec_l26Ok.l0 : Nat → Int → List (S51) → Int → Option (Bool)
 | 0, _, _, _ => none
 | k + 1, x0, x1, x5 => if x5 < (x1.length : Int) then (if 0 ≤ x5 then ((spec_l26One.f ((rd_T51 x1 x5).f0) ((rd_T51 x1 x5).f1) ((rd_T51 x1 x5).f2) ((rd_T51 x1 x5).f3) x0).bind fun t323 => (if t323 = true then (spec_l26Ok.l0 k x0 x1 (wrap64 (x5 + 1))) else (some false))) else (none)) else (some (decide ((x1.length : Int) ≤ 12)))
def spec_l26Ok.f (k : Nat) (a0 : Int) (l1 : List (S51)) : Option (Bool) := (spec_l00In.f a0 2 10).bind fun t321 => (if t321 = true then (spec_l26Ok.l0 k a0 l1 0) else (some false))
theorem spec_l26Ok.mono_l : ∀ k, (∀ y0 y1 y2, LeO (spec_l26Ok.l0 k y0 y1 y2) (spec_l26Ok.l0 (k + 1) y0 y1 y2))
 | 0 => fun _ _ _ r h => by simp [spec_l26Ok.l0] at h
 | k + 1 => by
  have ih0 := spec_l26Ok.mono_l k
  ·intro y0 y1 y2
   unfold spec_l26Ok.l0
   repeat' first
   | (with_reducible exact ih0 _ _ _)
   | (with_reducible exact LeO.refl _)
   | (with_reducible exact LeO.none _)
   | (with_reducible refine LeO.ite ?_ ?_)
   | (with_reducible refine LeO.bind ?_ (fun _ => ?_))
   | exact ih0 _ _ _
   | exact LeO.none _
   | refine LeO.ite ?_ ?_
   | refine LeO.bind ?_ (fun _ => ?_)
theorem spec_l26Ok.mono : ∀ a0 a1 k, LeO (spec_l26Ok.f k a0 a1) (spec_l26Ok.f (k + 1) a0 a1) := by
 intro a0 a1 k
 have ih0 := spec_l26Ok.mono_l k
 unfold spec_l26Ok.f
 repeat' first
   | (with_reducible exact ih0 _ _ _)
   | (with_reducible exact LeO.refl _)
   | (with_reducible exact LeO.none _)
   | (with_reducible refine LeO.ite ?_ ?_)
   | (with_reducible refine LeO.bind ?_ (fun _ => ?_))
   | exact ih0 _ _ _
   | exact LeO.none _
   | refine LeO.ite ?_ ?_
   | refine LeO.bind ?_ (fun _ => ?_)
set_option maxHeartbeats 8000000 in
set_option maxRecDepth 100000 in
theorem spec_l26Ok.calls (k : Nat) (a0 : Int) (A1 : Option Addr) (c1 : Nat) (l1 : List (S51)) (r : Bool) (w : World) (hr1 : Kd.C k51 w A1 l1.length l1) (hc1 : l1.length ≤ c1) (h : spec_l26Ok.f k a0 l1 = some r) :
  Calls Try.prog 39 #[.int .i64 a0, .slice A1 l1.length c1] w fun e w' => e = .returned (.bool r) ∧ Below w.heap.size w w' := by
 have hu51 := Try.underlying51
 have HR1 := Aside0.mk hr1
 have HC1 := Aside0.mk hc1
 clear hr1 hc1
 have HB := Aside0.mk (Below.refl w.heap.size w)
 have H : ((spec_l00In.f a0 2 10).bind fun t321 => (if t321 = true then (spec_l26Ok.l0 k a0 l1 0) else (some false))) = some r := h
 clear h
 replace H := Option.bind_eq_some_iff.mp H
 obtain ⟨t321, A30, H⟩ := H
 replace H : (if t321 = true then (spec_l26Ok.l0 k a0 l1 0) else (some false)) = some r := H
 have A3 := Aside0.mk A30
 clear A30
 by_cases c4 : t321 = true
 ·subst c4
  have H1 : (spec_l26Ok.l0 k a0 l1 0) = some r := by rw [if_pos rfl] at H; exact H
  clear H
  have H := H1
  clear H1
  have H' := Aside0.mk H
  clear H
  go_enter Try.func39, Try.ntmps39
  go_wp2_with (first | ((with_reducible refine gate_callee (f := 47) rfl ?_); refine goesL_ (some 7) rfl rfl Try.func47 (by kernel_rfl) rfl #[.int .i64 a0, .int .i64 2, .int .i64 10] rfl (by (try simp only [List.map_toArray, List.map_cons, List.map_nil]); first | done | rfl | (simp only [List.length_drop, List.length_take]; rfl)) ?_; (with_reducible refine (spec_l00In.calls a0 2 10 true _ A3.out).mono ?_); rintro e w' ⟨rfl, ⟨nd, rfl⟩⟩; refine ⟨_, rfl, ?_⟩))
  go_loopg [5] k (fun kq v5 w' => ∃ (x5_1 : Int), v5 = .int .i64 x5_1 ∧ Aside0 (spec_l26Ok.l0 kq a0 l1 x5_1 = some r) ∧ Aside0 (kq ≤ k) ∧ Aside0 (Below w.heap.size w w'))
  case atStart => exact ⟨(0), (by first | rfl | (simp; done) | (simp [*]; done)), H', ⟨Nat.le_refl _⟩, ⟨by repeat (first | (with_reducible first | exact HB.out | apply below_alloc | apply pw_below_drewN | apply below_drew1) | exact HB.out)⟩⟩
  case round =>
   clear H'
   try clear c1
   try clear p2
   try clear c3
   try clear c4
   obtain ⟨x5_1, rfl, HA, HK1, HB⟩ := hrel
   cases gk with
   | zero => exact absurd HA.out (by simp [spec_l26Ok.l0])
   | succ k1 =>
    have H := HA.out
    clear HA
    simp only [spec_l26Ok.l0] at H
    by_cases c5 : x5_1 < (l1.length : Int)
    ·rw [if_pos c5] at H
     have c5b0 : decide (x5_1 < (l1.length : Int)) = true := decide_eq_true c5
     clear c5
     by_cases c6 : 0 ≤ x5_1
     ·rw [if_pos c6] at H
      have c6b0 : decide (0 ≤ x5_1) = true := decide_eq_true c6
      clear c6
      replace H := Option.bind_eq_some_iff.mp H
      obtain ⟨t323, A70, H⟩ := H
      replace H : (if t323 = true then (spec_l26Ok.l0 k1 a0 l1 (wrap64 (x5_1 + 1))) else (some false)) = some r := H
      have A7 := Aside0.mk A70
      clear A70
      by_cases c8 : t323 = true
      ·subst c8
       have H1 : (spec_l26Ok.l0 k1 a0 l1 (wrap64 (x5_1 + 1))) = some r := by rw [if_pos rfl] at H; exact H
       clear H
       have H := H1
       clear H1
       have H' := Aside0.mk H
       clear H
       have p322 : 0 ≤ (x5_1 : Int) := of_decide_eq_true (by first | (with_reducible assumption) | assumption)
       have q322 : x5_1 < (l1.length : Int) := of_decide_eq_true (by first | (with_reducible assumption) | assumption)
       obtain ⟨ad322, e322, hx322_0, hx322_1, hx322_2, hx322_3⟩ := at_T51 HR1.out x5_1 p322 q322
       cases e322
       replace hx322_0 := (HB.out.cell (World.block_lt_of_cell? w _ hx322_0)).trans hx322_0
       replace hx322_1 := (HB.out.cell (World.block_lt_of_cell? w _ hx322_1)).trans hx322_1
       replace hx322_2 := (HB.out.cell (World.block_lt_of_cell? w _ hx322_2)).trans hx322_2
       replace hx322_3 := (HB.out.cell (World.block_lt_of_cell? w _ hx322_3)).trans hx322_3
       replace p322 := eq_true p322
       replace q322 := eq_true q322
       go_wp2_with (first | ((with_reducible refine gate_callee (f := 68) rfl ?_); refine goesL_ (some 20) rfl rfl Try.func68 (by kernel_rfl) rfl #[.agg #[.int .i64 ((rd_T51 l1 x5_1).f0), .int .i64 ((rd_T51 l1 x5_1).f1), .int .i64 ((rd_T51 l1 x5_1).f2), .int .i64 ((rd_T51 l1 x5_1).f3)], .int .i64 a0] rfl (by (try simp only [List.map_toArray, List.map_cons, List.map_nil]); first | done | rfl | (simp only [List.length_drop, List.length_take]; rfl)) ?_; (with_reducible refine (spec_l26One.calls ((rd_T51 l1 x5_1).f0) ((rd_T51 l1 x5_1).f1) ((rd_T51 l1 x5_1).f2) ((rd_T51 l1 x5_1).f3) a0 true _ A7.out).mono ?_); rintro e w9 ⟨rfl, hb⟩; refine ⟨_, rfl, ?_⟩; have n0_ := Aside0.mk (below_step (by repeat (first | (with_reducible first | exact HB.out | apply below_alloc | apply pw_below_drewN | apply below_drew1) | exact HB.out)) hb); clear HB; have HB := n0_; clear n0_; (try clear hb); (try clear hb2); (try clear hk); (try clear hi)))
       go_roundg k1
       case measure => have := HK1.out; omega
       case rel => exact ⟨(wrap64 (x5_1 + 1)), (by first | rfl | (simp; done) | (simp [*]; done)), H', ⟨by have := HK1.out; omega⟩, ⟨by repeat (first | (with_reducible first | exact HB.out | apply below_alloc | apply pw_below_drewN | apply below_drew1) | exact HB.out)⟩⟩
      ·replace c8 := Bool.eq_false_iff.mpr c8
       subst c8
       have H1 : (some false) = some r := by rw [if_neg (show ¬ (false = true) by decide)] at H; exact H
       clear H
       have H := H1
       clear H1
       obtain rfl := Option.some.inj H
       have p322 : 0 ≤ (x5_1 : Int) := of_decide_eq_true (by first | (with_reducible assumption) | assumption)
       have q322 : x5_1 < (l1.length : Int) := of_decide_eq_true (by first | (with_reducible assumption) | assumption)
       obtain ⟨ad322, e322, hx322_0, hx322_1, hx322_2, hx322_3⟩ := at_T51 HR1.out x5_1 p322 q322
       cases e322
       replace hx322_0 := (HB.out.cell (World.block_lt_of_cell? w _ hx322_0)).trans hx322_0
       replace hx322_1 := (HB.out.cell (World.block_lt_of_cell? w _ hx322_1)).trans hx322_1
       replace hx322_2 := (HB.out.cell (World.block_lt_of_cell? w _ hx322_2)).trans hx322_2
       replace hx322_3 := (HB.out.cell (World.block_lt_of_cell? w _ hx322_3)).trans hx322_3
       replace p322 := eq_true p322
       replace q322 := eq_true q322
       go_wp2_with (first | ((with_reducible refine gate_callee (f := 68) rfl ?_); refine goesL_ (some 20) rfl rfl Try.func68 (by kernel_rfl) rfl #[.agg #[.int .i64 ((rd_T51 l1 x5_1).f0), .int .i64 ((rd_T51 l1 x5_1).f1), .int .i64 ((rd_T51 l1 x5_1).f2), .int .i64 ((rd_T51 l1 x5_1).f3)], .int .i64 a0] rfl (by (try simp only [List.map_toArray, List.map_cons, List.map_nil]); first | done | rfl | (simp only [List.length_drop, List.length_take]; rfl)) ?_; (with_reducible refine (spec_l26One.calls ((rd_T51 l1 x5_1).f0) ((rd_T51 l1 x5_1).f1) ((rd_T51 l1 x5_1).f2) ((rd_T51 l1 x5_1).f3) a0 false _ A7.out).mono ?_); rintro e w10 ⟨rfl, hb⟩; refine ⟨_, rfl, ?_⟩; have n0_ := Aside0.mk (below_step (by repeat (first | (with_reducible first | exact HB.out | apply below_alloc | apply pw_below_drewN | apply below_drew1) | exact HB.out)) hb); clear HB; have HB := n0_; clear n0_; (try clear hb); (try clear hb2); (try clear hk); (try clear hi)))
       go_ret
       exact ⟨by first | rfl | (simp [errW_none, errW_some] <;> rfl) | (simp [*, errW_none, errW_some] <;> rfl), by repeat (first | (with_reducible first | exact HB.out | apply below_alloc | apply pw_below_drewN | apply below_drew1) | exact HB.out)⟩
     ·rw [if_neg c6] at H
      exact absurd H (by simp)
    ·rw [if_neg c5] at H
     have c5b0 : decide (x5_1 < (l1.length : Int)) = false := decide_eq_false c5
     clear c5
     obtain rfl := Option.some.inj H
     go_wp2
     go_ret
     exact ⟨by first | rfl | (simp [errW_none, errW_some] <;> rfl) | (simp [*, errW_none, errW_some] <;> rfl), by repeat (first | (with_reducible first | exact HB.out | apply below_alloc | apply pw_below_drewN | apply below_drew1) | exact HB.out)⟩
 ·replace c4 := Bool.eq_false_iff.mpr c4
  subst c4
  have H1 : (some false) = some r := by rw [if_neg (show ¬ (false = true) by decide)] at H; exact H
  clear H
  have H := H1
  clear H1
  obtain rfl := Option.some.inj H
  go_enter Try.func39, Try.ntmps39
  go_wp2_with (first | ((with_reducible refine gate_callee (f := 47) rfl ?_); refine goesL_ (some 7) rfl rfl Try.func47 (by kernel_rfl) rfl #[.int .i64 a0, .int .i64 2, .int .i64 10] rfl (by (try simp only [List.map_toArray, List.map_cons, List.map_nil]); first | done | rfl | (simp only [List.length_drop, List.length_take]; rfl)) ?_; (with_reducible refine (spec_l00In.calls a0 2 10 false _ A3.out).mono ?_); rintro e w' ⟨rfl, ⟨nd, rfl⟩⟩; refine ⟨_, rfl, ?_⟩))
  go_ret
  exact ⟨by first | rfl | (simp [errW_none, errW_some] <;> rfl) | (simp [*, errW_none, errW_some] <;> rfl), by repeat (first | (with_reducible first | exact HB.out | apply below_alloc | apply pw_below_drewN | apply below_drew1) | exact HB.out)⟩

end Go.Proofs.Ytppfdndnojbmjaa.X
