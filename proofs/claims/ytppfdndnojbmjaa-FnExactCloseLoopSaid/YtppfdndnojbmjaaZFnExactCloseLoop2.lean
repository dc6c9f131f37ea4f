/- A part of the proof of FnExactCloseLoop: walks of Go functions and plain laws that it uses. No condition of its own. -/
import Derived.Test.YtppfdndnojbmjaaZFnExactCloseLoop0
import Derived.Test.YtppfdndnojbmjaaZFnExactCloseLoop1
import Derived.Shelf.GgSortMore.Stable
import Derived.Ground.GgtProg
import Derived.Test.YtppfdndnojbmjaaProg
import Derived.Sort.OwnSortedInts
set_option linter.unusedVariables false
set_option linter.unusedSimpArgs false

/-! ## XSpecL26Sides -/
namespace Go.Proofs.Ytppfdndnojbmjaa.X
open Go.RowKit Go.Proofs.Ytppfdndnojbmjaa.XV Go.Proofs.YtppfdndnojbmjaaW.PrintWords Go.Proofs.YtppfdndnojbmjaaW.PrintLast Go.Proofs.YtppfdndnojbmjaaW.PrintMore
attribute [local go_sem] max2_int min2_int max_two min_two max_three min_three max_four min_four

/-! ### spec_l26Sides: function 73 -/
mutual
def spec_l26Sides.l0 : Nat → List (S51) → List Int → List Int → List Int → Int → Option (List Int × List Int × Bool)
 | 0, _, _, _, _, _ => none
 | k + 1, x0, x1, x7, x8, x9 => if x9 < (x1.length : Int) then (if 0 ≤ x9 then (if (x1.length : Int) = 0 then (none) else (if 0 ≤ (Int.tmod (wrap64 (x9 + 1)) (x1.length : Int)) then (if (Int.tmod (wrap64 (x9 + 1)) (x1.length : Int)) < (x1.length : Int) then (spec_l26Sides.l1 k x0 x1 x7 x8 x9 (rd x1 x9) (rd x1 (Int.tmod (wrap64 (x9 + 1)) (x1.length : Int))) false 0) else (none)) else (none))) else (none)) else (some (x7, x8, true))
def spec_l26Sides.l1 : Nat → List (S51) → List Int → List Int → List Int → Int → Int → Int → Bool → Int → Option (List Int × List Int × Bool)
 | 0, _, _, _, _, _, _, _, _, _ => none
 | k + 1, x0, x1, x7, x8, x9, x10, x11, x12, x13 => if x13 < (x0.length : Int) then (spec_l26Sides.j2 k x0 x1 x7 x8 x9 x10 x11 x12 x13 (!x12)) else (spec_l26Sides.j2 k x0 x1 x7 x8 x9 x10 x11 x12 x13 false)
def spec_l26Sides.j2 : Nat → List (S51) → List Int → List Int → List Int → Int → Int → Int → Bool → Int → Bool → Option (List Int × List Int × Bool)
 | 0, _, _, _, _, _, _, _, _, _, _ => none
 | k + 1, x0, x1, x7, x8, x9, x10, x11, x12, x13, x42 => if x42 = true then (if 0 ≤ x13 then (if x13 < (x0.length : Int) then (if ((rd_T51 x0 x13).f0) = x10 then (spec_l26Sides.j3 k x0 x1 x7 x8 x9 x10 x11 x12 x13 (((rd_T51 x0 x13).f1) == x11) ((rd_T51 x0 x13).f0) ((rd_T51 x0 x13).f1) ((rd_T51 x0 x13).f2) ((rd_T51 x0 x13).f3)) else (spec_l26Sides.j3 k x0 x1 x7 x8 x9 x10 x11 x12 x13 false ((rd_T51 x0 x13).f0) ((rd_T51 x0 x13).f1) ((rd_T51 x0 x13).f2) ((rd_T51 x0 x13).f3))) else (none)) else (none)) else (if x12 = true then (spec_l26Sides.l0 k x0 x1 x7 x8 (wrap64 (x9 + 1))) else (some (([] : List Int), ([] : List Int), false)))
def spec_l26Sides.j3 : Nat → List (S51) → List Int → List Int → List Int → Int → Int → Int → Bool → Int → Bool → Int → Int → Int → Int → Option (List Int × List Int × Bool)
 | 0, _, _, _, _, _, _, _, _, _, _, _, _, _, _ => none
 | k + 1, x0, x1, x7, x8, x9, x10, x11, x12, x13, x58, x340000, x340001, x340002, x340003 => if x58 = true then (if x7.length < 17592186044416 then (if x8.length < 17592186044416 then (spec_l26Sides.l1 k x0 x1 (x7 ++ [x340002]) (x8 ++ [x340003]) x9 x10 x11 true (wrap64 (x13 + 1))) else (none)) else (none)) else (if x340000 = x11 then (spec_l26Sides.j4 k x0 x1 x7 x8 x9 x10 x11 x12 x13 (x340001 == x10) x340000 x340001 x340002 x340003) else (spec_l26Sides.j4 k x0 x1 x7 x8 x9 x10 x11 x12 x13 false x340000 x340001 x340002 x340003))
def spec_l26Sides.j4 : Nat → List (S51) → List Int → List Int → List Int → Int → Int → Int → Bool → Int → Bool → Int → Int → Int → Int → Option (List Int × List Int × Bool)
 | 0, _, _, _, _, _, _, _, _, _, _, _, _, _, _ => none
 | k + 1, x0, x1, x7, x8, x9, x10, x11, x12, x13, x73, x340000, x340001, x340002, x340003 => if x73 = true then (if x7.length < 17592186044416 then (if x8.length < 17592186044416 then (spec_l26Sides.l1 k x0 x1 (x7 ++ [wrap64 (-x340002)]) (x8 ++ [x340003]) x9 x10 x11 true (wrap64 (x13 + 1))) else (none)) else (none)) else (if x12 = true then (if x8.length < 17592186044416 then (spec_l26Sides.l1 k x0 x1 x7 (x8 ++ [x340003]) x9 x10 x11 x12 (wrap64 (x13 + 1))) else (none)) else (spec_l26Sides.l1 k x0 x1 x7 x8 x9 x10 x11 x12 (wrap64 (x13 + 1))))
end
def spec_l26Sides.f (k : Nat) (l0 : List (S51)) (l1 : List Int) : Option (List Int × List Int × Bool) := spec_l26Sides.l0 k l0 l1 (([] : List Int)) (([] : List Int)) 0
theorem spec_l26Sides.mono_l : ∀ k, (∀ y0 y1 y2 y3 y4, LeO (spec_l26Sides.l0 k y0 y1 y2 y3 y4) (spec_l26Sides.l0 (k + 1) y0 y1 y2 y3 y4)) ∧ (∀ y0 y1 y2 y3 y4 y5 y6 y7 y8, LeO (spec_l26Sides.l1 k y0 y1 y2 y3 y4 y5 y6 y7 y8) (spec_l26Sides.l1 (k + 1) y0 y1 y2 y3 y4 y5 y6 y7 y8)) ∧ (∀ y0 y1 y2 y3 y4 y5 y6 y7 y8 y9, LeO (spec_l26Sides.j2 k y0 y1 y2 y3 y4 y5 y6 y7 y8 y9) (spec_l26Sides.j2 (k + 1) y0 y1 y2 y3 y4 y5 y6 y7 y8 y9)) ∧ (∀ y0 y1 y2 y3 y4 y5 y6 y7 y8 y9 y10 y11 y12 y13, LeO (spec_l26Sides.j3 k y0 y1 y2 y3 y4 y5 y6 y7 y8 y9 y10 y11 y12 y13) (spec_l26Sides.j3 (k + 1) y0 y1 y2 y3 y4 y5 y6 y7 y8 y9 y10 y11 y12 y13)) ∧ (∀ y0 y1 y2 y3 y4 y5 y6 y7 y8 y9 y10 y11 y12 y13, LeO (spec_l26Sides.j4 k y0 y1 y2 y3 y4 y5 y6 y7 y8 y9 y10 y11 y12 y13) (spec_l26Sides.j4 (k + 1) y0 y1 y2 y3 y4 y5 y6 y7 y8 y9 y10 y11 y12 y13))
 | 0 => ⟨fun _ _ _ _ _ r h => by simp [spec_l26Sides.l0] at h, fun _ _ _ _ _ _ _ _ _ r h => by simp [spec_l26Sides.l1] at h, fun _ _ _ _ _ _ _ _ _ _ r h => by simp [spec_l26Sides.j2] at h, fun _ _ _ _ _ _ _ _ _ _ _ _ _ _ r h => by simp [spec_l26Sides.j3] at h, fun _ _ _ _ _ _ _ _ _ _ _ _ _ _ r h => by simp [spec_l26Sides.j4] at h⟩
 | k + 1 => by
  obtain ⟨ih0, ih1, ih2, ih3, ih4⟩ := spec_l26Sides.mono_l k
  refine ⟨?_, ?_, ?_, ?_, ?_⟩
  ·intro y0 y1 y2 y3 y4
   unfold spec_l26Sides.l0
   repeat' first
   | (with_reducible exact ih0 _ _ _ _ _)
   | (with_reducible exact ih1 _ _ _ _ _ _ _ _ _)
   | (with_reducible exact ih2 _ _ _ _ _ _ _ _ _ _)
   | (with_reducible exact ih3 _ _ _ _ _ _ _ _ _ _ _ _ _ _)
   | (with_reducible exact ih4 _ _ _ _ _ _ _ _ _ _ _ _ _ _)
   | (with_reducible exact LeO.refl _)
   | (with_reducible exact LeO.none _)
   | (with_reducible refine LeO.ite ?_ ?_)
   | (with_reducible refine LeO.bind ?_ (fun _ => ?_))
   | exact ih0 _ _ _ _ _
   | exact ih1 _ _ _ _ _ _ _ _ _
   | exact ih2 _ _ _ _ _ _ _ _ _ _
   | exact ih3 _ _ _ _ _ _ _ _ _ _ _ _ _ _
   | exact ih4 _ _ _ _ _ _ _ _ _ _ _ _ _ _
   | exact LeO.none _
   | refine LeO.ite ?_ ?_
   | refine LeO.bind ?_ (fun _ => ?_)
  ·intro y0 y1 y2 y3 y4 y5 y6 y7 y8
   unfold spec_l26Sides.l1
   repeat' first
   | (with_reducible exact ih0 _ _ _ _ _)
   | (with_reducible exact ih1 _ _ _ _ _ _ _ _ _)
   | (with_reducible exact ih2 _ _ _ _ _ _ _ _ _ _)
   | (with_reducible exact ih3 _ _ _ _ _ _ _ _ _ _ _ _ _ _)
   | (with_reducible exact ih4 _ _ _ _ _ _ _ _ _ _ _ _ _ _)
   | (with_reducible exact LeO.refl _)
   | (with_reducible exact LeO.none _)
   | (with_reducible refine LeO.ite ?_ ?_)
   | (with_reducible refine LeO.bind ?_ (fun _ => ?_))
   | exact ih0 _ _ _ _ _
   | exact ih1 _ _ _ _ _ _ _ _ _
   | exact ih2 _ _ _ _ _ _ _ _ _ _
   | exact ih3 _ _ _ _ _ _ _ _ _ _ _ _ _ _
   | exact ih4 _ _ _ _ _ _ _ _ _ _ _ _ _ _
   | exact LeO.none _
   | refine LeO.ite ?_ ?_
   | refine LeO.bind ?_ (fun _ => ?_)
  ·intro y0 y1 y2 y3 y4 y5 y6 y7 y8 y9
   unfold spec_l26Sides.j2
   repeat' first
   | (with_reducible exact ih0 _ _ _ _ _)
   | (with_reducible exact ih1 _ _ _ _ _ _ _ _ _)
   | (with_reducible exact ih2 _ _ _ _ _ _ _ _ _ _)
   | (with_reducible exact ih3 _ _ _ _ _ _ _ _ _ _ _ _ _ _)
   | (with_reducible exact ih4 _ _ _ _ _ _ _ _ _ _ _ _ _ _)
   | (with_reducible exact LeO.refl _)
   | (with_reducible exact LeO.none _)
   | (with_reducible refine LeO.ite ?_ ?_)
   | (with_reducible refine LeO.bind ?_ (fun _ => ?_))
   | exact ih0 _ _ _ _ _
   | exact ih1 _ _ _ _ _ _ _ _ _
   | exact ih2 _ _ _ _ _ _ _ _ _ _
   | exact ih3 _ _ _ _ _ _ _ _ _ _ _ _ _ _
   | exact ih4 _ _ _ _ _ _ _ _ _ _ _ _ _ _
   | exact LeO.none _
   | refine LeO.ite ?_ ?_
   | refine LeO.bind ?_ (fun _ => ?_)
  ·intro y0 y1 y2 y3 y4 y5 y6 y7 y8 y9 y10 y11 y12 y13
   unfold spec_l26Sides.j3
   repeat' first
   | (with_reducible exact ih0 _ _ _ _ _)
   | (with_reducible exact ih1 _ _ _ _ _ _ _ _ _)
   | (with_reducible exact ih2 _ _ _ _ _ _ _ _ _ _)
   | (with_reducible exact ih3 _ _ _ _ _ _ _ _ _ _ _ _ _ _)
   | (with_reducible exact ih4 _ _ _ _ _ _ _ _ _ _ _ _ _ _)
   | (with_reducible exact LeO.refl _)
   | (with_reducible exact LeO.none _)
   | (with_reducible refine LeO.ite ?_ ?_)
   | (with_reducible refine LeO.bind ?_ (fun _ => ?_))
   | exact ih0 _ _ _ _ _
   | exact ih1 _ _ _ _ _ _ _ _ _
   | exact ih2 _ _ _ _ _ _ _ _ _ _
   | exact ih3 _ _ _ _ _ _ _ _ _ _ _ _ _ _
   | exact ih4 _ _ _ _ _ _ _ _ _ _ _ _ _ _
   | exact LeO.none _
   | refine LeO.ite ?_ ?_
   | refine LeO.bind ?_ (fun _ => ?_)
  ·intro y0 y1 y2 y3 y4 y5 y6 y7 y8 y9 y10 y11 y12 y13
   unfold spec_l26Sides.j4
   repeat' first
   | (with_reducible exact ih0 _ _ _ _ _)
   | (with_reducible exact ih1 _ _ _ _ _ _ _ _ _)
   | (with_reducible exact ih2 _ _ _ _ _ _ _ _ _ _)
   | (with_reducible exact ih3 _ _ _ _ _ _ _ _ _ _ _ _ _ _)
   | (with_reducible exact ih4 _ _ _ _ _ _ _ _ _ _ _ _ _ _)
   | (with_reducible exact LeO.refl _)
   | (with_reducible exact LeO.none _)
   | (with_reducible refine LeO.ite ?_ ?_)
   | (with_reducible refine LeO.bind ?_ (fun _ => ?_))
   | exact ih0 _ _ _ _ _
   | exact ih1 _ _ _ _ _ _ _ _ _
   | exact ih2 _ _ _ _ _ _ _ _ _ _
   | exact ih3 _ _ _ _ _ _ _ _ _ _ _ _ _ _
   | exact ih4 _ _ _ _ _ _ _ _ _ _ _ _ _ _
   | exact LeO.none _
   | refine LeO.ite ?_ ?_
   | refine LeO.bind ?_ (fun _ => ?_)
theorem spec_l26Sides.mono : ∀ a0 a1 k, LeO (spec_l26Sides.f k a0 a1) (spec_l26Sides.f (k + 1) a0 a1) := by
 intro a0 a1 k
 obtain ⟨ih0, ih1, ih2, ih3, ih4⟩ := spec_l26Sides.mono_l k
 unfold spec_l26Sides.f
 repeat' first
   | (with_reducible exact ih0 _ _ _ _ _)
   | (with_reducible exact ih1 _ _ _ _ _ _ _ _ _)
   | (with_reducible exact ih2 _ _ _ _ _ _ _ _ _ _)
   | (with_reducible exact ih3 _ _ _ _ _ _ _ _ _ _ _ _ _ _)
   | (with_reducible exact ih4 _ _ _ _ _ _ _ _ _ _ _ _ _ _)
   | (with_reducible exact LeO.refl _)
   | (with_reducible exact LeO.none _)
   | (with_reducible refine LeO.ite ?_ ?_)
   | (with_reducible refine LeO.bind ?_ (fun _ => ?_))
   | exact ih0 _ _ _ _ _
   | exact ih1 _ _ _ _ _ _ _ _ _
   | exact ih2 _ _ _ _ _ _ _ _ _ _
   | exact ih3 _ _ _ _ _ _ _ _ _ _ _ _ _ _
   | exact ih4 _ _ _ _ _ _ _ _ _ _ _ _ _ _
   | exact LeO.none _
   | refine LeO.ite ?_ ?_
   | refine LeO.bind ?_ (fun _ => ?_)
set_option maxHeartbeats 8000000 in
set_option maxRecDepth 100000 in
theorem spec_l26Sides.calls (k : Nat) (A0 : Option Addr) (c0 : Nat) (l0 : List (S51)) (A1 : Option Addr) (c1 : Nat) (l1 : List Int) (r1 : List Int) (r2 : List Int) (r3 : Bool) (w : World) (hr0 : Kd.C k51 w A0 l0.length l0) (hc0 : l0.length ≤ c0) (hr1 : Kd.C (Kd.int .i64) w A1 l1.length l1) (hc1 : l1.length ≤ c1) (h : spec_l26Sides.f k l0 l1 = some (r1, r2, r3)) :
  Calls Try.prog 73 #[.slice A0 l0.length c0, .slice A1 l1.length c1] w fun e w' => ∃ v0_ v1_ : Value, e = .returned (.tuple #[v0_, v1_, .bool r3]) ∧ Kd.R (Kd.int .i64) 2 w' w.heap.size (fun k_ => some k_ ≠ (v1_ : Value).ownBlock) v0_ r1 ∧ Kd.R (Kd.int .i64) 2 w' w.heap.size (fun k_ => some k_ ≠ (v0_ : Value).ownBlock) v1_ r2 ∧ Below w.heap.size w w' := by
 have hu51 := Try.underlying51
 have HR0 := Aside0.mk hr0
 have HC0 := Aside0.mk hc0
 clear hr0 hc0
 have HR1 := Aside0.mk hr1
 have HC1 := Aside0.mk hc1
 clear hr1 hc1
 have HB := Aside0.mk (Below.refl w.heap.size w)
 have H : (spec_l26Sides.l0 k l0 l1 (([] : List Int)) (([] : List Int)) 0) = some (r1, r2, r3) := h
 clear h
 obtain ⟨y330, hy330⟩ : ∃ y_ : List Int, y_ = (([] : List Int)) := ⟨_, rfl⟩
 replace H : (spec_l26Sides.l0 k l0 l1 y330 (([] : List Int)) 0) = some (r1, r2, r3) := by first | (rw [hy330]; with_reducible exact H) | (have H2_ := (Option.bind_some _ _).symm.trans H; rw [hy330]; with_reducible exact H2_) | (have H2_ := (Option.bind_some _ _).symm.trans H; with_reducible exact H2_) | with_reducible exact H | (rw [hy330]; exact H) | exact H
 have Ny330 := Aside0.mk hy330
 clear hy330
 obtain ⟨y333, hy333⟩ : ∃ y_ : List Int, y_ = (([] : List Int)) := ⟨_, rfl⟩
 replace H : (spec_l26Sides.l0 k l0 l1 y330 y333 0) = some (r1, r2, r3) := by first | (rw [hy333]; with_reducible exact H) | (have H2_ := (Option.bind_some _ _).symm.trans H; rw [hy333]; with_reducible exact H2_) | (have H2_ := (Option.bind_some _ _).symm.trans H; with_reducible exact H2_) | with_reducible exact H | (rw [hy333]; exact H) | exact H
 have Ny333 := Aside0.mk hy333
 clear hy333
 have H' := Aside0.mk H
 clear H
 go_enter Try.func73, Try.ntmps73
 go_wp2_with (first | ((with_reducible refine gate_dst (N := 15) rfl ?_); refine Kd.R_lit (Kd.int .i64) _ 2 ?hg (N := 15) ?hd (xs := ([] : List Int)) (inner := []) (ok := fun _ => True) (okp := fun _ => True) ?hr ?hp (fun _ hk => hk) trivial (Below.refl _ _) (Nat.le_refl _) (by simp) ?_; (case hd => rfl); (case hg => rfl); (case hr => first | (go_simp; done) | (go_simp; rfl)); (case hp => exact (Reps.none _ _)); intro v331 w3 ho4 hb hg_ hnew_; clear hg_ hnew_; (first | rw [← Ny330.out] at ho4 | (simp only [Int.reduceToNat] at ho4; rw [← Ny330.out] at ho4)); have n0_ := Aside0.mk (Kd.R_lower ho4 (below_size (by repeat (first | (with_reducible first | exact HB.out | apply below_alloc | apply pw_below_drewN | apply below_drew1) | exact HB.out)))); have n1_ := Aside0.mk (below_step (by repeat (first | (with_reducible first | exact HB.out | apply below_alloc | apply pw_below_drewN | apply below_drew1) | exact HB.out)) hb); clear HB; have HO332 := n0_; have HB := n1_; clear n0_ n1_; clear hb ho4) | ((with_reducible refine gate_dst (N := 16) rfl ?_); refine Kd.R_lit (Kd.int .i64) _ 2 ?hg (N := 16) ?hd (xs := ([] : List Int)) (inner := []) (ok := fun _ => True) (okp := fun _ => True) ?hr ?hp (fun _ hk => hk) trivial (Below.refl _ _) (Nat.le_refl _) (by simp) ?_; (case hd => rfl); (case hg => rfl); (case hr => first | (go_simp; done) | (go_simp; rfl)); (case hp => exact (Reps.none _ _)); intro v334 w5 ho6 hb hg_ hnew_; clear hg_ hnew_; (first | rw [← Ny333.out] at ho6 | (simp only [Int.reduceToNat] at ho6; rw [← Ny333.out] at ho6)); have n0_ := Aside0.mk (Kd.R_elder' (by (with_reducible repeat (first | apply Kd.R_alloc | apply Kd.R_drewN | apply Kd.R_drew)); exact HO332.out) (Kd.R_base ho6) hb); have n1_ := Aside0.mk (Kd.R_lower (Kd.R_new' ho6 (Kd.R_lt (by (with_reducible repeat (first | apply Kd.R_alloc | apply Kd.R_drewN | apply Kd.R_drew)); exact HO332.out))) (below_size (by repeat (first | (with_reducible first | exact HB.out | apply below_alloc | apply pw_below_drewN | apply below_drew1) | exact HB.out)))); have n2_ := Aside0.mk (below_step (by repeat (first | (with_reducible first | exact HB.out | apply below_alloc | apply pw_below_drewN | apply below_drew1) | exact HB.out)) hb); clear HO332; clear HB; have HO332 := n0_; have HO335 := n1_; have HB := n2_; clear n0_ n1_ n2_; clear hb ho6))
 go_loopg [7, 8, 9] k (fun kq v7 v8 v9 w' => ∃ (x7_1 : List Int) (x8_1 : List Int) (x9_1 : Int), v9 = .int .i64 x9_1 ∧ Aside0 (spec_l26Sides.l0 kq l0 l1 x7_1 x8_1 x9_1 = some (r1, r2, r3)) ∧ Aside0 (kq ≤ k) ∧ Aside0 (Kd.R (Kd.int .i64) 2 w' w.heap.size (fun k_ => some k_ ≠ (v8 : Value).ownBlock) v7 x7_1) ∧ Aside0 (Kd.R (Kd.int .i64) 2 w' w.heap.size (fun k_ => some k_ ≠ (v7 : Value).ownBlock) v8 x8_1) ∧ Aside0 (Below w.heap.size w w'))
 case atStart => exact ⟨(y330), (y333), (0), (by first | rfl | (simp; done) | (simp [*]; done)), H', ⟨Nat.le_refl _⟩, ⟨by (with_reducible repeat (first | apply Kd.R_alloc | apply Kd.R_drewN | apply Kd.R_drew)); exact Kd.R_mono HO332.out (fun _ hk => hk.2)⟩, ⟨by (with_reducible repeat (first | apply Kd.R_alloc | apply Kd.R_drewN | apply Kd.R_drew)); exact Kd.R_mono HO335.out (fun _ hk => hk.2)⟩, ⟨by repeat (first | (with_reducible first | exact HB.out | apply below_alloc | apply pw_below_drewN | apply below_drew1) | exact HB.out)⟩⟩
 case round =>
  clear H'
  try clear c1
  try clear p2
  obtain ⟨x7_1, x8_1, x9_1, rfl, HA, HK1, HO_7, HO_8, HB⟩ := hrel
  cases gk with
  | zero => exact absurd HA.out (by simp [spec_l26Sides.l0])
  | succ k1 =>
   have H := HA.out
   clear HA
   simp only [spec_l26Sides.l0] at H
   by_cases c7 : x9_1 < (l1.length : Int)
   ·rw [if_pos c7] at H
    have c7b0 : decide (x9_1 < (l1.length : Int)) = true := decide_eq_true c7
    clear c7
    by_cases c8 : 0 ≤ x9_1
    ·rw [if_pos c8] at H
     have c8b0 : decide (0 ≤ x9_1) = true := decide_eq_true c8
     clear c8
     by_cases c9 : (l1.length : Int) = 0
     ·rw [if_pos c9] at H
      exact absurd H (by simp)
     ·rw [if_neg c9] at H
      have c9b0 : ((l1.length : Int) == 0) = false := beq_eq_false_iff_ne.mpr c9
      have c9b1 : ((l1.length : Int) != 0) = true := bne_iff_ne.mpr c9
      have c9b2 : ¬ (l1 = []) := fun h_ => c9 (by rw [h_]; rfl)
      obtain ⟨ji10, hji10⟩ : ∃ j_ : Int, (Int.tmod (wrap64 (x9_1 + 1)) (l1.length : Int)) = j_ := ⟨_, rfl⟩
      replace H : (if 0 ≤ (ji10) then (if (ji10) < (l1.length : Int) then (spec_l26Sides.l1 k1 l0 l1 x7_1 x8_1 x9_1 (rd l1 x9_1) (rd l1 (ji10)) false 0) else (none)) else (none)) = some (r1, r2, r3) := by first | (rw [hji10] at H; exact H) | (simp only [hji10] at H ⊢; exact H)
      by_cases c11 : 0 ≤ (ji10)
      ·rw [if_pos c11] at H
       have c11b0 : decide (0 ≤ (ji10)) = true := decide_eq_true c11
       clear c11
       by_cases c12 : (ji10) < (l1.length : Int)
       ·rw [if_pos c12] at H
        have c12b0 : decide ((ji10) < (l1.length : Int)) = true := decide_eq_true c12
        clear c12
        have H' := Aside0.mk H
        clear H
        have p336 : 0 ≤ (x9_1 : Int) := of_decide_eq_true (by first | (with_reducible assumption) | assumption)
        have q336 : x9_1 < (l1.length : Int) := of_decide_eq_true (by first | (with_reducible assumption) | assumption)
        obtain ⟨ad336, e336, hx336_0⟩ := Kd.at_int HR1.out x9_1 p336 q336
        cases e336
        replace hx336_0 := (HB.out.cell (World.block_lt_of_cell? w _ hx336_0)).trans hx336_0
        replace p336 := eq_true p336
        replace q336 := eq_true q336
        have p337 : 0 ≤ ((ji10) : Int) := of_decide_eq_true (by first | (with_reducible assumption) | assumption)
        have q337 : (ji10) < (l1.length : Int) := of_decide_eq_true (by first | (with_reducible assumption) | assumption)
        obtain ⟨ad337, e337, hx337_0⟩ := Kd.at_int HR1.out (ji10) p337 q337
        obtain rfl : ad336 = ad337 := (by injection e337)
        replace hx337_0 := (HB.out.cell (World.block_lt_of_cell? w _ hx337_0)).trans hx337_0
        replace p337 := eq_true p337
        replace q337 := eq_true q337
        go_wp2
        go_loopg [7, 8, 12, 13] k1 (fun kq v7 v8 v12 v13 w' => ∃ (x7_2 : List Int) (x8_2 : List Int) (x12_2 : Bool) (x13_2 : Int), v12 = .bool x12_2 ∧ v13 = .int .i64 x13_2 ∧ Aside0 (spec_l26Sides.l1 kq l0 l1 x7_2 x8_2 x9_1 (rd l1 x9_1) (rd l1 (ji10)) x12_2 x13_2 = some (r1, r2, r3)) ∧ Aside0 (kq ≤ k1) ∧ Aside0 (Kd.R (Kd.int .i64) 2 w' w.heap.size (fun k_ => some k_ ≠ (v8 : Value).ownBlock) v7 x7_2) ∧ Aside0 (Kd.R (Kd.int .i64) 2 w' w.heap.size (fun k_ => some k_ ≠ (v7 : Value).ownBlock) v8 x8_2) ∧ Aside0 (Below w.heap.size w w'))
        case atStart => exact ⟨(x7_1), (x8_1), (false), (0), (by first | rfl | (simp; done) | (simp [*]; done)), (by first | rfl | (simp; done) | (simp [*]; done)), H', ⟨Nat.le_refl _⟩, ⟨by (with_reducible repeat (first | apply Kd.R_alloc | apply Kd.R_drewN | apply Kd.R_drew)); exact HO_7.out⟩, ⟨by (with_reducible repeat (first | apply Kd.R_alloc | apply Kd.R_drewN | apply Kd.R_drew)); exact HO_8.out⟩, ⟨by repeat (first | (with_reducible first | exact HB.out | apply below_alloc | apply pw_below_drewN | apply below_drew1) | exact HB.out)⟩⟩
        case round =>
         clear H'
         try clear c1
         try clear p2
         try clear p3
         try clear q3
         try clear hx3
         try clear p6
         try clear c7
         try clear c7b0
         try clear c8
         try clear c8b0
         try clear c9
         try clear c9b0
         try clear c9b1
         try clear c9b2
         try clear c11
         try clear c11b0
         try clear c12
         try clear c12b0
         try clear hx336_0
         try clear hx337_0
         try clear p2
         try clear p336
         try clear p337
         try clear q336
         try clear q337
         obtain ⟨x7_2, x8_2, x12_2, x13_2, rfl, rfl, HA, HK2, HO_7, HO_8, HB⟩ := hrel
         cases gk with
         | zero => exact absurd HA.out (by simp [spec_l26Sides.l1])
         | succ k2 =>
          have H := HA.out
          clear HA
          simp only [spec_l26Sides.l1] at H
          have HC13 := Aside0.mk H
          clear H
          go_upto_region 10 with (fail)
          go_cut [42] (fun v42 wc => ∃ (kq : Nat) (x42_12 : Bool), v42 = .bool x42_12 ∧ Aside0 (spec_l26Sides.j2 kq l0 l1 x7_2 x8_2 x9_1 (rd l1 x9_1) (rd l1 (ji10)) x12_2 x13_2 x42_12 = some (r1, r2, r3)) ∧ Aside0 (kq ≤ k2) ∧ Aside0 (Kd.R (Kd.int .i64) 2 wc w.heap.size (fun k_ => some k_ ≠ (u8 : Value).ownBlock) u7 x7_2) ∧ Aside0 (Kd.R (Kd.int .i64) 2 wc w.heap.size (fun k_ => some k_ ≠ (u7 : Value).ownBlock) u8 x8_2) ∧ Aside0 (Below w.heap.size w wc))
          case first =>
           have H := HC13.out
           clear HC13
           by_cases c14 : x13_2 < (l0.length : Int)
           ·rw [if_pos c14] at H
            have c14b0 : decide (x13_2 < (l0.length : Int)) = true := decide_eq_true c14
            clear c14
            (first | rw [c14b0] | (simp only [i64_w, i32_w]; rw [c14b0]) | skip)
            have H' := Aside0.mk H
            clear H
            go_wp2
            go_meet
            case rel => exact ⟨_, (!x12_2), (by first | rfl | (simp; done) | (simp [*]; done)), H', ⟨by have := HK1.out; have := HK2.out; first | omega | exact Nat.le_refl _⟩, ⟨by (with_reducible repeat (first | apply Kd.R_alloc | apply Kd.R_drewN | apply Kd.R_drew)); exact HO_7.out⟩, ⟨by (with_reducible repeat (first | apply Kd.R_alloc | apply Kd.R_drewN | apply Kd.R_drew)); exact HO_8.out⟩, ⟨by repeat (first | (with_reducible first | exact HB.out | apply below_alloc | apply pw_below_drewN | apply below_drew1) | exact HB.out)⟩⟩
           ·rw [if_neg c14] at H
            have c14b0 : decide (x13_2 < (l0.length : Int)) = false := decide_eq_false c14
            clear c14
            (first | rw [c14b0] | (simp only [i64_w, i32_w]; rw [c14b0]) | skip)
            have H' := Aside0.mk H
            clear H
            go_wp2
            go_meet
            case rel => exact ⟨_, (false), (by first | rfl | (simp; done) | (simp [*]; done)), H', ⟨by have := HK1.out; have := HK2.out; first | omega | exact Nat.le_refl _⟩, ⟨by (with_reducible repeat (first | apply Kd.R_alloc | apply Kd.R_drewN | apply Kd.R_drew)); exact HO_7.out⟩, ⟨by (with_reducible repeat (first | apply Kd.R_alloc | apply Kd.R_drewN | apply Kd.R_drew)); exact HO_8.out⟩, ⟨by repeat (first | (with_reducible first | exact HB.out | apply below_alloc | apply pw_below_drewN | apply below_drew1) | exact HB.out)⟩⟩
          case rest =>
           clear HC13
           try clear c1
           try clear p2
           try clear p3
           try clear q3
           try clear hx3
           try clear p6
           try clear c7
           try clear c7b0
           try clear c8
           try clear c8b0
           try clear c9
           try clear c9b0
           try clear c9b1
           try clear c9b2
           try clear c11
           try clear c11b0
           try clear c12
           try clear c12b0
           try clear c14
           try clear c14b0
           try clear hx336_0
           try clear hx337_0
           try clear p2
           try clear p3
           try clear p336
           try clear p337
           try clear p6
           try clear q3
           try clear q336
           try clear q337
           obtain ⟨kq, x42_12, rfl, HA, HJ12, HO_7, HO_8, HB⟩ := hcut
           cases kq with
           | zero => exact absurd HA.out (by simp [spec_l26Sides.j2])
           | succ kj12 =>
            have H := HA.out
            clear HA
            simp only [spec_l26Sides.j2] at H
            by_cases c15 : x42_12 = true
            ·subst c15
             have H1 : (if 0 ≤ x13_2 then (if x13_2 < (l0.length : Int) then (if ((rd_T51 l0 x13_2).f0) = (rd l1 x9_1) then (spec_l26Sides.j3 kj12 l0 l1 x7_2 x8_2 x9_1 (rd l1 x9_1) (rd l1 (ji10)) x12_2 x13_2 (((rd_T51 l0 x13_2).f1) == (rd l1 (ji10))) ((rd_T51 l0 x13_2).f0) ((rd_T51 l0 x13_2).f1) ((rd_T51 l0 x13_2).f2) ((rd_T51 l0 x13_2).f3)) else (spec_l26Sides.j3 kj12 l0 l1 x7_2 x8_2 x9_1 (rd l1 x9_1) (rd l1 (ji10)) x12_2 x13_2 false ((rd_T51 l0 x13_2).f0) ((rd_T51 l0 x13_2).f1) ((rd_T51 l0 x13_2).f2) ((rd_T51 l0 x13_2).f3))) else (none)) else (none)) = some (r1, r2, r3) := by rw [if_pos rfl] at H; exact H
             clear H
             have H := H1
             clear H1
             by_cases c16 : 0 ≤ x13_2
             ·rw [if_pos c16] at H
              have c16b0 : decide (0 ≤ x13_2) = true := decide_eq_true c16
              clear c16
              by_cases c17 : x13_2 < (l0.length : Int)
              ·rw [if_pos c17] at H
               have c17b0 : decide (x13_2 < (l0.length : Int)) = true := decide_eq_true c17
               clear c17
               have HC18 := Aside0.mk H
               clear H
               have p338 : 0 ≤ (x13_2 : Int) := of_decide_eq_true (by first | (with_reducible assumption) | assumption)
               have q338 : x13_2 < (l0.length : Int) := of_decide_eq_true (by first | (with_reducible assumption) | assumption)
               obtain ⟨ad338, e338, hx338_0, hx338_1, hx338_2, hx338_3⟩ := at_T51 HR0.out x13_2 p338 q338
               cases e338
               replace hx338_0 := (HB.out.cell (World.block_lt_of_cell? w _ hx338_0)).trans hx338_0
               replace hx338_1 := (HB.out.cell (World.block_lt_of_cell? w _ hx338_1)).trans hx338_1
               replace hx338_2 := (HB.out.cell (World.block_lt_of_cell? w _ hx338_2)).trans hx338_2
               replace hx338_3 := (HB.out.cell (World.block_lt_of_cell? w _ hx338_3)).trans hx338_3
               replace p338 := eq_true p338
               replace q338 := eq_true q338
               go_upto_region 13 with (first | ((with_reducible refine gate_dst (N := 14) rfl ?_); refine box_event ?hg (N := 14) ?hd (cs := #[.int .i64 0, .int .i64 0, .int .i64 0, .int .i64 0]) (t := 51) ?hr ?_; (case hd => rfl); (case hg => rfl); (case hr => first | (go_simp; done) | (go_simp; rfl)); intro gb339 hg w19 hbox hb; have n0_ := Aside0.mk (Kd.R_below (by (with_reducible repeat (first | apply Kd.R_alloc | apply Kd.R_drewN | apply Kd.R_drew)); exact HO_7.out) hb); have n1_ := Aside0.mk (Kd.R_below (by (with_reducible repeat (first | apply Kd.R_alloc | apply Kd.R_drewN | apply Kd.R_drew)); exact HO_8.out) hb); have n2_ := Aside0.mk (below_step (by repeat (first | (with_reducible first | exact HB.out | apply below_alloc | apply pw_below_drewN | apply below_drew1) | exact HB.out)) hb); have n3_ := Aside0.mk (hbox); have n4_ := Aside0.mk ((by rw [hg]; exact (below_size (by repeat (first | (with_reducible first | exact HB.out | apply below_alloc | apply pw_below_drewN | apply below_drew1) | exact HB.out))) : w.heap.size ≤ gb339)); have n5_ := Aside0.mk ((by rw [hg]; exact (below_size (by repeat (first | (with_reducible first | exact HB.out | apply below_alloc | apply pw_below_drewN | apply below_drew1) | exact HB.out))) : w.heap.size ≤ gb339)); clear HO_7; clear HO_8; clear HB; have HO_7 := n0_; have HO_8 := n1_; have HB := n2_; have BK339 := n3_; have GW339 := n4_; have GE339 := n5_; clear n0_ n1_ n2_ n3_ n4_ n5_; clear hb hbox hg; have hcz20_0 : w19.cell? ⟨gb339, 0, none⟩ = some (.int .i64 0) := (blk_cell BK339.out 0).trans rfl; have hcz20_1 : w19.cell? ⟨gb339, 1, none⟩ = some (.int .i64 0) := (blk_cell BK339.out 1).trans rfl; have hcz20_2 : w19.cell? ⟨gb339, 2, none⟩ = some (.int .i64 0) := (blk_cell BK339.out 2).trans rfl; have hcz20_3 : w19.cell? ⟨gb339, 3, none⟩ = some (.int .i64 0) := (blk_cell BK339.out 3).trans rfl; have hfz20_0 := blk_frozen BK339.out 0; have hfz20_1 := blk_frozen BK339.out 1; have hfz20_2 := blk_frozen BK339.out 2; have hfz20_3 := blk_frozen BK339.out 3))
               (try simp only [Act.put, List.setIfInBounds_toArray, List.set_cons_zero, List.set_cons_succ])
               go_cut [58] (fun v58 wc => ∃ (kq : Nat) (x58_17 : Bool), v58 = .bool x58_17 ∧ Aside0 (spec_l26Sides.j3 kq l0 l1 x7_2 x8_2 x9_1 (rd l1 x9_1) (rd l1 (ji10)) x12_2 x13_2 x58_17 ((rd_T51 l0 x13_2).f0) ((rd_T51 l0 x13_2).f1) ((rd_T51 l0 x13_2).f2) ((rd_T51 l0 x13_2).f3) = some (r1, r2, r3)) ∧ Aside0 (kq ≤ kj12) ∧ Aside0 (Kd.R (Kd.int .i64) 2 wc w.heap.size (fun k_ => some k_ ≠ (u8 : Value).ownBlock) u7 x7_2) ∧ Aside0 (Kd.R (Kd.int .i64) 2 wc w.heap.size (fun k_ => some k_ ≠ (u7 : Value).ownBlock) u8 x8_2) ∧ Aside0 (wc.heap[gb339]? = some (.cells #[.int .i64 ((rd_T51 l0 x13_2).f0), .int .i64 ((rd_T51 l0 x13_2).f1), .int .i64 ((rd_T51 l0 x13_2).f2), .int .i64 ((rd_T51 l0 x13_2).f3)] 51 (0, 0))) ∧ Aside0 (Below w.heap.size w wc))
               case first =>
                have H := HC18.out
                clear HC18
                by_cases c21 : ((rd_T51 l0 x13_2).f0) = (rd l1 x9_1)
                ·rw [if_pos c21] at H
                 have c21b0 : (((rd_T51 l0 x13_2).f0) == (rd l1 x9_1)) = true := beq_iff_eq.mpr c21
                 have c21b1 : (((rd_T51 l0 x13_2).f0) != (rd l1 x9_1)) = false := bne_eq_false_iff_eq.mpr c21
                 clear c21
                 (first | rw [c21b0] | (simp only [i64_w, i32_w]; rw [c21b0]) | skip)
                 have H' := Aside0.mk H
                 clear H
                 have hcz22_0 : w19.cell? ⟨gb339, 0, none⟩ = some (.int .i64 0) := (blk_cell BK339.out 0).trans rfl
                 have hcz22_1 : w19.cell? ⟨gb339, 1, none⟩ = some (.int .i64 0) := (blk_cell BK339.out 1).trans rfl
                 have hcz22_2 : w19.cell? ⟨gb339, 2, none⟩ = some (.int .i64 0) := (blk_cell BK339.out 2).trans rfl
                 have hcz22_3 : w19.cell? ⟨gb339, 3, none⟩ = some (.int .i64 0) := (blk_cell BK339.out 3).trans rfl
                 have hfz22_0 := blk_frozen BK339.out 0
                 have hfz22_1 := blk_frozen BK339.out 1
                 have hfz22_2 := blk_frozen BK339.out 2
                 have hfz22_3 := blk_frozen BK339.out 3
                 go_wp2
                 go_meet
                 case rel => exact ⟨_, ((((rd_T51 l0 x13_2).f1) == (rd l1 (ji10)))), (by first | rfl | (simp; done) | (simp only [← hji10] <;> (first | rfl | simp)) | (simp [*]; done)), H', ⟨by have := HK1.out; have := HK2.out; have := HJ12.out; first | omega | exact Nat.le_refl _⟩, ⟨by (with_reducible repeat (first | apply Kd.R_alloc | apply Kd.R_drewN | apply Kd.R_drew)); exact Kd.R_mono (Kd.R_far (p := ⟨gb339, 3, none⟩) (Kd.R_far (p := ⟨gb339, 2, none⟩) (Kd.R_far (p := ⟨gb339, 1, none⟩) (Kd.R_far (p := ⟨gb339, 0, none⟩) (Kd.R_types HO_7.out BK339.out (by decide)) (fun _ hk => hk.2) (.int .i64 ((rd_T51 l0 x13_2).f0))) (fun _ hk => hk.2) (.int .i64 ((rd_T51 l0 x13_2).f1))) (fun _ hk => hk.2) (.int .i64 ((rd_T51 l0 x13_2).f2))) (fun _ hk => hk.2) (.int .i64 ((rd_T51 l0 x13_2).f3))) (fun _ hk => hk.1)⟩, ⟨by (with_reducible repeat (first | apply Kd.R_alloc | apply Kd.R_drewN | apply Kd.R_drew)); exact Kd.R_mono (Kd.R_far (p := ⟨gb339, 3, none⟩) (Kd.R_far (p := ⟨gb339, 2, none⟩) (Kd.R_far (p := ⟨gb339, 1, none⟩) (Kd.R_far (p := ⟨gb339, 0, none⟩) (Kd.R_types HO_8.out BK339.out (by decide)) (fun _ hk => hk.2) (.int .i64 ((rd_T51 l0 x13_2).f0))) (fun _ hk => hk.2) (.int .i64 ((rd_T51 l0 x13_2).f1))) (fun _ hk => hk.2) (.int .i64 ((rd_T51 l0 x13_2).f2))) (fun _ hk => hk.2) (.int .i64 ((rd_T51 l0 x13_2).f3))) (fun _ hk => hk.1)⟩, ⟨by (with_reducible repeat (first | refine blk_drewN ?_ _ | refine blk_drew ?_ | refine blk_alloc ?_ _)); refine blk_put (cs := #[.int .i64 ((rd_T51 l0 x13_2).f0), .int .i64 ((rd_T51 l0 x13_2).f1), .int .i64 ((rd_T51 l0 x13_2).f2), .int .i64 0]) ?_ 3 _ rfl; (with_reducible repeat (first | refine blk_drewN ?_ _ | refine blk_drew ?_ | refine blk_alloc ?_ _)); refine blk_put (cs := #[.int .i64 ((rd_T51 l0 x13_2).f0), .int .i64 ((rd_T51 l0 x13_2).f1), .int .i64 0, .int .i64 0]) ?_ 2 _ rfl; (with_reducible repeat (first | refine blk_drewN ?_ _ | refine blk_drew ?_ | refine blk_alloc ?_ _)); refine blk_put (cs := #[.int .i64 ((rd_T51 l0 x13_2).f0), .int .i64 0, .int .i64 0, .int .i64 0]) ?_ 1 _ rfl; (with_reducible repeat (first | refine blk_drewN ?_ _ | refine blk_drew ?_ | refine blk_alloc ?_ _)); refine blk_put (cs := #[.int .i64 0, .int .i64 0, .int .i64 0, .int .i64 0]) ?_ 0 _ rfl; (with_reducible repeat (first | refine blk_drewN ?_ _ | refine blk_drew ?_ | refine blk_alloc ?_ _)); exact BK339.out⟩, ⟨by repeat (first | (with_reducible first | exact HB.out | apply below_alloc | apply pw_below_drewN | apply below_drew1 | refine below_set ?_ GE339.out) | exact HB.out)⟩⟩
                ·rw [if_neg c21] at H
                 have c21b0 : (((rd_T51 l0 x13_2).f0) == (rd l1 x9_1)) = false := beq_eq_false_iff_ne.mpr c21
                 have c21b1 : (((rd_T51 l0 x13_2).f0) != (rd l1 x9_1)) = true := bne_iff_ne.mpr c21
                 (first | rw [c21b0] | (simp only [i64_w, i32_w]; rw [c21b0]) | skip)
                 have H' := Aside0.mk H
                 clear H
                 have hcz23_0 : w19.cell? ⟨gb339, 0, none⟩ = some (.int .i64 0) := (blk_cell BK339.out 0).trans rfl
                 have hcz23_1 : w19.cell? ⟨gb339, 1, none⟩ = some (.int .i64 0) := (blk_cell BK339.out 1).trans rfl
                 have hcz23_2 : w19.cell? ⟨gb339, 2, none⟩ = some (.int .i64 0) := (blk_cell BK339.out 2).trans rfl
                 have hcz23_3 : w19.cell? ⟨gb339, 3, none⟩ = some (.int .i64 0) := (blk_cell BK339.out 3).trans rfl
                 have hfz23_0 := blk_frozen BK339.out 0
                 have hfz23_1 := blk_frozen BK339.out 1
                 have hfz23_2 := blk_frozen BK339.out 2
                 have hfz23_3 := blk_frozen BK339.out 3
                 go_wp2
                 go_meet
                 case rel => exact ⟨_, (false), (by first | rfl | (simp; done) | (simp [*]; done)), H', ⟨by have := HK1.out; have := HK2.out; have := HJ12.out; first | omega | exact Nat.le_refl _⟩, ⟨by (with_reducible repeat (first | apply Kd.R_alloc | apply Kd.R_drewN | apply Kd.R_drew)); exact Kd.R_mono (Kd.R_far (p := ⟨gb339, 3, none⟩) (Kd.R_far (p := ⟨gb339, 2, none⟩) (Kd.R_far (p := ⟨gb339, 1, none⟩) (Kd.R_far (p := ⟨gb339, 0, none⟩) (Kd.R_types HO_7.out BK339.out (by decide)) (fun _ hk => hk.2) (.int .i64 ((rd_T51 l0 x13_2).f0))) (fun _ hk => hk.2) (.int .i64 ((rd_T51 l0 x13_2).f1))) (fun _ hk => hk.2) (.int .i64 ((rd_T51 l0 x13_2).f2))) (fun _ hk => hk.2) (.int .i64 ((rd_T51 l0 x13_2).f3))) (fun _ hk => hk.1)⟩, ⟨by (with_reducible repeat (first | apply Kd.R_alloc | apply Kd.R_drewN | apply Kd.R_drew)); exact Kd.R_mono (Kd.R_far (p := ⟨gb339, 3, none⟩) (Kd.R_far (p := ⟨gb339, 2, none⟩) (Kd.R_far (p := ⟨gb339, 1, none⟩) (Kd.R_far (p := ⟨gb339, 0, none⟩) (Kd.R_types HO_8.out BK339.out (by decide)) (fun _ hk => hk.2) (.int .i64 ((rd_T51 l0 x13_2).f0))) (fun _ hk => hk.2) (.int .i64 ((rd_T51 l0 x13_2).f1))) (fun _ hk => hk.2) (.int .i64 ((rd_T51 l0 x13_2).f2))) (fun _ hk => hk.2) (.int .i64 ((rd_T51 l0 x13_2).f3))) (fun _ hk => hk.1)⟩, ⟨by (with_reducible repeat (first | refine blk_drewN ?_ _ | refine blk_drew ?_ | refine blk_alloc ?_ _)); refine blk_put (cs := #[.int .i64 ((rd_T51 l0 x13_2).f0), .int .i64 ((rd_T51 l0 x13_2).f1), .int .i64 ((rd_T51 l0 x13_2).f2), .int .i64 0]) ?_ 3 _ rfl; (with_reducible repeat (first | refine blk_drewN ?_ _ | refine blk_drew ?_ | refine blk_alloc ?_ _)); refine blk_put (cs := #[.int .i64 ((rd_T51 l0 x13_2).f0), .int .i64 ((rd_T51 l0 x13_2).f1), .int .i64 0, .int .i64 0]) ?_ 2 _ rfl; (with_reducible repeat (first | refine blk_drewN ?_ _ | refine blk_drew ?_ | refine blk_alloc ?_ _)); refine blk_put (cs := #[.int .i64 ((rd_T51 l0 x13_2).f0), .int .i64 0, .int .i64 0, .int .i64 0]) ?_ 1 _ rfl; (with_reducible repeat (first | refine blk_drewN ?_ _ | refine blk_drew ?_ | refine blk_alloc ?_ _)); refine blk_put (cs := #[.int .i64 0, .int .i64 0, .int .i64 0, .int .i64 0]) ?_ 0 _ rfl; (with_reducible repeat (first | refine blk_drewN ?_ _ | refine blk_drew ?_ | refine blk_alloc ?_ _)); exact BK339.out⟩, ⟨by repeat (first | (with_reducible first | exact HB.out | apply below_alloc | apply pw_below_drewN | apply below_drew1 | refine below_set ?_ GE339.out) | exact HB.out)⟩⟩
               case rest =>
                clear HC18
                try clear c1
                try clear c2
                try clear p2
                try clear p3
                try clear q3
                try clear hx3
                try clear p6
                try clear c7
                try clear c7b0
                try clear c8
                try clear c8b0
                try clear c9
                try clear c9b0
                try clear c9b1
                try clear c9b2
                try clear c11
                try clear c11b0
                try clear c12
                try clear c12b0
                try clear c14
                try clear c14b0
                try clear c15
                try clear c16
                try clear c16b0
                try clear c17
                try clear c17b0
                try clear c21
                try clear c21b0
                try clear c21b1
                try clear hcz20_0
                try clear hcz20_1
                try clear hcz20_2
                try clear hcz20_3
                try clear hcz22_0
                try clear hcz22_1
                try clear hcz22_2
                try clear hcz22_3
                try clear hcz23_0
                try clear hcz23_1
                try clear hcz23_2
                try clear hcz23_3
                try clear hfz20_0
                try clear hfz20_1
                try clear hfz20_2
                try clear hfz20_3
                try clear hfz22_0
                try clear hfz22_1
                try clear hfz22_2
                try clear hfz22_3
                try clear hfz23_0
                try clear hfz23_1
                try clear hfz23_2
                try clear hfz23_3
                try clear hx336_0
                try clear hx337_0
                try clear hx338_0
                try clear hx338_1
                try clear hx338_2
                try clear hx338_3
                try clear p2
                try clear p3
                try clear p336
                try clear p337
                try clear p338
                try clear p6
                try clear q3
                try clear q336
                try clear q337
                try clear q338
                obtain ⟨kq, x58_17, rfl, HA, HJ17, HO_7, HO_8, BK339, HB⟩ := hcut
                cases kq with
                | zero => exact absurd HA.out (by simp [spec_l26Sides.j3])
                | succ kj17 =>
                 have H := HA.out
                 clear HA
                 simp only [spec_l26Sides.j3] at H
                 by_cases c24 : x58_17 = true
                 ·subst c24
                  have H1 : (if x7_2.length < 17592186044416 then (if x8_2.length < 17592186044416 then (spec_l26Sides.l1 kj17 l0 l1 (x7_2 ++ [((rd_T51 l0 x13_2).f2)]) (x8_2 ++ [((rd_T51 l0 x13_2).f3)]) x9_1 (rd l1 x9_1) (rd l1 (ji10)) true (wrap64 (x13_2 + 1))) else (none)) else (none)) = some (r1, r2, r3) := by rw [if_pos rfl] at H; exact H
                  clear H
                  have H := H1
                  clear H1
                  by_cases c25 : x7_2.length < 17592186044416
                  ·rw [if_pos c25] at H
                   have LMc25 := Aside0.mk c25
                   clear c25
                   obtain ⟨y340, hy340⟩ : ∃ y_ : List Int, y_ = (x7_2 ++ [((rd_T51 l0 x13_2).f2)]) := ⟨_, rfl⟩
                   replace H : (if x8_2.length < 17592186044416 then (spec_l26Sides.l1 kj17 l0 l1 y340 (x8_2 ++ [((rd_T51 l0 x13_2).f3)]) x9_1 (rd l1 x9_1) (rd l1 (ji10)) true (wrap64 (x13_2 + 1))) else (none)) = some (r1, r2, r3) := by first | (rw [hy340]; with_reducible exact H) | (have H2_ := (Option.bind_some _ _).symm.trans H; rw [hy340]; with_reducible exact H2_) | (have H2_ := (Option.bind_some _ _).symm.trans H; with_reducible exact H2_) | with_reducible exact H | (rw [hy340]; exact H) | exact H
                   have Ny340 := Aside0.mk hy340
                   clear hy340
                   by_cases c26 : x8_2.length < 17592186044416
                   ·rw [if_pos c26] at H
                    have LMc26 := Aside0.mk c26
                    clear c26
                    obtain ⟨y343, hy343⟩ : ∃ y_ : List Int, y_ = (x8_2 ++ [((rd_T51 l0 x13_2).f3)]) := ⟨_, rfl⟩
                    replace H : (spec_l26Sides.l1 kj17 l0 l1 y340 y343 x9_1 (rd l1 x9_1) (rd l1 (ji10)) true (wrap64 (x13_2 + 1))) = some (r1, r2, r3) := by first | (rw [hy343]; with_reducible exact H) | (have H2_ := (Option.bind_some _ _).symm.trans H; rw [hy343]; with_reducible exact H2_) | (have H2_ := (Option.bind_some _ _).symm.trans H; with_reducible exact H2_) | with_reducible exact H | (rw [hy343]; exact H) | exact H
                    have Ny343 := Aside0.mk hy343
                    clear hy343
                    have H' := Aside0.mk H
                    clear H
                    have hcz27_0 : wc.cell? ⟨gb339, 0, none⟩ = some (.int .i64 ((rd_T51 l0 x13_2).f0)) := (blk_cell BK339.out 0).trans rfl
                    have hcz27_1 : wc.cell? ⟨gb339, 1, none⟩ = some (.int .i64 ((rd_T51 l0 x13_2).f1)) := (blk_cell BK339.out 1).trans rfl
                    have hcz27_2 : wc.cell? ⟨gb339, 2, none⟩ = some (.int .i64 ((rd_T51 l0 x13_2).f2)) := (blk_cell BK339.out 2).trans rfl
                    have hcz27_3 : wc.cell? ⟨gb339, 3, none⟩ = some (.int .i64 ((rd_T51 l0 x13_2).f3)) := (blk_cell BK339.out 3).trans rfl
                    have hfz27_0 := blk_frozen BK339.out 0
                    have hfz27_1 := blk_frozen BK339.out 1
                    have hfz27_2 := blk_frozen BK339.out 2
                    have hfz27_3 := blk_frozen BK339.out 3
                    go_wp2_with (first | ((with_reducible refine gate_builtin (b := .append) (xs := #[.tmp 59, .tmp 62]) rfl ?_); at_builtin; refine Kd.R_append (Kd.int .i64) (w0 := w) w.heap.size rfl (.tmp 59) (.tmp 62) 30 2 (.int .i64 0) 8 rfl Try.underlying30 info2 rfl (by decide) (by omega) u7 x7_2 ((rd_T51 l0 x13_2).f2) [.int .i64 ((rd_T51 l0 x13_2).f2)] (fun k_ => some k_ ≠ (u8 : Value).ownBlock) (fun _ => False) rfl rfl ?aP (fun _ hk => hk.elim) ?aF ?aO ?aB ?aS ?aL ?_; (case aP => exact rfl); (case aB => exact (by repeat (first | (with_reducible first | exact HB.out | apply below_alloc | apply pw_below_drewN | apply below_drew1 | refine below_set ?_ GE339.out) | exact HB.out))); (case aF => exact (fun k_ hk => Kd.fresh' (Kd.R_lt (by (with_reducible repeat (first | apply Kd.R_alloc | apply Kd.R_drewN | apply Kd.R_drew)); exact HO_8.out)) k_ hk)); (case aO => exact (by (with_reducible repeat (first | apply Kd.R_alloc | apply Kd.R_drewN | apply Kd.R_drew)); exact HO_7.out)); (case aS => exact (below_size (by repeat (first | (with_reducible first | exact HB.out | apply below_alloc | apply pw_below_drewN | apply below_drew1 | refine below_set ?_ GE339.out) | exact HB.out)))); (case aL => have := LMc25.out; omega); intro v341 w28 ho hb hg hat; rw [← Ny340.out] at ho; have n0_ := Aside0.mk (Kd.R_after (ok := (fun _ => True)) (by (with_reducible repeat (first | apply Kd.R_alloc | apply Kd.R_drewN | apply Kd.R_drew)); exact Kd.R_mono HO_8.out (fun _ hk => ⟨trivial, hk⟩)) hg hat); have n1_ := Aside0.mk (blk_grown (g := gb339) (o := .cells #[.int .i64 ((rd_T51 l0 x13_2).f0), .int .i64 ((rd_T51 l0 x13_2).f1), .int .i64 ((rd_T51 l0 x13_2).f2), .int .i64 ((rd_T51 l0 x13_2).f3)] 51 (0, 0)) (by (with_reducible repeat (first | refine blk_drewN ?_ _ | refine blk_drew ?_ | refine blk_alloc ?_ _)); exact BK339.out) hg (Kd.R_ne HO_7.out BK339.out (by decide))); have n2_ := Aside0.mk (hb); have n3_ := Aside0.mk (ho); clear HO_8; clear BK339; clear HB; clear HO_7; have HO_8 := n0_; have BK339 := n1_; have HB := n2_; have HO342 := n3_; clear n0_ n1_ n2_ n3_; clear ho hb hg hat; have hcz29_0 : w28.cell? ⟨gb339, 0, none⟩ = some (.int .i64 ((rd_T51 l0 x13_2).f0)) := (blk_cell BK339.out 0).trans rfl; have hcz29_1 : w28.cell? ⟨gb339, 1, none⟩ = some (.int .i64 ((rd_T51 l0 x13_2).f1)) := (blk_cell BK339.out 1).trans rfl; have hcz29_2 : w28.cell? ⟨gb339, 2, none⟩ = some (.int .i64 ((rd_T51 l0 x13_2).f2)) := (blk_cell BK339.out 2).trans rfl; have hcz29_3 : w28.cell? ⟨gb339, 3, none⟩ = some (.int .i64 ((rd_T51 l0 x13_2).f3)) := (blk_cell BK339.out 3).trans rfl; have hfz29_0 := blk_frozen BK339.out 0; have hfz29_1 := blk_frozen BK339.out 1; have hfz29_2 := blk_frozen BK339.out 2; have hfz29_3 := blk_frozen BK339.out 3) | ((with_reducible refine gate_builtin (b := .append) (xs := #[.tmp 81, .tmp 84]) rfl ?_); at_builtin; refine Kd.R_append (Kd.int .i64) (w0 := w) w.heap.size rfl (.tmp 81) (.tmp 84) 30 2 (.int .i64 0) 8 rfl Try.underlying30 info2 rfl (by decide) (by omega) u8 x8_2 ((rd_T51 l0 x13_2).f3) [.int .i64 ((rd_T51 l0 x13_2).f3)] (fun k_ => some k_ ≠ (v341 : Value).ownBlock) (fun _ => False) rfl rfl ?aP (fun _ hk => hk.elim) ?aF ?aO ?aB ?aS ?aL ?_; (case aP => exact rfl); (case aB => exact (by repeat (first | (with_reducible first | exact HB.out | apply below_alloc | apply pw_below_drewN | apply below_drew1 | refine below_set ?_ GE339.out) | exact HB.out))); (case aF => exact (fun k_ hk => Kd.fresh' (Kd.R_lt (by (with_reducible repeat (first | apply Kd.R_alloc | apply Kd.R_drewN | apply Kd.R_drew)); exact HO342.out)) k_ hk)); (case aO => exact (by (with_reducible repeat (first | apply Kd.R_alloc | apply Kd.R_drewN | apply Kd.R_drew)); exact Kd.R_mono HO_8.out (fun _ hk => hk.2))); (case aS => exact (below_size (by repeat (first | (with_reducible first | exact HB.out | apply below_alloc | apply pw_below_drewN | apply below_drew1 | refine below_set ?_ GE339.out) | exact HB.out)))); (case aL => have := LMc26.out; omega); intro v344 w30 ho hb hg hat; rw [← Ny343.out] at ho; have n0_ := Aside0.mk (blk_grown (g := gb339) (o := .cells #[.int .i64 ((rd_T51 l0 x13_2).f0), .int .i64 ((rd_T51 l0 x13_2).f1), .int .i64 ((rd_T51 l0 x13_2).f2), .int .i64 ((rd_T51 l0 x13_2).f3)] 51 (0, 0)) (by (with_reducible repeat (first | refine blk_drewN ?_ _ | refine blk_drew ?_ | refine blk_alloc ?_ _)); exact BK339.out) hg (Kd.R_ne HO_8.out BK339.out (by decide))); have n1_ := Aside0.mk (Kd.R_after (ok := (fun _ => True)) (by (with_reducible repeat (first | apply Kd.R_alloc | apply Kd.R_drewN | apply Kd.R_drew)); exact Kd.R_mono HO342.out (fun _ hk => ⟨trivial, hk⟩)) hg hat); have n2_ := Aside0.mk (hb); have n3_ := Aside0.mk (ho); clear BK339; clear HO342; clear HB; clear HO_8; have BK339 := n0_; have HO342 := n1_; have HB := n2_; have HO345 := n3_; clear n0_ n1_ n2_ n3_; clear ho hb hg hat))
                    go_roundg kj17
                    case measure => have := HK1.out; have := HK2.out; have := HJ12.out; have := HJ17.out; omega
                    case rel => exact ⟨(y340), (y343), (true), (wrap64 (x13_2 + 1)), (by first | rfl | (simp; done) | (simp [*]; done)), (by first | rfl | (simp; done) | (simp [*]; done)), H', ⟨by have := HK1.out; have := HK2.out; have := HJ12.out; have := HJ17.out; omega⟩, ⟨by (with_reducible repeat (first | apply Kd.R_alloc | apply Kd.R_drewN | apply Kd.R_drew)); exact Kd.R_mono HO342.out (fun _ hk => hk.2)⟩, ⟨by (with_reducible repeat (first | apply Kd.R_alloc | apply Kd.R_drewN | apply Kd.R_drew)); exact HO345.out⟩, ⟨by repeat (first | (with_reducible first | exact HB.out | apply below_alloc | apply pw_below_drewN | apply below_drew1 | refine below_set ?_ GE339.out) | exact HB.out)⟩⟩
                   ·rw [if_neg c26] at H
                    exact absurd H (by simp)
                  ·rw [if_neg c25] at H
                   exact absurd H (by simp)
                 ·replace c24 := Bool.eq_false_iff.mpr c24
                  subst c24
                  have H1 : (if ((rd_T51 l0 x13_2).f0) = (rd l1 (ji10)) then (spec_l26Sides.j4 kj17 l0 l1 x7_2 x8_2 x9_1 (rd l1 x9_1) (rd l1 (ji10)) x12_2 x13_2 (((rd_T51 l0 x13_2).f1) == (rd l1 x9_1)) ((rd_T51 l0 x13_2).f0) ((rd_T51 l0 x13_2).f1) ((rd_T51 l0 x13_2).f2) ((rd_T51 l0 x13_2).f3)) else (spec_l26Sides.j4 kj17 l0 l1 x7_2 x8_2 x9_1 (rd l1 x9_1) (rd l1 (ji10)) x12_2 x13_2 false ((rd_T51 l0 x13_2).f0) ((rd_T51 l0 x13_2).f1) ((rd_T51 l0 x13_2).f2) ((rd_T51 l0 x13_2).f3))) = some (r1, r2, r3) := by rw [if_neg (show ¬ (false = true) by decide)] at H; exact H
                  clear H
                  have H := H1
                  clear H1
                  have HC31 := Aside0.mk H
                  clear H
                  go_upto_region 16 with (fail)
                  go_cut [73] (fun v73 wc => ∃ (kq : Nat) (x73_30 : Bool), v73 = .bool x73_30 ∧ Aside0 (spec_l26Sides.j4 kq l0 l1 x7_2 x8_2 x9_1 (rd l1 x9_1) (rd l1 (ji10)) x12_2 x13_2 x73_30 ((rd_T51 l0 x13_2).f0) ((rd_T51 l0 x13_2).f1) ((rd_T51 l0 x13_2).f2) ((rd_T51 l0 x13_2).f3) = some (r1, r2, r3)) ∧ Aside0 (kq ≤ kj17) ∧ Aside0 (Kd.R (Kd.int .i64) 2 wc w.heap.size (fun k_ => some k_ ≠ (u8 : Value).ownBlock) u7 x7_2) ∧ Aside0 (Kd.R (Kd.int .i64) 2 wc w.heap.size (fun k_ => some k_ ≠ (u7 : Value).ownBlock) u8 x8_2) ∧ Aside0 (wc.heap[gb339]? = some (.cells #[.int .i64 ((rd_T51 l0 x13_2).f0), .int .i64 ((rd_T51 l0 x13_2).f1), .int .i64 ((rd_T51 l0 x13_2).f2), .int .i64 ((rd_T51 l0 x13_2).f3)] 51 (0, 0))) ∧ Aside0 (Below w.heap.size w wc))
                  case first =>
                   have H := HC31.out
                   clear HC31
                   by_cases c32 : ((rd_T51 l0 x13_2).f0) = (rd l1 (ji10))
                   ·rw [if_pos c32] at H
                    have c32b0 : (((rd_T51 l0 x13_2).f0) == (rd l1 (ji10))) = true := beq_iff_eq.mpr c32
                    have c32b1 : (((rd_T51 l0 x13_2).f0) != (rd l1 (ji10))) = false := bne_eq_false_iff_eq.mpr c32
                    clear c32
                    (first | rw [c32b0] | (simp only [i64_w, i32_w]; rw [c32b0]) | skip)
                    have H' := Aside0.mk H
                    clear H
                    have hcz33_0 : wc.cell? ⟨gb339, 0, none⟩ = some (.int .i64 ((rd_T51 l0 x13_2).f0)) := (blk_cell BK339.out 0).trans rfl
                    have hcz33_1 : wc.cell? ⟨gb339, 1, none⟩ = some (.int .i64 ((rd_T51 l0 x13_2).f1)) := (blk_cell BK339.out 1).trans rfl
                    have hcz33_2 : wc.cell? ⟨gb339, 2, none⟩ = some (.int .i64 ((rd_T51 l0 x13_2).f2)) := (blk_cell BK339.out 2).trans rfl
                    have hcz33_3 : wc.cell? ⟨gb339, 3, none⟩ = some (.int .i64 ((rd_T51 l0 x13_2).f3)) := (blk_cell BK339.out 3).trans rfl
                    have hfz33_0 := blk_frozen BK339.out 0
                    have hfz33_1 := blk_frozen BK339.out 1
                    have hfz33_2 := blk_frozen BK339.out 2
                    have hfz33_3 := blk_frozen BK339.out 3
                    go_wp2
                    go_meet
                    case rel => exact ⟨_, ((((rd_T51 l0 x13_2).f1) == (rd l1 x9_1))), (by first | rfl | (simp; done) | (simp [*]; done)), H', ⟨by have := HK1.out; have := HK2.out; have := HJ12.out; have := HJ17.out; first | omega | exact Nat.le_refl _⟩, ⟨by (with_reducible repeat (first | apply Kd.R_alloc | apply Kd.R_drewN | apply Kd.R_drew)); exact HO_7.out⟩, ⟨by (with_reducible repeat (first | apply Kd.R_alloc | apply Kd.R_drewN | apply Kd.R_drew)); exact HO_8.out⟩, ⟨by (with_reducible repeat (first | refine blk_drewN ?_ _ | refine blk_drew ?_ | refine blk_alloc ?_ _)); exact BK339.out⟩, ⟨by repeat (first | (with_reducible first | exact HB.out | apply below_alloc | apply pw_below_drewN | apply below_drew1 | refine below_set ?_ GE339.out) | exact HB.out)⟩⟩
                   ·rw [if_neg c32] at H
                    have c32b0 : (((rd_T51 l0 x13_2).f0) == (rd l1 (ji10))) = false := beq_eq_false_iff_ne.mpr c32
                    have c32b1 : (((rd_T51 l0 x13_2).f0) != (rd l1 (ji10))) = true := bne_iff_ne.mpr c32
                    (first | rw [c32b0] | (simp only [i64_w, i32_w]; rw [c32b0]) | skip)
                    have H' := Aside0.mk H
                    clear H
                    have hcz34_0 : wc.cell? ⟨gb339, 0, none⟩ = some (.int .i64 ((rd_T51 l0 x13_2).f0)) := (blk_cell BK339.out 0).trans rfl
                    have hcz34_1 : wc.cell? ⟨gb339, 1, none⟩ = some (.int .i64 ((rd_T51 l0 x13_2).f1)) := (blk_cell BK339.out 1).trans rfl
                    have hcz34_2 : wc.cell? ⟨gb339, 2, none⟩ = some (.int .i64 ((rd_T51 l0 x13_2).f2)) := (blk_cell BK339.out 2).trans rfl
                    have hcz34_3 : wc.cell? ⟨gb339, 3, none⟩ = some (.int .i64 ((rd_T51 l0 x13_2).f3)) := (blk_cell BK339.out 3).trans rfl
                    have hfz34_0 := blk_frozen BK339.out 0
                    have hfz34_1 := blk_frozen BK339.out 1
                    have hfz34_2 := blk_frozen BK339.out 2
                    have hfz34_3 := blk_frozen BK339.out 3
                    go_wp2
                    go_meet
                    case rel => exact ⟨_, (false), (by first | rfl | (simp; done) | (simp [*]; done)), H', ⟨by have := HK1.out; have := HK2.out; have := HJ12.out; have := HJ17.out; first | omega | exact Nat.le_refl _⟩, ⟨by (with_reducible repeat (first | apply Kd.R_alloc | apply Kd.R_drewN | apply Kd.R_drew)); exact HO_7.out⟩, ⟨by (with_reducible repeat (first | apply Kd.R_alloc | apply Kd.R_drewN | apply Kd.R_drew)); exact HO_8.out⟩, ⟨by (with_reducible repeat (first | refine blk_drewN ?_ _ | refine blk_drew ?_ | refine blk_alloc ?_ _)); exact BK339.out⟩, ⟨by repeat (first | (with_reducible first | exact HB.out | apply below_alloc | apply pw_below_drewN | apply below_drew1 | refine below_set ?_ GE339.out) | exact HB.out)⟩⟩
                  case rest =>
                   clear HC31
                   try clear c1
                   try clear c2
                   try clear p2
                   try clear c3
                   try clear p3
                   try clear q3
                   try clear hx3
                   try clear p6
                   try clear c7
                   try clear c7b0
                   try clear c8
                   try clear c8b0
                   try clear c9
                   try clear c9b0
                   try clear c9b1
                   try clear c9b2
                   try clear c11
                   try clear c11b0
                   try clear c12
                   try clear c12b0
                   try clear c14
                   try clear c14b0
                   try clear c15
                   try clear c16
                   try clear c16b0
                   try clear c17
                   try clear c17b0
                   try clear c21
                   try clear c21b0
                   try clear c21b1
                   try clear c24
                   try clear c25
                   try clear c26
                   try clear c32
                   try clear c32b0
                   try clear c32b1
                   try clear p33
                   try clear q33
                   try clear hx33
                   try clear hcz20_0
                   try clear hcz20_1
                   try clear hcz20_2
                   try clear hcz20_3
                   try clear hcz22_0
                   try clear hcz22_1
                   try clear hcz22_2
                   try clear hcz22_3
                   try clear hcz23_0
                   try clear hcz23_1
                   try clear hcz23_2
                   try clear hcz23_3
                   try clear hcz27_0
                   try clear hcz27_1
                   try clear hcz27_2
                   try clear hcz27_3
                   try clear hcz29_0
                   try clear hcz29_1
                   try clear hcz29_2
                   try clear hcz29_3
                   try clear hcz33_0
                   try clear hcz33_1
                   try clear hcz33_2
                   try clear hcz33_3
                   try clear hcz34_0
                   try clear hcz34_1
                   try clear hcz34_2
                   try clear hcz34_3
                   try clear hfz20_0
                   try clear hfz20_1
                   try clear hfz20_2
                   try clear hfz20_3
                   try clear hfz22_0
                   try clear hfz22_1
                   try clear hfz22_2
                   try clear hfz22_3
                   try clear hfz23_0
                   try clear hfz23_1
                   try clear hfz23_2
                   try clear hfz23_3
                   try clear hfz27_0
                   try clear hfz27_1
                   try clear hfz27_2
                   try clear hfz27_3
                   try clear hfz29_0
                   try clear hfz29_1
                   try clear hfz29_2
                   try clear hfz29_3
                   try clear hfz33_0
                   try clear hfz33_1
                   try clear hfz33_2
                   try clear hfz33_3
                   try clear hfz34_0
                   try clear hfz34_1
                   try clear hfz34_2
                   try clear hfz34_3
                   try clear hx336_0
                   try clear hx337_0
                   try clear hx338_0
                   try clear hx338_1
                   try clear hx338_2
                   try clear hx338_3
                   try clear p2
                   try clear p3
                   try clear p336
                   try clear p337
                   try clear p338
                   try clear p6
                   try clear q3
                   try clear q336
                   try clear q337
                   try clear q338
                   obtain ⟨kq, x73_30, rfl, HA, HJ30, HO_7, HO_8, BK339, HB⟩ := hcut
                   cases kq with
                   | zero => exact absurd HA.out (by simp [spec_l26Sides.j4])
                   | succ kj30 =>
                    have H := HA.out
                    clear HA
                    simp only [spec_l26Sides.j4] at H
                    by_cases c35 : x73_30 = true
                    ·subst c35
                     have H1 : (if x7_2.length < 17592186044416 then (if x8_2.length < 17592186044416 then (spec_l26Sides.l1 kj30 l0 l1 (x7_2 ++ [wrap64 (-((rd_T51 l0 x13_2).f2))]) (x8_2 ++ [((rd_T51 l0 x13_2).f3)]) x9_1 (rd l1 x9_1) (rd l1 (ji10)) true (wrap64 (x13_2 + 1))) else (none)) else (none)) = some (r1, r2, r3) := by rw [if_pos rfl] at H; exact H
                     clear H
                     have H := H1
                     clear H1
                     by_cases c36 : x7_2.length < 17592186044416
                     ·rw [if_pos c36] at H
                      have LMc36 := Aside0.mk c36
                      clear c36
                      obtain ⟨y346, hy346⟩ : ∃ y_ : List Int, y_ = (x7_2 ++ [wrap64 (-((rd_T51 l0 x13_2).f2))]) := ⟨_, rfl⟩
                      replace H : (if x8_2.length < 17592186044416 then (spec_l26Sides.l1 kj30 l0 l1 y346 (x8_2 ++ [((rd_T51 l0 x13_2).f3)]) x9_1 (rd l1 x9_1) (rd l1 (ji10)) true (wrap64 (x13_2 + 1))) else (none)) = some (r1, r2, r3) := by first | (rw [hy346]; with_reducible exact H) | (have H2_ := (Option.bind_some _ _).symm.trans H; rw [hy346]; with_reducible exact H2_) | (have H2_ := (Option.bind_some _ _).symm.trans H; with_reducible exact H2_) | with_reducible exact H | (rw [hy346]; exact H) | exact H
                      have Ny346 := Aside0.mk hy346
                      clear hy346
                      by_cases c37 : x8_2.length < 17592186044416
                      ·rw [if_pos c37] at H
                       have LMc37 := Aside0.mk c37
                       clear c37
                       obtain ⟨y349, hy349⟩ : ∃ y_ : List Int, y_ = (x8_2 ++ [((rd_T51 l0 x13_2).f3)]) := ⟨_, rfl⟩
                       replace H : (spec_l26Sides.l1 kj30 l0 l1 y346 y349 x9_1 (rd l1 x9_1) (rd l1 (ji10)) true (wrap64 (x13_2 + 1))) = some (r1, r2, r3) := by first | (rw [hy349]; with_reducible exact H) | (have H2_ := (Option.bind_some _ _).symm.trans H; rw [hy349]; with_reducible exact H2_) | (have H2_ := (Option.bind_some _ _).symm.trans H; with_reducible exact H2_) | with_reducible exact H | (rw [hy349]; exact H) | exact H
                       have Ny349 := Aside0.mk hy349
                       clear hy349
                       have H' := Aside0.mk H
                       clear H
                       have hcz38_0 : wc.cell? ⟨gb339, 0, none⟩ = some (.int .i64 ((rd_T51 l0 x13_2).f0)) := (blk_cell BK339.out 0).trans rfl
                       have hcz38_1 : wc.cell? ⟨gb339, 1, none⟩ = some (.int .i64 ((rd_T51 l0 x13_2).f1)) := (blk_cell BK339.out 1).trans rfl
                       have hcz38_2 : wc.cell? ⟨gb339, 2, none⟩ = some (.int .i64 ((rd_T51 l0 x13_2).f2)) := (blk_cell BK339.out 2).trans rfl
                       have hcz38_3 : wc.cell? ⟨gb339, 3, none⟩ = some (.int .i64 ((rd_T51 l0 x13_2).f3)) := (blk_cell BK339.out 3).trans rfl
                       have hfz38_0 := blk_frozen BK339.out 0
                       have hfz38_1 := blk_frozen BK339.out 1
                       have hfz38_2 := blk_frozen BK339.out 2
                       have hfz38_3 := blk_frozen BK339.out 3
                       go_wp2_with (first | ((with_reducible refine gate_builtin (b := .append) (xs := #[.tmp 74, .tmp 78]) rfl ?_); at_builtin; refine Kd.R_append (Kd.int .i64) (w0 := w) w.heap.size rfl (.tmp 74) (.tmp 78) 30 2 (.int .i64 0) 8 rfl Try.underlying30 info2 rfl (by decide) (by omega) u7 x7_2 (wrap64 (-((rd_T51 l0 x13_2).f2))) [.int .i64 (wrap64 (-((rd_T51 l0 x13_2).f2)))] (fun k_ => some k_ ≠ (u8 : Value).ownBlock) (fun _ => False) rfl rfl ?aP (fun _ hk => hk.elim) ?aF ?aO ?aB ?aS ?aL ?_; (case aP => exact rfl); (case aB => exact (by repeat (first | (with_reducible first | exact HB.out | apply below_alloc | apply pw_below_drewN | apply below_drew1 | refine below_set ?_ GE339.out) | exact HB.out))); (case aF => exact (fun k_ hk => Kd.fresh' (Kd.R_lt (by (with_reducible repeat (first | apply Kd.R_alloc | apply Kd.R_drewN | apply Kd.R_drew)); exact HO_8.out)) k_ hk)); (case aO => exact (by (with_reducible repeat (first | apply Kd.R_alloc | apply Kd.R_drewN | apply Kd.R_drew)); exact HO_7.out)); (case aS => exact (below_size (by repeat (first | (with_reducible first | exact HB.out | apply below_alloc | apply pw_below_drewN | apply below_drew1 | refine below_set ?_ GE339.out) | exact HB.out)))); (case aL => have := LMc36.out; omega); intro v347 w39 ho hb hg hat; rw [← Ny346.out] at ho; have n0_ := Aside0.mk (Kd.R_after (ok := (fun _ => True)) (by (with_reducible repeat (first | apply Kd.R_alloc | apply Kd.R_drewN | apply Kd.R_drew)); exact Kd.R_mono HO_8.out (fun _ hk => ⟨trivial, hk⟩)) hg hat); have n1_ := Aside0.mk (blk_grown (g := gb339) (o := .cells #[.int .i64 ((rd_T51 l0 x13_2).f0), .int .i64 ((rd_T51 l0 x13_2).f1), .int .i64 ((rd_T51 l0 x13_2).f2), .int .i64 ((rd_T51 l0 x13_2).f3)] 51 (0, 0)) (by (with_reducible repeat (first | refine blk_drewN ?_ _ | refine blk_drew ?_ | refine blk_alloc ?_ _)); exact BK339.out) hg (Kd.R_ne HO_7.out BK339.out (by decide))); have n2_ := Aside0.mk (hb); have n3_ := Aside0.mk (ho); clear HO_8; clear BK339; clear HB; clear HO_7; have HO_8 := n0_; have BK339 := n1_; have HB := n2_; have HO348 := n3_; clear n0_ n1_ n2_ n3_; clear ho hb hg hat; have hcz40_0 : w39.cell? ⟨gb339, 0, none⟩ = some (.int .i64 ((rd_T51 l0 x13_2).f0)) := (blk_cell BK339.out 0).trans rfl; have hcz40_1 : w39.cell? ⟨gb339, 1, none⟩ = some (.int .i64 ((rd_T51 l0 x13_2).f1)) := (blk_cell BK339.out 1).trans rfl; have hcz40_2 : w39.cell? ⟨gb339, 2, none⟩ = some (.int .i64 ((rd_T51 l0 x13_2).f2)) := (blk_cell BK339.out 2).trans rfl; have hcz40_3 : w39.cell? ⟨gb339, 3, none⟩ = some (.int .i64 ((rd_T51 l0 x13_2).f3)) := (blk_cell BK339.out 3).trans rfl; have hfz40_0 := blk_frozen BK339.out 0; have hfz40_1 := blk_frozen BK339.out 1; have hfz40_2 := blk_frozen BK339.out 2; have hfz40_3 := blk_frozen BK339.out 3) | ((with_reducible refine gate_builtin (b := .append) (xs := #[.tmp 81, .tmp 84]) rfl ?_); at_builtin; refine Kd.R_append (Kd.int .i64) (w0 := w) w.heap.size rfl (.tmp 81) (.tmp 84) 30 2 (.int .i64 0) 8 rfl Try.underlying30 info2 rfl (by decide) (by omega) u8 x8_2 ((rd_T51 l0 x13_2).f3) [.int .i64 ((rd_T51 l0 x13_2).f3)] (fun k_ => some k_ ≠ (v347 : Value).ownBlock) (fun _ => False) rfl rfl ?aP (fun _ hk => hk.elim) ?aF ?aO ?aB ?aS ?aL ?_; (case aP => exact rfl); (case aB => exact (by repeat (first | (with_reducible first | exact HB.out | apply below_alloc | apply pw_below_drewN | apply below_drew1 | refine below_set ?_ GE339.out) | exact HB.out))); (case aF => exact (fun k_ hk => Kd.fresh' (Kd.R_lt (by (with_reducible repeat (first | apply Kd.R_alloc | apply Kd.R_drewN | apply Kd.R_drew)); exact HO348.out)) k_ hk)); (case aO => exact (by (with_reducible repeat (first | apply Kd.R_alloc | apply Kd.R_drewN | apply Kd.R_drew)); exact Kd.R_mono HO_8.out (fun _ hk => hk.2))); (case aS => exact (below_size (by repeat (first | (with_reducible first | exact HB.out | apply below_alloc | apply pw_below_drewN | apply below_drew1 | refine below_set ?_ GE339.out) | exact HB.out)))); (case aL => have := LMc37.out; omega); intro v350 w41 ho hb hg hat; rw [← Ny349.out] at ho; have n0_ := Aside0.mk (blk_grown (g := gb339) (o := .cells #[.int .i64 ((rd_T51 l0 x13_2).f0), .int .i64 ((rd_T51 l0 x13_2).f1), .int .i64 ((rd_T51 l0 x13_2).f2), .int .i64 ((rd_T51 l0 x13_2).f3)] 51 (0, 0)) (by (with_reducible repeat (first | refine blk_drewN ?_ _ | refine blk_drew ?_ | refine blk_alloc ?_ _)); exact BK339.out) hg (Kd.R_ne HO_8.out BK339.out (by decide))); have n1_ := Aside0.mk (Kd.R_after (ok := (fun _ => True)) (by (with_reducible repeat (first | apply Kd.R_alloc | apply Kd.R_drewN | apply Kd.R_drew)); exact Kd.R_mono HO348.out (fun _ hk => ⟨trivial, hk⟩)) hg hat); have n2_ := Aside0.mk (hb); have n3_ := Aside0.mk (ho); clear BK339; clear HO348; clear HB; clear HO_8; have BK339 := n0_; have HO348 := n1_; have HB := n2_; have HO351 := n3_; clear n0_ n1_ n2_ n3_; clear ho hb hg hat))
                       go_roundg kj30
                       case measure => have := HK1.out; have := HK2.out; have := HJ12.out; have := HJ17.out; have := HJ30.out; omega
                       case rel => exact ⟨(y346), (y349), (true), (wrap64 (x13_2 + 1)), (by first | rfl | (simp; done) | (simp [*]; done)), (by first | rfl | (simp; done) | (simp [*]; done)), H', ⟨by have := HK1.out; have := HK2.out; have := HJ12.out; have := HJ17.out; have := HJ30.out; omega⟩, ⟨by (with_reducible repeat (first | apply Kd.R_alloc | apply Kd.R_drewN | apply Kd.R_drew)); exact Kd.R_mono HO348.out (fun _ hk => hk.2)⟩, ⟨by (with_reducible repeat (first | apply Kd.R_alloc | apply Kd.R_drewN | apply Kd.R_drew)); exact HO351.out⟩, ⟨by repeat (first | (with_reducible first | exact HB.out | apply below_alloc | apply pw_below_drewN | apply below_drew1 | refine below_set ?_ GE339.out) | exact HB.out)⟩⟩
                      ·rw [if_neg c37] at H
                       exact absurd H (by simp)
                     ·rw [if_neg c36] at H
                      exact absurd H (by simp)
                    ·replace c35 := Bool.eq_false_iff.mpr c35
                     subst c35
                     have H1 : (if x12_2 = true then (if x8_2.length < 17592186044416 then (spec_l26Sides.l1 kj30 l0 l1 x7_2 (x8_2 ++ [((rd_T51 l0 x13_2).f3)]) x9_1 (rd l1 x9_1) (rd l1 (ji10)) x12_2 (wrap64 (x13_2 + 1))) else (none)) else (spec_l26Sides.l1 kj30 l0 l1 x7_2 x8_2 x9_1 (rd l1 x9_1) (rd l1 (ji10)) x12_2 (wrap64 (x13_2 + 1)))) = some (r1, r2, r3) := by rw [if_neg (show ¬ (false = true) by decide)] at H; exact H
                     clear H
                     have H := H1
                     clear H1
                     by_cases c42 : x12_2 = true
                     ·subst c42
                      have H1 : (if x8_2.length < 17592186044416 then (spec_l26Sides.l1 kj30 l0 l1 x7_2 (x8_2 ++ [((rd_T51 l0 x13_2).f3)]) x9_1 (rd l1 x9_1) (rd l1 (ji10)) true (wrap64 (x13_2 + 1))) else (none)) = some (r1, r2, r3) := by rw [if_pos rfl] at H; exact H
                      clear H
                      have H := H1
                      clear H1
                      by_cases c43 : x8_2.length < 17592186044416
                      ·rw [if_pos c43] at H
                       have LMc43 := Aside0.mk c43
                       clear c43
                       obtain ⟨y352, hy352⟩ : ∃ y_ : List Int, y_ = (x8_2 ++ [((rd_T51 l0 x13_2).f3)]) := ⟨_, rfl⟩
                       replace H : (spec_l26Sides.l1 kj30 l0 l1 x7_2 y352 x9_1 (rd l1 x9_1) (rd l1 (ji10)) true (wrap64 (x13_2 + 1))) = some (r1, r2, r3) := by first | (rw [hy352]; with_reducible exact H) | (have H2_ := (Option.bind_some _ _).symm.trans H; rw [hy352]; with_reducible exact H2_) | (have H2_ := (Option.bind_some _ _).symm.trans H; with_reducible exact H2_) | with_reducible exact H | (rw [hy352]; exact H) | exact H
                       have Ny352 := Aside0.mk hy352
                       clear hy352
                       have H' := Aside0.mk H
                       clear H
                       have hcz44_0 : wc.cell? ⟨gb339, 0, none⟩ = some (.int .i64 ((rd_T51 l0 x13_2).f0)) := (blk_cell BK339.out 0).trans rfl
                       have hcz44_1 : wc.cell? ⟨gb339, 1, none⟩ = some (.int .i64 ((rd_T51 l0 x13_2).f1)) := (blk_cell BK339.out 1).trans rfl
                       have hcz44_2 : wc.cell? ⟨gb339, 2, none⟩ = some (.int .i64 ((rd_T51 l0 x13_2).f2)) := (blk_cell BK339.out 2).trans rfl
                       have hcz44_3 : wc.cell? ⟨gb339, 3, none⟩ = some (.int .i64 ((rd_T51 l0 x13_2).f3)) := (blk_cell BK339.out 3).trans rfl
                       have hfz44_0 := blk_frozen BK339.out 0
                       have hfz44_1 := blk_frozen BK339.out 1
                       have hfz44_2 := blk_frozen BK339.out 2
                       have hfz44_3 := blk_frozen BK339.out 3
                       go_wp2_with (first | ((with_reducible refine gate_builtin (b := .append) (xs := #[.tmp 81, .tmp 84]) rfl ?_); at_builtin; refine Kd.R_append (Kd.int .i64) (w0 := w) w.heap.size rfl (.tmp 81) (.tmp 84) 30 2 (.int .i64 0) 8 rfl Try.underlying30 info2 rfl (by decide) (by omega) u8 x8_2 ((rd_T51 l0 x13_2).f3) [.int .i64 ((rd_T51 l0 x13_2).f3)] (fun k_ => some k_ ≠ (u7 : Value).ownBlock) (fun _ => False) rfl rfl ?aP (fun _ hk => hk.elim) ?aF ?aO ?aB ?aS ?aL ?_; (case aP => exact rfl); (case aB => exact (by repeat (first | (with_reducible first | exact HB.out | apply below_alloc | apply pw_below_drewN | apply below_drew1 | refine below_set ?_ GE339.out) | exact HB.out))); (case aF => exact (fun k_ hk => Kd.fresh' (Kd.R_lt (by (with_reducible repeat (first | apply Kd.R_alloc | apply Kd.R_drewN | apply Kd.R_drew)); exact HO_7.out)) k_ hk)); (case aO => exact (by (with_reducible repeat (first | apply Kd.R_alloc | apply Kd.R_drewN | apply Kd.R_drew)); exact HO_8.out)); (case aS => exact (below_size (by repeat (first | (with_reducible first | exact HB.out | apply below_alloc | apply pw_below_drewN | apply below_drew1 | refine below_set ?_ GE339.out) | exact HB.out)))); (case aL => have := LMc43.out; omega); intro v353 w45 ho hb hg hat; rw [← Ny352.out] at ho; have n0_ := Aside0.mk (Kd.R_after (ok := (fun _ => True)) (by (with_reducible repeat (first | apply Kd.R_alloc | apply Kd.R_drewN | apply Kd.R_drew)); exact Kd.R_mono HO_7.out (fun _ hk => ⟨trivial, hk⟩)) hg hat); have n1_ := Aside0.mk (blk_grown (g := gb339) (o := .cells #[.int .i64 ((rd_T51 l0 x13_2).f0), .int .i64 ((rd_T51 l0 x13_2).f1), .int .i64 ((rd_T51 l0 x13_2).f2), .int .i64 ((rd_T51 l0 x13_2).f3)] 51 (0, 0)) (by (with_reducible repeat (first | refine blk_drewN ?_ _ | refine blk_drew ?_ | refine blk_alloc ?_ _)); exact BK339.out) hg (Kd.R_ne HO_8.out BK339.out (by decide))); have n2_ := Aside0.mk (hb); have n3_ := Aside0.mk (ho); clear HO_7; clear BK339; clear HB; clear HO_8; have HO_7 := n0_; have BK339 := n1_; have HB := n2_; have HO354 := n3_; clear n0_ n1_ n2_ n3_; clear ho hb hg hat))
                       go_roundg kj30
                       case measure => have := HK1.out; have := HK2.out; have := HJ12.out; have := HJ17.out; have := HJ30.out; omega
                       case rel => exact ⟨(x7_2), (y352), (true), (wrap64 (x13_2 + 1)), (by first | rfl | (simp; done) | (simp [*]; done)), (by first | rfl | (simp; done) | (simp [*]; done)), H', ⟨by have := HK1.out; have := HK2.out; have := HJ12.out; have := HJ17.out; have := HJ30.out; omega⟩, ⟨by (with_reducible repeat (first | apply Kd.R_alloc | apply Kd.R_drewN | apply Kd.R_drew)); exact Kd.R_mono HO_7.out (fun _ hk => hk.2)⟩, ⟨by (with_reducible repeat (first | apply Kd.R_alloc | apply Kd.R_drewN | apply Kd.R_drew)); exact HO354.out⟩, ⟨by repeat (first | (with_reducible first | exact HB.out | apply below_alloc | apply pw_below_drewN | apply below_drew1 | refine below_set ?_ GE339.out) | exact HB.out)⟩⟩
                      ·rw [if_neg c43] at H
                       exact absurd H (by simp)
                     ·replace c42 := Bool.eq_false_iff.mpr c42
                      subst c42
                      have H1 : (spec_l26Sides.l1 kj30 l0 l1 x7_2 x8_2 x9_1 (rd l1 x9_1) (rd l1 (ji10)) false (wrap64 (x13_2 + 1))) = some (r1, r2, r3) := by rw [if_neg (show ¬ (false = true) by decide)] at H; exact H
                      clear H
                      have H := H1
                      clear H1
                      have H' := Aside0.mk H
                      clear H
                      go_wp2
                      go_roundg kj30
                      case measure => have := HK1.out; have := HK2.out; have := HJ12.out; have := HJ17.out; have := HJ30.out; omega
                      case rel => exact ⟨(x7_2), (x8_2), (false), (wrap64 (x13_2 + 1)), (by first | rfl | (simp; done) | (simp [*]; done)), (by first | rfl | (simp; done) | (simp [*]; done)), H', ⟨by have := HK1.out; have := HK2.out; have := HJ12.out; have := HJ17.out; have := HJ30.out; omega⟩, ⟨by (with_reducible repeat (first | apply Kd.R_alloc | apply Kd.R_drewN | apply Kd.R_drew)); exact HO_7.out⟩, ⟨by (with_reducible repeat (first | apply Kd.R_alloc | apply Kd.R_drewN | apply Kd.R_drew)); exact HO_8.out⟩, ⟨by repeat (first | (with_reducible first | exact HB.out | apply below_alloc | apply pw_below_drewN | apply below_drew1 | refine below_set ?_ GE339.out) | exact HB.out)⟩⟩
              ·rw [if_neg c17] at H
               exact absurd H (by simp)
             ·rw [if_neg c16] at H
              exact absurd H (by simp)
            ·replace c15 := Bool.eq_false_iff.mpr c15
             subst c15
             have H1 : (if x12_2 = true then (spec_l26Sides.l0 kj12 l0 l1 x7_2 x8_2 (wrap64 (x9_1 + 1))) else (some (([] : List Int), ([] : List Int), false))) = some (r1, r2, r3) := by rw [if_neg (show ¬ (false = true) by decide)] at H; exact H
             clear H
             have H := H1
             clear H1
             by_cases c46 : x12_2 = true
             ·subst c46
              have H1 : (spec_l26Sides.l0 kj12 l0 l1 x7_2 x8_2 (wrap64 (x9_1 + 1))) = some (r1, r2, r3) := by rw [if_pos rfl] at H; exact H
              clear H
              have H := H1
              clear H1
              have H' := Aside0.mk H
              clear H
              go_wp2
              go_roundg kj12
              case measure => have := HK1.out; have := HK2.out; have := HJ12.out; omega
              case rel => exact ⟨(x7_2), (x8_2), (wrap64 (x9_1 + 1)), (by first | rfl | (simp; done) | (simp [*]; done)), H', ⟨by have := HK1.out; have := HK2.out; have := HJ12.out; omega⟩, ⟨by (with_reducible repeat (first | apply Kd.R_alloc | apply Kd.R_drewN | apply Kd.R_drew)); exact HO_7.out⟩, ⟨by (with_reducible repeat (first | apply Kd.R_alloc | apply Kd.R_drewN | apply Kd.R_drew)); exact HO_8.out⟩, ⟨by repeat (first | (with_reducible first | exact HB.out | apply below_alloc | apply pw_below_drewN | apply below_drew1) | exact HB.out)⟩⟩
             ·replace c46 := Bool.eq_false_iff.mpr c46
              subst c46
              have H1 : (some (([] : List Int), ([] : List Int), false)) = some (r1, r2, r3) := by rw [if_neg (show ¬ (false = true) by decide)] at H; exact H
              clear H
              have H := H1
              clear H1
              simp only [Option.some.injEq, Prod.mk.injEq] at H
              obtain ⟨rfl, rfl, rfl⟩ := H
              go_wp2
              go_ret3
              exact ⟨_, _, by first | rfl | (simp [errW_none, errW_some] <;> rfl) | (simp only [← hji10]; first | rfl | (simp [errW_none, errW_some] <;> rfl)) | (simp [*, errW_none, errW_some] <;> rfl), by first | exact Kd.R_nil _ _ _ _ _ | exact Kd.N_nil _ _ _ _ _ | exact Kd.V_nil _ _ _ _ _ | exact Kd.Q_nil _ _ _ _ _ | exact Kd.S_nil _ _ _ _ _, by first | exact Kd.R_nil _ _ _ _ _ | exact Kd.N_nil _ _ _ _ _ | exact Kd.V_nil _ _ _ _ _ | exact Kd.Q_nil _ _ _ _ _ | exact Kd.S_nil _ _ _ _ _, by repeat (first | (with_reducible first | exact HB.out | apply below_alloc | apply pw_below_drewN | apply below_drew1) | exact HB.out)⟩
       ·rw [if_neg c12] at H
        exact absurd H (by simp)
      ·rw [if_neg c11] at H
       exact absurd H (by simp)
    ·rw [if_neg c8] at H
     exact absurd H (by simp)
   ·rw [if_neg c7] at H
    have c7b0 : decide (x9_1 < (l1.length : Int)) = false := decide_eq_false c7
    clear c7
    simp only [Option.some.injEq, Prod.mk.injEq] at H
    obtain ⟨rfl, rfl, rfl⟩ := H
    go_wp2
    go_ret3
    exact ⟨_, _, by first | rfl | (simp [errW_none, errW_some] <;> rfl) | (simp [*, errW_none, errW_some] <;> rfl), by (with_reducible repeat (first | apply Kd.R_alloc | apply Kd.R_drewN | apply Kd.R_drew)); exact HO_7.out, by (with_reducible repeat (first | apply Kd.R_alloc | apply Kd.R_drewN | apply Kd.R_drew)); exact HO_8.out, by repeat (first | (with_reducible first | exact HB.out | apply below_alloc | apply pw_below_drewN | apply below_drew1) | exact HB.out)⟩

end Go.Proofs.Ytppfdndnojbmjaa.X

/-! ## XSpecL26Code -/
namespace Go.Proofs.Ytppfdndnojbmjaa.X
open Go.RowKit Go.Proofs.Ytppfdndnojbmjaa.XV Go.Proofs.YtppfdndnojbmjaaW.PrintWords Go.Proofs.YtppfdndnojbmjaaW.PrintLast Go.Proofs.YtppfdndnojbmjaaW.PrintMore
attribute [local go_sem] max2_int min2_int max_two min_two max_three min_three max_four min_four

/-! ### spec_l26Code: function 50 -/
def spec_l26Code.f (k : Nat) (a0 : Int) (l1 : List (S51)) (l2 : List Int) : Option (List Int × List Int × Int) := (spec_l26Ok.f k a0 l1).bind fun t355 => (if t355 = true then ((spec_l26Loop.f k a0 l2).bind fun t356 => (if t356 = true then ((spec_l26Sides.f k l1 l2).bind fun bt357 => (if bt357.2.2 = true then (some (bt357.1, bt357.2.1, 0)) else (some (([] : List Int), ([] : List Int), 3)))) else (some (([] : List Int), ([] : List Int), 2)))) else (some (([] : List Int), ([] : List Int), 1)))
theorem spec_l26Code.mono : ∀ a0 a1 a2 k, LeO (spec_l26Code.f k a0 a1 a2) (spec_l26Code.f (k + 1) a0 a1 a2) := by
 intro a0 a1 a2 k
 unfold spec_l26Code.f
 repeat' first
   | (with_reducible exact spec_l26Loop.mono _ _ _)
   | (with_reducible exact spec_l26Ok.mono _ _ _)
   | (with_reducible exact spec_l26Sides.mono _ _ _)
   | (with_reducible exact LeO.refl _)
   | (with_reducible exact LeO.none _)
   | (with_reducible refine LeO.ite ?_ ?_)
   | (with_reducible refine LeO.bind ?_ (fun _ => ?_))
   | exact spec_l26Loop.mono _ _ _
   | exact spec_l26Ok.mono _ _ _
   | exact spec_l26Sides.mono _ _ _
   | exact LeO.none _
   | refine LeO.ite ?_ ?_
   | refine LeO.bind ?_ (fun _ => ?_)
set_option maxHeartbeats 8000000 in
set_option maxRecDepth 100000 in
theorem spec_l26Code.calls (k : Nat) (a0 : Int) (A1 : Option Addr) (c1 : Nat) (l1 : List (S51)) (A2 : Option Addr) (c2 : Nat) (l2 : List Int) (r1 : List Int) (r2 : List Int) (r3 : Int) (w : World) (hr1 : Kd.C k51 w A1 l1.length l1) (hc1 : l1.length ≤ c1) (hr2 : Kd.C (Kd.int .i64) w A2 l2.length l2) (hc2 : l2.length ≤ c2) (h : spec_l26Code.f k a0 l1 l2 = some (r1, r2, r3)) :
  Calls Try.prog 50 #[.int .i64 a0, .slice A1 l1.length c1, .slice A2 l2.length c2] w fun e w' => ∃ v0_ v1_ : Value, e = .returned (.tuple #[v0_, v1_, .int .i64 r3]) ∧ Kd.R (Kd.int .i64) 2 w' w.heap.size (fun k_ => some k_ ≠ (v1_ : Value).ownBlock) v0_ r1 ∧ Kd.R (Kd.int .i64) 2 w' w.heap.size (fun k_ => some k_ ≠ (v0_ : Value).ownBlock) v1_ r2 ∧ Below w.heap.size w w' := by
 have HR1 := Aside0.mk hr1
 have HC1 := Aside0.mk hc1
 clear hr1 hc1
 have HR2 := Aside0.mk hr2
 have HC2 := Aside0.mk hc2
 clear hr2 hc2
 have HB := Aside0.mk (Below.refl w.heap.size w)
 have H : ((spec_l26Ok.f k a0 l1).bind fun t355 => (if t355 = true then ((spec_l26Loop.f k a0 l2).bind fun t356 => (if t356 = true then ((spec_l26Sides.f k l1 l2).bind fun bt357 => (if bt357.2.2 = true then (some (bt357.1, bt357.2.1, 0)) else (some (([] : List Int), ([] : List Int), 3)))) else (some (([] : List Int), ([] : List Int), 2)))) else (some (([] : List Int), ([] : List Int), 1)))) = some (r1, r2, r3) := h
 clear h
 replace H := Option.bind_eq_some_iff.mp H
 obtain ⟨t355, A40, H⟩ := H
 replace H : (if t355 = true then ((spec_l26Loop.f k a0 l2).bind fun t356 => (if t356 = true then ((spec_l26Sides.f k l1 l2).bind fun bt357 => (if bt357.2.2 = true then (some (bt357.1, bt357.2.1, 0)) else (some (([] : List Int), ([] : List Int), 3)))) else (some (([] : List Int), ([] : List Int), 2)))) else (some (([] : List Int), ([] : List Int), 1))) = some (r1, r2, r3) := H
 have A4 := Aside0.mk A40
 clear A40
 by_cases c5 : t355 = true
 ·subst c5
  have H1 : ((spec_l26Loop.f k a0 l2).bind fun t356 => (if t356 = true then ((spec_l26Sides.f k l1 l2).bind fun bt357 => (if bt357.2.2 = true then (some (bt357.1, bt357.2.1, 0)) else (some (([] : List Int), ([] : List Int), 3)))) else (some (([] : List Int), ([] : List Int), 2)))) = some (r1, r2, r3) := by rw [if_pos rfl] at H; exact H
  clear H
  have H := H1
  clear H1
  replace H := Option.bind_eq_some_iff.mp H
  obtain ⟨t356, A60, H⟩ := H
  replace H : (if t356 = true then ((spec_l26Sides.f k l1 l2).bind fun bt357 => (if bt357.2.2 = true then (some (bt357.1, bt357.2.1, 0)) else (some (([] : List Int), ([] : List Int), 3)))) else (some (([] : List Int), ([] : List Int), 2))) = some (r1, r2, r3) := H
  have A6 := Aside0.mk A60
  clear A60
  by_cases c7 : t356 = true
  ·subst c7
   have H1 : ((spec_l26Sides.f k l1 l2).bind fun bt357 => (if bt357.2.2 = true then (some (bt357.1, bt357.2.1, 0)) else (some (([] : List Int), ([] : List Int), 3)))) = some (r1, r2, r3) := by rw [if_pos rfl] at H; exact H
   clear H
   have H := H1
   clear H1
   replace H := Option.bind_eq_some_iff.mp H
   obtain ⟨⟨t357, t358, t359⟩, A80, H⟩ := H
   replace H : (if t359 = true then (some (t357, t358, 0)) else (some (([] : List Int), ([] : List Int), 3))) = some (r1, r2, r3) := H
   have A8 := Aside0.mk A80
   clear A80
   by_cases c9 : t359 = true
   ·subst c9
    have H1 : (some (t357, t358, 0)) = some (r1, r2, r3) := by rw [if_pos rfl] at H; exact H
    clear H
    have H := H1
    clear H1
    simp only [Option.some.injEq, Prod.mk.injEq] at H
    obtain ⟨rfl, rfl, rfl⟩ := H
    go_enter Try.func50, Try.ntmps50
    go_wp2_with (first | ((with_reducible refine gate_callee (f := 39) rfl ?_); refine goesL_ (some 14) rfl rfl Try.func39 (by kernel_rfl) rfl #[.int .i64 a0, .slice A1 l1.length c1] rfl (by (try simp only [List.map_toArray, List.map_cons, List.map_nil]); first | done | rfl | (simp only [List.length_drop, List.length_take]; rfl)) ?_; (with_reducible refine (spec_l26Ok.calls k a0 _ _ l1 true _ ?side1 ?side2 A4.out).mono ?_); (case side1 => repeat (first | exact HR1.out | (with_reducible refine Kd.C_alloc ?_ _) | (with_reducible refine Kd.C_drewN ?_ _) | (with_reducible refine Kd.C_drew ?_))); (case side2 => exact HC1.out); rintro e w10 ⟨rfl, hb⟩; refine ⟨_, rfl, ?_⟩; have n0_ := Aside0.mk (below_step (by repeat (first | (with_reducible first | exact HB.out | apply below_alloc | apply pw_below_drewN | apply below_drew1) | exact HB.out)) hb); clear HB; have HB := n0_; clear n0_; (try clear hb); (try clear hb2); (try clear hk); (try clear hi)) | ((with_reducible refine gate_callee (f := 72) rfl ?_); refine goesL_ (some 18) rfl rfl Try.func72 (by kernel_rfl) rfl #[.int .i64 a0, .slice A2 l2.length c2] rfl (by (try simp only [List.map_toArray, List.map_cons, List.map_nil]); first | done | rfl | (simp only [List.length_drop, List.length_take]; rfl)) ?_; (with_reducible refine (spec_l26Loop.calls k a0 _ _ l2 true _ ?side1 ?side2 A6.out).mono ?_); (case side1 => repeat (first | exact (Kd.C_below HR2.out HB.out) | (with_reducible refine Kd.C_alloc ?_ _) | (with_reducible refine Kd.C_drewN ?_ _) | (with_reducible refine Kd.C_drew ?_))); (case side2 => exact HC2.out); rintro e w11 ⟨rfl, hb⟩; refine ⟨_, rfl, ?_⟩; have n0_ := Aside0.mk (below_step (by repeat (first | (with_reducible first | exact HB.out | apply below_alloc | apply pw_below_drewN | apply below_drew1) | exact HB.out)) hb); clear HB; have HB := n0_; clear n0_; (try clear hb); (try clear hb2); (try clear hk); (try clear hi)) | ((with_reducible refine gate_callee (f := 73) rfl ?_); refine goesL_ (some 23) rfl rfl Try.func73 (by kernel_rfl) rfl #[.slice A1 l1.length c1, .slice A2 l2.length c2] rfl (by (try simp only [List.map_toArray, List.map_cons, List.map_nil]); first | done | rfl | (simp only [List.length_drop, List.length_take]; rfl)) ?_; (with_reducible refine (spec_l26Sides.calls k _ _ l1 _ _ l2 t357 t358 true _ ?side1 ?side2 ?side3 ?side4 A8.out).mono ?_); (case side1 => repeat (first | exact (Kd.C_below HR1.out HB.out) | (with_reducible refine Kd.C_alloc ?_ _) | (with_reducible refine Kd.C_drewN ?_ _) | (with_reducible refine Kd.C_drew ?_))); (case side2 => exact HC1.out); (case side3 => repeat (first | exact (Kd.C_below HR2.out HB.out) | (with_reducible refine Kd.C_alloc ?_ _) | (with_reducible refine Kd.C_drewN ?_ _) | (with_reducible refine Kd.C_drew ?_))); (case side4 => exact HC2.out); rintro e w12 ⟨v360, v362, rfl, ho0, ho1, hb⟩; refine ⟨_, rfl, ?_⟩; have n0_ := Aside0.mk (Kd.R_lower ho0 (below_size (by repeat (first | (with_reducible first | exact HB.out | apply below_alloc | apply pw_below_drewN | apply below_drew1) | exact HB.out)))); have n1_ := Aside0.mk (Kd.R_lower ho1 (below_size (by repeat (first | (with_reducible first | exact HB.out | apply below_alloc | apply pw_below_drewN | apply below_drew1) | exact HB.out)))); have n2_ := Aside0.mk (below_step (by repeat (first | (with_reducible first | exact HB.out | apply below_alloc | apply pw_below_drewN | apply below_drew1) | exact HB.out)) hb); clear HB; have HO361 := n0_; have HO363 := n1_; have HB := n2_; clear n0_ n1_ n2_; (try clear hb); (try clear hb2); (try clear hk); (try clear hi); (try clear ho0); (try clear ho1)))
    go_ret3
    exact ⟨_, _, by first | rfl | (simp [errW_none, errW_some] <;> rfl) | (simp [*, errW_none, errW_some] <;> rfl), by (with_reducible repeat (first | apply Kd.R_alloc | apply Kd.R_drewN | apply Kd.R_drew)); exact HO361.out, by (with_reducible repeat (first | apply Kd.R_alloc | apply Kd.R_drewN | apply Kd.R_drew)); exact HO363.out, by repeat (first | (with_reducible first | exact HB.out | apply below_alloc | apply pw_below_drewN | apply below_drew1) | exact HB.out)⟩
   ·replace c9 := Bool.eq_false_iff.mpr c9
    subst c9
    have H1 : (some (([] : List Int), ([] : List Int), 3)) = some (r1, r2, r3) := by rw [if_neg (show ¬ (false = true) by decide)] at H; exact H
    clear H
    have H := H1
    clear H1
    simp only [Option.some.injEq, Prod.mk.injEq] at H
    obtain ⟨rfl, rfl, rfl⟩ := H
    go_enter Try.func50, Try.ntmps50
    go_wp2_with (first | ((with_reducible refine gate_callee (f := 39) rfl ?_); refine goesL_ (some 14) rfl rfl Try.func39 (by kernel_rfl) rfl #[.int .i64 a0, .slice A1 l1.length c1] rfl (by (try simp only [List.map_toArray, List.map_cons, List.map_nil]); first | done | rfl | (simp only [List.length_drop, List.length_take]; rfl)) ?_; (with_reducible refine (spec_l26Ok.calls k a0 _ _ l1 true _ ?side1 ?side2 A4.out).mono ?_); (case side1 => repeat (first | exact HR1.out | (with_reducible refine Kd.C_alloc ?_ _) | (with_reducible refine Kd.C_drewN ?_ _) | (with_reducible refine Kd.C_drew ?_))); (case side2 => exact HC1.out); rintro e w13 ⟨rfl, hb⟩; refine ⟨_, rfl, ?_⟩; have n0_ := Aside0.mk (below_step (by repeat (first | (with_reducible first | exact HB.out | apply below_alloc | apply pw_below_drewN | apply below_drew1) | exact HB.out)) hb); clear HB; have HB := n0_; clear n0_; (try clear hb); (try clear hb2); (try clear hk); (try clear hi)) | ((with_reducible refine gate_callee (f := 72) rfl ?_); refine goesL_ (some 18) rfl rfl Try.func72 (by kernel_rfl) rfl #[.int .i64 a0, .slice A2 l2.length c2] rfl (by (try simp only [List.map_toArray, List.map_cons, List.map_nil]); first | done | rfl | (simp only [List.length_drop, List.length_take]; rfl)) ?_; (with_reducible refine (spec_l26Loop.calls k a0 _ _ l2 true _ ?side1 ?side2 A6.out).mono ?_); (case side1 => repeat (first | exact (Kd.C_below HR2.out HB.out) | (with_reducible refine Kd.C_alloc ?_ _) | (with_reducible refine Kd.C_drewN ?_ _) | (with_reducible refine Kd.C_drew ?_))); (case side2 => exact HC2.out); rintro e w14 ⟨rfl, hb⟩; refine ⟨_, rfl, ?_⟩; have n0_ := Aside0.mk (below_step (by repeat (first | (with_reducible first | exact HB.out | apply below_alloc | apply pw_below_drewN | apply below_drew1) | exact HB.out)) hb); clear HB; have HB := n0_; clear n0_; (try clear hb); (try clear hb2); (try clear hk); (try clear hi)) | ((with_reducible refine gate_callee (f := 73) rfl ?_); refine goesL_ (some 23) rfl rfl Try.func73 (by kernel_rfl) rfl #[.slice A1 l1.length c1, .slice A2 l2.length c2] rfl (by (try simp only [List.map_toArray, List.map_cons, List.map_nil]); first | done | rfl | (simp only [List.length_drop, List.length_take]; rfl)) ?_; (with_reducible refine (spec_l26Sides.calls k _ _ l1 _ _ l2 t357 t358 false _ ?side1 ?side2 ?side3 ?side4 A8.out).mono ?_); (case side1 => repeat (first | exact (Kd.C_below HR1.out HB.out) | (with_reducible refine Kd.C_alloc ?_ _) | (with_reducible refine Kd.C_drewN ?_ _) | (with_reducible refine Kd.C_drew ?_))); (case side2 => exact HC1.out); (case side3 => repeat (first | exact (Kd.C_below HR2.out HB.out) | (with_reducible refine Kd.C_alloc ?_ _) | (with_reducible refine Kd.C_drewN ?_ _) | (with_reducible refine Kd.C_drew ?_))); (case side4 => exact HC2.out); rintro e w15 ⟨v360, v362, rfl, ho0, ho1, hb⟩; refine ⟨_, rfl, ?_⟩; have n0_ := Aside0.mk (Kd.R_lower ho0 (below_size (by repeat (first | (with_reducible first | exact HB.out | apply below_alloc | apply pw_below_drewN | apply below_drew1) | exact HB.out)))); have n1_ := Aside0.mk (Kd.R_lower ho1 (below_size (by repeat (first | (with_reducible first | exact HB.out | apply below_alloc | apply pw_below_drewN | apply below_drew1) | exact HB.out)))); have n2_ := Aside0.mk (below_step (by repeat (first | (with_reducible first | exact HB.out | apply below_alloc | apply pw_below_drewN | apply below_drew1) | exact HB.out)) hb); clear HB; have HO361 := n0_; have HO363 := n1_; have HB := n2_; clear n0_ n1_ n2_; (try clear hb); (try clear hb2); (try clear hk); (try clear hi); (try clear ho0); (try clear ho1)))
    go_ret3
    exact ⟨_, _, by first | rfl | (simp [errW_none, errW_some] <;> rfl) | (simp [*, errW_none, errW_some] <;> rfl), by first | exact Kd.R_nil _ _ _ _ _ | exact Kd.N_nil _ _ _ _ _ | exact Kd.V_nil _ _ _ _ _ | exact Kd.Q_nil _ _ _ _ _ | exact Kd.S_nil _ _ _ _ _, by first | exact Kd.R_nil _ _ _ _ _ | exact Kd.N_nil _ _ _ _ _ | exact Kd.V_nil _ _ _ _ _ | exact Kd.Q_nil _ _ _ _ _ | exact Kd.S_nil _ _ _ _ _, by repeat (first | (with_reducible first | exact HB.out | apply below_alloc | apply pw_below_drewN | apply below_drew1) | exact HB.out)⟩
  ·replace c7 := Bool.eq_false_iff.mpr c7
   subst c7
   have H1 : (some (([] : List Int), ([] : List Int), 2)) = some (r1, r2, r3) := by rw [if_neg (show ¬ (false = true) by decide)] at H; exact H
   clear H
   have H := H1
   clear H1
   simp only [Option.some.injEq, Prod.mk.injEq] at H
   obtain ⟨rfl, rfl, rfl⟩ := H
   go_enter Try.func50, Try.ntmps50
   go_wp2_with (first | ((with_reducible refine gate_callee (f := 39) rfl ?_); refine goesL_ (some 14) rfl rfl Try.func39 (by kernel_rfl) rfl #[.int .i64 a0, .slice A1 l1.length c1] rfl (by (try simp only [List.map_toArray, List.map_cons, List.map_nil]); first | done | rfl | (simp only [List.length_drop, List.length_take]; rfl)) ?_; (with_reducible refine (spec_l26Ok.calls k a0 _ _ l1 true _ ?side1 ?side2 A4.out).mono ?_); (case side1 => repeat (first | exact HR1.out | (with_reducible refine Kd.C_alloc ?_ _) | (with_reducible refine Kd.C_drewN ?_ _) | (with_reducible refine Kd.C_drew ?_))); (case side2 => exact HC1.out); rintro e w16 ⟨rfl, hb⟩; refine ⟨_, rfl, ?_⟩; have n0_ := Aside0.mk (below_step (by repeat (first | (with_reducible first | exact HB.out | apply below_alloc | apply pw_below_drewN | apply below_drew1) | exact HB.out)) hb); clear HB; have HB := n0_; clear n0_; (try clear hb); (try clear hb2); (try clear hk); (try clear hi)) | ((with_reducible refine gate_callee (f := 72) rfl ?_); refine goesL_ (some 18) rfl rfl Try.func72 (by kernel_rfl) rfl #[.int .i64 a0, .slice A2 l2.length c2] rfl (by (try simp only [List.map_toArray, List.map_cons, List.map_nil]); first | done | rfl | (simp only [List.length_drop, List.length_take]; rfl)) ?_; (with_reducible refine (spec_l26Loop.calls k a0 _ _ l2 false _ ?side1 ?side2 A6.out).mono ?_); (case side1 => repeat (first | exact (Kd.C_below HR2.out HB.out) | (with_reducible refine Kd.C_alloc ?_ _) | (with_reducible refine Kd.C_drewN ?_ _) | (with_reducible refine Kd.C_drew ?_))); (case side2 => exact HC2.out); rintro e w17 ⟨rfl, hb⟩; refine ⟨_, rfl, ?_⟩; have n0_ := Aside0.mk (below_step (by repeat (first | (with_reducible first | exact HB.out | apply below_alloc | apply pw_below_drewN | apply below_drew1) | exact HB.out)) hb); clear HB; have HB := n0_; clear n0_; (try clear hb); (try clear hb2); (try clear hk); (try clear hi)))
   go_ret3
   exact ⟨_, _, by first | rfl | (simp [errW_none, errW_some] <;> rfl) | (simp [*, errW_none, errW_some] <;> rfl), by first | exact Kd.R_nil _ _ _ _ _ | exact Kd.N_nil _ _ _ _ _ | exact Kd.V_nil _ _ _ _ _ | exact Kd.Q_nil _ _ _ _ _ | exact Kd.S_nil _ _ _ _ _, by first | exact Kd.R_nil _ _ _ _ _ | exact Kd.N_nil _ _ _ _ _ | exact Kd.V_nil _ _ _ _ _ | exact Kd.Q_nil _ _ _ _ _ | exact Kd.S_nil _ _ _ _ _, by repeat (first | (with_reducible first | exact HB.out | apply below_alloc | apply pw_below_drewN | apply below_drew1) | exact HB.out)⟩
 ·replace c5 := Bool.eq_false_iff.mpr c5
  subst c5
  have H1 : (some (([] : List Int), ([] : List Int), 1)) = some (r1, r2, r3) := by rw [if_neg (show ¬ (false = true) by decide)] at H; exact H
  clear H
  have H := H1
  clear H1
  simp only [Option.some.injEq, Prod.mk.injEq] at H
  obtain ⟨rfl, rfl, rfl⟩ := H
  go_enter Try.func50, Try.ntmps50
  go_wp2_with (first | ((with_reducible refine gate_callee (f := 39) rfl ?_); refine goesL_ (some 14) rfl rfl Try.func39 (by kernel_rfl) rfl #[.int .i64 a0, .slice A1 l1.length c1] rfl (by (try simp only [List.map_toArray, List.map_cons, List.map_nil]); first | done | rfl | (simp only [List.length_drop, List.length_take]; rfl)) ?_; (with_reducible refine (spec_l26Ok.calls k a0 _ _ l1 false _ ?side1 ?side2 A4.out).mono ?_); (case side1 => repeat (first | exact HR1.out | (with_reducible refine Kd.C_alloc ?_ _) | (with_reducible refine Kd.C_drewN ?_ _) | (with_reducible refine Kd.C_drew ?_))); (case side2 => exact HC1.out); rintro e w18 ⟨rfl, hb⟩; refine ⟨_, rfl, ?_⟩; have n0_ := Aside0.mk (below_step (by repeat (first | (with_reducible first | exact HB.out | apply below_alloc | apply pw_below_drewN | apply below_drew1) | exact HB.out)) hb); clear HB; have HB := n0_; clear n0_; (try clear hb); (try clear hb2); (try clear hk); (try clear hi)))
  go_ret3
  exact ⟨_, _, by first | rfl | (simp [errW_none, errW_some] <;> rfl) | (simp [*, errW_none, errW_some] <;> rfl), by first | exact Kd.R_nil _ _ _ _ _ | exact Kd.N_nil _ _ _ _ _ | exact Kd.V_nil _ _ _ _ _ | exact Kd.Q_nil _ _ _ _ _ | exact Kd.S_nil _ _ _ _ _, by first | exact Kd.R_nil _ _ _ _ _ | exact Kd.N_nil _ _ _ _ _ | exact Kd.V_nil _ _ _ _ _ | exact Kd.Q_nil _ _ _ _ _ | exact Kd.S_nil _ _ _ _ _, by repeat (first | (with_reducible first | exact HB.out | apply below_alloc | apply pw_below_drewN | apply below_drew1) | exact HB.out)⟩

end Go.Proofs.Ytppfdndnojbmjaa.X

/-! ## XSpecCloseLoop -/
namespace Go.Proofs.Ytppfdndnojbmjaa.X
open Go.RowKit Go.Proofs.Ytppfdndnojbmjaa.XV Go.Proofs.YtppfdndnojbmjaaW.PrintWords Go.Proofs.YtppfdndnojbmjaaW.PrintLast Go.Proofs.YtppfdndnojbmjaaW.PrintMore
attribute [local go_sem] max2_int min2_int max_two min_two max_three min_three max_four min_four

/-! ### spec_CloseLoop: function 31 -/
def spec_CloseLoop.f (k : Nat) (a0 : Int) (l1 : List (S51)) (l2 : List Int) : Option (List Int × Int) := (spec_l26Code.f k a0 l1 l2).bind fun bt364 => (if bt364.2.2 = 0 then ((spec_l02Sum.f k bt364.1).bind fun t371 => ((spec_l26Shared.f k bt364.1 bt364.2.1 t371).bind fun t372 => (some (t372, 0)))) else (some (([] : List Int), bt364.2.2)))
theorem spec_CloseLoop.mono : ∀ a0 a1 a2 k, LeO (spec_CloseLoop.f k a0 a1 a2) (spec_CloseLoop.f (k + 1) a0 a1 a2) := by
 intro a0 a1 a2 k
 unfold spec_CloseLoop.f
 repeat' first
   | (with_reducible exact spec_l02Sum.mono _ _)
   | (with_reducible exact spec_l26Code.mono _ _ _ _)
   | (with_reducible exact spec_l26Shared.mono _ _ _ _)
   | (with_reducible exact LeO.refl _)
   | (with_reducible exact LeO.none _)
   | (with_reducible refine LeO.ite ?_ ?_)
   | (with_reducible refine LeO.bind ?_ (fun _ => ?_))
   | exact spec_l02Sum.mono _ _
   | exact spec_l26Code.mono _ _ _ _
   | exact spec_l26Shared.mono _ _ _ _
   | exact LeO.none _
   | refine LeO.ite ?_ ?_
   | refine LeO.bind ?_ (fun _ => ?_)
set_option maxHeartbeats 8000000 in
set_option maxRecDepth 100000 in
theorem spec_CloseLoop.calls (k : Nat) (a0 : Int) (A1 : Option Addr) (c1 : Nat) (l1 : List (S51)) (A2 : Option Addr) (c2 : Nat) (l2 : List Int) (r1 : List Int) (r2 : Int) (w : World) (hr1 : Kd.C k51 w A1 l1.length l1) (hc1 : l1.length ≤ c1) (hr2 : Kd.C (Kd.int .i64) w A2 l2.length l2) (hc2 : l2.length ≤ c2) (h : spec_CloseLoop.f k a0 l1 l2 = some (r1, r2)) :
  Calls Try.prog 31 #[.int .i64 a0, .slice A1 l1.length c1, .slice A2 l2.length c2] w fun e w' => ∃ v0_ : Value, e = .returned (.tuple #[v0_, .int .i64 r2]) ∧ Kd.R (Kd.int .i64) 2 w' w.heap.size (fun _ => True) v0_ r1 ∧ Below w.heap.size w w' := by
 have HR1 := Aside0.mk hr1
 have HC1 := Aside0.mk hc1
 clear hr1 hc1
 have HR2 := Aside0.mk hr2
 have HC2 := Aside0.mk hc2
 clear hr2 hc2
 have HB := Aside0.mk (Below.refl w.heap.size w)
 have H : ((spec_l26Code.f k a0 l1 l2).bind fun bt364 => (if bt364.2.2 = 0 then ((spec_l02Sum.f k bt364.1).bind fun t371 => ((spec_l26Shared.f k bt364.1 bt364.2.1 t371).bind fun t372 => (some (t372, 0)))) else (some (([] : List Int), bt364.2.2)))) = some (r1, r2) := h
 clear h
 replace H := Option.bind_eq_some_iff.mp H
 obtain ⟨⟨t364, t365, t366⟩, A40, H⟩ := H
 replace H : (if t366 = 0 then ((spec_l02Sum.f k t364).bind fun t371 => ((spec_l26Shared.f k t364 t365 t371).bind fun t372 => (some (t372, 0)))) else (some (([] : List Int), t366))) = some (r1, r2) := H
 have A4 := Aside0.mk A40
 clear A40
 by_cases c5 : t366 = 0
 ·rw [if_pos c5] at H
  have c5b0 : (t366 == 0) = true := beq_iff_eq.mpr c5
  have c5b1 : (t366 != 0) = false := bne_eq_false_iff_eq.mpr c5
  clear c5
  replace H := Option.bind_eq_some_iff.mp H
  obtain ⟨t371, A60, H⟩ := H
  replace H : ((spec_l26Shared.f k t364 t365 t371).bind fun t372 => (some (t372, 0))) = some (r1, r2) := H
  have A6 := Aside0.mk A60
  clear A60
  replace H := Option.bind_eq_some_iff.mp H
  obtain ⟨t372, A70, H⟩ := H
  replace H : (some (t372, 0)) = some (r1, r2) := H
  have A7 := Aside0.mk A70
  clear A70
  simp only [Option.some.injEq, Prod.mk.injEq] at H
  obtain ⟨rfl, rfl⟩ := H
  go_enter Try.func31, Try.ntmps31
  go_wp2_with (first | ((with_reducible refine gate_callee (f := 50) rfl ?_); refine goesL_ (some 15) rfl rfl Try.func50 (by kernel_rfl) rfl #[.int .i64 a0, .slice A1 l1.length c1, .slice A2 l2.length c2] rfl (by (try simp only [List.map_toArray, List.map_cons, List.map_nil]); first | done | rfl | (simp only [List.length_drop, List.length_take]; rfl)) ?_; (with_reducible refine (spec_l26Code.calls k a0 _ _ l1 _ _ l2 t364 t365 t366 _ ?side1 ?side2 ?side3 ?side4 A4.out).mono ?_); (case side1 => repeat (first | exact HR1.out | (with_reducible refine Kd.C_alloc ?_ _) | (with_reducible refine Kd.C_drewN ?_ _) | (with_reducible refine Kd.C_drew ?_))); (case side2 => exact HC1.out); (case side3 => repeat (first | exact HR2.out | (with_reducible refine Kd.C_alloc ?_ _) | (with_reducible refine Kd.C_drewN ?_ _) | (with_reducible refine Kd.C_drew ?_))); (case side4 => exact HC2.out); rintro e w8 ⟨v367, v369, rfl, ho0, ho1, hb⟩; refine ⟨_, rfl, ?_⟩; have n0_ := Aside0.mk (Kd.R_lower ho0 (below_size (by repeat (first | (with_reducible first | exact HB.out | apply below_alloc | apply pw_below_drewN | apply below_drew1) | exact HB.out)))); have n1_ := Aside0.mk (Kd.R_lower ho1 (below_size (by repeat (first | (with_reducible first | exact HB.out | apply below_alloc | apply pw_below_drewN | apply below_drew1) | exact HB.out)))); have n2_ := Aside0.mk (below_step (by repeat (first | (with_reducible first | exact HB.out | apply below_alloc | apply pw_below_drewN | apply below_drew1) | exact HB.out)) hb); clear HB; have HO368 := n0_; have HO370 := n1_; have HB := n2_; clear n0_ n1_ n2_; (try clear hb); (try clear hb2); (try clear hk); (try clear hi); (try clear ho0); (try clear ho1); obtain ⟨Ao9, co9, eo9⟩ := Kd.R_slice HO368.out; subst eo9) | ((with_reducible refine gate_callee (f := 51) rfl ?_); refine goesL_ (some 25) rfl rfl Try.func51 (by kernel_rfl) rfl #[.slice Ao9 t364.length co9] rfl (by (try simp only [List.map_toArray, List.map_cons, List.map_nil]); first | done | rfl | (simp only [List.length_drop, List.length_take]; rfl)) ?_; (with_reducible refine (spec_l02Sum.calls k _ _ t364 t371 _ ?side1 ?side2 A6.out).mono ?_); (case side1 => repeat (first | exact (Kd.R_reads' HO368.out).2.2 | (with_reducible refine Kd.C_alloc ?_ _) | (with_reducible refine Kd.C_drewN ?_ _) | (with_reducible refine Kd.C_drew ?_))); (case side2 => exact (Kd.R_reads' HO368.out).2.1); rintro e w' ⟨rfl, ⟨nd, rfl⟩⟩; refine ⟨_, rfl, ?_⟩; obtain ⟨Ao10, co10, eo10⟩ := Kd.R_slice HO370.out; subst eo10) | ((with_reducible refine gate_callee (f := 57) rfl ?_); refine goesL_ (some 26) rfl rfl Try.func57 (by kernel_rfl) rfl #[.slice Ao9 t364.length co9, .slice Ao10 t365.length co10, .int .i64 t371] rfl (by (try simp only [List.map_toArray, List.map_cons, List.map_nil]); first | done | rfl | (simp only [List.length_drop, List.length_take]; rfl)) ?_; (with_reducible refine (spec_l26Shared.calls k _ _ t364 _ _ t365 t371 t372 _ ?side1 ?side2 ?side3 ?side4 A7.out).mono ?_); (case side1 => repeat (first | exact (Kd.R_reads' HO368.out).2.2 | (with_reducible refine Kd.C_alloc ?_ _) | (with_reducible refine Kd.C_drewN ?_ _) | (with_reducible refine Kd.C_drew ?_))); (case side2 => exact (Kd.R_reads' HO368.out).2.1); (case side3 => repeat (first | exact (Kd.R_reads' HO370.out).2.2 | (with_reducible refine Kd.C_alloc ?_ _) | (with_reducible refine Kd.C_drewN ?_ _) | (with_reducible refine Kd.C_drew ?_))); (case side4 => exact (Kd.R_reads' HO370.out).2.1); rintro e w11 ⟨v373, rfl, ho0, hb⟩; refine ⟨_, rfl, ?_⟩; have n0_ := Aside0.mk (Kd.R_elder' (by (with_reducible repeat (first | apply Kd.R_alloc | apply Kd.R_drewN | apply Kd.R_drew)); exact HO368.out) (Kd.R_base ho0) hb); have n1_ := Aside0.mk (Kd.R_elder' (by (with_reducible repeat (first | apply Kd.R_alloc | apply Kd.R_drewN | apply Kd.R_drew)); exact HO370.out) (Kd.R_base ho0) hb); have n2_ := Aside0.mk (Kd.R_lower (Kd.R_new' (Kd.R_new' ho0 (Kd.R_lt (by (with_reducible repeat (first | apply Kd.R_alloc | apply Kd.R_drewN | apply Kd.R_drew)); exact HO368.out))) (Kd.R_lt (by (with_reducible repeat (first | apply Kd.R_alloc | apply Kd.R_drewN | apply Kd.R_drew)); exact HO370.out))) (below_size (by repeat (first | (with_reducible first | exact HB.out | apply below_alloc | apply pw_below_drewN | apply below_drew1) | exact HB.out)))); have n3_ := Aside0.mk (below_step (by repeat (first | (with_reducible first | exact HB.out | apply below_alloc | apply pw_below_drewN | apply below_drew1) | exact HB.out)) hb); clear HO368; clear HO370; clear HB; have HO368 := n0_; have HO370 := n1_; have HO374 := n2_; have HB := n3_; clear n0_ n1_ n2_ n3_; (try clear hb); (try clear hb2); (try clear hk); (try clear hi); (try clear ho0)))
  go_ret2
  exact ⟨_, by first | rfl | (simp [errW_none, errW_some] <;> rfl) | (simp [*, errW_none, errW_some] <;> rfl), by (with_reducible repeat (first | apply Kd.R_alloc | apply Kd.R_drewN | apply Kd.R_drew)); exact Kd.R_mono HO374.out (fun _ hk => trivial), by repeat (first | (with_reducible first | exact HB.out | apply below_alloc | apply pw_below_drewN | apply below_drew1) | exact HB.out)⟩
 ·rw [if_neg c5] at H
  have c5b0 : (t366 == 0) = false := beq_eq_false_iff_ne.mpr c5
  have c5b1 : (t366 != 0) = true := bne_iff_ne.mpr c5
  simp only [Option.some.injEq, Prod.mk.injEq] at H
  obtain ⟨rfl, rfl⟩ := H
  go_enter Try.func31, Try.ntmps31
  go_wp2_with (first | ((with_reducible refine gate_callee (f := 50) rfl ?_); refine goesL_ (some 15) rfl rfl Try.func50 (by kernel_rfl) rfl #[.int .i64 a0, .slice A1 l1.length c1, .slice A2 l2.length c2] rfl (by (try simp only [List.map_toArray, List.map_cons, List.map_nil]); first | done | rfl | (simp only [List.length_drop, List.length_take]; rfl)) ?_; (with_reducible refine (spec_l26Code.calls k a0 _ _ l1 _ _ l2 t364 t365 t366 _ ?side1 ?side2 ?side3 ?side4 A4.out).mono ?_); (case side1 => repeat (first | exact HR1.out | (with_reducible refine Kd.C_alloc ?_ _) | (with_reducible refine Kd.C_drewN ?_ _) | (with_reducible refine Kd.C_drew ?_))); (case side2 => exact HC1.out); (case side3 => repeat (first | exact HR2.out | (with_reducible refine Kd.C_alloc ?_ _) | (with_reducible refine Kd.C_drewN ?_ _) | (with_reducible refine Kd.C_drew ?_))); (case side4 => exact HC2.out); rintro e w12 ⟨v367, v369, rfl, ho0, ho1, hb⟩; refine ⟨_, rfl, ?_⟩; have n0_ := Aside0.mk (Kd.R_lower ho0 (below_size (by repeat (first | (with_reducible first | exact HB.out | apply below_alloc | apply pw_below_drewN | apply below_drew1) | exact HB.out)))); have n1_ := Aside0.mk (Kd.R_lower ho1 (below_size (by repeat (first | (with_reducible first | exact HB.out | apply below_alloc | apply pw_below_drewN | apply below_drew1) | exact HB.out)))); have n2_ := Aside0.mk (below_step (by repeat (first | (with_reducible first | exact HB.out | apply below_alloc | apply pw_below_drewN | apply below_drew1) | exact HB.out)) hb); clear HB; have HO368 := n0_; have HO370 := n1_; have HB := n2_; clear n0_ n1_ n2_; (try clear hb); (try clear hb2); (try clear hk); (try clear hi); (try clear ho0); (try clear ho1)))
  go_ret2
  exact ⟨_, by first | rfl | (simp [errW_none, errW_some] <;> rfl) | (simp [*, errW_none, errW_some] <;> rfl), by first | exact Kd.R_nil _ _ _ _ _ | exact Kd.N_nil _ _ _ _ _ | exact Kd.V_nil _ _ _ _ _ | exact Kd.Q_nil _ _ _ _ _ | exact Kd.S_nil _ _ _ _ _, by repeat (first | (with_reducible first | exact HB.out | apply below_alloc | apply pw_below_drewN | apply below_drew1) | exact HB.out)⟩

end Go.Proofs.Ytppfdndnojbmjaa.X

/-! ## XImplSum -/
namespace Go.Proofs.Ytppfdndnojbmjaa.X
open Go.RowKit Go.Proofs.Ytppfdndnojbmjaa.XV Go.Proofs.YtppfdndnojbmjaaW.PrintWords Go.Proofs.YtppfdndnojbmjaaW.PrintLast Go.Proofs.YtppfdndnojbmjaaW.PrintMore
attribute [local go_sem] max2_int min2_int max_two min_two max_three min_three max_four min_four

/-! ### impl_sum: function 49 -/
def impl_sum.l0 : Nat → Int → List Int → Int → Int → Option (Int)
 | 0, _, _, _, _ => none
 | k + 1, x3, x6, x7, x8 => if x8 < x7 then (if 0 ≤ x8 then (if x8 < (x6.length : Int) then (impl_sum.l0 k (wrap64 (x3 + (rd x6 x8))) x6 x7 (wrap64 (x8 + 1))) else (none)) else (none)) else (some x3)
def impl_sum.f (k : Nat) (l0 : List Int) : Option (Int) := impl_sum.l0 k 0 l0 (l0.length : Int) 0
theorem impl_sum.mono_l : ∀ k, (∀ y0 y1 y2 y3, LeO (impl_sum.l0 k y0 y1 y2 y3) (impl_sum.l0 (k + 1) y0 y1 y2 y3))
 | 0 => fun _ _ _ _ r h => by simp [impl_sum.l0] at h
 | k + 1 => by
  have ih0 := impl_sum.mono_l k
  ·intro y0 y1 y2 y3
   unfold impl_sum.l0
   repeat' first
   | (with_reducible exact ih0 _ _ _ _)
   | (with_reducible exact LeO.refl _)
   | (with_reducible exact LeO.none _)
   | (with_reducible refine LeO.ite ?_ ?_)
   | (with_reducible refine LeO.bind ?_ (fun _ => ?_))
   | exact ih0 _ _ _ _
   | exact LeO.none _
   | refine LeO.ite ?_ ?_
   | refine LeO.bind ?_ (fun _ => ?_)
theorem impl_sum.mono : ∀ a0 k, LeO (impl_sum.f k a0) (impl_sum.f (k + 1) a0) := by
 intro a0 k
 have ih0 := impl_sum.mono_l k
 unfold impl_sum.f
 repeat' first
   | (with_reducible exact ih0 _ _ _ _)
   | (with_reducible exact LeO.refl _)
   | (with_reducible exact LeO.none _)
   | (with_reducible refine LeO.ite ?_ ?_)
   | (with_reducible refine LeO.bind ?_ (fun _ => ?_))
   | exact ih0 _ _ _ _
   | exact LeO.none _
   | refine LeO.ite ?_ ?_
   | refine LeO.bind ?_ (fun _ => ?_)
set_option maxHeartbeats 8000000 in
set_option maxRecDepth 100000 in
theorem impl_sum.calls (k : Nat) (A0 : Option Addr) (c0 : Nat) (l0 : List Int) (r : Int) (w : World) (hr0 : Kd.C (Kd.int .i64) w A0 l0.length l0) (hc0 : l0.length ≤ c0) (h : impl_sum.f k l0 = some r) :
  Calls Try.prog 49 #[.slice A0 l0.length c0] w fun e w' => e = .returned (.int .i64 r) ∧ Drawn0 w w' := by
 have HR0 := Aside0.mk hr0
 have HC0 := Aside0.mk hc0
 clear hr0 hc0
 have H : (impl_sum.l0 k 0 l0 (l0.length : Int) 0) = some r := h
 clear h
 have H' := Aside0.mk H
 clear H
 go_enter Try.func49, Try.ntmps49
 go_wp2
 go_loopg [3, 8] k (fun kq v3 v8 w' => ∃ (x3_1 : Int) (x8_1 : Int), v3 = .int .i64 x3_1 ∧ v8 = .int .i64 x8_1 ∧ Aside0 (impl_sum.l0 kq x3_1 l0 (l0.length : Int) x8_1 = some r) ∧ Aside0 (kq ≤ k) ∧ Drawn0 w w')
 case atStart => exact ⟨(0), (0), (by first | rfl | (simp; done) | (simp [*]; done)), (by first | rfl | (simp; done) | (simp [*]; done)), H', ⟨Nat.le_refl _⟩, by repeat (first | exact Drawn0.refl _ | apply Drawn0.step)⟩
 case round =>
  clear H'
  obtain ⟨x3_1, x8_1, rfl, rfl, HA, HK1, ⟨m1, rfl⟩⟩ := hrel
  cases gk with
  | zero => exact absurd HA.out (by simp [impl_sum.l0])
  | succ k1 =>
   have H := HA.out
   clear HA
   simp only [impl_sum.l0] at H
   by_cases c2 : x8_1 < (l0.length : Int)
   ·rw [if_pos c2] at H
    have c2b0 : decide (x8_1 < (l0.length : Int)) = true := decide_eq_true c2
    clear c2
    by_cases c3 : 0 ≤ x8_1
    ·rw [if_pos c3] at H
     have c3b0 : decide (0 ≤ x8_1) = true := decide_eq_true c3
     clear c3
     by_cases c4 : x8_1 < (l0.length : Int)
     ·rw [if_pos c4] at H
      have c4b0 : decide (x8_1 < (l0.length : Int)) = true := decide_eq_true c4
      clear c4
      have H' := Aside0.mk H
      clear H
      have p165 : 0 ≤ (x8_1 : Int) := of_decide_eq_true (by first | (with_reducible assumption) | assumption)
      have q165 : x8_1 < (l0.length : Int) := of_decide_eq_true (by first | (with_reducible assumption) | assumption)
      obtain ⟨ad165, e165, hx165_0⟩ := Kd.at_int HR0.out x8_1 p165 q165
      cases e165
      replace p165 := eq_true p165
      replace q165 := eq_true q165
      go_wp2
      go_roundg k1
      case measure => have := HK1.out; omega
      case rel => exact ⟨(wrap64 (x3_1 + (rd l0 x8_1))), (wrap64 (x8_1 + 1)), (by first | rfl | (simp; done) | (simp [*]; done)), (by first | rfl | (simp; done) | (simp [*]; done)), H', ⟨by have := HK1.out; omega⟩, by repeat (first | exact Drawn0.refl _ | apply Drawn0.step)⟩
     ·rw [if_neg c4] at H
      exact absurd H (by simp)
    ·rw [if_neg c3] at H
     exact absurd H (by simp)
   ·rw [if_neg c2] at H
    have c2b0 : decide (x8_1 < (l0.length : Int)) = false := decide_eq_false c2
    clear c2
    obtain rfl := Option.some.inj H
    go_wp2
    go_ret
    exact ⟨by first | rfl | (simp; done) | (simp [*]; done), by repeat (first | exact Drawn0.refl _ | apply Drawn0.step)⟩

end Go.Proofs.Ytppfdndnojbmjaa.X

/-! ## Slp -/
/-
  DERIVED: THE SHELF's CONTRACTS AT THIS DUMP, IN PLAIN WORDS (tools/lay-plain.mjs out of 'YtppfdndnojbmjaaSl.lean', which tools/lay-shelf.mjs wrote): THE SAME DECLARATIONS UNDER THE SAME NAMES: 'import', 'namespace', 'open', 'def', 'theorem' AND NOTHING ELSE: no command of the shelf's: FOR A HAND-IN. Each laying: the table of numbers ('.._ren') and one theorem, a field a fact of the dump's own or the kernel's comparison; each contract: ONE APPLICATION.
-/
namespace Go.Proofs
open Go.Shelf
def Try.sl8_ren : Go.Shelf.Ren := ⟨fun | 8 => 84 | 13 => 86 | 14 => 87 | 16 => 89 | 15 => 88 | 29 => 99 | 30 => 100 | 42 => 101 | 49 => 102 | n => n, fun | 20 => 20 | 26 => 97 | 36 => 102 | 0 => 0 | 38 => 104 | 42 => 108 | 3 => 3 | 4 => 4 | 47 => 98 | 17 => 17 | 33 => 99 | 34 => 100 | 89 => 129 | 12 => 12 | 56 => 121 | 82 => 122 | 5 => 5 | 83 => 123 | 84 => 124 | 85 => 125 | 86 => 126 | 87 => 127 | n => n, fun | n => n⟩
theorem Try.sl8 : Go.Proofs.LaysGt.n8 Try.prog Try.sl8_ren := {
  mixed := by kernel_rfl
  f8 := Try.func84.trans (congrArg some (by kernel_rfl))
  f13 := Try.func86.trans (congrArg some (by kernel_rfl))
  f14 := Try.func87.trans (congrArg some (by kernel_rfl))
  f15 := Try.func88.trans (congrArg some (by kernel_rfl))
  f16 := Try.func89.trans (congrArg some (by kernel_rfl))
  f29 := Try.func99.trans (congrArg some (by kernel_rfl))
  f30 := Try.func100.trans (congrArg some (by kernel_rfl))
  f42 := Try.func101.trans (congrArg some (by kernel_rfl))
  f49 := Try.func102.trans (congrArg some (by kernel_rfl))
  t0 := Try.underlying0
  a0 := Try.isAgg0
  z0 := Try.sizeOf0
  v0 := Try.zeroValue0
  i0 := by kernel_rfl
  t3 := Try.underlying3
  a3 := Try.isAgg3
  z3 := Try.sizeOf3
  v3 := Try.zeroValue3
  i3 := by kernel_rfl
  t4 := Try.underlying4
  a4 := Try.isAgg4
  z4 := Try.sizeOf4
  v4 := Try.zeroValue4
  i4 := by kernel_rfl
  t5 := Try.underlying5
  a5 := Try.isAgg5
  z5 := Try.sizeOf5
  v5 := Try.zeroValue5
  i5 := by kernel_rfl
  t12 := Try.underlying12
  a12 := Try.isAgg12
  z12 := Try.sizeOf12
  v12 := Try.zeroValue12
  i12 := by kernel_rfl
  t17 := Try.underlying17
  a17 := Try.isAgg17
  z17 := Try.sizeOf17
  v17 := Try.zeroValue17
  i17 := by kernel_rfl
  t20 := Try.underlying20
  a20 := Try.isAgg20
  z20 := Try.sizeOf20
  v20 := Try.zeroValue20
  i20 := by kernel_rfl
  t26 := Try.underlying97
  a26 := Try.isAgg97
  z26 := Try.sizeOf97
  v26 := Try.zeroValue97
  i26 := by kernel_rfl
  t33 := Try.underlying99
  a33 := Try.isAgg99
  z33 := Try.sizeOf99
  v33 := Try.zeroValue99
  i33 := by kernel_rfl
  t34 := Try.underlying100
  a34 := Try.isAgg100
  z34 := Try.sizeOf100
  v34 := Try.zeroValue100
  i34 := by kernel_rfl
  t36 := Try.underlying102
  a36 := Try.isAgg102
  z36 := Try.sizeOf102
  v36 := Try.zeroValue102
  i36 := by kernel_rfl
  t38 := Try.underlying104
  a38 := Try.isAgg104
  z38 := Try.sizeOf104
  v38 := Try.zeroValue104
  i38 := by kernel_rfl
  t42 := Try.underlying108
  a42 := Try.isAgg108
  z42 := Try.sizeOf108
  v42 := Try.zeroValue108
  i42 := by kernel_rfl
  t47 := Try.underlying98
  a47 := Try.isAgg98
  z47 := Try.sizeOf98
  v47 := Try.zeroValue98
  i47 := by kernel_rfl
  t56 := Try.underlying121
  a56 := Try.isAgg121
  z56 := Try.sizeOf121
  v56 := Try.zeroValue121
  i56 := by kernel_rfl
  t82 := Try.underlying122
  a82 := Try.isAgg122
  z82 := Try.sizeOf122
  v82 := Try.zeroValue122
  i82 := by kernel_rfl
  t83 := Try.underlying123
  a83 := Try.isAgg123
  z83 := Try.sizeOf123
  v83 := Try.zeroValue123
  i83 := by kernel_rfl
  t84 := Try.underlying124
  a84 := Try.isAgg124
  z84 := Try.sizeOf124
  v84 := Try.zeroValue124
  i84 := by kernel_rfl
  t85 := Try.underlying125
  a85 := Try.isAgg125
  z85 := Try.sizeOf125
  v85 := Try.zeroValue125
  i85 := by kernel_rfl
  t86 := Try.underlying126
  a86 := Try.isAgg126
  z86 := Try.sizeOf126
  v86 := Try.zeroValue126
  i86 := by kernel_rfl
  t87 := Try.underlying127
  a87 := Try.isAgg127
  z87 := Try.sizeOf127
  v87 := Try.zeroValue127
  i87 := by kernel_rfl
  t89 := Try.underlying129
  a89 := Try.isAgg129
  z89 := Try.sizeOf129
  v89 := Try.zeroValue129
  i89 := by kernel_rfl }
end Go.Proofs

/-! ## XSortSliceStable -/
namespace Go.Proofs.Ytppfdndnojbmjaa.X
open Go.RowKit Go.Proofs.Ytppfdndnojbmjaa.XV Go.Proofs.YtppfdndnojbmjaaW.PrintWords Go.Proofs.YtppfdndnojbmjaaW.PrintLast Go.Proofs.YtppfdndnojbmjaaW.PrintMore
attribute [local go_sem] max2_int min2_int max_two min_two max_three min_three max_four min_four

/-! ### sort_SliceStable: function 84 with the order that impl.shareOut asks for (function 85) -/
/-- The remainder that party x has. -/
def shKey (t : Int) (lw : List Int) (s : Int) (x : Int) : Int := Int.tmod (wrap64 (t * rd lw x)) s
def shLt (t : Int) (lw : List Int) (s : Int) (n : Nat) : Fin (n + 1) → Fin (n + 1) → Bool := fun a b => decide (shKey t lw s ((b.val : Nat) : Int) < shKey t lw s ((a.val : Nat) : Int))
/-- May these indices be sorted: one at least and twenty at most, each in its range, and no division by nothing. -/
def shOk (lw : List Int) (s : Int) (xs : List Int) : Bool := decide (1 ≤ xs.length) && (decide (xs.length ≤ 20) && (decide (s ≠ 0) && xs.all fun x => decide (0 ≤ x) && decide (x < lw.length)))
def shFin (n : Nat) (xs : List Int) : Array (Fin (n + 1)) := (xs.map fun x => Fin.ofNat (n + 1) x.toNat).toArray
/-- The indices, those with greater remainders first, equal ones as they were. -/
def shSort (t : Int) (lw : List Int) (s : Int) (xs : List Int) : List Int :=
 (Go.Sort.insertionSort (shLt t lw s (lw.length - 1)) (shFin (lw.length - 1) xs) 0 xs.length).toList.map fun a => ((a.val : Nat) : Int)
set_option maxHeartbeats 4000000 in
set_option maxRecDepth 100000 in
theorem less_shareOut (t s : Int) (A : Option Addr) (cw : Nat) (lw : List Int) (gt gw go gs g n c : Nat) (W : World) (G : Nat → Int)
  (ht : W.cell? ⟨gt, 0, none⟩ = some (.int .i64 t)) (hw : W.cell? ⟨gw, 0, none⟩ = some (.slice A lw.length cw)) (ho : W.cell? ⟨go, 0, none⟩ = some (.slice (some ⟨g, 0, none⟩) n c)) (hs : W.cell? ⟨gs, 0, none⟩ = some (.int .i64 s))
  (hc : ∀ j, j < n → W.cell? ⟨g, j, none⟩ = some (.int .i64 (G j))) (hG : ∀ j, j < n → 0 ≤ G j ∧ G j < lw.length) (hs0 : ¬ s = 0) (hl : Kd.C (Kd.int .i64) W A lw.length lw) (i j : Nat) (hi : i < n) (hj : j < n) (_hn : n < 4611686018427387904) :
  Calls Try.prog 85 #[.int .i64 i, .int .i64 j, .pointer (some ⟨gt, 0, none⟩), .pointer (some ⟨gw, 0, none⟩), .pointer (some ⟨go, 0, none⟩), .pointer (some ⟨gs, 0, none⟩)] W fun e w' => e = .returned (.bool (decide (shKey t lw s (G j) < shKey t lw s (G i)))) ∧ ∃ q, w' = W.drewN q := by
 have ci := hc i hi
 have cj := hc j hj
 obtain ⟨pi, qi⟩ := hG i hi
 obtain ⟨pj, qj⟩ := hG j hj
 obtain ⟨ad, e, xi⟩ := Kd.at_int hl (G i) pi qi
 obtain ⟨ad2, e2, xj⟩ := Kd.at_int hl (G j) pj qj
 subst e
 obtain rfl : ad = ad2 := by injection e2
 have s0 : (s == 0) = false := beq_eq_false_iff_ne.mpr hs0
 have s1 : (s != 0) = true := bne_iff_ne.mpr hs0
 replace pi := eq_true pi
 replace qi := eq_true qi
 replace pj := eq_true pj
 replace qj := eq_true qj
 clear hG hl e2 hc
 unfold shKey
 go_enter Try.func85, Try.ntmps85
 go_wp2
 go_quiet (fail)
 go_wp2
 go_ret
 exact ⟨by first | rfl | (simp; done), nq, rfl⟩
theorem putCells_fin (n off : Nat) (d : Array (Fin (n + 1))) (c : Array Value) : Go.Sort.putCells (fun a : Fin (n + 1) => Value.int .i64 ((a.val : Nat) : Int)) off d c = Go.Sort.putCells (Value.int .i64) off (d.map fun a => ((a.val : Nat) : Int)) c := by
 unfold Go.Sort.putCells
 apply Array.ext_getElem?
 intro k
 simp only [Array.getElem?_mapIdx, Array.size_map]
 cases c[k]? with
 | none => rfl
 | some y =>
  simp only [Option.map_some]
  by_cases hr : off ≤ k ∧ k < off + d.size
  ·rw [if_pos hr, if_pos hr, getElem!_pos d (k - off) (by omega), getElem!_pos (d.map _) (k - off) (by simp; omega), Array.getElem_map]
  ·rw [if_neg hr, if_neg hr]
theorem putRow_fin (n : Nat) (w : World) (g off : Nat) (d : Array (Fin (n + 1))) : Go.Sort.putRow (fun a : Fin (n + 1) => Value.int .i64 ((a.val : Nat) : Int)) w g off d = Go.Sort.putRow (Value.int .i64) w g off (d.map fun a => ((a.val : Nat) : Int)) := by
 unfold Go.Sort.putRow
 exact Go.Sort.mapBlock_congr _ _ _ _ fun c _ _ _ => putCells_fin n off d c
theorem shFin_size (n : Nat) (xs : List Int) : (shFin n xs).size = xs.length := by simp [shFin]
theorem shFin_at {n : Nat} {xs : List Int} (j : Nat) (hj : j < xs.length) (h0 : 0 ≤ xs.getD j 0) (h1 : xs.getD j 0 < n + 1) : (((shFin n xs)[j]!.val : Nat) : Int) = xs.getD j 0 := by
 have e : xs.getD j 0 = xs[j] := by simp [List.getD, List.getElem?_eq_getElem hj]
 rw [getElem!_pos _ j (by rw [shFin_size]; exact hj)]
 simp only [shFin, List.getElem_toArray, List.getElem_map]
 rw [e] at h0 h1 ⊢
 show (((xs[j].toNat % (n + 1)) : Nat) : Int) = xs[j]
 rw [Nat.mod_eq_of_lt (by omega)]
 omega
theorem shOk_iff {lw : List Int} {s : Int} {xs : List Int} (h : shOk lw s xs = true) : 1 ≤ xs.length ∧ xs.length ≤ 20 ∧ ¬ s = 0 ∧ ∀ j, j < xs.length → 0 ≤ xs.getD j 0 ∧ xs.getD j 0 < lw.length := by
 simp only [shOk, Bool.and_eq_true, decide_eq_true_eq, List.all_eq_true] at h
 obtain ⟨h1, h2, h3, h4⟩ := h
 refine ⟨h1, h2, h3, fun j hj => ?_⟩
 have e : xs.getD j 0 = xs[j] := by simp [List.getD, List.getElem?_eq_getElem hj]
 rw [e]
 exact h4 _ (List.getElem_mem hj)
theorem insInner_size {α : Type} [Inhabited α] (lt : α → α → Bool) (a : Nat) : ∀ (j : Nat) (d : Array α), (Go.Sort.insInner lt a j d).size = d.size
 | 0, d => by unfold Go.Sort.insInner; rfl
 | j + 1, d => by
  unfold Go.Sort.insInner
  split
  ·rw [insInner_size lt a j, Go.Sort.swp_size]
  ·rfl
theorem insOuter_size {α : Type} [Inhabited α] (lt : α → α → Bool) (a b : Nat) : ∀ (n i : Nat) (d : Array α), b - i = n → (Go.Sort.insOuter lt a b i d).size = d.size
 | 0, i, d, h => by rw [Go.Sort.insOuter, if_neg (by omega)]
 | n + 1, i, d, h => by rw [Go.Sort.insOuter, if_pos (by omega), insOuter_size lt a b n (i + 1) _ (by omega), insInner_size]
theorem shSort_length (t : Int) (lw : List Int) (s : Int) (xs : List Int) : (shSort t lw s xs).length = xs.length := by
 have h := insOuter_size (shLt t lw s (lw.length - 1)) 0 xs.length _ (0 + 1) (shFin (lw.length - 1) xs) rfl
 simp only [shSort, List.length_map, Array.length_toList, Go.Sort.insertionSort, h, shFin_size]
noncomputable def shT : TypeInfo := (Try.prog.info? 95).get (by kernel_rfl)
noncomputable def shE : TypeInfo := (Try.prog.info? 3).get (by kernel_rfl)
theorem shK (n : Nat) (h2 : 2 ≤ n) : Lib.swapperK n shE 2 = 5 := by
 have a : shE.hasPointers = false := by kernel_rfl
 have b : shE.bytes = 8 := by kernel_rfl
 have c : (n == 0) = false := by simp; omega
 have d : (n == 1) = false := by simp; omega
 simp [Lib.swapperK, a, b, c, d]
theorem shK1 : Lib.swapperK 1 shE 2 = 2 := by simp [Lib.swapperK]
set_option maxHeartbeats 4000000 in
set_option maxRecDepth 100000 in
/-- sort.SliceStable at a row of the call's own. -/
theorem sort_SliceStable.calls (t s : Int) (A : Option Addr) (cw : Nat) (lw xs : List Int) (gt gw go gs : Nat) (w0 W : World) (v : Value) (ok : Nat → Prop)
  (ht : W.cell? ⟨gt, 0, none⟩ = some (.int .i64 t)) (hw : W.cell? ⟨gw, 0, none⟩ = some (.slice A lw.length cw)) (ho : W.cell? ⟨go, 0, none⟩ = some v) (hs : W.cell? ⟨gs, 0, none⟩ = some (.int .i64 s))
  (nt : some gt ≠ v.ownBlock) (nw : some gw ≠ v.ownBlock) (no : some go ≠ v.ownBlock) (ns : some gs ≠ v.ownBlock)
  (hl : Kd.C (Kd.int .i64) w0 A lw.length lw) (HB : Below w0.heap.size w0 W) (HR : Kd.R (Kd.int .i64) 3 W w0.heap.size ok v xs) (hok : shOk lw s xs = true) :
  Calls Try.prog 84 #[.iface 95 v, .func (.func 85) #[] #[.pointer (some ⟨gt, 0, none⟩), .pointer (some ⟨gw, 0, none⟩), .pointer (some ⟨go, 0, none⟩), .pointer (some ⟨gs, 0, none⟩)]] W fun e w' =>
   e = .returned (.tuple #[]) ∧ (Kd.R (Kd.int .i64) 3 w' w0.heap.size ok v (shSort t lw s xs) ∧ W.grownBy w' v.ownBlock ∧ Below w0.heap.size w0 w') := by
 obtain ⟨k1, k20, ks0, kx⟩ := shOk_iff hok
 have hown := Kd.own_of_R HR
 have hok0 := HR.1
 rcases hown.2 with ⟨_, h0⟩ | ⟨g, cap, cur, rfl, hbase, hb, hn, hcap, hcs, htk⟩
 ·omega
 simp only [Value.ownBlock] at nt nw no ns
 have hgs : g < W.heap.size := (Array.getElem?_eq_some_iff.1 hb).1
 have lpos : 1 ≤ lw.length := by have := kx 0 (by omega); omega
 rw [Nat.mul_one] at htk hcs
 have hHi : Go.Sort.Holds (Value.int .i64) W g 0 xs.toArray := holds_of_blockI hb htk
 have hH : Go.Sort.Holds (fun a : Fin (lw.length - 1 + 1) => Value.int .i64 ((a.val : Nat) : Int)) W g 0 (shFin (lw.length - 1) xs) := by
  intro j hj
  rw [shFin_size] at hj
  obtain ⟨p, q⟩ := hHi j (by simpa using hj)
  refine ⟨?_, q⟩
  rw [p]
  have := kx j hj
  show some (Value.int .i64 _) = some (Value.int .i64 _)
  rw [shFin_at j hj this.1 (by omega)]
  rw [getElem!_pos xs.toArray j (by simpa using hj)]
  simp [List.getD, List.getElem?_eq_getElem hj]
 have fin : ∀ n os, Kd.R (Kd.int .i64) 3 (Go.Sort.grow (Go.Sort.putRow (Value.int .i64) (Go.Sort.ahead W n) g 0 (shSort t lw s xs).toArray) os) w0.heap.size ok (.slice (some ⟨g, 0, none⟩) xs.length cap) (shSort t lw s xs) ∧ W.grownBy (Go.Sort.grow (Go.Sort.putRow (Value.int .i64) (Go.Sort.ahead W n) g 0 (shSort t lw s xs).toArray) os) (some g) ∧ Below w0.heap.size w0 (Go.Sort.grow (Go.Sort.putRow (Value.int .i64) (Go.Sort.ahead W n) g 0 (shSort t lw s xs).toArray) os) := by
  intro n os
  have hgw : W.grownBy (Go.Sort.grow (Go.Sort.putRow (Value.int .i64) (Go.Sort.ahead W n) g 0 (shSort t lw s xs).toArray) os) (some g) := grownBy_sortedI _
  refine ⟨?_, hgw, HB.grown hgw HB.size (fun k hk => by injection hk with hk; omega)⟩
  have h := ownsRow_sortedI (n := n) (os := os) (ss := xs) (ts := shSort t lw s xs) (shSort_length t lw s xs) hbase hb hn hcap (by rw [hcs, Nat.mul_one])
  refine Kd.R_of_own ?_ hok0
  rw [shSort_length]
  exact h
 have hlr : ∀ m os dk, Go.Proofs.sortWorld (fun a : Fin (lw.length - 1 + 1) => Value.int .i64 ((a.val : Nat) : Int)) W g 0 m dk os = Go.Sort.grow (Go.Sort.putRow (Value.int .i64) (Go.Sort.ahead W m) g 0 (dk.map fun a => ((a.val : Nat) : Int))) os := by
  intro m os dk
  unfold Go.Proofs.sortWorld
  rw [putRow_fin]
 have hless : Go.Proofs.LessReads Try.prog 85 #[.pointer (some ⟨gt, 0, none⟩), .pointer (some ⟨gw, 0, none⟩), .pointer (some ⟨go, 0, none⟩), .pointer (some ⟨gs, 0, none⟩)] (fun a : Fin (lw.length - 1 + 1) => Value.int .i64 ((a.val : Nat) : Int)) (shLt t lw s (lw.length - 1)) g 0 xs.length W := by
  intro m os dk hsz i j hi hj
  have hgr : W.grownBy (Go.Proofs.sortWorld (fun a : Fin (lw.length - 1 + 1) => Value.int .i64 ((a.val : Nat) : Int)) W g 0 m dk os) (some g) := by rw [hlr]; exact grownBy_sortedI _
  have hB2 : Below w0.heap.size w0 (Go.Proofs.sortWorld (fun a : Fin (lw.length - 1 + 1) => Value.int .i64 ((a.val : Nat) : Int)) W g 0 m dk os) := HB.grown hgr HB.size (fun k hk => by injection hk with hk; omega)
  have hcel : ∀ j, j < xs.length → (Go.Proofs.sortWorld (fun a : Fin (lw.length - 1 + 1) => Value.int .i64 ((a.val : Nat) : Int)) W g 0 m dk os).cell? ⟨g, j, none⟩ = some (.int .i64 ((fun j => ((dk[j]!.val : Nat) : Int)) j)) := by
   intro j hj
   unfold Go.Proofs.sortWorld
   rw [Go.Sort.cell?_grow _ _ _ (by show g < _; simpa using hgs)]
   have h := Go.Sort.cell?_putRow (fun a : Fin (lw.length - 1 + 1) => Value.int .i64 ((a.val : Nat) : Int)) (Go.Sort.ahead W m) g 0 (shFin (lw.length - 1) xs) dk (Go.Sort.holds_ahead _ _ _ _ _ _ hH) (by rw [hsz, shFin_size]) j (by omega)
   rwa [Nat.zero_add] at h
  have key := less_shareOut t s A cw lw gt gw go gs g xs.length cap _ (fun j => ((dk[j]!.val : Nat) : Int)) (hgr.cell ht nt) (hgr.cell hw nw) (hgr.cell ho no) (hgr.cell hs ns) hcel
   (fun j hj => ⟨by omega, by show (((dk[j]!).val : Nat) : Int) < _; have := (dk[j]!).isLt; omega⟩) ks0 (Kd.C_below hl hB2) i j hi hj (by omega)
  exact key
 have eg := enters_of Try.func85 (by kernel_rfl) rfl
 rcases Nat.lt_or_ge 1 xs.length with h2 | h2
 ·have hS := Any.sort_SliceStable_small Try.sl8 95 3 shT shE (by kernel_rfl) (by kernel_rfl) (by kernel_rfl) (by kernel_rfl) 2 (fun _ => by kernel_rfl) (by kernel_rfl) (fun _ => by kernel_rfl) (fun a : Fin (lw.length - 1 + 1) => Value.int .i64 ((a.val : Nat) : Int)) (fun _ => rfl) (shLt t lw s (lw.length - 1)) 85 _
   eg g 0 cap (shFin (lw.length - 1) xs) (by rw [shFin_size]; omega) (by rw [shFin_size]; omega) 94 (by rw [shK _ (by rw [shFin_size]; omega)]; kernel_rfl) true
   (fun args W => run_callFunc_extern Try.func94 (by kernel_rfl) (by kernel_rfl) (by kernel_rfl) (e := Extern.ReflectliteSwapper.swap true) (by kernel_rfl) args W) W (by rw [shFin_size]; exact hless) hH hgs
  rw [shFin_size] at hS
  refine hS.mono (fun e w' h => ?_)
  obtain ⟨he, n, os, rfl⟩ := h
  refine ⟨he, ?_⟩
  have e3 : (Go.Sort.insertionSort (shLt t lw s (lw.length - 1)) (shFin (lw.length - 1) xs) 0 xs.length).map (fun a => ((a.val : Nat) : Int)) = (shSort t lw s xs).toArray := by
   unfold shSort
   exact Array.toList_inj.1 (by simp)
  rw [putRow_fin, e3]
  exact fin n os
 ·have h1 : xs.length = 1 := by omega
  rw [h1]
  have hS := Any.sort_SliceStable_tiny Try.sl8 95 3 shT shE (by kernel_rfl) (by kernel_rfl) (by kernel_rfl) (by kernel_rfl) 2 (fun _ => by kernel_rfl) (some ⟨g, 0, none⟩) 1 cap (by omega) 91 (by rw [shK1]; kernel_rfl) (.func 85) #[] #[.pointer (some ⟨gt, 0, none⟩), .pointer (some ⟨gw, 0, none⟩), .pointer (some ⟨go, 0, none⟩), .pointer (some ⟨gs, 0, none⟩)] W
  refine hS.mono (fun e w' h => ?_)
  obtain ⟨he, os, rfl⟩ := h
  refine ⟨he, ?_⟩
  have e1 : (shSort t lw s xs).toArray = (shFin (lw.length - 1) xs).map fun a => ((a.val : Nat) : Int) := by
   unfold shSort Go.Sort.insertionSort
   rw [h1, Go.Sort.insOuter, if_neg (by omega)]
   exact Array.toList_inj.1 (by simp)
  have e2 := fin 0 os
  rw [e1, ← putRow_fin, Go.Sort.ahead_zero, Go.Sort.putRow_self _ _ _ _ _ hH, h1] at e2
  exact e2

end Go.Proofs.Ytppfdndnojbmjaa.X

/-! ## XImplShareOut -/
namespace Go.Proofs.Ytppfdndnojbmjaa.X
open Go.RowKit Go.Proofs.Ytppfdndnojbmjaa.XV Go.Proofs.YtppfdndnojbmjaaW.PrintWords Go.Proofs.YtppfdndnojbmjaaW.PrintLast Go.Proofs.YtppfdndnojbmjaaW.PrintMore
attribute [local go_sem] max2_int min2_int max_two min_two max_three min_three max_four min_four

/-! ### impl_shareOut: function 81 -/
mutual
def impl_shareOut.l0 : Nat → List Int → List Int → Int → Int → Int → List Int → Int → List Int → Option (List Int)
 | 0, _, _, _, _, _, _, _, _ => none
 | k + 1, x6, x16, x17, x18, x174000, x175000, x177000, x184000 => if x18 < x17 then (if 0 ≤ x18 then (if x18 < (x16.length : Int) then (if x177000 = 0 then (none) else ((some (([wrap64 (Int.tdiv (wrap64 (x174000 * (rd x16 x18))) x177000)] : List Int) : List Int)).bind fun y185 => (if x6.length + y185.length < 17592186044416 then ((some (([x18] : List Int) : List Int)).bind fun y191 => (if x184000.length + y191.length < 17592186044416 then (impl_shareOut.l0 k (x6 ++ y185) x16 x17 (wrap64 (x18 + 1)) x174000 x175000 x177000 (x184000 ++ y191)) else (none))) else (none)))) else (none)) else (none)) else (if shOk x175000 x177000 x184000 = true then ((impl_sum.f k x6).bind fun t198 => (if 0 ≤ (wrap64 (x174000 - t198)) then (if (wrap64 (x174000 - t198)) ≤ (x184000.length : Int) then ((some ((shSort x174000 x175000 x177000 x184000).take ((wrap64 (x174000 - t198)) : Int).toNat : List Int)).bind fun y199 => (impl_shareOut.l1 k x6 y199 (y199.length : Int) 0)) else (none)) else (none))) else (none))
def impl_shareOut.l1 : Nat → List Int → List Int → Int → Int → Option (List Int)
 | 0, _, _, _, _ => none
 | k + 1, x6, x45, x46, x47 => if x47 < x46 then (if 0 ≤ x47 then (if x47 < (x45.length : Int) then (if 0 ≤ (rd x45 x47) then (if (rd x45 x47) < (x6.length : Int) then (impl_shareOut.l1 k (x6.set ((rd x45 x47) : Int).toNat (wrap64 ((rd x6 (rd x45 x47)) + 1))) x45 x46 (wrap64 (x47 + 1))) else (none)) else (none)) else (none)) else (none)) else (some x6)
end
def impl_shareOut.f (k : Nat) (a0 : Int) (l1 : List Int) : Option (List Int) := (impl_sum.f k l1).bind fun t175 => (impl_shareOut.l0 k (([] : List Int)) l1 (l1.length : Int) 0 a0 l1 t175 (([] : List Int)))
theorem impl_shareOut.mono_l : ∀ k, (∀ y0 y1 y2 y3 y4 y5 y6 y7, LeO (impl_shareOut.l0 k y0 y1 y2 y3 y4 y5 y6 y7) (impl_shareOut.l0 (k + 1) y0 y1 y2 y3 y4 y5 y6 y7)) ∧ (∀ y0 y1 y2 y3, LeO (impl_shareOut.l1 k y0 y1 y2 y3) (impl_shareOut.l1 (k + 1) y0 y1 y2 y3))
 | 0 => ⟨fun _ _ _ _ _ _ _ _ r h => by simp [impl_shareOut.l0] at h, fun _ _ _ _ r h => by simp [impl_shareOut.l1] at h⟩
 | k + 1 => by
  obtain ⟨ih0, ih1⟩ := impl_shareOut.mono_l k
  refine ⟨?_, ?_⟩
  ·intro y0 y1 y2 y3 y4 y5 y6 y7
   unfold impl_shareOut.l0
   repeat' first
   | (with_reducible exact ih0 _ _ _ _ _ _ _ _)
   | (with_reducible exact ih1 _ _ _ _)
   | (with_reducible exact impl_sum.mono _ _)
   | (with_reducible exact LeO.refl _)
   | (with_reducible exact LeO.none _)
   | (with_reducible refine LeO.ite ?_ ?_)
   | (with_reducible refine LeO.bind ?_ (fun _ => ?_))
   | exact ih0 _ _ _ _ _ _ _ _
   | exact ih1 _ _ _ _
   | exact impl_sum.mono _ _
   | exact LeO.none _
   | refine LeO.ite ?_ ?_
   | refine LeO.bind ?_ (fun _ => ?_)
  ·intro y0 y1 y2 y3
   unfold impl_shareOut.l1
   repeat' first
   | (with_reducible exact ih0 _ _ _ _ _ _ _ _)
   | (with_reducible exact ih1 _ _ _ _)
   | (with_reducible exact impl_sum.mono _ _)
   | (with_reducible exact LeO.refl _)
   | (with_reducible exact LeO.none _)
   | (with_reducible refine LeO.ite ?_ ?_)
   | (with_reducible refine LeO.bind ?_ (fun _ => ?_))
   | exact ih0 _ _ _ _ _ _ _ _
   | exact ih1 _ _ _ _
   | exact impl_sum.mono _ _
   | exact LeO.none _
   | refine LeO.ite ?_ ?_
   | refine LeO.bind ?_ (fun _ => ?_)
theorem impl_shareOut.mono : ∀ a0 a1 k, LeO (impl_shareOut.f k a0 a1) (impl_shareOut.f (k + 1) a0 a1) := by
 intro a0 a1 k
 obtain ⟨ih0, ih1⟩ := impl_shareOut.mono_l k
 unfold impl_shareOut.f
 repeat' first
   | (with_reducible exact ih0 _ _ _ _ _ _ _ _)
   | (with_reducible exact ih1 _ _ _ _)
   | (with_reducible exact impl_sum.mono _ _)
   | (with_reducible exact LeO.refl _)
   | (with_reducible exact LeO.none _)
   | (with_reducible refine LeO.ite ?_ ?_)
   | (with_reducible refine LeO.bind ?_ (fun _ => ?_))
   | exact ih0 _ _ _ _ _ _ _ _
   | exact ih1 _ _ _ _
   | exact impl_sum.mono _ _
   | exact LeO.none _
   | refine LeO.ite ?_ ?_
   | refine LeO.bind ?_ (fun _ => ?_)
def impl_shareOut.T6 : Bool × List (List Nat × List Nat) := (true, [([], []), ([], []), ([], []), ([1, 2], [1, 2]), ([], []), ([3, 4], [3, 4]), ([5], [5]), ([0, 6], [0, 6]), ([], []), ([], []), ([9], [9]), ([8, 10, 7], [8, 10]), ([7, 11, 0, 1, 2, 3, 4, 5, 6, 7], [0, 7]), ([11, 12, 0, 1, 2, 3, 4, 5, 6, 7, 8, 9, 10, 11, 12], [11])])
def impl_shareOut.B6 : List Nat := [0, 0, 0, 6, 0, 30, 62, 127, 0, 0, 512, 2047, 4095, 8191]
theorem impl_shareOut.tab6 : rtab .any (opsOf Try.f81 6) = impl_shareOut.T6 := by kernel_rfl
theorem impl_shareOut.bits6 : waitsOk impl_shareOut.T6.2 impl_shareOut.B6 = true := by kernel_rfl
def impl_shareOut.T9 : Bool × List (List Nat × List Nat) := (true, [([], []), ([], []), ([], []), ([2], [2]), ([1, 3], [1, 3]), ([0, 4], [0, 4]), ([5], [5]), ([], [])])
def impl_shareOut.B9 : List Nat := [0, 0, 0, 4, 14, 31, 63, 0]
theorem impl_shareOut.tab9 : rtab .any (opsOf Try.f81 9) = impl_shareOut.T9 := by kernel_rfl
theorem impl_shareOut.bits9 : waitsOk impl_shareOut.T9.2 impl_shareOut.B9 = true := by kernel_rfl
set_option maxHeartbeats 8000000 in
set_option maxRecDepth 100000 in
theorem impl_shareOut.calls (k : Nat) (a0 : Int) (A1 : Option Addr) (c1 : Nat) (l1 : List Int) (r : List Int) (w : World) (hr1 : Kd.C (Kd.int .i64) w A1 l1.length l1) (hc1 : l1.length ≤ c1) (h : impl_shareOut.f k a0 l1 = some r) :
  Calls Try.prog 81 #[.int .i64 a0, .slice A1 l1.length c1] w fun e w' => ∃ v0_ : Value, e = .returned (v0_) ∧ Kd.R (Kd.int .i64) 2 w' w.heap.size (fun _ => True) v0_ r ∧ Below w.heap.size w w' := by
 have HR1 := Aside0.mk hr1
 have HC1 := Aside0.mk hc1
 clear hr1 hc1
 have HB := Aside0.mk (Below.refl w.heap.size w)
 have H : ((impl_sum.f k l1).bind fun t175 => (impl_shareOut.l0 k (([] : List Int)) l1 (l1.length : Int) 0 a0 l1 t175 (([] : List Int)))) = some r := h
 clear h
 replace H := Option.bind_eq_some_iff.mp H
 obtain ⟨t175, A30, H⟩ := H
 replace H : (impl_shareOut.l0 k (([] : List Int)) l1 (l1.length : Int) 0 a0 l1 t175 (([] : List Int))) = some r := H
 have A3 := Aside0.mk A30
 clear A30
 obtain ⟨y177, hy177⟩ : ∃ y_ : List Int, y_ = (([] : List Int)) := ⟨_, rfl⟩
 replace H : (impl_shareOut.l0 k y177 l1 (l1.length : Int) 0 a0 l1 t175 (([] : List Int))) = some r := by first | (rw [hy177]; with_reducible exact H) | (have H2_ := (Option.bind_some _ _).symm.trans H; rw [hy177]; with_reducible exact H2_) | (have H2_ := (Option.bind_some _ _).symm.trans H; with_reducible exact H2_) | with_reducible exact H | (rw [hy177]; exact H) | exact H
 have Ny177 := Aside0.mk hy177
 clear hy177
 obtain ⟨y180, hy180⟩ : ∃ y_ : List Int, y_ = (([] : List Int)) := ⟨_, rfl⟩
 replace H : (impl_shareOut.l0 k y177 l1 (l1.length : Int) 0 a0 l1 t175 y180) = some r := by first | (rw [hy180]; with_reducible exact H) | (have H2_ := (Option.bind_some _ _).symm.trans H; rw [hy180]; with_reducible exact H2_) | (have H2_ := (Option.bind_some _ _).symm.trans H; with_reducible exact H2_) | with_reducible exact H | (rw [hy180]; exact H) | exact H
 have Ny180 := Aside0.mk hy180
 clear hy180
 have H' := Aside0.mk H
 clear H
 go_enter Try.func81, Try.ntmps81
 go_wp2_with (first | ((with_reducible refine gate_dst (N := 2) rfl ?_); refine box_event ?hg (N := 2) ?hd (cs := #[.int .i64 a0]) (t := 2) ?hr ?_; (case hd => rfl); (case hg => rfl); (case hr => first | (go_simp; done) | (go_simp; rfl)); intro gb173 hg w4 hbox hb; have n0_ := Aside0.mk (below_step (by repeat (first | (with_reducible first | exact HB.out | apply below_alloc | apply pw_below_drewN | apply below_drew1) | exact HB.out)) hb); have n1_ := Aside0.mk (hbox); have n2_ := Aside0.mk ((by rw [hg]; exact (below_size (by repeat (first | (with_reducible first | exact HB.out | apply below_alloc | apply pw_below_drewN | apply below_drew1) | exact HB.out))) : w.heap.size ≤ gb173)); have n3_ := Aside0.mk ((by rw [hg]; exact (below_size (by repeat (first | (with_reducible first | exact HB.out | apply below_alloc | apply pw_below_drewN | apply below_drew1) | exact HB.out))) : w.heap.size ≤ gb173)); clear HB; have HB := n0_; have BK173 := n1_; have GW173 := n2_; have GE173 := n3_; clear n0_ n1_ n2_ n3_; clear hb hbox hg) | ((with_reducible refine gate_dst (N := 3) rfl ?_); refine box_event ?hg (N := 3) ?hd (cs := #[.slice A1 l1.length c1]) (t := 30) ?hr ?_; (case hd => rfl); (case hg => rfl); (case hr => first | (go_simp; done) | (go_simp; rfl)); intro gb174 hg w5 hbox hb; have n0_ := Aside0.mk (blk_below (g := gb173) (o := .cells #[.int .i64 a0] 2 (0, 0)) (by (with_reducible repeat (first | refine blk_drewN ?_ _ | refine blk_drew ?_ | refine blk_alloc ?_ _)); exact BK173.out) hb); have n1_ := Aside0.mk (below_step (by repeat (first | (with_reducible first | exact HB.out | apply below_alloc | apply pw_below_drewN | apply below_drew1 | refine below_set ?_ GE173.out) | exact HB.out)) hb); have n2_ := Aside0.mk (hbox); have n3_ := Aside0.mk ((by rw [hg]; exact (below_size (by repeat (first | (with_reducible first | exact HB.out | apply below_alloc | apply pw_below_drewN | apply below_drew1 | refine below_set ?_ GE173.out) | exact HB.out))) : w.heap.size ≤ gb174)); have n4_ := Aside0.mk ((by rw [hg]; exact (below_size (by repeat (first | (with_reducible first | exact HB.out | apply below_alloc | apply pw_below_drewN | apply below_drew1 | refine below_set ?_ GE173.out) | exact HB.out))) : w.heap.size ≤ gb174)); have n5_ := Aside0.mk ((by rw [hg]; exact Nat.ne_of_lt (blk_lt (g := gb173) (o := .cells #[.int .i64 a0] 2 (0, 0)) (by (with_reducible repeat (first | refine blk_drewN ?_ _ | refine blk_drew ?_ | refine blk_alloc ?_ _)); exact BK173.out)) : gb173 ≠ gb174)); have n6_ := Aside0.mk ((by rw [hg]; exact Nat.ne_of_gt (blk_lt (g := gb173) (o := .cells #[.int .i64 a0] 2 (0, 0)) (by (with_reducible repeat (first | refine blk_drewN ?_ _ | refine blk_drew ?_ | refine blk_alloc ?_ _)); exact BK173.out)) : gb174 ≠ gb173)); clear BK173; clear HB; have BK173 := n0_; have HB := n1_; have BK174 := n2_; have GW174 := n3_; have GE174 := n4_; have NB173_174 := n5_; have NB174_173 := n6_; clear n0_ n1_ n2_ n3_ n4_ n5_ n6_; clear hb hbox hg; have hnb6 := NB174_173.out; have hnc6 := NB173_174.out; have hcz7_0 : w5.cell? ⟨gb174, 0, none⟩ = some (.slice A1 l1.length c1) := (blk_cell BK174.out 0).trans rfl; have hfz7_0 := blk_frozen BK174.out 0) | ((with_reducible refine gate_callee (f := 49) rfl ?_); refine goesL_ (some 13) rfl rfl Try.func49 (by kernel_rfl) rfl #[.slice A1 l1.length c1] rfl (by (try simp only [List.map_toArray, List.map_cons, List.map_nil]); first | done | rfl | (simp only [List.length_drop, List.length_take]; rfl)) ?_; (with_reducible refine (impl_sum.calls k _ _ l1 t175 _ ?side1 ?side2 A3.out).mono ?_); (case side1 => repeat (first | exact (Kd.C_below HR1.out HB.out) | (with_reducible refine Kd.C_alloc ?_ _) | (with_reducible refine Kd.C_drewN ?_ _) | (with_reducible refine Kd.C_drew ?_))); (case side2 => exact HC1.out); rintro e w' ⟨rfl, ⟨nd, rfl⟩⟩; refine ⟨_, rfl, ?_⟩; (try (rw [drewN_self w5]; generalize hq_ : World.drewN w5 _ = w5; have n0_ : Aside0 (w5.heap[gb173]? = some (.cells #[.int .i64 a0] 2 (0, 0))) := ⟨by rw [← hq_]; exact (by (with_reducible repeat (first | refine blk_drewN ?_ _ | refine blk_drew ?_ | refine blk_alloc ?_ _)); exact BK173.out)⟩; have n1_ : Aside0 (w5.heap[gb174]? = some (.cells #[.slice A1 l1.length c1] 30 (0, 0))) := ⟨by rw [← hq_]; exact (by (with_reducible repeat (first | refine blk_drewN ?_ _ | refine blk_drew ?_ | refine blk_alloc ?_ _)); exact BK174.out)⟩; have n2_ : Aside0 (Below w.heap.size w w5) := ⟨by rw [← hq_]; exact (by repeat (first | (with_reducible first | exact HB.out | apply below_alloc | apply pw_below_drewN | apply below_drew1 | refine below_set ?_ GE173.out | refine below_set ?_ GE174.out) | exact HB.out))⟩; clear BK173 BK174 HB hq_; have BK173 := n0_; have BK174 := n1_; have HB := n2_; clear n0_ n1_ n2_))) | ((with_reducible refine gate_dst (N := 5) rfl ?_); refine box_event ?hg (N := 5) ?hd (cs := #[.int .i64 0]) (t := 2) ?hr ?_; (case hd => rfl); (case hg => rfl); (case hr => first | (go_simp; done) | (go_simp; rfl)); intro gb176 hg w8 hbox hb; have n0_ := Aside0.mk (blk_below (g := gb173) (o := .cells #[.int .i64 a0] 2 (0, 0)) (by (with_reducible repeat (first | refine blk_drewN ?_ _ | refine blk_drew ?_ | refine blk_alloc ?_ _)); exact BK173.out) hb); have n1_ := Aside0.mk (blk_below (g := gb174) (o := .cells #[.slice A1 l1.length c1] 30 (0, 0)) (by (with_reducible repeat (first | refine blk_drewN ?_ _ | refine blk_drew ?_ | refine blk_alloc ?_ _)); exact BK174.out) hb); have n2_ := Aside0.mk (below_step (by repeat (first | (with_reducible first | exact HB.out | apply below_alloc | apply pw_below_drewN | apply below_drew1 | refine below_set ?_ GE173.out | refine below_set ?_ GE174.out) | exact HB.out)) hb); have n3_ := Aside0.mk (hbox); have n4_ := Aside0.mk ((by rw [hg]; exact (below_size (by repeat (first | (with_reducible first | exact HB.out | apply below_alloc | apply pw_below_drewN | apply below_drew1 | refine below_set ?_ GE173.out | refine below_set ?_ GE174.out) | exact HB.out))) : w.heap.size ≤ gb176)); have n5_ := Aside0.mk ((by rw [hg]; exact (below_size (by repeat (first | (with_reducible first | exact HB.out | apply below_alloc | apply pw_below_drewN | apply below_drew1 | refine below_set ?_ GE173.out | refine below_set ?_ GE174.out) | exact HB.out))) : w.heap.size ≤ gb176)); have n6_ := Aside0.mk ((by rw [hg]; exact Nat.ne_of_lt (blk_lt (g := gb173) (o := .cells #[.int .i64 a0] 2 (0, 0)) (by (with_reducible repeat (first | refine blk_drewN ?_ _ | refine blk_drew ?_ | refine blk_alloc ?_ _)); exact BK173.out)) : gb173 ≠ gb176)); have n7_ := Aside0.mk ((by rw [hg]; exact Nat.ne_of_gt (blk_lt (g := gb173) (o := .cells #[.int .i64 a0] 2 (0, 0)) (by (with_reducible repeat (first | refine blk_drewN ?_ _ | refine blk_drew ?_ | refine blk_alloc ?_ _)); exact BK173.out)) : gb176 ≠ gb173)); have n8_ := Aside0.mk ((by rw [hg]; exact Nat.ne_of_lt (blk_lt (g := gb174) (o := .cells #[.slice A1 l1.length c1] 30 (0, 0)) (by (with_reducible repeat (first | refine blk_drewN ?_ _ | refine blk_drew ?_ | refine blk_alloc ?_ _)); exact BK174.out)) : gb174 ≠ gb176)); have n9_ := Aside0.mk ((by rw [hg]; exact Nat.ne_of_gt (blk_lt (g := gb174) (o := .cells #[.slice A1 l1.length c1] 30 (0, 0)) (by (with_reducible repeat (first | refine blk_drewN ?_ _ | refine blk_drew ?_ | refine blk_alloc ?_ _)); exact BK174.out)) : gb176 ≠ gb174)); clear BK173; clear BK174; clear HB; have BK173 := n0_; have BK174 := n1_; have HB := n2_; have BK176 := n3_; have GW176 := n4_; have GE176 := n5_; have NB173_176 := n6_; have NB176_173 := n7_; have NB174_176 := n8_; have NB176_174 := n9_; clear n0_ n1_ n2_ n3_ n4_ n5_ n6_ n7_ n8_ n9_; clear hb hbox hg; have hnb9 := NB176_173.out; have hnc9 := NB173_176.out; have hnb10 := NB176_174.out; have hnc10 := NB174_176.out; have hcz11_0 : w8.cell? ⟨gb176, 0, none⟩ = some (.int .i64 0) := (blk_cell BK176.out 0).trans rfl; have hfz11_0 := blk_frozen BK176.out 0) | ((with_reducible refine gate_dst (N := 14) rfl ?_); refine Kd.R_lit (Kd.int .i64) _ 2 ?hg (N := 14) ?hd (xs := ([] : List Int)) (inner := []) (ok := fun _ => True) (okp := fun _ => True) ?hr ?hp (fun _ hk => hk) trivial (Below.refl _ _) (Nat.le_refl _) (by simp) ?_; (case hd => rfl); (case hg => rfl); (case hr => first | (go_simp; done) | (go_simp; rfl)); (case hp => exact (Reps.none _ _)); intro v178 w12 ho13 hb hg_ hnew_; clear hg_ hnew_; (first | rw [← Ny177.out] at ho13 | (simp only [Int.reduceToNat] at ho13; rw [← Ny177.out] at ho13)); have n0_ := Aside0.mk (Kd.R_lower (Kd.R_newB (Kd.R_newB ho13 (g := gb173) (o := .cells #[.int .i64 a0] 2 (0, 0)) (by (with_reducible repeat (first | refine blk_drewN ?_ _ | refine blk_drew ?_ | refine blk_alloc ?_ _)); refine blk_far ?_ NB173_176.out _; (with_reducible repeat (first | refine blk_drewN ?_ _ | refine blk_drew ?_ | refine blk_alloc ?_ _)); exact BK173.out)) (g := gb176) (o := .cells #[.int .i64 t175] 2 (0, 0)) (by (with_reducible repeat (first | refine blk_drewN ?_ _ | refine blk_drew ?_ | refine blk_alloc ?_ _)); refine blk_put (cs := #[.int .i64 0]) ?_ 0 _ rfl; (with_reducible repeat (first | refine blk_drewN ?_ _ | refine blk_drew ?_ | refine blk_alloc ?_ _)); exact BK176.out)) (below_size (by repeat (first | (with_reducible first | exact HB.out | apply below_alloc | apply pw_below_drewN | apply below_drew1 | refine below_set ?_ GE173.out | refine below_set ?_ GE174.out | refine below_set ?_ GE176.out) | exact HB.out)))); have n1_ := Aside0.mk (blk_below (g := gb173) (o := .cells #[.int .i64 a0] 2 (0, 0)) (by (with_reducible repeat (first | refine blk_drewN ?_ _ | refine blk_drew ?_ | refine blk_alloc ?_ _)); refine blk_far ?_ NB173_176.out _; (with_reducible repeat (first | refine blk_drewN ?_ _ | refine blk_drew ?_ | refine blk_alloc ?_ _)); exact BK173.out) hb); have n2_ := Aside0.mk (blk_below (g := gb174) (o := .cells #[.slice A1 l1.length c1] 30 (0, 0)) (by (with_reducible repeat (first | refine blk_drewN ?_ _ | refine blk_drew ?_ | refine blk_alloc ?_ _)); refine blk_far ?_ NB174_176.out _; (with_reducible repeat (first | refine blk_drewN ?_ _ | refine blk_drew ?_ | refine blk_alloc ?_ _)); exact BK174.out) hb); have n3_ := Aside0.mk (blk_below (g := gb176) (o := .cells #[.int .i64 t175] 2 (0, 0)) (by (with_reducible repeat (first | refine blk_drewN ?_ _ | refine blk_drew ?_ | refine blk_alloc ?_ _)); refine blk_put (cs := #[.int .i64 0]) ?_ 0 _ rfl; (with_reducible repeat (first | refine blk_drewN ?_ _ | refine blk_drew ?_ | refine blk_alloc ?_ _)); exact BK176.out) hb); have n4_ := Aside0.mk (below_step (by repeat (first | (with_reducible first | exact HB.out | apply below_alloc | apply pw_below_drewN | apply below_drew1 | refine below_set ?_ GE173.out | refine below_set ?_ GE174.out | refine below_set ?_ GE176.out) | exact HB.out)) hb); clear BK173; clear BK174; clear BK176; clear HB; have HO179 := n0_; have BK173 := n1_; have BK174 := n2_; have BK176 := n3_; have HB := n4_; clear n0_ n1_ n2_ n3_ n4_; clear hb ho13) | ((with_reducible refine gate_dst (N := 15) rfl ?_); refine Kd.R_lit (Kd.int .i64) _ 3 ?hg (N := 15) ?hd (xs := ([] : List Int)) (inner := []) (ok := fun _ => True) (okp := fun _ => True) ?hr ?hp (fun _ hk => hk) trivial (Below.refl _ _) (Nat.le_refl _) (by simp) ?_; (case hd => rfl); (case hg => rfl); (case hr => first | (go_simp; done) | (go_simp; rfl)); (case hp => exact (Reps.none _ _)); intro v181 w14 ho15 hb hg_ hnew_; clear hg_ hnew_; (first | rw [← Ny180.out] at ho15 | (simp only [Int.reduceToNat] at ho15; rw [← Ny180.out] at ho15)); have n0_ := Aside0.mk (Kd.R_below (by (with_reducible repeat (first | apply Kd.R_alloc | apply Kd.R_drewN | apply Kd.R_drew)); exact HO179.out) hb); have n1_ := Aside0.mk (Kd.R_lower ho15 (below_size (by repeat (first | (with_reducible first | exact HB.out | apply below_alloc | apply pw_below_drewN | apply below_drew1 | refine below_set ?_ GE173.out | refine below_set ?_ GE174.out | refine below_set ?_ GE176.out) | exact HB.out)))); have n2_ := Aside0.mk (blk_below (g := gb173) (o := .cells #[.int .i64 a0] 2 (0, 0)) (by (with_reducible repeat (first | refine blk_drewN ?_ _ | refine blk_drew ?_ | refine blk_alloc ?_ _)); exact BK173.out) hb); have n3_ := Aside0.mk (blk_below (g := gb174) (o := .cells #[.slice A1 l1.length c1] 30 (0, 0)) (by (with_reducible repeat (first | refine blk_drewN ?_ _ | refine blk_drew ?_ | refine blk_alloc ?_ _)); exact BK174.out) hb); have n4_ := Aside0.mk (blk_below (g := gb176) (o := .cells #[.int .i64 t175] 2 (0, 0)) (by (with_reducible repeat (first | refine blk_drewN ?_ _ | refine blk_drew ?_ | refine blk_alloc ?_ _)); exact BK176.out) hb); have n5_ := Aside0.mk (below_step (by repeat (first | (with_reducible first | exact HB.out | apply below_alloc | apply pw_below_drewN | apply below_drew1 | refine below_set ?_ GE173.out | refine below_set ?_ GE174.out | refine below_set ?_ GE176.out) | exact HB.out)) hb); clear HO179; clear BK173; clear BK174; clear BK176; clear HB; have HO179 := n0_; have HO182 := n1_; have BK173 := n2_; have BK174 := n3_; have BK176 := n4_; have HB := n5_; clear n0_ n1_ n2_ n3_ n4_ n5_; clear hb ho15) | ((with_reducible refine gate_dst (N := 7) rfl ?_); refine box_event ?hg (N := 7) ?hd (cs := #[.slice none 0 0]) (t := 95) ?hr ?_; (case hd => rfl); (case hg => rfl); (case hr => first | (go_simp; done) | (go_simp; rfl)); intro gb183 hg w16 hbox hb; have n0_ := Aside0.mk (Kd.R_below (by (with_reducible repeat (first | apply Kd.R_alloc | apply Kd.R_drewN | apply Kd.R_drew)); exact HO179.out) hb); have n1_ := Aside0.mk (Kd.R_below (by (with_reducible repeat (first | apply Kd.R_alloc | apply Kd.R_drewN | apply Kd.R_drew)); exact HO182.out) hb); have n2_ := Aside0.mk (blk_below (g := gb173) (o := .cells #[.int .i64 a0] 2 (0, 0)) (by (with_reducible repeat (first | refine blk_drewN ?_ _ | refine blk_drew ?_ | refine blk_alloc ?_ _)); exact BK173.out) hb); have n3_ := Aside0.mk (blk_below (g := gb174) (o := .cells #[.slice A1 l1.length c1] 30 (0, 0)) (by (with_reducible repeat (first | refine blk_drewN ?_ _ | refine blk_drew ?_ | refine blk_alloc ?_ _)); exact BK174.out) hb); have n4_ := Aside0.mk (blk_below (g := gb176) (o := .cells #[.int .i64 t175] 2 (0, 0)) (by (with_reducible repeat (first | refine blk_drewN ?_ _ | refine blk_drew ?_ | refine blk_alloc ?_ _)); exact BK176.out) hb); have n5_ := Aside0.mk (below_step (by repeat (first | (with_reducible first | exact HB.out | apply below_alloc | apply pw_below_drewN | apply below_drew1 | refine below_set ?_ GE173.out | refine below_set ?_ GE174.out | refine below_set ?_ GE176.out) | exact HB.out)) hb); have n6_ := Aside0.mk (hbox); have n7_ := Aside0.mk ((by rw [hg]; exact (below_size (by repeat (first | (with_reducible first | exact HB.out | apply below_alloc | apply pw_below_drewN | apply below_drew1 | refine below_set ?_ GE173.out | refine below_set ?_ GE174.out | refine below_set ?_ GE176.out) | exact HB.out))) : w.heap.size ≤ gb183)); have n8_ := Aside0.mk ((by rw [hg]; exact (below_size (by repeat (first | (with_reducible first | exact HB.out | apply below_alloc | apply pw_below_drewN | apply below_drew1 | refine below_set ?_ GE173.out | refine below_set ?_ GE174.out | refine below_set ?_ GE176.out) | exact HB.out))) : w.heap.size ≤ gb183)); have n9_ := Aside0.mk ((by rw [hg]; exact Nat.ne_of_lt (blk_lt (g := gb173) (o := .cells #[.int .i64 a0] 2 (0, 0)) (by (with_reducible repeat (first | refine blk_drewN ?_ _ | refine blk_drew ?_ | refine blk_alloc ?_ _)); exact BK173.out)) : gb173 ≠ gb183)); have n10_ := Aside0.mk ((by rw [hg]; exact Nat.ne_of_gt (blk_lt (g := gb173) (o := .cells #[.int .i64 a0] 2 (0, 0)) (by (with_reducible repeat (first | refine blk_drewN ?_ _ | refine blk_drew ?_ | refine blk_alloc ?_ _)); exact BK173.out)) : gb183 ≠ gb173)); have n11_ := Aside0.mk ((by rw [hg]; exact Nat.ne_of_lt (blk_lt (g := gb174) (o := .cells #[.slice A1 l1.length c1] 30 (0, 0)) (by (with_reducible repeat (first | refine blk_drewN ?_ _ | refine blk_drew ?_ | refine blk_alloc ?_ _)); exact BK174.out)) : gb174 ≠ gb183)); have n12_ := Aside0.mk ((by rw [hg]; exact Nat.ne_of_gt (blk_lt (g := gb174) (o := .cells #[.slice A1 l1.length c1] 30 (0, 0)) (by (with_reducible repeat (first | refine blk_drewN ?_ _ | refine blk_drew ?_ | refine blk_alloc ?_ _)); exact BK174.out)) : gb183 ≠ gb174)); have n13_ := Aside0.mk ((by rw [hg]; exact Nat.ne_of_lt (blk_lt (g := gb176) (o := .cells #[.int .i64 t175] 2 (0, 0)) (by (with_reducible repeat (first | refine blk_drewN ?_ _ | refine blk_drew ?_ | refine blk_alloc ?_ _)); exact BK176.out)) : gb176 ≠ gb183)); have n14_ := Aside0.mk ((by rw [hg]; exact Nat.ne_of_gt (blk_lt (g := gb176) (o := .cells #[.int .i64 t175] 2 (0, 0)) (by (with_reducible repeat (first | refine blk_drewN ?_ _ | refine blk_drew ?_ | refine blk_alloc ?_ _)); exact BK176.out)) : gb183 ≠ gb176)); clear HO179; clear HO182; clear BK173; clear BK174; clear BK176; clear HB; have HO179 := n0_; have HO182 := n1_; have BK173 := n2_; have BK174 := n3_; have BK176 := n4_; have HB := n5_; have BK183 := n6_; have GW183 := n7_; have GE183 := n8_; have NB173_183 := n9_; have NB183_173 := n10_; have NB174_183 := n11_; have NB183_174 := n12_; have NB176_183 := n13_; have NB183_176 := n14_; clear n0_ n1_ n2_ n3_ n4_ n5_ n6_ n7_ n8_ n9_ n10_ n11_ n12_ n13_ n14_; clear hb hbox hg; obtain ⟨Ao17, co17, eo17⟩ := Kd.R_slice HO182.out; subst eo17; have hnb18 := NB183_173.out; have hnc18 := NB173_183.out; have hnb19 := NB183_174.out; have hnc19 := NB174_183.out; have hnb20 := NB183_176.out; have hnc20 := NB176_183.out; have hcz21_0 : w16.cell? ⟨gb183, 0, none⟩ = some (.slice none 0 0) := (blk_cell BK183.out 0).trans rfl; have hfz21_0 := blk_frozen BK183.out 0; have hcz22_0 : w16.cell? ⟨gb174, 0, none⟩ = some (.slice A1 l1.length c1) := (blk_cell BK174.out 0).trans rfl; have hfz22_0 := blk_frozen BK174.out 0))
 go_loopg [6, 18] k (fun kq v6 v18 w' => ∃ (x6_1 : List Int) (x18_1 : Int) (x184000_1 : List Int) (u184000 : Value), v18 = .int .i64 x18_1 ∧ Aside0 (impl_shareOut.l0 kq x6_1 l1 (l1.length : Int) x18_1 a0 l1 t175 x184000_1 = some r) ∧ Aside0 (kq ≤ k) ∧ Aside0 (Kd.R (Kd.int .i64) 2 w' w.heap.size (fun k_ => k_ ≠ gb173 ∧ k_ ≠ gb176) v6 x6_1) ∧ Aside0 (Kd.R (Kd.int .i64) 3 w' w.heap.size (fun _ => True) u184000 x184000_1) ∧ Aside0 (w'.heap[gb173]? = some (.cells #[.int .i64 a0] 2 (0, 0))) ∧ Aside0 (w'.heap[gb174]? = some (.cells #[(.slice A1 l1.length c1)] 30 (0, 0))) ∧ Aside0 (w'.heap[gb176]? = some (.cells #[.int .i64 t175] 2 (0, 0))) ∧ Aside0 (w'.heap[gb183]? = some (.cells #[u184000] 95 (0, 0))) ∧ Aside0 (Below w.heap.size w w'))
 case atStart => exact ⟨(y177), (0), (y180), (.slice Ao17 y180.length co17), (by first | rfl | (simp; done) | (simp [*]; done)), H', ⟨Nat.le_refl _⟩, ⟨by (with_reducible repeat (first | apply Kd.R_alloc | apply Kd.R_drewN | apply Kd.R_drew)); exact Kd.R_mono (Kd.R_far (p := ⟨gb183, 0, none⟩) (Kd.R_types HO179.out BK183.out (by decide)) (fun _ hk => hk.2) (.slice Ao17 y180.length co17)) (fun _ hk => ⟨hk.1.1.2, hk.1.2⟩)⟩, ⟨by (with_reducible repeat (first | apply Kd.R_alloc | apply Kd.R_drewN | apply Kd.R_drew)); exact Kd.R_mono (Kd.R_far (p := ⟨gb183, 0, none⟩) (Kd.R_types HO182.out BK183.out (by decide)) (fun _ hk => hk.2) (.slice Ao17 y180.length co17)) (fun _ hk => trivial)⟩, ⟨by (with_reducible repeat (first | refine blk_drewN ?_ _ | refine blk_drew ?_ | refine blk_alloc ?_ _)); refine blk_far ?_ NB173_183.out _; (with_reducible repeat (first | refine blk_drewN ?_ _ | refine blk_drew ?_ | refine blk_alloc ?_ _)); exact BK173.out⟩, ⟨by (with_reducible repeat (first | refine blk_drewN ?_ _ | refine blk_drew ?_ | refine blk_alloc ?_ _)); refine blk_far ?_ NB174_183.out _; (with_reducible repeat (first | refine blk_drewN ?_ _ | refine blk_drew ?_ | refine blk_alloc ?_ _)); exact BK174.out⟩, ⟨by (with_reducible repeat (first | refine blk_drewN ?_ _ | refine blk_drew ?_ | refine blk_alloc ?_ _)); refine blk_far ?_ NB176_183.out _; (with_reducible repeat (first | refine blk_drewN ?_ _ | refine blk_drew ?_ | refine blk_alloc ?_ _)); exact BK176.out⟩, ⟨by (with_reducible repeat (first | refine blk_drewN ?_ _ | refine blk_drew ?_ | refine blk_alloc ?_ _)); refine blk_put (cs := #[.slice none 0 0]) ?_ 0 _ rfl; (with_reducible repeat (first | refine blk_drewN ?_ _ | refine blk_drew ?_ | refine blk_alloc ?_ _)); exact BK183.out⟩, ⟨by repeat (first | (with_reducible first | exact HB.out | apply below_alloc | apply pw_below_drewN | apply below_drew1 | refine below_set ?_ GE173.out | refine below_set ?_ GE174.out | refine below_set ?_ GE176.out | refine below_set ?_ GE183.out) | exact HB.out)⟩⟩
 case round =>
  clear H'
  try clear c1
  try clear c2
  try clear p2
  try clear c4
  try clear c6
  try clear c8
  try clear c9
  try clear c10
  try clear c18
  try clear c19
  try clear c20
  try clear hcz11_0
  try clear hcz21_0
  try clear hcz22_0
  try clear hcz7_0
  try clear hfz11_0
  try clear hfz21_0
  try clear hfz22_0
  try clear hfz7_0
  obtain ⟨x6_1, x18_1, x184000_1, u184000, rfl, HA, HK1, HO_6, HO_184000, BK173, BK174, BK176, BK183, HB⟩ := hrel
  cases gk with
  | zero => exact absurd HA.out (by simp [impl_shareOut.l0])
  | succ k1 =>
   have H := HA.out
   clear HA
   simp only [impl_shareOut.l0] at H
   by_cases c23 : x18_1 < (l1.length : Int)
   ·rw [if_pos c23] at H
    have c23b0 : decide (x18_1 < (l1.length : Int)) = true := decide_eq_true c23
    clear c23
    by_cases c24 : 0 ≤ x18_1
    ·rw [if_pos c24] at H
     have c24b0 : decide (0 ≤ x18_1) = true := decide_eq_true c24
     clear c24
     by_cases c25 : x18_1 < (l1.length : Int)
     ·rw [if_pos c25] at H
      have c25b0 : decide (x18_1 < (l1.length : Int)) = true := decide_eq_true c25
      clear c25
      by_cases c26 : t175 = 0
      ·rw [if_pos c26] at H
       exact absurd H (by simp)
      ·rw [if_neg c26] at H
       have c26b0 : (t175 == 0) = false := beq_eq_false_iff_ne.mpr c26
       have c26b1 : (t175 != 0) = true := bne_iff_ne.mpr c26
       obtain ⟨y185, hy185⟩ : ∃ y_ : List Int, y_ = (([wrap64 (Int.tdiv (wrap64 (a0 * (rd l1 x18_1))) t175)] : List Int)) := ⟨_, rfl⟩
       replace H : (if x6_1.length + y185.length < 17592186044416 then ((some (([x18_1] : List Int) : List Int)).bind fun y191 => (if x184000_1.length + y191.length < 17592186044416 then (impl_shareOut.l0 k1 (x6_1 ++ y185) l1 (l1.length : Int) (wrap64 (x18_1 + 1)) a0 l1 t175 (x184000_1 ++ y191)) else (none))) else (none)) = some r := by first | (rw [hy185]; with_reducible exact H) | (have H2_ := (Option.bind_some _ _).symm.trans H; rw [hy185]; with_reducible exact H2_) | (have H2_ := (Option.bind_some _ _).symm.trans H; with_reducible exact H2_) | with_reducible exact H | (rw [hy185]; exact H) | exact H
       have Ny185 := Aside0.mk hy185
       clear hy185
       by_cases c27 : x6_1.length + y185.length < 17592186044416
       ·rw [if_pos c27] at H
        have LMc27 := Aside0.mk c27
        clear c27
        obtain ⟨y188, hy188⟩ : ∃ y_ : List Int, y_ = (x6_1 ++ y185) := ⟨_, rfl⟩
        replace H : ((some (([x18_1] : List Int) : List Int)).bind fun y191 => (if x184000_1.length + y191.length < 17592186044416 then (impl_shareOut.l0 k1 y188 l1 (l1.length : Int) (wrap64 (x18_1 + 1)) a0 l1 t175 (x184000_1 ++ y191)) else (none))) = some r := by first | (rw [hy188]; with_reducible exact H) | (have H2_ := (Option.bind_some _ _).symm.trans H; rw [hy188]; with_reducible exact H2_) | (have H2_ := (Option.bind_some _ _).symm.trans H; with_reducible exact H2_) | with_reducible exact H | (rw [hy188]; exact H) | exact H
        have Ny188 := Aside0.mk hy188
        clear hy188
        obtain ⟨y191, hy191⟩ : ∃ y_ : List Int, y_ = (([x18_1] : List Int)) := ⟨_, rfl⟩
        replace H : (if x184000_1.length + y191.length < 17592186044416 then (impl_shareOut.l0 k1 y188 l1 (l1.length : Int) (wrap64 (x18_1 + 1)) a0 l1 t175 (x184000_1 ++ y191)) else (none)) = some r := by first | (rw [hy191]; with_reducible exact H) | (have H2_ := (Option.bind_some _ _).symm.trans H; rw [hy191]; with_reducible exact H2_) | (have H2_ := (Option.bind_some _ _).symm.trans H; with_reducible exact H2_) | with_reducible exact H | (rw [hy191]; exact H) | exact H
        have Ny191 := Aside0.mk hy191
        clear hy191
        by_cases c28 : x184000_1.length + y191.length < 17592186044416
        ·rw [if_pos c28] at H
         have LMc28 := Aside0.mk c28
         clear c28
         obtain ⟨y194, hy194⟩ : ∃ y_ : List Int, y_ = (x184000_1 ++ y191) := ⟨_, rfl⟩
         replace H : (impl_shareOut.l0 k1 y188 l1 (l1.length : Int) (wrap64 (x18_1 + 1)) a0 l1 t175 y194) = some r := by first | (rw [hy194]; with_reducible exact H) | (have H2_ := (Option.bind_some _ _).symm.trans H; rw [hy194]; with_reducible exact H2_) | (have H2_ := (Option.bind_some _ _).symm.trans H; with_reducible exact H2_) | with_reducible exact H | (rw [hy194]; exact H) | exact H
         have Ny194 := Aside0.mk hy194
         clear hy194
         have H' := Aside0.mk H
         clear H
         have p184 : 0 ≤ (x18_1 : Int) := of_decide_eq_true (by first | (with_reducible assumption) | assumption)
         have q184 : x18_1 < (l1.length : Int) := of_decide_eq_true (by first | (with_reducible assumption) | assumption)
         obtain ⟨ad184, e184, hx184_0⟩ := Kd.at_int HR1.out x18_1 p184 q184
         cases e184
         replace hx184_0 := (HB.out.cell (World.block_lt_of_cell? w _ hx184_0)).trans hx184_0
         replace p184 := eq_true p184
         replace q184 := eq_true q184
         obtain ⟨Ao29, co29, eo29⟩ := Kd.R_slice HO_6.out
         subst eo29
         obtain ⟨Ao30, co30, eo30⟩ := Kd.R_slice HO_184000.out
         subst eo30
         try go_wp2
         have n0_ := Aside0.mk (Kd.R_drew HO_6.out)
         have n1_ := Aside0.mk (Kd.R_drew HO_184000.out)
         have n2_ := Aside0.mk (blk_drew BK173.out)
         have n3_ := Aside0.mk (blk_drew BK174.out)
         have n4_ := Aside0.mk (blk_drew BK176.out)
         have n5_ := Aside0.mk (blk_drew BK183.out)
         have n6_ := Aside0.mk (below_drew1 HB.out)
         clear HO_6
         clear HO_184000
         clear BK173
         clear BK174
         clear BK176
         clear BK183
         clear HB
         have HO_6 := n0_
         have HO_184000 := n1_
         have BK173 := n2_
         have BK174 := n3_
         have BK176 := n4_
         have BK183 := n5_
         have HB := n6_
         clear n0_ n1_ n2_ n3_ n4_ n5_ n6_
         refine start_ (n := 14) (S := fun w' => w'.cell? ⟨gb173, 0, none⟩ = some (.int .i64 a0) ∧ w'.cell? ⟨gb176, 0, none⟩ = some (.int .i64 t175) ∧ w'.cell? ⟨gb183, 0, none⟩ = some (.slice Ao30 x184000_1.length co30)) (ds := [13]) #[false, false, false, false, false, false, false, false, false, false, false, false, false, false] (by kernel_rfl) rfl rfl ⟨(blk_cell BK173.out 0).trans rfl, (blk_cell BK176.out 0).trans rfl, (blk_cell BK183.out 0).trans rfl⟩ (fun hHeld => ?_); refine with_tabW impl_shareOut.tab6 impl_shareOut.bits6 (fun HT_ HW_ => ?_)
         generalize wr.drew = w31 at HO_6 HO_184000 BK173 BK174 BK176 BK183 HB hHeld ⊢
         refine pure_ (i := 0) (N := some 23) (v := ?_) (a' := ?_) #[true, false, false, false, false, false, false, false, false, false, false, false, false, false] rfl rfl (any_of HT_.out (by kernel_rfl)) (fun _ _ _ h => h) (Or.inl ⟨by rfl, ?_⟩) ?_ ?_
         rotate_left
         ·intro w'
          go_simp
          with_reducible rfl
         rotate_left
         ·simp only [Act.put, List.setIfInBounds_toArray, List.set_cons_zero, List.set_cons_succ, i64_w, i32_w]; rfl
         refine pure_ (i := 2) (N := some 25) (v := ?_) (a' := ?_) #[true, false, true, false, false, false, false, false, false, false, false, false, false, false] rfl rfl (any_of HT_.out (by kernel_rfl)) (fun _ _ _ h => h) (Or.inl ⟨by rfl, ?_⟩) ?_ ?_
         rotate_left
         ·intro w'
          go_simp
          with_reducible rfl
         rotate_left
         ·simp only [Act.put, List.setIfInBounds_toArray, List.set_cons_zero, List.set_cons_succ, i64_w, i32_w]; rfl
         refine pure_ (i := 9) (N := some 32) (v := ?_) (a' := ?_) #[true, false, true, false, false, false, false, false, false, true, false, false, false, false] rfl rfl (any_of HT_.out (by kernel_rfl)) (fun _ _ _ h => h) (Or.inl ⟨by rfl, ?_⟩) ?_ ?_
         rotate_left
         ·intro w'
          go_simp
          with_reducible rfl
         rotate_left
         ·simp only [Act.put, List.setIfInBounds_toArray, List.set_cons_zero, List.set_cons_succ, i64_w, i32_w]; rfl
         refine take_ (i := 1) (N := some 24) (v := ?_) (a' := ?_) #[true, true, true, false, false, false, false, false, false, true, false, false, false, false] rfl rfl (take_ofW HT_.out HW_.out (by kernel_rfl)) (fun _ _ _ h => h) (Or.inl ⟨by rfl, ?_⟩) hHeld ?_ ?_
         rotate_left
         ·rintro w' ⟨s0, s1, s2⟩
          go_simp
          with_reducible rfl
         rotate_left
         ·simp only [Act.put, List.setIfInBounds_toArray, List.set_cons_zero, List.set_cons_succ, i64_w, i32_w]; rfl
         refine pure_ (i := 3) (N := some 26) (v := ?_) (a' := ?_) #[true, true, true, true, false, false, false, false, false, true, false, false, false, false] rfl rfl (any_of HT_.out (by kernel_rfl)) (fun _ _ _ h => h) (Or.inl ⟨by rfl, ?_⟩) ?_ ?_
         rotate_left
         ·intro w'
          go_simp
          with_reducible rfl
         rotate_left
         ·simp only [Act.put, List.setIfInBounds_toArray, List.set_cons_zero, List.set_cons_succ, i64_w, i32_w]; rfl
         refine take_ (i := 4) (N := some 27) (v := ?_) (a' := ?_) #[true, true, true, true, true, false, false, false, false, true, false, false, false, false] rfl rfl (take_ofW HT_.out HW_.out (by kernel_rfl)) (fun _ _ _ h => h) (Or.inl ⟨by rfl, ?_⟩) hHeld ?_ ?_
         rotate_left
         ·rintro w' ⟨s0, s1, s2⟩
          go_simp
          with_reducible rfl
         rotate_left
         ·simp only [Act.put, List.setIfInBounds_toArray, List.set_cons_zero, List.set_cons_succ, i64_w, i32_w]; rfl
         refine pure_ (i := 5) (N := some 28) (v := ?_) (a' := ?_) #[true, true, true, true, true, true, false, false, false, true, false, false, false, false] rfl rfl (any_of HT_.out (by kernel_rfl)) (fun _ _ _ h => h) (Or.inl ⟨by rfl, ?_⟩) ?_ ?_
         rotate_left
         ·intro w'
          go_simp
          with_reducible rfl
         rotate_left
         ·simp only [Act.put, List.setIfInBounds_toArray, List.set_cons_zero, List.set_cons_succ, i64_w, i32_w]; rfl
         refine take_ (i := 8) (N := some 31) (v := ?_) (a' := ?_) #[true, true, true, true, true, true, false, false, true, true, false, false, false, false] rfl rfl (take_ofW HT_.out HW_.out (by kernel_rfl)) (fun _ _ _ h => h) (Or.inl ⟨by rfl, ?_⟩) hHeld ?_ ?_
         rotate_left
         ·rintro w' ⟨s0, s1, s2⟩
          go_simp
          with_reducible rfl
         rotate_left
         ·simp only [Act.put, List.setIfInBounds_toArray, List.set_cons_zero, List.set_cons_succ, i64_w, i32_w]; rfl
         refine join_ (σ := Value × Value × Value) 3 #[true, true, true, true, true, true, true, true, true, true, true, false, false, false] (fun s_ => [(29, s_.1), (30, s_.2.1), (33, s_.2.2)]) (fun s_ w' => (w'.cell? ⟨gb173, 0, none⟩ = some (.int .i64 a0) ∧ w'.cell? ⟨gb176, 0, none⟩ = some (.int .i64 t175) ∧ w'.cell? ⟨gb183, 0, none⟩ = some (.slice Ao30 x184000_1.length co30)) ∧ (Kd.R (Kd.int .i64) 2 w' w.heap.size (fun k_ => some k_ ≠ (s_.2.1 : Value).ownBlock ∧ k_ ≠ gb173 ∧ k_ ≠ gb176) s_.1 y185) ∧ (Kd.R (Kd.int .i64) 2 w' w.heap.size (fun k_ => some k_ ≠ (s_.1 : Value).ownBlock ∧ k_ ≠ gb173 ∧ k_ ≠ gb176) s_.2.1 y188) ∧ (Kd.R (Kd.int .i64) 3 w' w.heap.size (fun k_ => some k_ ≠ (.slice Ao30 x184000_1.length co30 : Value).ownBlock) s_.2.2 y191) ∧ (Kd.R (Kd.int .i64) 3 w' w.heap.size (fun k_ => some k_ ≠ (s_.2.2 : Value).ownBlock) (.slice Ao30 x184000_1.length co30) x184000_1) ∧ (w'.heap[gb173]? = some (.cells #[.int .i64 a0] 2 (0, 0))) ∧ (w'.heap[gb174]? = some (.cells #[.slice (some ad184) l1.length c1] 30 (0, 0))) ∧ (w'.heap[gb176]? = some (.cells #[.int .i64 t175] 2 (0, 0))) ∧ (w'.heap[gb183]? = some (.cells #[.slice Ao30 x184000_1.length co30] 95 (0, 0))) ∧ (Below w.heap.size w w')) ?_ ?_
         rotate_left
         ·intro hCont
          refine two_ (i := 6) (j := 10) (Ni := some 29) (Nj := some 33) #[true, true, true, true, true, true, true, false, true, true, false, false, false, false] #[true, true, true, true, true, true, false, false, true, true, true, false, false, false] rfl rfl rfl rfl (two_of HT_.out (by kernel_rfl)) (by decide) (by decide) (fun K hK => ?_) (fun K hK => ?_)
          ·skip
           refine Kd.R_lit_step (Kd.int .i64) _ 2 ?hg (N := 29) ?hd (xs := ([wrap64 (Int.tdiv (wrap64 (a0 * (rd l1 x18_1))) t175)] : List Int)) (inner := [.int .i64 (wrap64 (Int.tdiv (wrap64 (a0 * (rd l1 x18_1))) t175))]) (ok := fun _ => True) (okp := fun _ => True) ?hr ?hp (fun _ hk => hk) trivial (Below.refl _ _) (Nat.le_refl _) (by simp) ?_; (case hd => rfl); (case hg => rfl); (case hr => first | (go_simp; done) | (go_simp; rfl)); (case hp => exact (Reps.one (show Kd.M (Kd.int .i64) _ _ _ (wrap64 (Int.tdiv (wrap64 (a0 * (rd l1 x18_1))) t175)) [.int .i64 (wrap64 (Int.tdiv (wrap64 (a0 * (rd l1 x18_1))) t175))] from rfl) (Reps.none _ _)))
           intro v186 w32 ho33 hb hg_ hnew_
           clear hg_ hnew_
           (first | rw [← Ny185.out] at ho33 | (simp only [Int.reduceToNat] at ho33; rw [← Ny185.out] at ho33))
           have n0_ := Aside0.mk (Kd.R_elder' (by (with_reducible repeat (first | apply Kd.R_alloc | apply Kd.R_drewN | apply Kd.R_drew)); exact HO_6.out) (Kd.R_base ho33) hb)
           have n1_ := Aside0.mk (Kd.R_below (by (with_reducible repeat (first | apply Kd.R_alloc | apply Kd.R_drewN | apply Kd.R_drew)); exact HO_184000.out) hb)
           have n2_ := Aside0.mk (Kd.R_lower (Kd.R_newB (Kd.R_newB (Kd.R_new' ho33 (Kd.R_lt (by (with_reducible repeat (first | apply Kd.R_alloc | apply Kd.R_drewN | apply Kd.R_drew)); exact HO_6.out))) (g := gb173) (o := .cells #[.int .i64 a0] 2 (0, 0)) (by (with_reducible repeat (first | refine blk_drewN ?_ _ | refine blk_drew ?_ | refine blk_alloc ?_ _)); exact BK173.out)) (g := gb176) (o := .cells #[.int .i64 t175] 2 (0, 0)) (by (with_reducible repeat (first | refine blk_drewN ?_ _ | refine blk_drew ?_ | refine blk_alloc ?_ _)); exact BK176.out)) (below_size (by repeat (first | (with_reducible first | exact HB.out | apply below_alloc | apply pw_below_drewN | apply below_drew1 | refine below_set ?_ GE173.out | refine below_set ?_ GE174.out | refine below_set ?_ GE176.out | refine below_set ?_ GE183.out) | exact HB.out))))
           have n3_ := Aside0.mk (blk_below (g := gb173) (o := .cells #[.int .i64 a0] 2 (0, 0)) (by (with_reducible repeat (first | refine blk_drewN ?_ _ | refine blk_drew ?_ | refine blk_alloc ?_ _)); exact BK173.out) hb)
           have n4_ := Aside0.mk (blk_below (g := gb174) (o := .cells #[.slice (some ad184) l1.length c1] 30 (0, 0)) (by (with_reducible repeat (first | refine blk_drewN ?_ _ | refine blk_drew ?_ | refine blk_alloc ?_ _)); exact BK174.out) hb)
           have n5_ := Aside0.mk (blk_below (g := gb176) (o := .cells #[.int .i64 t175] 2 (0, 0)) (by (with_reducible repeat (first | refine blk_drewN ?_ _ | refine blk_drew ?_ | refine blk_alloc ?_ _)); exact BK176.out) hb)
           have n6_ := Aside0.mk (blk_below (g := gb183) (o := .cells #[.slice Ao30 x184000_1.length co30] 95 (0, 0)) (by (with_reducible repeat (first | refine blk_drewN ?_ _ | refine blk_drew ?_ | refine blk_alloc ?_ _)); exact BK183.out) hb)
           have n7_ := Aside0.mk (below_step (by repeat (first | (with_reducible first | exact HB.out | apply below_alloc | apply pw_below_drewN | apply below_drew1 | refine below_set ?_ GE173.out | refine below_set ?_ GE174.out | refine below_set ?_ GE176.out | refine below_set ?_ GE183.out) | exact HB.out)) hb)
           clear HO_6
           clear HO_184000
           clear BK173
           clear BK174
           clear BK176
           clear BK183
           clear HB
           have HO_6 := n0_
           have HO_184000 := n1_
           have HO187 := n2_
           have BK173 := n3_
           have BK174 := n4_
           have BK176 := n5_
           have BK183 := n6_
           have HB := n7_
           clear n0_ n1_ n2_ n3_ n4_ n5_ n6_ n7_
           clear hb ho33
           obtain ⟨Ao35, co35, eo35⟩ := Kd.R_slice HO187.out
           (first | subst eo35 | (injection eo35 with f1_ f2_ f3_; have f4_ := f1_.symm; have f5_ := f3_.symm; clear f1_ f2_ f3_; subst f4_; subst f5_))
           refine hK.out _ _ ⟨(blk_cell BK173.out 0).trans rfl, (blk_cell BK176.out 0).trans rfl, (blk_cell BK183.out 0).trans rfl⟩ (fun hHeld => ?_)
           clear hK K
           refine norm_ (a' := ?_) ?_ ?_
           rotate_left
           ·show Act.put _ (some 29) _ = _
            simp only [Act.put, List.setIfInBounds_toArray, List.set_cons_zero, List.set_cons_succ, i64_w, i32_w]
            rfl
           refine two_ (i := 7) (j := 10) (Ni := some 30) (Nj := some 33) #[true, true, true, true, true, true, true, true, true, true, false, false, false, false] #[true, true, true, true, true, true, true, false, true, true, true, false, false, false] rfl rfl rfl rfl (two_of HT_.out (by kernel_rfl)) (by decide) (by decide) (fun K hK => ?_) (fun K hK => ?_)
           ·skip
            refine Kd.R_append_rows_step (Kd.int .i64) (w0 := w) w.heap.size (by rfl) (.tmp 23) (.tmp 29) 30 2 (.int .i64 0) 8 rfl Try.underlying30 info2 rfl (by decide) (by omega) (.slice Ao29 x6_1.length co29) x6_1 y185 _ _ _ (fun k_ => some k_ ≠ (.slice Ao35 y185.length co35 : Value).ownBlock ∧ k_ ≠ gb173 ∧ k_ ≠ gb176) (fun _ => False) rfl rfl ?aO ?aR (fun _ _ h => h) (fun _ h => h.elim) ?aF ?aB ?aS ?aL ?_
            (case aR => repeat (first | exact (Kd.R_reads' HO187.out).2.2 | (with_reducible refine Kd.C_alloc ?_ _) | (with_reducible refine Kd.C_drewN ?_ _) | (with_reducible refine Kd.C_drew ?_)))
            (case aB => exact (by repeat (first | (with_reducible first | exact HB.out | apply below_alloc | apply pw_below_drewN | apply below_drew1 | refine below_set ?_ GE173.out | refine below_set ?_ GE174.out | refine below_set ?_ GE176.out | refine below_set ?_ GE183.out) | exact HB.out)))
            (case aF => exact (fun k_ hk => ⟨Kd.fresh' (Kd.R_lt (by (with_reducible repeat (first | apply Kd.R_alloc | apply Kd.R_drewN | apply Kd.R_drew)); exact HO187.out)) k_ hk, Kd.freshB (g := gb173) (o := .cells #[.int .i64 a0] 2 (0, 0)) (by (with_reducible repeat (first | refine blk_drewN ?_ _ | refine blk_drew ?_ | refine blk_alloc ?_ _)); exact BK173.out) k_ hk, Kd.freshB (g := gb176) (o := .cells #[.int .i64 t175] 2 (0, 0)) (by (with_reducible repeat (first | refine blk_drewN ?_ _ | refine blk_drew ?_ | refine blk_alloc ?_ _)); exact BK176.out) k_ hk⟩))
            (case aO => exact (by (with_reducible repeat (first | apply Kd.R_alloc | apply Kd.R_drewN | apply Kd.R_drew)); exact Kd.R_mono HO_6.out (fun _ hk => ⟨hk.2, ⟨hk.1.1, hk.1.2⟩⟩)))
            (case aS => exact (below_size (by repeat (first | (with_reducible first | exact HB.out | apply below_alloc | apply pw_below_drewN | apply below_drew1 | refine below_set ?_ GE173.out | refine below_set ?_ GE174.out | refine below_set ?_ GE176.out | refine below_set ?_ GE183.out) | exact HB.out))))
            (case aL => have := LMc27.out; omega)
            intro v189 w34 ho hb hg hat
            rw [← Ny188.out] at ho
            have n0_ := Aside0.mk (Kd.R_over' (by (with_reducible repeat (first | apply Kd.R_alloc | apply Kd.R_drewN | apply Kd.R_drew)); exact HO_184000.out) (Kd.R_typed (by (with_reducible repeat (first | apply Kd.R_alloc | apply Kd.R_drewN | apply Kd.R_drew)); exact HO_6.out)) (by decide) hg)
            have n1_ := Aside0.mk (blk_grown (g := gb173) (o := .cells #[.int .i64 a0] 2 (0, 0)) (by (with_reducible repeat (first | refine blk_drewN ?_ _ | refine blk_drew ?_ | refine blk_alloc ?_ _)); exact BK173.out) hg (Kd.R_away HO_6.out (fun _ hk => hk.1.1)))
            have n2_ := Aside0.mk (blk_grown (g := gb174) (o := .cells #[.slice (some ad184) l1.length c1] 30 (0, 0)) (by (with_reducible repeat (first | refine blk_drewN ?_ _ | refine blk_drew ?_ | refine blk_alloc ?_ _)); exact BK174.out) hg (Kd.R_ne HO_6.out BK174.out (by decide)))
            have n3_ := Aside0.mk (blk_grown (g := gb176) (o := .cells #[.int .i64 t175] 2 (0, 0)) (by (with_reducible repeat (first | refine blk_drewN ?_ _ | refine blk_drew ?_ | refine blk_alloc ?_ _)); exact BK176.out) hg (Kd.R_away HO_6.out (fun _ hk => hk.1.2)))
            have n4_ := Aside0.mk (blk_grown (g := gb183) (o := .cells #[.slice Ao30 x184000_1.length co30] 95 (0, 0)) (by (with_reducible repeat (first | refine blk_drewN ?_ _ | refine blk_drew ?_ | refine blk_alloc ?_ _)); exact BK183.out) hg (Kd.R_ne HO_6.out BK183.out (by decide)))
            have n5_ := Aside0.mk (Kd.R_after (ok := (fun k_ => k_ ≠ gb173 ∧ k_ ≠ gb176)) (by (with_reducible repeat (first | apply Kd.R_alloc | apply Kd.R_drewN | apply Kd.R_drew)); exact Kd.R_mono HO187.out (fun _ hk => ⟨⟨hk.1.2, hk.2⟩, hk.1.1.2⟩)) hg hat)
            have n6_ := Aside0.mk (hb)
            have n7_ := Aside0.mk (ho)
            clear HO_184000
            clear BK173
            clear BK174
            clear BK176
            clear BK183
            clear HO187
            clear HB
            clear HO_6
            have HO_184000 := n0_
            have BK173 := n1_
            have BK174 := n2_
            have BK176 := n3_
            have BK183 := n4_
            have HO187 := n5_
            have HB := n6_
            have HO190 := n7_
            clear n0_ n1_ n2_ n3_ n4_ n5_ n6_ n7_
            clear ho hb hg hat
            refine hK.out _ _ ⟨(blk_cell BK173.out 0).trans rfl, (blk_cell BK176.out 0).trans rfl, (blk_cell BK183.out 0).trans rfl⟩ (fun hHeld => ?_)
            clear hK K
            refine norm_ (a' := ?_) ?_ ?_
            rotate_left
            ·show Act.put _ (some 30) _ = _
             simp only [Act.put, List.setIfInBounds_toArray, List.set_cons_zero, List.set_cons_succ, i64_w, i32_w]
             rfl
            refine one_ (i := 10) (N := some 33) #[true, true, true, true, true, true, true, true, true, true, true, false, false, false] rfl rfl (one_of HT_.out (by kernel_rfl)) (by decide) (fun K hK => ?_)
            refine Kd.R_lit_step (Kd.int .i64) _ 3 ?hg (N := 33) ?hd (xs := ([x18_1] : List Int)) (inner := [.int .i64 x18_1]) (ok := fun _ => True) (okp := fun _ => True) ?hr ?hp (fun _ hk => hk) trivial (Below.refl _ _) (Nat.le_refl _) (by simp) ?_; (case hd => rfl); (case hg => rfl); (case hr => first | (go_simp; done) | (go_simp; rfl)); (case hp => exact (Reps.one (show Kd.M (Kd.int .i64) _ _ _ x18_1 [.int .i64 x18_1] from rfl) (Reps.none _ _)))
            intro v192 w36 ho37 hb hg_ hnew_
            clear hg_ hnew_
            (first | rw [← Ny191.out] at ho37 | (simp only [Int.reduceToNat] at ho37; rw [← Ny191.out] at ho37))
            have n0_ := Aside0.mk (Kd.R_elder' (by (with_reducible repeat (first | apply Kd.R_alloc | apply Kd.R_drewN | apply Kd.R_drew)); exact HO_184000.out) (Kd.R_base ho37) hb)
            have n1_ := Aside0.mk (Kd.R_below (by (with_reducible repeat (first | apply Kd.R_alloc | apply Kd.R_drewN | apply Kd.R_drew)); exact HO187.out) hb)
            have n2_ := Aside0.mk (Kd.R_below (by (with_reducible repeat (first | apply Kd.R_alloc | apply Kd.R_drewN | apply Kd.R_drew)); exact HO190.out) hb)
            have n3_ := Aside0.mk (Kd.R_lower (Kd.R_new' ho37 (Kd.R_lt (by (with_reducible repeat (first | apply Kd.R_alloc | apply Kd.R_drewN | apply Kd.R_drew)); exact HO_184000.out))) (below_size (by repeat (first | (with_reducible first | exact HB.out | apply below_alloc | apply pw_below_drewN | apply below_drew1 | refine below_set ?_ GE173.out | refine below_set ?_ GE174.out | refine below_set ?_ GE176.out | refine below_set ?_ GE183.out) | exact HB.out))))
            have n4_ := Aside0.mk (blk_below (g := gb173) (o := .cells #[.int .i64 a0] 2 (0, 0)) (by (with_reducible repeat (first | refine blk_drewN ?_ _ | refine blk_drew ?_ | refine blk_alloc ?_ _)); exact BK173.out) hb)
            have n5_ := Aside0.mk (blk_below (g := gb174) (o := .cells #[.slice (some ad184) l1.length c1] 30 (0, 0)) (by (with_reducible repeat (first | refine blk_drewN ?_ _ | refine blk_drew ?_ | refine blk_alloc ?_ _)); exact BK174.out) hb)
            have n6_ := Aside0.mk (blk_below (g := gb176) (o := .cells #[.int .i64 t175] 2 (0, 0)) (by (with_reducible repeat (first | refine blk_drewN ?_ _ | refine blk_drew ?_ | refine blk_alloc ?_ _)); exact BK176.out) hb)
            have n7_ := Aside0.mk (blk_below (g := gb183) (o := .cells #[.slice Ao30 x184000_1.length co30] 95 (0, 0)) (by (with_reducible repeat (first | refine blk_drewN ?_ _ | refine blk_drew ?_ | refine blk_alloc ?_ _)); exact BK183.out) hb)
            have n8_ := Aside0.mk (below_step (by repeat (first | (with_reducible first | exact HB.out | apply below_alloc | apply pw_below_drewN | apply below_drew1 | refine below_set ?_ GE173.out | refine below_set ?_ GE174.out | refine below_set ?_ GE176.out | refine below_set ?_ GE183.out) | exact HB.out)) hb)
            clear HO_184000
            clear HO187
            clear HO190
            clear BK173
            clear BK174
            clear BK176
            clear BK183
            clear HB
            have HO_184000 := n0_
            have HO187 := n1_
            have HO190 := n2_
            have HO193 := n3_
            have BK173 := n4_
            have BK174 := n5_
            have BK176 := n6_
            have BK183 := n7_
            have HB := n8_
            clear n0_ n1_ n2_ n3_ n4_ n5_ n6_ n7_ n8_
            clear hb ho37
            refine hK.out _ _ ⟨(blk_cell BK173.out 0).trans rfl, (blk_cell BK176.out 0).trans rfl, (blk_cell BK183.out 0).trans rfl⟩ (fun hHeld => ?_)
            clear hK K
            refine norm_ (a' := ?_) ?_ ?_
            rotate_left
            ·show Act.put _ (some 33) _ = _
             simp only [Act.put, List.setIfInBounds_toArray, List.set_cons_zero, List.set_cons_succ, i64_w, i32_w]
             rfl
            exact norm_ (by simp only [putAll, Act.put, List.setIfInBounds_toArray, List.set_cons_zero, List.set_cons_succ]) (hCont (.slice Ao35 y185.length co35, v189, v192) _ ⟨hHeld, (by (with_reducible repeat (first | apply Kd.R_alloc | apply Kd.R_drewN | apply Kd.R_drew)); exact Kd.R_mono HO187.out (fun _ hk => ⟨hk.2, ⟨hk.1.1, hk.1.2⟩⟩)), (by (with_reducible repeat (first | apply Kd.R_alloc | apply Kd.R_drewN | apply Kd.R_drew)); exact HO190.out), (by (with_reducible repeat (first | apply Kd.R_alloc | apply Kd.R_drewN | apply Kd.R_drew)); exact Kd.R_mono HO193.out (fun _ hk => hk.2)), (by (with_reducible repeat (first | apply Kd.R_alloc | apply Kd.R_drewN | apply Kd.R_drew)); exact Kd.R_mono HO_184000.out (fun _ hk => hk.2)), (by (with_reducible repeat (first | refine blk_drewN ?_ _ | refine blk_drew ?_ | refine blk_alloc ?_ _)); exact BK173.out), (by (with_reducible repeat (first | refine blk_drewN ?_ _ | refine blk_drew ?_ | refine blk_alloc ?_ _)); exact BK174.out), (by (with_reducible repeat (first | refine blk_drewN ?_ _ | refine blk_drew ?_ | refine blk_alloc ?_ _)); exact BK176.out), (by (with_reducible repeat (first | refine blk_drewN ?_ _ | refine blk_drew ?_ | refine blk_alloc ?_ _)); exact BK183.out), (by repeat (first | (with_reducible first | exact HB.out | apply below_alloc | apply pw_below_drewN | apply below_drew1 | refine below_set ?_ GE173.out | refine below_set ?_ GE174.out | refine below_set ?_ GE176.out | refine below_set ?_ GE183.out) | exact HB.out))⟩)
           ·skip
            refine Kd.R_lit_step (Kd.int .i64) _ 3 ?hg (N := 33) ?hd (xs := ([x18_1] : List Int)) (inner := [.int .i64 x18_1]) (ok := fun _ => True) (okp := fun _ => True) ?hr ?hp (fun _ hk => hk) trivial (Below.refl _ _) (Nat.le_refl _) (by simp) ?_; (case hd => rfl); (case hg => rfl); (case hr => first | (go_simp; done) | (go_simp; rfl)); (case hp => exact (Reps.one (show Kd.M (Kd.int .i64) _ _ _ x18_1 [.int .i64 x18_1] from rfl) (Reps.none _ _)))
            intro v192 w34 ho35 hb hg_ hnew_
            clear hg_ hnew_
            (first | rw [← Ny191.out] at ho35 | (simp only [Int.reduceToNat] at ho35; rw [← Ny191.out] at ho35))
            have n0_ := Aside0.mk (Kd.R_below (by (with_reducible repeat (first | apply Kd.R_alloc | apply Kd.R_drewN | apply Kd.R_drew)); exact HO_6.out) hb)
            have n1_ := Aside0.mk (Kd.R_elder' (by (with_reducible repeat (first | apply Kd.R_alloc | apply Kd.R_drewN | apply Kd.R_drew)); exact HO_184000.out) (Kd.R_base ho35) hb)
            have n2_ := Aside0.mk (Kd.R_below (by (with_reducible repeat (first | apply Kd.R_alloc | apply Kd.R_drewN | apply Kd.R_drew)); exact HO187.out) hb)
            have n3_ := Aside0.mk (Kd.R_lower (Kd.R_new' ho35 (Kd.R_lt (by (with_reducible repeat (first | apply Kd.R_alloc | apply Kd.R_drewN | apply Kd.R_drew)); exact HO_184000.out))) (below_size (by repeat (first | (with_reducible first | exact HB.out | apply below_alloc | apply pw_below_drewN | apply below_drew1 | refine below_set ?_ GE173.out | refine below_set ?_ GE174.out | refine below_set ?_ GE176.out | refine below_set ?_ GE183.out) | exact HB.out))))
            have n4_ := Aside0.mk (blk_below (g := gb173) (o := .cells #[.int .i64 a0] 2 (0, 0)) (by (with_reducible repeat (first | refine blk_drewN ?_ _ | refine blk_drew ?_ | refine blk_alloc ?_ _)); exact BK173.out) hb)
            have n5_ := Aside0.mk (blk_below (g := gb174) (o := .cells #[.slice (some ad184) l1.length c1] 30 (0, 0)) (by (with_reducible repeat (first | refine blk_drewN ?_ _ | refine blk_drew ?_ | refine blk_alloc ?_ _)); exact BK174.out) hb)
            have n6_ := Aside0.mk (blk_below (g := gb176) (o := .cells #[.int .i64 t175] 2 (0, 0)) (by (with_reducible repeat (first | refine blk_drewN ?_ _ | refine blk_drew ?_ | refine blk_alloc ?_ _)); exact BK176.out) hb)
            have n7_ := Aside0.mk (blk_below (g := gb183) (o := .cells #[.slice Ao30 x184000_1.length co30] 95 (0, 0)) (by (with_reducible repeat (first | refine blk_drewN ?_ _ | refine blk_drew ?_ | refine blk_alloc ?_ _)); exact BK183.out) hb)
            have n8_ := Aside0.mk (below_step (by repeat (first | (with_reducible first | exact HB.out | apply below_alloc | apply pw_below_drewN | apply below_drew1 | refine below_set ?_ GE173.out | refine below_set ?_ GE174.out | refine below_set ?_ GE176.out | refine below_set ?_ GE183.out) | exact HB.out)) hb)
            clear HO_6
            clear HO_184000
            clear HO187
            clear BK173
            clear BK174
            clear BK176
            clear BK183
            clear HB
            have HO_6 := n0_
            have HO_184000 := n1_
            have HO187 := n2_
            have HO193 := n3_
            have BK173 := n4_
            have BK174 := n5_
            have BK176 := n6_
            have BK183 := n7_
            have HB := n8_
            clear n0_ n1_ n2_ n3_ n4_ n5_ n6_ n7_ n8_
            clear hb ho35
            obtain ⟨Ao37, co37, eo37⟩ := Kd.R_slice HO187.out
            (first | subst eo37 | (injection eo37 with f1_ f2_ f3_; have f4_ := f1_.symm; have f5_ := f3_.symm; clear f1_ f2_ f3_; subst f4_; subst f5_))
            refine hK.out _ _ ⟨(blk_cell BK173.out 0).trans rfl, (blk_cell BK176.out 0).trans rfl, (blk_cell BK183.out 0).trans rfl⟩ (fun hHeld => ?_)
            clear hK K
            refine norm_ (a' := ?_) ?_ ?_
            rotate_left
            ·show Act.put _ (some 33) _ = _
             simp only [Act.put, List.setIfInBounds_toArray, List.set_cons_zero, List.set_cons_succ, i64_w, i32_w]
             rfl
            refine one_ (i := 7) (N := some 30) #[true, true, true, true, true, true, true, true, true, true, true, false, false, false] rfl rfl (one_of HT_.out (by kernel_rfl)) (by decide) (fun K hK => ?_)
            refine Kd.R_append_rows_step (Kd.int .i64) (w0 := w) w.heap.size (by rfl) (.tmp 23) (.tmp 29) 30 2 (.int .i64 0) 8 rfl Try.underlying30 info2 rfl (by decide) (by omega) (.slice Ao29 x6_1.length co29) x6_1 y185 _ _ _ (fun k_ => some k_ ≠ (.slice Ao37 y185.length co37 : Value).ownBlock ∧ k_ ≠ gb173 ∧ k_ ≠ gb176) (fun _ => False) rfl rfl ?aO ?aR (fun _ _ h => h) (fun _ h => h.elim) ?aF ?aB ?aS ?aL ?_
            (case aR => repeat (first | exact (Kd.R_reads' HO187.out).2.2 | (with_reducible refine Kd.C_alloc ?_ _) | (with_reducible refine Kd.C_drewN ?_ _) | (with_reducible refine Kd.C_drew ?_)))
            (case aB => exact (by repeat (first | (with_reducible first | exact HB.out | apply below_alloc | apply pw_below_drewN | apply below_drew1 | refine below_set ?_ GE173.out | refine below_set ?_ GE174.out | refine below_set ?_ GE176.out | refine below_set ?_ GE183.out) | exact HB.out)))
            (case aF => exact (fun k_ hk => ⟨Kd.fresh' (Kd.R_lt (by (with_reducible repeat (first | apply Kd.R_alloc | apply Kd.R_drewN | apply Kd.R_drew)); exact HO187.out)) k_ hk, Kd.freshB (g := gb173) (o := .cells #[.int .i64 a0] 2 (0, 0)) (by (with_reducible repeat (first | refine blk_drewN ?_ _ | refine blk_drew ?_ | refine blk_alloc ?_ _)); exact BK173.out) k_ hk, Kd.freshB (g := gb176) (o := .cells #[.int .i64 t175] 2 (0, 0)) (by (with_reducible repeat (first | refine blk_drewN ?_ _ | refine blk_drew ?_ | refine blk_alloc ?_ _)); exact BK176.out) k_ hk⟩))
            (case aO => exact (by (with_reducible repeat (first | apply Kd.R_alloc | apply Kd.R_drewN | apply Kd.R_drew)); exact Kd.R_mono HO_6.out (fun _ hk => ⟨hk.2, ⟨hk.1.1, hk.1.2⟩⟩)))
            (case aS => exact (below_size (by repeat (first | (with_reducible first | exact HB.out | apply below_alloc | apply pw_below_drewN | apply below_drew1 | refine below_set ?_ GE173.out | refine below_set ?_ GE174.out | refine below_set ?_ GE176.out | refine below_set ?_ GE183.out) | exact HB.out))))
            (case aL => have := LMc27.out; omega)
            intro v189 w36 ho hb hg hat
            rw [← Ny188.out] at ho
            have n0_ := Aside0.mk (Kd.R_over' (by (with_reducible repeat (first | apply Kd.R_alloc | apply Kd.R_drewN | apply Kd.R_drew)); exact HO_184000.out) (Kd.R_typed (by (with_reducible repeat (first | apply Kd.R_alloc | apply Kd.R_drewN | apply Kd.R_drew)); exact HO_6.out)) (by decide) hg)
            have n1_ := Aside0.mk (blk_grown (g := gb173) (o := .cells #[.int .i64 a0] 2 (0, 0)) (by (with_reducible repeat (first | refine blk_drewN ?_ _ | refine blk_drew ?_ | refine blk_alloc ?_ _)); exact BK173.out) hg (Kd.R_away HO_6.out (fun _ hk => hk.1.1)))
            have n2_ := Aside0.mk (blk_grown (g := gb174) (o := .cells #[.slice (some ad184) l1.length c1] 30 (0, 0)) (by (with_reducible repeat (first | refine blk_drewN ?_ _ | refine blk_drew ?_ | refine blk_alloc ?_ _)); exact BK174.out) hg (Kd.R_ne HO_6.out BK174.out (by decide)))
            have n3_ := Aside0.mk (blk_grown (g := gb176) (o := .cells #[.int .i64 t175] 2 (0, 0)) (by (with_reducible repeat (first | refine blk_drewN ?_ _ | refine blk_drew ?_ | refine blk_alloc ?_ _)); exact BK176.out) hg (Kd.R_away HO_6.out (fun _ hk => hk.1.2)))
            have n4_ := Aside0.mk (blk_grown (g := gb183) (o := .cells #[.slice Ao30 x184000_1.length co30] 95 (0, 0)) (by (with_reducible repeat (first | refine blk_drewN ?_ _ | refine blk_drew ?_ | refine blk_alloc ?_ _)); exact BK183.out) hg (Kd.R_ne HO_6.out BK183.out (by decide)))
            have n5_ := Aside0.mk (Kd.R_after (ok := (fun k_ => k_ ≠ gb173 ∧ k_ ≠ gb176)) (by (with_reducible repeat (first | apply Kd.R_alloc | apply Kd.R_drewN | apply Kd.R_drew)); exact Kd.R_mono HO187.out (fun _ hk => ⟨⟨hk.1.2, hk.2⟩, hk.1.1.2⟩)) hg hat)
            have n6_ := Aside0.mk (Kd.R_over' (by (with_reducible repeat (first | apply Kd.R_alloc | apply Kd.R_drewN | apply Kd.R_drew)); exact HO193.out) (Kd.R_typed (by (with_reducible repeat (first | apply Kd.R_alloc | apply Kd.R_drewN | apply Kd.R_drew)); exact HO_6.out)) (by decide) hg)
            have n7_ := Aside0.mk (hb)
            have n8_ := Aside0.mk (ho)
            clear HO_184000
            clear BK173
            clear BK174
            clear BK176
            clear BK183
            clear HO187
            clear HO193
            clear HB
            clear HO_6
            have HO_184000 := n0_
            have BK173 := n1_
            have BK174 := n2_
            have BK176 := n3_
            have BK183 := n4_
            have HO187 := n5_
            have HO193 := n6_
            have HB := n7_
            have HO190 := n8_
            clear n0_ n1_ n2_ n3_ n4_ n5_ n6_ n7_ n8_
            clear ho hb hg hat
            refine hK.out _ _ ⟨(blk_cell BK173.out 0).trans rfl, (blk_cell BK176.out 0).trans rfl, (blk_cell BK183.out 0).trans rfl⟩ (fun hHeld => ?_)
            clear hK K
            refine norm_ (a' := ?_) ?_ ?_
            rotate_left
            ·show Act.put _ (some 30) _ = _
             simp only [Act.put, List.setIfInBounds_toArray, List.set_cons_zero, List.set_cons_succ, i64_w, i32_w]
             rfl
            exact norm_ (by simp only [putAll, Act.put, List.setIfInBounds_toArray, List.set_cons_zero, List.set_cons_succ]) (hCont (.slice Ao37 y185.length co37, v189, v192) _ ⟨hHeld, (by (with_reducible repeat (first | apply Kd.R_alloc | apply Kd.R_drewN | apply Kd.R_drew)); exact Kd.R_mono HO187.out (fun _ hk => ⟨hk.2, ⟨hk.1.1, hk.1.2⟩⟩)), (by (with_reducible repeat (first | apply Kd.R_alloc | apply Kd.R_drewN | apply Kd.R_drew)); exact HO190.out), (by (with_reducible repeat (first | apply Kd.R_alloc | apply Kd.R_drewN | apply Kd.R_drew)); exact Kd.R_mono HO193.out (fun _ hk => hk.2)), (by (with_reducible repeat (first | apply Kd.R_alloc | apply Kd.R_drewN | apply Kd.R_drew)); exact Kd.R_mono HO_184000.out (fun _ hk => hk.2)), (by (with_reducible repeat (first | refine blk_drewN ?_ _ | refine blk_drew ?_ | refine blk_alloc ?_ _)); exact BK173.out), (by (with_reducible repeat (first | refine blk_drewN ?_ _ | refine blk_drew ?_ | refine blk_alloc ?_ _)); exact BK174.out), (by (with_reducible repeat (first | refine blk_drewN ?_ _ | refine blk_drew ?_ | refine blk_alloc ?_ _)); exact BK176.out), (by (with_reducible repeat (first | refine blk_drewN ?_ _ | refine blk_drew ?_ | refine blk_alloc ?_ _)); exact BK183.out), (by repeat (first | (with_reducible first | exact HB.out | apply below_alloc | apply pw_below_drewN | apply below_drew1 | refine below_set ?_ GE173.out | refine below_set ?_ GE174.out | refine below_set ?_ GE176.out | refine below_set ?_ GE183.out) | exact HB.out))⟩)
          ·skip
           refine Kd.R_lit_step (Kd.int .i64) _ 3 ?hg (N := 33) ?hd (xs := ([x18_1] : List Int)) (inner := [.int .i64 x18_1]) (ok := fun _ => True) (okp := fun _ => True) ?hr ?hp (fun _ hk => hk) trivial (Below.refl _ _) (Nat.le_refl _) (by simp) ?_; (case hd => rfl); (case hg => rfl); (case hr => first | (go_simp; done) | (go_simp; rfl)); (case hp => exact (Reps.one (show Kd.M (Kd.int .i64) _ _ _ x18_1 [.int .i64 x18_1] from rfl) (Reps.none _ _)))
           intro v192 w32 ho33 hb hg_ hnew_
           clear hg_ hnew_
           (first | rw [← Ny191.out] at ho33 | (simp only [Int.reduceToNat] at ho33; rw [← Ny191.out] at ho33))
           have n0_ := Aside0.mk (Kd.R_below (by (with_reducible repeat (first | apply Kd.R_alloc | apply Kd.R_drewN | apply Kd.R_drew)); exact HO_6.out) hb)
           have n1_ := Aside0.mk (Kd.R_elder' (by (with_reducible repeat (first | apply Kd.R_alloc | apply Kd.R_drewN | apply Kd.R_drew)); exact HO_184000.out) (Kd.R_base ho33) hb)
           have n2_ := Aside0.mk (Kd.R_lower (Kd.R_new' ho33 (Kd.R_lt (by (with_reducible repeat (first | apply Kd.R_alloc | apply Kd.R_drewN | apply Kd.R_drew)); exact HO_184000.out))) (below_size (by repeat (first | (with_reducible first | exact HB.out | apply below_alloc | apply pw_below_drewN | apply below_drew1 | refine below_set ?_ GE173.out | refine below_set ?_ GE174.out | refine below_set ?_ GE176.out | refine below_set ?_ GE183.out) | exact HB.out))))
           have n3_ := Aside0.mk (blk_below (g := gb173) (o := .cells #[.int .i64 a0] 2 (0, 0)) (by (with_reducible repeat (first | refine blk_drewN ?_ _ | refine blk_drew ?_ | refine blk_alloc ?_ _)); exact BK173.out) hb)
           have n4_ := Aside0.mk (blk_below (g := gb174) (o := .cells #[.slice (some ad184) l1.length c1] 30 (0, 0)) (by (with_reducible repeat (first | refine blk_drewN ?_ _ | refine blk_drew ?_ | refine blk_alloc ?_ _)); exact BK174.out) hb)
           have n5_ := Aside0.mk (blk_below (g := gb176) (o := .cells #[.int .i64 t175] 2 (0, 0)) (by (with_reducible repeat (first | refine blk_drewN ?_ _ | refine blk_drew ?_ | refine blk_alloc ?_ _)); exact BK176.out) hb)
           have n6_ := Aside0.mk (blk_below (g := gb183) (o := .cells #[.slice Ao30 x184000_1.length co30] 95 (0, 0)) (by (with_reducible repeat (first | refine blk_drewN ?_ _ | refine blk_drew ?_ | refine blk_alloc ?_ _)); exact BK183.out) hb)
           have n7_ := Aside0.mk (below_step (by repeat (first | (with_reducible first | exact HB.out | apply below_alloc | apply pw_below_drewN | apply below_drew1 | refine below_set ?_ GE173.out | refine below_set ?_ GE174.out | refine below_set ?_ GE176.out | refine below_set ?_ GE183.out) | exact HB.out)) hb)
           clear HO_6
           clear HO_184000
           clear BK173
           clear BK174
           clear BK176
           clear BK183
           clear HB
           have HO_6 := n0_
           have HO_184000 := n1_
           have HO193 := n2_
           have BK173 := n3_
           have BK174 := n4_
           have BK176 := n5_
           have BK183 := n6_
           have HB := n7_
           clear n0_ n1_ n2_ n3_ n4_ n5_ n6_ n7_
           clear hb ho33
           refine hK.out _ _ ⟨(blk_cell BK173.out 0).trans rfl, (blk_cell BK176.out 0).trans rfl, (blk_cell BK183.out 0).trans rfl⟩ (fun hHeld => ?_)
           clear hK K
           refine norm_ (a' := ?_) ?_ ?_
           rotate_left
           ·show Act.put _ (some 33) _ = _
            simp only [Act.put, List.setIfInBounds_toArray, List.set_cons_zero, List.set_cons_succ, i64_w, i32_w]
            rfl
           refine one_ (i := 6) (N := some 29) #[true, true, true, true, true, true, true, false, true, true, true, false, false, false] rfl rfl (one_of HT_.out (by kernel_rfl)) (by decide) (fun K hK => ?_)
           refine Kd.R_lit_step (Kd.int .i64) _ 2 ?hg (N := 29) ?hd (xs := ([wrap64 (Int.tdiv (wrap64 (a0 * (rd l1 x18_1))) t175)] : List Int)) (inner := [.int .i64 (wrap64 (Int.tdiv (wrap64 (a0 * (rd l1 x18_1))) t175))]) (ok := fun _ => True) (okp := fun _ => True) ?hr ?hp (fun _ hk => hk) trivial (Below.refl _ _) (Nat.le_refl _) (by simp) ?_; (case hd => rfl); (case hg => rfl); (case hr => first | (go_simp; done) | (go_simp; rfl)); (case hp => exact (Reps.one (show Kd.M (Kd.int .i64) _ _ _ (wrap64 (Int.tdiv (wrap64 (a0 * (rd l1 x18_1))) t175)) [.int .i64 (wrap64 (Int.tdiv (wrap64 (a0 * (rd l1 x18_1))) t175))] from rfl) (Reps.none _ _)))
           intro v186 w34 ho35 hb hg_ hnew_
           clear hg_ hnew_
           (first | rw [← Ny185.out] at ho35 | (simp only [Int.reduceToNat] at ho35; rw [← Ny185.out] at ho35))
           have n0_ := Aside0.mk (Kd.R_elder' (by (with_reducible repeat (first | apply Kd.R_alloc | apply Kd.R_drewN | apply Kd.R_drew)); exact HO_6.out) (Kd.R_base ho35) hb)
           have n1_ := Aside0.mk (Kd.R_below (by (with_reducible repeat (first | apply Kd.R_alloc | apply Kd.R_drewN | apply Kd.R_drew)); exact HO_184000.out) hb)
           have n2_ := Aside0.mk (Kd.R_below (by (with_reducible repeat (first | apply Kd.R_alloc | apply Kd.R_drewN | apply Kd.R_drew)); exact HO193.out) hb)
           have n3_ := Aside0.mk (Kd.R_lower (Kd.R_newB (Kd.R_newB (Kd.R_new' ho35 (Kd.R_lt (by (with_reducible repeat (first | apply Kd.R_alloc | apply Kd.R_drewN | apply Kd.R_drew)); exact HO_6.out))) (g := gb173) (o := .cells #[.int .i64 a0] 2 (0, 0)) (by (with_reducible repeat (first | refine blk_drewN ?_ _ | refine blk_drew ?_ | refine blk_alloc ?_ _)); exact BK173.out)) (g := gb176) (o := .cells #[.int .i64 t175] 2 (0, 0)) (by (with_reducible repeat (first | refine blk_drewN ?_ _ | refine blk_drew ?_ | refine blk_alloc ?_ _)); exact BK176.out)) (below_size (by repeat (first | (with_reducible first | exact HB.out | apply below_alloc | apply pw_below_drewN | apply below_drew1 | refine below_set ?_ GE173.out | refine below_set ?_ GE174.out | refine below_set ?_ GE176.out | refine below_set ?_ GE183.out) | exact HB.out))))
           have n4_ := Aside0.mk (blk_below (g := gb173) (o := .cells #[.int .i64 a0] 2 (0, 0)) (by (with_reducible repeat (first | refine blk_drewN ?_ _ | refine blk_drew ?_ | refine blk_alloc ?_ _)); exact BK173.out) hb)
           have n5_ := Aside0.mk (blk_below (g := gb174) (o := .cells #[.slice (some ad184) l1.length c1] 30 (0, 0)) (by (with_reducible repeat (first | refine blk_drewN ?_ _ | refine blk_drew ?_ | refine blk_alloc ?_ _)); exact BK174.out) hb)
           have n6_ := Aside0.mk (blk_below (g := gb176) (o := .cells #[.int .i64 t175] 2 (0, 0)) (by (with_reducible repeat (first | refine blk_drewN ?_ _ | refine blk_drew ?_ | refine blk_alloc ?_ _)); exact BK176.out) hb)
           have n7_ := Aside0.mk (blk_below (g := gb183) (o := .cells #[.slice Ao30 x184000_1.length co30] 95 (0, 0)) (by (with_reducible repeat (first | refine blk_drewN ?_ _ | refine blk_drew ?_ | refine blk_alloc ?_ _)); exact BK183.out) hb)
           have n8_ := Aside0.mk (below_step (by repeat (first | (with_reducible first | exact HB.out | apply below_alloc | apply pw_below_drewN | apply below_drew1 | refine below_set ?_ GE173.out | refine below_set ?_ GE174.out | refine below_set ?_ GE176.out | refine below_set ?_ GE183.out) | exact HB.out)) hb)
           clear HO_6
           clear HO_184000
           clear HO193
           clear BK173
           clear BK174
           clear BK176
           clear BK183
           clear HB
           have HO_6 := n0_
           have HO_184000 := n1_
           have HO193 := n2_
           have HO187 := n3_
           have BK173 := n4_
           have BK174 := n5_
           have BK176 := n6_
           have BK183 := n7_
           have HB := n8_
           clear n0_ n1_ n2_ n3_ n4_ n5_ n6_ n7_ n8_
           clear hb ho35
           obtain ⟨Ao37, co37, eo37⟩ := Kd.R_slice HO187.out
           (first | subst eo37 | (injection eo37 with f1_ f2_ f3_; have f4_ := f1_.symm; have f5_ := f3_.symm; clear f1_ f2_ f3_; subst f4_; subst f5_))
           refine hK.out _ _ ⟨(blk_cell BK173.out 0).trans rfl, (blk_cell BK176.out 0).trans rfl, (blk_cell BK183.out 0).trans rfl⟩ (fun hHeld => ?_)
           clear hK K
           refine norm_ (a' := ?_) ?_ ?_
           rotate_left
           ·show Act.put _ (some 29) _ = _
            simp only [Act.put, List.setIfInBounds_toArray, List.set_cons_zero, List.set_cons_succ, i64_w, i32_w]
            rfl
           refine one_ (i := 7) (N := some 30) #[true, true, true, true, true, true, true, true, true, true, true, false, false, false] rfl rfl (one_of HT_.out (by kernel_rfl)) (by decide) (fun K hK => ?_)
           refine Kd.R_append_rows_step (Kd.int .i64) (w0 := w) w.heap.size (by rfl) (.tmp 23) (.tmp 29) 30 2 (.int .i64 0) 8 rfl Try.underlying30 info2 rfl (by decide) (by omega) (.slice Ao29 x6_1.length co29) x6_1 y185 _ _ _ (fun k_ => some k_ ≠ (.slice Ao37 y185.length co37 : Value).ownBlock ∧ k_ ≠ gb173 ∧ k_ ≠ gb176) (fun _ => False) rfl rfl ?aO ?aR (fun _ _ h => h) (fun _ h => h.elim) ?aF ?aB ?aS ?aL ?_
           (case aR => repeat (first | exact (Kd.R_reads' HO187.out).2.2 | (with_reducible refine Kd.C_alloc ?_ _) | (with_reducible refine Kd.C_drewN ?_ _) | (with_reducible refine Kd.C_drew ?_)))
           (case aB => exact (by repeat (first | (with_reducible first | exact HB.out | apply below_alloc | apply pw_below_drewN | apply below_drew1 | refine below_set ?_ GE173.out | refine below_set ?_ GE174.out | refine below_set ?_ GE176.out | refine below_set ?_ GE183.out) | exact HB.out)))
           (case aF => exact (fun k_ hk => ⟨Kd.fresh' (Kd.R_lt (by (with_reducible repeat (first | apply Kd.R_alloc | apply Kd.R_drewN | apply Kd.R_drew)); exact HO187.out)) k_ hk, Kd.freshB (g := gb173) (o := .cells #[.int .i64 a0] 2 (0, 0)) (by (with_reducible repeat (first | refine blk_drewN ?_ _ | refine blk_drew ?_ | refine blk_alloc ?_ _)); exact BK173.out) k_ hk, Kd.freshB (g := gb176) (o := .cells #[.int .i64 t175] 2 (0, 0)) (by (with_reducible repeat (first | refine blk_drewN ?_ _ | refine blk_drew ?_ | refine blk_alloc ?_ _)); exact BK176.out) k_ hk⟩))
           (case aO => exact (by (with_reducible repeat (first | apply Kd.R_alloc | apply Kd.R_drewN | apply Kd.R_drew)); exact Kd.R_mono HO_6.out (fun _ hk => ⟨hk.2, ⟨hk.1.1, hk.1.2⟩⟩)))
           (case aS => exact (below_size (by repeat (first | (with_reducible first | exact HB.out | apply below_alloc | apply pw_below_drewN | apply below_drew1 | refine below_set ?_ GE173.out | refine below_set ?_ GE174.out | refine below_set ?_ GE176.out | refine below_set ?_ GE183.out) | exact HB.out))))
           (case aL => have := LMc27.out; omega)
           intro v189 w36 ho hb hg hat
           rw [← Ny188.out] at ho
           have n0_ := Aside0.mk (Kd.R_over' (by (with_reducible repeat (first | apply Kd.R_alloc | apply Kd.R_drewN | apply Kd.R_drew)); exact HO_184000.out) (Kd.R_typed (by (with_reducible repeat (first | apply Kd.R_alloc | apply Kd.R_drewN | apply Kd.R_drew)); exact HO_6.out)) (by decide) hg)
           have n1_ := Aside0.mk (blk_grown (g := gb173) (o := .cells #[.int .i64 a0] 2 (0, 0)) (by (with_reducible repeat (first | refine blk_drewN ?_ _ | refine blk_drew ?_ | refine blk_alloc ?_ _)); exact BK173.out) hg (Kd.R_away HO_6.out (fun _ hk => hk.1.1)))
           have n2_ := Aside0.mk (blk_grown (g := gb174) (o := .cells #[.slice (some ad184) l1.length c1] 30 (0, 0)) (by (with_reducible repeat (first | refine blk_drewN ?_ _ | refine blk_drew ?_ | refine blk_alloc ?_ _)); exact BK174.out) hg (Kd.R_ne HO_6.out BK174.out (by decide)))
           have n3_ := Aside0.mk (blk_grown (g := gb176) (o := .cells #[.int .i64 t175] 2 (0, 0)) (by (with_reducible repeat (first | refine blk_drewN ?_ _ | refine blk_drew ?_ | refine blk_alloc ?_ _)); exact BK176.out) hg (Kd.R_away HO_6.out (fun _ hk => hk.1.2)))
           have n4_ := Aside0.mk (blk_grown (g := gb183) (o := .cells #[.slice Ao30 x184000_1.length co30] 95 (0, 0)) (by (with_reducible repeat (first | refine blk_drewN ?_ _ | refine blk_drew ?_ | refine blk_alloc ?_ _)); exact BK183.out) hg (Kd.R_ne HO_6.out BK183.out (by decide)))
           have n5_ := Aside0.mk (Kd.R_over' (by (with_reducible repeat (first | apply Kd.R_alloc | apply Kd.R_drewN | apply Kd.R_drew)); exact HO193.out) (Kd.R_typed (by (with_reducible repeat (first | apply Kd.R_alloc | apply Kd.R_drewN | apply Kd.R_drew)); exact HO_6.out)) (by decide) hg)
           have n6_ := Aside0.mk (Kd.R_after (ok := (fun k_ => k_ ≠ gb173 ∧ k_ ≠ gb176)) (by (with_reducible repeat (first | apply Kd.R_alloc | apply Kd.R_drewN | apply Kd.R_drew)); exact Kd.R_mono HO187.out (fun _ hk => ⟨⟨hk.1.2, hk.2⟩, hk.1.1.2⟩)) hg hat)
           have n7_ := Aside0.mk (hb)
           have n8_ := Aside0.mk (ho)
           clear HO_184000
           clear BK173
           clear BK174
           clear BK176
           clear BK183
           clear HO193
           clear HO187
           clear HB
           clear HO_6
           have HO_184000 := n0_
           have BK173 := n1_
           have BK174 := n2_
           have BK176 := n3_
           have BK183 := n4_
           have HO193 := n5_
           have HO187 := n6_
           have HB := n7_
           have HO190 := n8_
           clear n0_ n1_ n2_ n3_ n4_ n5_ n6_ n7_ n8_
           clear ho hb hg hat
           refine hK.out _ _ ⟨(blk_cell BK173.out 0).trans rfl, (blk_cell BK176.out 0).trans rfl, (blk_cell BK183.out 0).trans rfl⟩ (fun hHeld => ?_)
           clear hK K
           refine norm_ (a' := ?_) ?_ ?_
           rotate_left
           ·show Act.put _ (some 30) _ = _
            simp only [Act.put, List.setIfInBounds_toArray, List.set_cons_zero, List.set_cons_succ, i64_w, i32_w]
            rfl
           exact norm_ (by simp only [putAll, Act.put, List.setIfInBounds_toArray, List.set_cons_zero, List.set_cons_succ]) (hCont (.slice Ao37 y185.length co37, v189, v192) _ ⟨hHeld, (by (with_reducible repeat (first | apply Kd.R_alloc | apply Kd.R_drewN | apply Kd.R_drew)); exact Kd.R_mono HO187.out (fun _ hk => ⟨hk.2, ⟨hk.1.1, hk.1.2⟩⟩)), (by (with_reducible repeat (first | apply Kd.R_alloc | apply Kd.R_drewN | apply Kd.R_drew)); exact HO190.out), (by (with_reducible repeat (first | apply Kd.R_alloc | apply Kd.R_drewN | apply Kd.R_drew)); exact Kd.R_mono HO193.out (fun _ hk => hk.2)), (by (with_reducible repeat (first | apply Kd.R_alloc | apply Kd.R_drewN | apply Kd.R_drew)); exact Kd.R_mono HO_184000.out (fun _ hk => hk.2)), (by (with_reducible repeat (first | refine blk_drewN ?_ _ | refine blk_drew ?_ | refine blk_alloc ?_ _)); exact BK173.out), (by (with_reducible repeat (first | refine blk_drewN ?_ _ | refine blk_drew ?_ | refine blk_alloc ?_ _)); exact BK174.out), (by (with_reducible repeat (first | refine blk_drewN ?_ _ | refine blk_drew ?_ | refine blk_alloc ?_ _)); exact BK176.out), (by (with_reducible repeat (first | refine blk_drewN ?_ _ | refine blk_drew ?_ | refine blk_alloc ?_ _)); exact BK183.out), (by repeat (first | (with_reducible first | exact HB.out | apply below_alloc | apply pw_below_drewN | apply below_drew1 | refine below_set ?_ GE173.out | refine below_set ?_ GE174.out | refine below_set ?_ GE176.out | refine below_set ?_ GE183.out) | exact HB.out))⟩)
         rintro ⟨v186, v189, v192⟩ w38 ⟨hS_, h0_, h1_, h2_, h3_, h4_, h5_, h6_, h7_, h8_⟩
         have n0_ : Aside0 (Kd.R (Kd.int .i64) 2 w38 w.heap.size (fun k_ => some k_ ≠ (v189 : Value).ownBlock ∧ k_ ≠ gb173 ∧ k_ ≠ gb176) v186 y185) := ⟨h0_⟩
         have n1_ : Aside0 (Kd.R (Kd.int .i64) 2 w38 w.heap.size (fun k_ => some k_ ≠ (v186 : Value).ownBlock ∧ k_ ≠ gb173 ∧ k_ ≠ gb176) v189 y188) := ⟨h1_⟩
         have n2_ : Aside0 (Kd.R (Kd.int .i64) 3 w38 w.heap.size (fun k_ => some k_ ≠ (.slice Ao30 x184000_1.length co30 : Value).ownBlock) v192 y191) := ⟨h2_⟩
         have n3_ : Aside0 (Kd.R (Kd.int .i64) 3 w38 w.heap.size (fun k_ => some k_ ≠ (v192 : Value).ownBlock) (.slice Ao30 x184000_1.length co30) x184000_1) := ⟨h3_⟩
         have n4_ : Aside0 (w38.heap[gb173]? = some (.cells #[.int .i64 a0] 2 (0, 0))) := ⟨h4_⟩
         have n5_ : Aside0 (w38.heap[gb174]? = some (.cells #[.slice (some ad184) l1.length c1] 30 (0, 0))) := ⟨h5_⟩
         have n6_ : Aside0 (w38.heap[gb176]? = some (.cells #[.int .i64 t175] 2 (0, 0))) := ⟨h6_⟩
         have n7_ : Aside0 (w38.heap[gb183]? = some (.cells #[.slice Ao30 x184000_1.length co30] 95 (0, 0))) := ⟨h7_⟩
         have n8_ : Aside0 (Below w.heap.size w w38) := ⟨h8_⟩
         clear HO_6
         clear HO_184000
         clear BK173
         clear BK174
         clear BK176
         clear BK183
         clear HB
         clear h0_ h1_ h2_ h3_ h4_ h5_ h6_ h7_ h8_
         have HO187 := n0_
         have HO190 := n1_
         have HO193 := n2_
         have HO_184000 := n3_
         have BK173 := n4_
         have BK174 := n5_
         have BK176 := n6_
         have BK183 := n7_
         have HB := n8_
         clear n0_ n1_ n2_ n3_ n4_ n5_ n6_ n7_ n8_
         have hHeld : w38.cell? ⟨gb173, 0, none⟩ = some (.int .i64 a0) ∧ w38.cell? ⟨gb176, 0, none⟩ = some (.int .i64 t175) ∧ w38.cell? ⟨gb183, 0, none⟩ = some (.slice Ao30 x184000_1.length co30) := hS_
         obtain ⟨Ao40, co40, eo40⟩ := Kd.R_slice HO193.out
         (first | subst eo40 | (injection eo40 with f1_ f2_ f3_; have f4_ := f1_.symm; have f5_ := f3_.symm; clear f1_ f2_ f3_; subst f4_; subst f5_))
         refine norm_ (a' := ?_) ?_ ?_
         rotate_left
         ·simp only [putAll, Act.put, List.setIfInBounds_toArray, List.set_cons_zero, List.set_cons_succ]
          rfl
         refine one_ (i := 11) (N := some 34) #[true, true, true, true, true, true, true, true, true, true, true, true, false, false] rfl rfl (one_of HT_.out (by kernel_rfl)) (by decide) (fun K hK => ?_)
         refine Kd.R_append_rows_step (Kd.int .i64) (w0 := w) w.heap.size (by rfl) (.tmp 31) (.tmp 33) 95 3 (.int .i64 0) 8 rfl Try.underlying95 info3 rfl (by decide) (by omega) (.slice Ao30 x184000_1.length co30) x184000_1 y191 _ _ _ (fun k_ => some k_ ≠ (.slice Ao40 y191.length co40 : Value).ownBlock) (fun _ => False) rfl rfl ?aO ?aR (fun _ _ h => h) (fun _ h => h.elim) ?aF ?aB ?aS ?aL ?_
         (case aR => repeat (first | exact (Kd.R_reads' HO193.out).2.2 | (with_reducible refine Kd.C_alloc ?_ _) | (with_reducible refine Kd.C_drewN ?_ _) | (with_reducible refine Kd.C_drew ?_)))
         (case aB => exact (by repeat (first | (with_reducible first | exact HB.out | apply below_alloc | apply pw_below_drewN | apply below_drew1 | refine below_set ?_ GE173.out | refine below_set ?_ GE174.out | refine below_set ?_ GE176.out | refine below_set ?_ GE183.out) | exact HB.out)))
         (case aF => exact (fun k_ hk => Kd.fresh' (Kd.R_lt (by (with_reducible repeat (first | apply Kd.R_alloc | apply Kd.R_drewN | apply Kd.R_drew)); exact HO193.out)) k_ hk))
         (case aO => exact (by (with_reducible repeat (first | apply Kd.R_alloc | apply Kd.R_drewN | apply Kd.R_drew)); exact HO_184000.out))
         (case aS => exact (below_size (by repeat (first | (with_reducible first | exact HB.out | apply below_alloc | apply pw_below_drewN | apply below_drew1 | refine below_set ?_ GE173.out | refine below_set ?_ GE174.out | refine below_set ?_ GE176.out | refine below_set ?_ GE183.out) | exact HB.out))))
         (case aL => have := LMc28.out; omega)
         intro v195 w39 ho hb hg hat
         rw [← Ny194.out] at ho
         have n0_ := Aside0.mk (blk_grown (g := gb173) (o := .cells #[.int .i64 a0] 2 (0, 0)) (by (with_reducible repeat (first | refine blk_drewN ?_ _ | refine blk_drew ?_ | refine blk_alloc ?_ _)); exact BK173.out) hg (Kd.R_ne HO_184000.out BK173.out (by decide)))
         have n1_ := Aside0.mk (blk_grown (g := gb174) (o := .cells #[.slice (some ad184) l1.length c1] 30 (0, 0)) (by (with_reducible repeat (first | refine blk_drewN ?_ _ | refine blk_drew ?_ | refine blk_alloc ?_ _)); exact BK174.out) hg (Kd.R_ne HO_184000.out BK174.out (by decide)))
         have n2_ := Aside0.mk (blk_grown (g := gb176) (o := .cells #[.int .i64 t175] 2 (0, 0)) (by (with_reducible repeat (first | refine blk_drewN ?_ _ | refine blk_drew ?_ | refine blk_alloc ?_ _)); exact BK176.out) hg (Kd.R_ne HO_184000.out BK176.out (by decide)))
         have n3_ := Aside0.mk (blk_grown (g := gb183) (o := .cells #[.slice Ao30 x184000_1.length co30] 95 (0, 0)) (by (with_reducible repeat (first | refine blk_drewN ?_ _ | refine blk_drew ?_ | refine blk_alloc ?_ _)); exact BK183.out) hg (Kd.R_ne HO_184000.out BK183.out (by decide)))
         have n4_ := Aside0.mk (Kd.R_over' (by (with_reducible repeat (first | apply Kd.R_alloc | apply Kd.R_drewN | apply Kd.R_drew)); exact HO187.out) (Kd.R_typed (by (with_reducible repeat (first | apply Kd.R_alloc | apply Kd.R_drewN | apply Kd.R_drew)); exact HO_184000.out)) (by decide) hg)
         have n5_ := Aside0.mk (Kd.R_over' (by (with_reducible repeat (first | apply Kd.R_alloc | apply Kd.R_drewN | apply Kd.R_drew)); exact HO190.out) (Kd.R_typed (by (with_reducible repeat (first | apply Kd.R_alloc | apply Kd.R_drewN | apply Kd.R_drew)); exact HO_184000.out)) (by decide) hg)
         have n6_ := Aside0.mk (Kd.R_after (ok := (fun _ => True)) (by (with_reducible repeat (first | apply Kd.R_alloc | apply Kd.R_drewN | apply Kd.R_drew)); exact Kd.R_mono HO193.out (fun _ hk => ⟨trivial, hk⟩)) hg hat)
         have n7_ := Aside0.mk (hb)
         have n8_ := Aside0.mk (ho)
         clear BK173
         clear BK174
         clear BK176
         clear BK183
         clear HO187
         clear HO190
         clear HO193
         clear HB
         clear HO_184000
         have BK173 := n0_
         have BK174 := n1_
         have BK176 := n2_
         have BK183 := n3_
         have HO187 := n4_
         have HO190 := n5_
         have HO193 := n6_
         have HB := n7_
         have HO196 := n8_
         clear n0_ n1_ n2_ n3_ n4_ n5_ n6_ n7_ n8_
         clear ho hb hg hat
         obtain ⟨Ao41, co41, eo41⟩ := Kd.R_slice HO196.out
         (first | subst eo41 | (injection eo41 with f1_ f2_ f3_; have f4_ := f1_.symm; have f5_ := f3_.symm; clear f1_ f2_ f3_; subst f4_; subst f5_))
         refine hK.out _ _ ⟨(blk_cell BK173.out 0).trans rfl, (blk_cell BK176.out 0).trans rfl, (blk_cell BK183.out 0).trans rfl⟩ (fun hHeld => ?_)
         clear hK K
         refine norm_ (a' := ?_) ?_ ?_
         rotate_left
         ·show Act.put _ (some 34) _ = _
          simp only [Act.put, List.setIfInBounds_toArray, List.set_cons_zero, List.set_cons_succ, i64_w, i32_w]
          rfl
         refine pure_ (i := 12) (N := some 6) (v := ?_) (a' := ?_) #[true, true, true, true, true, true, true, true, true, true, true, true, true, false] rfl rfl (any_of HT_.out (by kernel_rfl)) (fun _ _ _ h => h) (Or.inl ⟨by rfl, ?_⟩) ?_ ?_
         rotate_left
         ·intro w'
          go_simp
          with_reducible rfl
         rotate_left
         ·simp only [Act.put, List.setIfInBounds_toArray, List.set_cons_zero, List.set_cons_succ, i64_w, i32_w]; rfl
         refine last_ (i := 13) (N := none) #[true, true, true, true, true, true, true, true, true, true, true, true, true, true] rfl rfl (one_of HT_.out (by kernel_rfl)) (by decide) (fun K hK => ?_)
         have hs42 : w39.cell? ⟨gb183, 0, none⟩ = some (.slice Ao30 x184000_1.length co30) := (blk_cell BK183.out 0).trans rfl
         have hfs42 := blk_frozen BK183.out 0
         have hns42_0 := NB173_183.out
         have hns42_1 := NB174_183.out
         have hns42_2 := NB176_183.out
         have hms42_0 := NB183_173.out
         have hms42_1 := NB183_174.out
         have hms42_2 := NB183_176.out
         refine skip_ (w1 := ?_) (by rfl) rfl ?_ ?_
         rotate_left
         ·go_simp
          rfl
         refine hK.out _ _ ?_
         clear hK K
         refine done_ (done_of HT_.out (by kernel_rfl)) ?_
         try go_wp2
         go_roundg k1
         case measure => have := HK1.out; omega
         case rel => exact ⟨(y188), (wrap64 (x18_1 + 1)), (y194), (.slice Ao41 y194.length co41), (by first | rfl | (simp; done) | (simp [*]; done)), H', ⟨by have := HK1.out; omega⟩, ⟨by (with_reducible repeat (first | apply Kd.R_alloc | apply Kd.R_drewN | apply Kd.R_drew)); exact Kd.R_mono (Kd.R_far (p := ⟨gb183, 0, none⟩) (Kd.R_types HO190.out BK183.out (by decide)) (fun _ hk => hk.2) (.slice Ao41 y194.length co41)) (fun _ hk => ⟨hk.1.2.1, hk.1.2.2⟩)⟩, ⟨by (with_reducible repeat (first | apply Kd.R_alloc | apply Kd.R_drewN | apply Kd.R_drew)); exact Kd.R_mono (Kd.R_far (p := ⟨gb183, 0, none⟩) (Kd.R_types HO196.out BK183.out (by decide)) (fun _ hk => hk.2) (.slice Ao41 y194.length co41)) (fun _ hk => trivial)⟩, ⟨by (with_reducible repeat (first | refine blk_drewN ?_ _ | refine blk_drew ?_ | refine blk_alloc ?_ _)); refine blk_far ?_ NB173_183.out _; (with_reducible repeat (first | refine blk_drewN ?_ _ | refine blk_drew ?_ | refine blk_alloc ?_ _)); exact BK173.out⟩, ⟨by (with_reducible repeat (first | refine blk_drewN ?_ _ | refine blk_drew ?_ | refine blk_alloc ?_ _)); refine blk_far ?_ NB174_183.out _; (with_reducible repeat (first | refine blk_drewN ?_ _ | refine blk_drew ?_ | refine blk_alloc ?_ _)); exact BK174.out⟩, ⟨by (with_reducible repeat (first | refine blk_drewN ?_ _ | refine blk_drew ?_ | refine blk_alloc ?_ _)); refine blk_far ?_ NB176_183.out _; (with_reducible repeat (first | refine blk_drewN ?_ _ | refine blk_drew ?_ | refine blk_alloc ?_ _)); exact BK176.out⟩, ⟨by (with_reducible repeat (first | refine blk_drewN ?_ _ | refine blk_drew ?_ | refine blk_alloc ?_ _)); refine blk_put (cs := #[.slice Ao30 x184000_1.length co30]) ?_ 0 _ rfl; (with_reducible repeat (first | refine blk_drewN ?_ _ | refine blk_drew ?_ | refine blk_alloc ?_ _)); exact BK183.out⟩, ⟨by repeat (first | (with_reducible first | exact HB.out | apply below_alloc | apply pw_below_drewN | apply below_drew1 | refine below_set ?_ GE173.out | refine below_set ?_ GE174.out | refine below_set ?_ GE176.out | refine below_set ?_ GE183.out) | exact HB.out)⟩⟩
        ·rw [if_neg c28] at H
         exact absurd H (by simp)
       ·rw [if_neg c27] at H
        exact absurd H (by simp)
     ·rw [if_neg c25] at H
      exact absurd H (by simp)
    ·rw [if_neg c24] at H
     exact absurd H (by simp)
   ·rw [if_neg c23] at H
    have c23b0 : decide (x18_1 < (l1.length : Int)) = false := decide_eq_false c23
    clear c23
    by_cases c43 : shOk l1 t175 x184000_1 = true
    ·rw [if_pos c43] at H
     have c43b0 := eq_true c43
     have c43b1 : decide (shOk l1 t175 x184000_1 = true) = true := decide_eq_true c43
     clear c43
     obtain ⟨y197, hy197⟩ : ∃ y_ : List Int, y_ = (shSort a0 l1 t175 x184000_1) := ⟨_, rfl⟩
     replace H : ((impl_sum.f k1 x6_1).bind fun t198 => (if 0 ≤ (wrap64 (a0 - t198)) then (if (wrap64 (a0 - t198)) ≤ (x184000_1.length : Int) then ((some (y197.take ((wrap64 (a0 - t198)) : Int).toNat : List Int)).bind fun y199 => (impl_shareOut.l1 k1 x6_1 y199 (y199.length : Int) 0)) else (none)) else (none))) = some r := by first | (rw [hy197]; with_reducible exact H) | (have H2_ := (Option.bind_some _ _).symm.trans H; rw [hy197]; with_reducible exact H2_) | (have H2_ := (Option.bind_some _ _).symm.trans H; with_reducible exact H2_) | with_reducible exact H | (rw [hy197]; exact H) | exact H
     have Ny197 := Aside0.mk hy197
     clear hy197
     replace H := Option.bind_eq_some_iff.mp H
     obtain ⟨t198, A440, H⟩ := H
     replace H : (if 0 ≤ (wrap64 (a0 - t198)) then (if (wrap64 (a0 - t198)) ≤ (x184000_1.length : Int) then ((some (y197.take ((wrap64 (a0 - t198)) : Int).toNat : List Int)).bind fun y199 => (impl_shareOut.l1 k1 x6_1 y199 (y199.length : Int) 0)) else (none)) else (none)) = some r := H
     have A44 := Aside0.mk A440
     clear A440
     obtain ⟨ji45, hji45⟩ : ∃ j_ : Int, (wrap64 (a0 - t198)) = j_ := ⟨_, rfl⟩
     replace H : (if 0 ≤ (ji45) then (if (ji45) ≤ (x184000_1.length : Int) then ((some (y197.take ((ji45) : Int).toNat : List Int)).bind fun y199 => (impl_shareOut.l1 k1 x6_1 y199 (y199.length : Int) 0)) else (none)) else (none)) = some r := by first | (rw [hji45] at H; exact H) | (simp only [hji45] at H ⊢; exact H)
     (try rw [hji45] at A44)
     have hji45w : (IntKind.i64.wrap (a0 - t198)) = ji45 := (i64_w _).trans hji45
     by_cases c46 : 0 ≤ (ji45)
     ·rw [if_pos c46] at H
      have c46b0 := eq_true c46
      have c46b1 : decide (0 ≤ (ji45)) = true := decide_eq_true c46
      clear c46
      by_cases c47 : (ji45) ≤ (x184000_1.length : Int)
      ·rw [if_pos c47] at H
       have c47b0 := eq_true c47
       have c47b1 : decide ((ji45) ≤ (x184000_1.length : Int)) = true := decide_eq_true c47
       clear c47
       obtain ⟨y199, hy199⟩ : ∃ y_ : List Int, y_ = (y197.take ((ji45) : Int).toNat) := ⟨_, rfl⟩
       replace H : (impl_shareOut.l1 k1 x6_1 y199 (y199.length : Int) 0) = some r := by first | (rw [hy199]; with_reducible exact H) | (have H2_ := (Option.bind_some _ _).symm.trans H; rw [hy199]; with_reducible exact H2_) | (have H2_ := (Option.bind_some _ _).symm.trans H; with_reducible exact H2_) | with_reducible exact H | (rw [hy199]; exact H) | exact H
       have Ny199 := Aside0.mk hy199
       clear hy199
       have H' := Aside0.mk H
       clear H
       have hnb48 := NB183_173.out
       have hnc48 := NB173_183.out
       have hnb49 := NB183_174.out
       have hnc49 := NB174_183.out
       have hnb50 := NB183_176.out
       have hnc50 := NB176_183.out
       have hcz51_0 : wr.cell? ⟨gb183, 0, none⟩ = some (u184000) := (blk_cell BK183.out 0).trans rfl
       have hfz51_0 := blk_frozen BK183.out 0
       obtain ⟨Ao54, co54, eo54⟩ := Kd.R_slice HO_184000.out
       subst eo54
       try go_wp2_with (first | ((with_reducible refine gate_callee (f := 84) rfl ?_); refine goesL_ (some 39) rfl rfl Try.func84 (by kernel_rfl) rfl #[.iface 95 (.slice Ao54 x184000_1.length co54), .func (.func 85) #[] #[.pointer (some ⟨gb173, 0, none⟩), .pointer (some ⟨gb174, 0, none⟩), .pointer (some ⟨gb183, 0, none⟩), .pointer (some ⟨gb176, 0, none⟩)]] rfl (by (try simp only [List.map_toArray, List.map_cons, List.map_nil]); first | done | rfl) ?_; (with_reducible refine (sort_SliceStable.calls a0 t175 _ c1 l1 x184000_1 gb173 gb174 gb183 gb176 w _ (.slice Ao54 x184000_1.length co54) _ ?ht ?hw ?ho ?hs ?nt ?nw ?no ?ns HR1.out (by repeat (first | (with_reducible first | exact HB.out | apply below_alloc | apply pw_below_drewN | apply below_drew1 | refine below_set ?_ GE173.out | refine below_set ?_ GE174.out | refine below_set ?_ GE176.out | refine below_set ?_ GE183.out) | exact HB.out)) (by (with_reducible repeat (first | apply Kd.R_alloc | apply Kd.R_drewN | apply Kd.R_drew)); exact HO_184000.out) ?hk).mono ?_); (case ht => exact (blk_cell (by (with_reducible repeat (first | refine blk_drewN ?_ _ | refine blk_drew ?_ | refine blk_alloc ?_ _)); exact BK173.out) 0).trans rfl); (case hw => exact (blk_cell (by (with_reducible repeat (first | refine blk_drewN ?_ _ | refine blk_drew ?_ | refine blk_alloc ?_ _)); exact BK174.out) 0).trans rfl); (case ho => exact (blk_cell (by (with_reducible repeat (first | refine blk_drewN ?_ _ | refine blk_drew ?_ | refine blk_alloc ?_ _)); exact BK183.out) 0).trans rfl); (case hs => exact (blk_cell (by (with_reducible repeat (first | refine blk_drewN ?_ _ | refine blk_drew ?_ | refine blk_alloc ?_ _)); exact BK176.out) 0).trans rfl); (case nt => exact Kd.R_ne HO_184000.out BK173.out (by decide)); (case nw => exact Kd.R_ne HO_184000.out BK174.out (by decide)); (case no => exact Kd.R_ne HO_184000.out BK183.out (by decide)); (case ns => exact Kd.R_ne HO_184000.out BK176.out (by decide)); (case hk => exact of_decide_eq_true (by first | (with_reducible assumption) | assumption)); rintro e w52 ⟨rfl, ho, hg, hb⟩; refine ⟨_, rfl, ?_⟩; rw [← Ny197.out] at ho; have n0_ := Aside0.mk (Kd.R_over' (v := (.slice Ao54 x184000_1.length co54)) (by (with_reducible repeat (first | apply Kd.R_alloc | apply Kd.R_drewN | apply Kd.R_drew)); exact HO_6.out) (Kd.R_typed HO_184000.out) (by decide) hg); have n1_ := Aside0.mk (ho); have n2_ := Aside0.mk (blk_grown (g := gb173) (o := .cells #[.int .i64 a0] 2 (0, 0)) (by (with_reducible repeat (first | refine blk_drewN ?_ _ | refine blk_drew ?_ | refine blk_alloc ?_ _)); exact BK173.out) hg (Kd.R_ne HO_184000.out BK173.out (by decide))); have n3_ := Aside0.mk (blk_grown (g := gb174) (o := .cells #[.slice A1 l1.length c1] 30 (0, 0)) (by (with_reducible repeat (first | refine blk_drewN ?_ _ | refine blk_drew ?_ | refine blk_alloc ?_ _)); exact BK174.out) hg (Kd.R_ne HO_184000.out BK174.out (by decide))); have n4_ := Aside0.mk (blk_grown (g := gb176) (o := .cells #[.int .i64 t175] 2 (0, 0)) (by (with_reducible repeat (first | refine blk_drewN ?_ _ | refine blk_drew ?_ | refine blk_alloc ?_ _)); exact BK176.out) hg (Kd.R_ne HO_184000.out BK176.out (by decide))); have n5_ := Aside0.mk (blk_grown (g := gb183) (o := .cells #[.slice Ao54 x184000_1.length co54] 95 (0, 0)) (by (with_reducible repeat (first | refine blk_drewN ?_ _ | refine blk_drew ?_ | refine blk_alloc ?_ _)); exact BK183.out) hg (Kd.R_ne HO_184000.out BK183.out (by decide))); have n6_ := Aside0.mk (hb); clear HO_6; clear HO_184000; clear BK173; clear BK174; clear BK176; clear BK183; clear HB; have HO_6 := n0_; have HO_184000 := n1_; have BK173 := n2_; have BK174 := n3_; have BK176 := n4_; have BK183 := n5_; have HB := n6_; clear n0_ n1_ n2_ n3_ n4_ n5_ n6_; clear ho hb hg))
       have n0_ := Aside0.mk (Kd.R_drew HO_6.out)
       have n1_ := Aside0.mk (Kd.R_drew HO_184000.out)
       have n2_ := Aside0.mk (blk_drew BK173.out)
       have n3_ := Aside0.mk (blk_drew BK174.out)
       have n4_ := Aside0.mk (blk_drew BK176.out)
       have n5_ := Aside0.mk (blk_drew BK183.out)
       have n6_ := Aside0.mk (below_drew1 HB.out)
       clear HO_6
       clear HO_184000
       clear BK173
       clear BK174
       clear BK176
       clear BK183
       clear HB
       have HO_6 := n0_
       have HO_184000 := n1_
       have BK173 := n2_
       have BK174 := n3_
       have BK176 := n4_
       have BK183 := n5_
       have HB := n6_
       clear n0_ n1_ n2_ n3_ n4_ n5_ n6_
       obtain ⟨Ao56, co56, eo56⟩ := Kd.R_slice HO_6.out
       (first | subst eo56 | (injection eo56 with f1_ f2_ f3_; have f4_ := f1_.symm; have f5_ := f3_.symm; clear f1_ f2_ f3_; subst f4_; subst f5_))
       refine start_ (n := 8) (S := fun w' => w'.cell? ⟨gb183, 0, none⟩ = some (.slice Ao54 x184000_1.length co54) ∧ w'.cell? ⟨gb173, 0, none⟩ = some (.int .i64 a0)) (ds := []) #[false, false, false, false, false, false, false, false] (by kernel_rfl) rfl rfl ⟨(blk_cell BK183.out 0).trans rfl, (blk_cell BK173.out 0).trans rfl⟩ (fun hHeld => ?_); refine with_tabW impl_shareOut.tab9 impl_shareOut.bits9 (fun HT_ HW_ => ?_)
       generalize w52.drew = w55 at HO_6 HO_184000 BK173 BK174 BK176 BK183 HB hHeld ⊢
       refine pure_ (i := 2) (N := some 42) (v := ?_) (a' := ?_) #[false, false, true, false, false, false, false, false] rfl rfl (any_of HT_.out (by kernel_rfl)) (fun _ _ _ h => h) (Or.inl ⟨by rfl, ?_⟩) ?_ ?_
       rotate_left
       ·intro w'
        go_simp
        with_reducible rfl
       rotate_left
       ·simp only [Act.put, List.setIfInBounds_toArray, List.set_cons_zero, List.set_cons_succ, i64_w, i32_w]; rfl
       refine pure_ (i := 7) (N := some 47) (v := ?_) (a' := ?_) #[false, false, true, false, false, false, false, true] rfl rfl (any_of HT_.out (by kernel_rfl)) (fun _ _ _ h => h) (Or.inl ⟨by rfl, ?_⟩) ?_ ?_
       rotate_left
       ·intro w'
        go_simp
        with_reducible rfl
       rotate_left
       ·simp only [Act.put, List.setIfInBounds_toArray, List.set_cons_zero, List.set_cons_succ, i64_w, i32_w]; rfl
       refine take_ (i := 0) (N := some 40) (v := ?_) (a' := ?_) #[true, false, true, false, false, false, false, true] rfl rfl (take_ofW HT_.out HW_.out (by kernel_rfl)) (fun _ _ _ h => h) (Or.inl ⟨by rfl, ?_⟩) hHeld ?_ ?_
       rotate_left
       ·rintro w' ⟨s0, s1⟩
        go_simp
        with_reducible rfl
       rotate_left
       ·simp only [Act.put, List.setIfInBounds_toArray, List.set_cons_zero, List.set_cons_succ, i64_w, i32_w]; rfl
       refine take_ (i := 1) (N := some 41) (v := ?_) (a' := ?_) #[true, true, true, false, false, false, false, true] rfl rfl (take_ofW HT_.out HW_.out (by kernel_rfl)) (fun _ _ _ h => h) (Or.inl ⟨by rfl, ?_⟩) hHeld ?_ ?_
       rotate_left
       ·rintro w' ⟨s0, s1⟩
        go_simp
        with_reducible rfl
       rotate_left
       ·simp only [Act.put, List.setIfInBounds_toArray, List.set_cons_zero, List.set_cons_succ, i64_w, i32_w]; rfl
       refine one_ (i := 3) (N := some 43) #[true, true, true, true, false, false, false, true] rfl rfl (one_of HT_.out (by kernel_rfl)) (by decide) (fun K hK => ?_)
       refine goes_ Try.func49 (by kernel_rfl) rfl #[.slice Ao56 x6_1.length co56] (by rfl) rfl rfl (by (try simp only [List.map_toArray, List.map_cons, List.map_nil]); first | done | rfl | (simp only [List.length_drop, List.length_take]; rfl)) ?_
       with_reducible refine (impl_sum.calls k1 _ _ x6_1 t198 _ ?side1 ?side2 A44.out).mono ?_
       (case side1 => repeat (first | exact (Kd.R_reads' HO_6.out).2.2 | (with_reducible refine Kd.C_alloc ?_ _) | (with_reducible refine Kd.C_drewN ?_ _) | (with_reducible refine Kd.C_drew ?_)))
       (case side2 => exact (Kd.R_reads' HO_6.out).2.1)
       rintro e w' ⟨rfl, ⟨nd, rfl⟩⟩
       refine ⟨_, rfl, ?_⟩
       have hlx57 := (Kd.R_reads' HO_184000.out).1
       have q57 : ((ji45) : Int) ≤ ((x184000_1.length : Int) : Int) := of_decide_eq_true (by first | (with_reducible assumption) | assumption)
       obtain ⟨i057, hi057, _, hsz57, _⟩ := info_parts info3
       have hroom57 : x184000_1.length ≤ co54 := (Kd.R_reads' HO_184000.out).2.1
       have hroomc57 : y197.length ≤ co54 := (by rw [← hlx57]; exact hroom57)
       have hC57 : Kd.C (Kd.int .i64) _ Ao54 y197.length y197 := (Kd.R_reads' HO_184000.out).2.2
       have hcut57 := cut_to (P := Try.prog) 95 3 .i64 Try.underlying95 hi057 Ao54 x184000_1.length co54 (ji45) (of_decide_eq_true (by first | (with_reducible assumption) | assumption)) q57 hroom57
       have hr57 := Kd.C_take (m := ((ji45) : Int).toNat) hC57 (by omega)
       have hy57 : y199.length = ((ji45) : Int).toNat := (by rw [Ny199.out, List.length_take]; omega)
       rw [← Ny199.out] at hr57
       rw [← hy57] at hcut57
       have HR202 := Aside0.mk hr57
       have HC202 := Aside0.mk (show y199.length ≤ co54 from by omega)
       clear hr57 hC57 hroom57 hi057 hsz57 hroomc57
       have KY57 := Aside0.mk hy57
       clear hy57
       have KE57 := Aside0.mk hlx57
       have KL57 := Aside0.mk (show ((ji45) : Int).toNat ≤ y197.length from by omega)
       clear hlx57
       replace q57 := eq_true q57
       refine hK.out _ _ ⟨(blk_cell BK183.out 0).trans rfl, (blk_cell BK173.out 0).trans rfl⟩ (fun hHeld => ?_)
       clear hK K
       refine norm_ (a' := ?_) ?_ ?_
       rotate_left
       ·show Act.put _ (some 43) _ = _
        simp only [Act.put, List.setIfInBounds_toArray, List.set_cons_zero, List.set_cons_succ, i64_w, i32_w]
        rfl
       refine pure_ (i := 4) (N := some 44) (v := ?_) (a' := ?_) #[true, true, true, true, true, false, false, true] rfl rfl (any_of HT_.out (by kernel_rfl)) (fun _ _ _ h => h) (Or.inl ⟨by rfl, ?_⟩) ?_ ?_
       rotate_left
       ·intro w'
        go_simp
        with_reducible rfl
       rotate_left
       ·simp only [Act.put, List.setIfInBounds_toArray, List.set_cons_zero, List.set_cons_succ, i64_w, i32_w]; rfl
       refine pure_ (i := 5) (N := some 45) (v := ?_) (a' := ?_) #[true, true, true, true, true, true, false, true] rfl rfl (any_of HT_.out (by kernel_rfl)) (fun _ _ _ h => h) (Or.inl ⟨by rfl, ?_⟩) ?_ ?_
       rotate_left
       ·intro w'
        go_simp
        with_reducible rfl
       rotate_left
       ·simp only [Act.put, List.setIfInBounds_toArray, List.set_cons_zero, List.set_cons_succ, i64_w, i32_w]; rfl
       refine pure_ (i := 6) (N := some 46) (v := ?_) (a' := ?_) #[true, true, true, true, true, true, true, true] rfl rfl (any_of HT_.out (by kernel_rfl)) (fun _ _ _ h => h) (Or.inl ⟨by rfl, ?_⟩) ?_ ?_
       rotate_left
       ·intro w'
        go_simp
        with_reducible rfl
       rotate_left
       ·simp only [Act.put, List.setIfInBounds_toArray, List.set_cons_zero, List.set_cons_succ, i64_w, i32_w]; rfl
       refine done_ (done_of HT_.out (by kernel_rfl)) ?_
       try go_wp2
       go_loopg [47] k1 (fun kq v47 w' => ∃ (x6_2 : List Int) (x47_2 : Int), v47 = .int .i64 x47_2 ∧ Aside0 (impl_shareOut.l1 kq x6_2 y199 (y199.length : Int) x47_2 = some r) ∧ Aside0 (kq ≤ k1) ∧ Aside0 (Kd.R (Kd.int .i64) 2 w' w.heap.size (fun k_ => k_ ≠ gb173 ∧ k_ ≠ gb176) (.slice Ao56 x6_1.length co56) x6_2) ∧ Aside0 (Kd.R (Kd.int .i64) 3 w' w.heap.size (fun _ => True) (.slice Ao54 x184000_1.length co54) y197) ∧ Aside0 (w'.heap[gb173]? = some (.cells #[.int .i64 a0] 2 (0, 0))) ∧ Aside0 (w'.heap[gb174]? = some (.cells #[(.slice A1 l1.length c1)] 30 (0, 0))) ∧ Aside0 (w'.heap[gb176]? = some (.cells #[.int .i64 t175] 2 (0, 0))) ∧ Aside0 (w'.heap[gb183]? = some (.cells #[(.slice Ao54 x184000_1.length co54)] 95 (0, 0))) ∧ Aside0 (Kd.C (Kd.int .i64) w' Ao54 y199.length y199) ∧ Aside0 (Below w.heap.size w w'))
       case atStart => exact ⟨(x6_1), (0), (by first | rfl | (simp; done) | (simp [*]; done)), H', ⟨Nat.le_refl _⟩, ⟨by (with_reducible repeat (first | apply Kd.R_alloc | apply Kd.R_drewN | apply Kd.R_drew)); exact HO_6.out⟩, ⟨by (with_reducible repeat (first | apply Kd.R_alloc | apply Kd.R_drewN | apply Kd.R_drew)); exact HO_184000.out⟩, ⟨by (with_reducible repeat (first | refine blk_drewN ?_ _ | refine blk_drew ?_ | refine blk_alloc ?_ _)); exact BK173.out⟩, ⟨by (with_reducible repeat (first | refine blk_drewN ?_ _ | refine blk_drew ?_ | refine blk_alloc ?_ _)); exact BK174.out⟩, ⟨by (with_reducible repeat (first | refine blk_drewN ?_ _ | refine blk_drew ?_ | refine blk_alloc ?_ _)); exact BK176.out⟩, ⟨by (with_reducible repeat (first | refine blk_drewN ?_ _ | refine blk_drew ?_ | refine blk_alloc ?_ _)); exact BK183.out⟩, ⟨by repeat (first | (with_reducible exact HR202.out) | (with_reducible refine Kd.C_alloc ?_ _) | (with_reducible refine Kd.C_drewN ?_ _) | (with_reducible refine Kd.C_drew ?_) | exact HR202.out)⟩, ⟨by repeat (first | (with_reducible first | exact HB.out | apply below_alloc | apply pw_below_drewN | apply below_drew1 | refine below_set ?_ GE173.out | refine below_set ?_ GE174.out | refine below_set ?_ GE176.out | refine below_set ?_ GE183.out) | exact HB.out)⟩⟩
       case round =>
        clear H'
        try clear c1
        try clear c2
        try clear p2
        try clear c4
        try clear c5
        try clear q5
        try clear p6
        try clear c8
        try clear c23
        try clear c23b0
        try clear c24
        try clear c25
        try clear c27
        try clear c28
        try clear c43
        try clear c43b0
        try clear c43b1
        try clear c46
        try clear c46b0
        try clear c46b1
        try clear c47
        try clear c47b0
        try clear c47b1
        try clear c48
        try clear c49
        try clear c50
        try clear c57
        try clear q57
        try clear hcz51_0
        try clear hfz51_0
        try clear q57
        obtain ⟨x6_2, x47_2, rfl, HA, HK2, HO_6, HO_184000, BK173, BK174, BK176, BK183, HR202, HB⟩ := hrel
        have hl6_2 := (Kd.R_reads' HO_6.out).1
        rw [hl6_2] at HO_6
        (try simp only [hl6_2])
        (try simp only [hl6_2] at BK173)
        (try simp only [hl6_2] at BK174)
        (try simp only [hl6_2] at BK176)
        (try simp only [hl6_2] at BK183)
        (try simp only [hl6_2] at HO_184000)
        have hl184000_2 := (Kd.R_reads' HO_184000.out).1
        rw [hl184000_2] at HO_184000
        (try simp only [hl184000_2])
        (try simp only [hl184000_2] at BK173)
        (try simp only [hl184000_2] at BK174)
        (try simp only [hl184000_2] at BK176)
        (try simp only [hl184000_2] at BK183)
        (try simp only [hl184000_2] at HO_6)
        cases gk with
        | zero => exact absurd HA.out (by simp [impl_shareOut.l1])
        | succ k2 =>
         have H := HA.out
         clear HA
         simp only [impl_shareOut.l1] at H
         by_cases c58 : x47_2 < (y199.length : Int)
         ·rw [if_pos c58] at H
          have c58b0 : decide (x47_2 < (y199.length : Int)) = true := decide_eq_true c58
          clear c58
          by_cases c59 : 0 ≤ x47_2
          ·rw [if_pos c59] at H
           have c59b0 : decide (0 ≤ x47_2) = true := decide_eq_true c59
           clear c59
           by_cases c60 : x47_2 < (y199.length : Int)
           ·rw [if_pos c60] at H
            have c60b0 : decide (x47_2 < (y199.length : Int)) = true := decide_eq_true c60
            clear c60
            by_cases c61 : 0 ≤ (rd y199 x47_2)
            ·rw [if_pos c61] at H
             have c61b0 : decide (0 ≤ (rd y199 x47_2)) = true := decide_eq_true c61
             clear c61
             by_cases c62 : (rd y199 x47_2) < (x6_2.length : Int)
             ·rw [if_pos c62] at H
              have c62b0 : decide ((rd y199 x47_2) < (x6_2.length : Int)) = true := decide_eq_true c62
              clear c62
              obtain ⟨y205, hy205⟩ : ∃ y_ : List Int, y_ = (x6_2.set ((rd y199 x47_2) : Int).toNat (wrap64 ((rd x6_2 (rd y199 x47_2)) + 1))) := ⟨_, rfl⟩
              replace H : (impl_shareOut.l1 k2 y205 y199 (y199.length : Int) (wrap64 (x47_2 + 1))) = some r := by first | (rw [hy205]; with_reducible exact H) | (have H2_ := (Option.bind_some _ _).symm.trans H; rw [hy205]; with_reducible exact H2_) | (have H2_ := (Option.bind_some _ _).symm.trans H; with_reducible exact H2_) | with_reducible exact H | (rw [hy205]; exact H) | exact H
              have Ny205 := Aside0.mk hy205
              clear hy205
              have H' := Aside0.mk H
              clear H
              have p203 : 0 ≤ (x47_2 : Int) := of_decide_eq_true (by first | (with_reducible assumption) | assumption)
              have q203 : x47_2 < (y199.length : Int) := of_decide_eq_true (by first | (with_reducible assumption) | assumption)
              obtain ⟨ad203, e203, hx203_0⟩ := Kd.at_int (by repeat (first | (with_reducible exact HR202.out) | (with_reducible refine Kd.C_alloc ?_ _) | (with_reducible refine Kd.C_drewN ?_ _) | (with_reducible refine Kd.C_drew ?_) | exact HR202.out)) x47_2 p203 q203
              cases e203
              replace p203 := eq_true p203
              replace q203 := eq_true q203
              have p204 : 0 ≤ ((rd y199 x47_2) : Int) := of_decide_eq_true (by first | (with_reducible assumption) | assumption)
              have q204 : (rd y199 x47_2) < (x6_2.length : Int) := of_decide_eq_true (by first | (with_reducible assumption) | assumption)
              obtain ⟨ad204, e204, hx204_0⟩ := Kd.at_int (Kd.R_reads' HO_6.out).2.2 (rd y199 x47_2) p204 q204
              cases e204
              replace p204 := eq_true p204
              replace q204 := eq_true q204
              have p63 : 0 ≤ ((rd y199 x47_2) : Int) := of_decide_eq_true (by first | (with_reducible assumption) | assumption)
              have q63 : ((rd y199 x47_2) : Int) < ((x6_2.length : Int) : Int) := of_decide_eq_true (by first | (with_reducible assumption) | assumption)
              obtain ⟨go63, co63, eo63, gb63, gl63, cl63, HG63⟩ := Kd.R_form HO_6.out (by omega)
              (first | cases eo63 | (injection eo63 with ea_ en_ ec_; (first | subst ea_ | (injection ea_ with ea_; subst ea_)); subst ec_; clear en_))
              have GB63 := Aside0.mk gb63
              have GG63 := Aside0.mk HG63
              clear gb63 gl63 HG63
              (first | simp only [add_plain] at hx204_0 | skip)
              obtain ⟨hx63_0, hf63_0⟩ := Kd.R_celln 0 HO_6.out ((rd y199 x47_2) : Int) p63 q63
              replace p63 := eq_true p63
              replace q63 := eq_true q63
              have HP64 := Kd.R_putg HO_6.out ((rd y199 x47_2) : Int) (wrap64 ((rd x6_2 (rd y199 x47_2)) + 1))
              go_wp2_with (first | ((with_reducible refine gate_store (t := 2) (p := 56) rfl ?_); refine store_event (t := 2) (p := 56) (v := ?vo_w65) (w1 := (wr.setCell ⟨go63, ((rd y199 x47_2) : Int).toNat, none⟩ (.int .i64 (wrap64 ((rd x6_2 (rd y199 x47_2)) + 1))))) ?hg ?ho ?hn ?hr ?_; (case ho => rfl); (case hg => rfl); (case hn => rfl); (case hr => first | (go_simp; done) | (go_simp; rfl)); intro w65 hw; have hg : wr.grownBy w65 (some go63) := (by rw [hw]; exact HP64.2); have hp_ : Kd.R (Kd.int .i64) 2 w65 w.heap.size (fun k_ => k_ ≠ gb173 ∧ k_ ≠ gb176) (.slice (some ⟨go63, 0, none⟩) x6_2.length co56) y205 := (by rw [hw, Ny205.out]; exact HP64.1); clear HP64; have n0_ := Aside0.mk (hp_); have n1_ := Aside0.mk (Kd.R_over' (v := (.slice (some ⟨go63, 0, none⟩) x6_2.length co56)) (by (with_reducible repeat (first | apply Kd.R_alloc | apply Kd.R_drewN | apply Kd.R_drew)); exact HO_184000.out) (Kd.R_typed HO_6.out) (by decide) hg); have n2_ := Aside0.mk (blk_grown (g := gb173) (o := .cells #[.int .i64 a0] 2 (0, 0)) (by (with_reducible repeat (first | refine blk_drewN ?_ _ | refine blk_drew ?_ | refine blk_alloc ?_ _)); exact BK173.out) hg (Kd.R_away HO_6.out (fun _ hk => hk.1))); have n3_ := Aside0.mk (blk_grown (g := gb174) (o := .cells #[.slice A1 l1.length c1] 30 (0, 0)) (by (with_reducible repeat (first | refine blk_drewN ?_ _ | refine blk_drew ?_ | refine blk_alloc ?_ _)); exact BK174.out) hg (Kd.R_ne HO_6.out BK174.out (by decide))); have n4_ := Aside0.mk (blk_grown (g := gb176) (o := .cells #[.int .i64 t175] 2 (0, 0)) (by (with_reducible repeat (first | refine blk_drewN ?_ _ | refine blk_drew ?_ | refine blk_alloc ?_ _)); exact BK176.out) hg (Kd.R_away HO_6.out (fun _ hk => hk.2))); have n5_ := Aside0.mk (blk_grown (g := gb183) (o := .cells #[.slice (some ad203) y197.length co54] 95 (0, 0)) (by (with_reducible repeat (first | refine blk_drewN ?_ _ | refine blk_drew ?_ | refine blk_alloc ?_ _)); exact BK183.out) hg (Kd.R_ne HO_6.out BK183.out (by decide))); have n6_ := Aside0.mk ((by rw [hw]; exact below_set (HB.out) GB63.out : Below w.heap.size w w65)); have n7_ := Aside0.mk ((show Kd.C (Kd.int .i64) w65 (some ad203) y199.length y199 from by rw [Ny199.out]; exact Kd.C_take (m := ((ji45) : Int).toNat) ((Kd.R_reads' (Kd.R_over' (v := (.slice (some ⟨go63, 0, none⟩) x6_2.length co56)) (by (with_reducible repeat (first | apply Kd.R_alloc | apply Kd.R_drewN | apply Kd.R_drew)); exact HO_184000.out) (Kd.R_typed HO_6.out) (by decide) hg)).2.2) KL57.out)); clear HO_6; clear HO_184000; clear BK173; clear BK174; clear BK176; clear BK183; clear HB; clear HR202; have HO_6 := n0_; have HO_184000 := n1_; have BK173 := n2_; have BK174 := n3_; have BK176 := n4_; have BK183 := n5_; have HB := n6_; have HR202 := n7_; clear n0_ n1_ n2_ n3_ n4_ n5_ n6_ n7_; clear hg hw hp_))
              (try simp only [← hl6_2, ← hl184000_2])
              go_roundg k2
              case measure => have := HK1.out; have := HK2.out; omega
              case rel => exact ⟨(y205), (wrap64 (x47_2 + 1)), (by first | rfl | (simp; done) | (simp [*]; done)), H', ⟨by have := HK1.out; have := HK2.out; omega⟩, ⟨by (try simp only [hl6_2]); (try simp only [hl184000_2]); (with_reducible repeat (first | apply Kd.R_alloc | apply Kd.R_drewN | apply Kd.R_drew)); exact HO_6.out⟩, ⟨by (try simp only [hl6_2]); (try simp only [hl184000_2]); (with_reducible repeat (first | apply Kd.R_alloc | apply Kd.R_drewN | apply Kd.R_drew)); exact HO_184000.out⟩, ⟨by (try simp only [hl6_2]); (try simp only [hl184000_2]); (with_reducible repeat (first | refine blk_drewN ?_ _ | refine blk_drew ?_ | refine blk_alloc ?_ _)); exact BK173.out⟩, ⟨by (try simp only [hl6_2]); (try simp only [hl184000_2]); (with_reducible repeat (first | refine blk_drewN ?_ _ | refine blk_drew ?_ | refine blk_alloc ?_ _)); exact BK174.out⟩, ⟨by (try simp only [hl6_2]); (try simp only [hl184000_2]); (with_reducible repeat (first | refine blk_drewN ?_ _ | refine blk_drew ?_ | refine blk_alloc ?_ _)); exact BK176.out⟩, ⟨by (try simp only [hl6_2]); (try simp only [hl184000_2]); (with_reducible repeat (first | refine blk_drewN ?_ _ | refine blk_drew ?_ | refine blk_alloc ?_ _)); exact BK183.out⟩, ⟨by repeat (first | (with_reducible exact HR202.out) | (with_reducible refine Kd.C_alloc ?_ _) | (with_reducible refine Kd.C_drewN ?_ _) | (with_reducible refine Kd.C_drew ?_) | exact HR202.out)⟩, ⟨by repeat (first | (with_reducible first | exact HB.out | apply below_alloc | apply pw_below_drewN | apply below_drew1 | refine below_set ?_ GE173.out | refine below_set ?_ GE174.out | refine below_set ?_ GE176.out | refine below_set ?_ GE183.out) | exact HB.out)⟩⟩
             ·rw [if_neg c62] at H
              exact absurd H (by simp)
            ·rw [if_neg c61] at H
             exact absurd H (by simp)
           ·rw [if_neg c60] at H
            exact absurd H (by simp)
          ·rw [if_neg c59] at H
           exact absurd H (by simp)
         ·rw [if_neg c58] at H
          have c58b0 : decide (x47_2 < (y199.length : Int)) = false := decide_eq_false c58
          clear c58
          obtain rfl := Option.some.inj H
          go_wp2
          go_ret
          exact ⟨_, by first | rfl | (simp [errW_none, errW_some] <;> rfl) | (simp only [← hji45]; first | rfl | (simp [errW_none, errW_some] <;> rfl)) | (simp [*, errW_none, errW_some] <;> rfl), by (with_reducible repeat (first | apply Kd.R_alloc | apply Kd.R_drewN | apply Kd.R_drew)); exact Kd.R_mono HO_6.out (fun _ hk => trivial), by repeat (first | (with_reducible first | exact HB.out | apply below_alloc | apply pw_below_drewN | apply below_drew1 | refine below_set ?_ GE173.out | refine below_set ?_ GE174.out | refine below_set ?_ GE176.out | refine below_set ?_ GE183.out) | exact HB.out)⟩
      ·rw [if_neg c47] at H
       exact absurd H (by simp)
     ·rw [if_neg c46] at H
      exact absurd H (by simp)
    ·rw [if_neg c43] at H
     exact absurd H (by simp)

end Go.Proofs.Ytppfdndnojbmjaa.X

/-! ## XImplAbs -/
namespace Go.Proofs.Ytppfdndnojbmjaa.X
open Go.RowKit Go.Proofs.Ytppfdndnojbmjaa.XV Go.Proofs.YtppfdndnojbmjaaW.PrintWords Go.Proofs.YtppfdndnojbmjaaW.PrintLast Go.Proofs.YtppfdndnojbmjaaW.PrintMore
attribute [local go_sem] max2_int min2_int max_two min_two max_three min_three max_four min_four

/-! ### impl_abs: function 82 -/
def impl_abs.f (a0 : Int) : Option (Int) := some (mx a0 (wrap64 (-a0)))
set_option maxHeartbeats 8000000 in
set_option maxRecDepth 100000 in
theorem impl_abs.calls (a0 : Int) (r : Int) (w : World) (h : impl_abs.f a0 = some r) :
  Calls Try.prog 82 #[.int .i64 a0] w fun e w' => e = .returned (.int .i64 r) ∧ Below w.heap.size w w' := by
 have HB := Aside0.mk (Below.refl w.heap.size w)
 have H : (some (mx a0 (wrap64 (-a0)))) = some r := h
 clear h
 obtain ⟨ji2, hji2⟩ : ∃ j_ : Int, (mx a0 (wrap64 (-a0))) = j_ := ⟨_, rfl⟩
 replace H : (some ji2) = some r := by first | (rw [hji2] at H; exact H) | (simp only [hji2] at H ⊢; exact H)
 have hji2_ : (if a0 < (wrap64 (-a0)) then (wrap64 (-a0)) else a0) = ji2 := hji2
 obtain rfl := Option.some.inj H
 go_enter Try.func82, Try.ntmps82
 go_wp2
 go_ret
 exact ⟨by first | rfl | (simp [errW_none, errW_some] <;> rfl) | (simp only [← hji2]; first | rfl | (simp [errW_none, errW_some] <;> rfl)) | (simp [*, errW_none, errW_some] <;> rfl), by repeat (first | (with_reducible first | exact HB.out | apply below_alloc | apply pw_below_drewN | apply below_drew1) | exact HB.out)⟩

end Go.Proofs.Ytppfdndnojbmjaa.X
