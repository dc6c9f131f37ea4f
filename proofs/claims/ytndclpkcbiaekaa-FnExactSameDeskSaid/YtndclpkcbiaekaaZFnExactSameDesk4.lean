/- The plain law of SameDesk: both compare two desks in the same way, and leave them as they are. For all desks whose rows hold at most 1048576 letters and elements together (the law says nothing of larger ones). -/
import Derived.Test.YtndclpkcbiaekaaZFnExactSameDesk3
import Derived.Test.YtndclpkcbiaekaaRows
import Derived.WalkKit
import Derived.ProofKit
import Derived.OpenShut
import Derived.ShutString
import Derived.ChangeOld
import Derived.Below
import Derived.SizedLaws
set_option linter.unusedVariables false
set_option linter.unusedSimpArgs false

/-! ## PureFnExactSameDesk -/
/- The plain law of SameDesk: both compare two desks in the same way, and leave them as they are. For all desks whose rows hold at most 1048576 letters and elements together (the law says nothing of larger ones). -/
namespace Go.Proofs.Ytndclpkcbiaekaa.Pure
open Go.RowKit Go.Proofs.YtndclpkcbiaekaaW.PrintWords Go.Proofs.Ytndclpkcbiaekaa.X Go.Proofs.Ytndclpkcbiaekaa.B Go.Proofs.Ytndclpkcbiaekaa.C Go.Proofs.Ytndclpkcbiaekaa.PSame
abbrev Sec := S64
abbrev Par := S99
theorem beqc (x y : Int) : (x == y) = (y == x) := BEq.comm
def dikeAt (a b : List Sec) (j : Int) : Bool := (!(((rd_T64 a j).f0) == ((rd_T64 b j).f0)) || (!(((rd_T64 a j).f1) == ((rd_T64 b j).f1))))
def parAt (a b : List Par) (j : Int) : Bool := (!(((rd_T99 a j).f0) == ((rd_T99 b j).f0)) || (!(((rd_T99 a j).f1) == ((rd_T99 b j).f1)) || (!(((rd_T99 a j).f2) == ((rd_T99 b j).f2)) || (!(((rd_T99 a j).f3) == ((rd_T99 b j).f3))))))
theorem dikeAt_comm (a b : List Sec) (j : Int) : dikeAt b a j = dikeAt a b j := by
  unfold dikeAt
  rw [beqc ((rd_T64 b j).f0), beqc ((rd_T64 b j).f1)]
theorem parAt_comm (a b : List Par) (j : Int) : parAt b a j = parAt a b j := by
  unfold parAt
  rw [beqc ((rd_T99 b j).f0), beqc ((rd_T99 b j).f1), beqc ((rd_T99 b j).f2), beqc ((rd_T99 b j).f3)]
def dikes (a b : List Sec) : Bool := decide (a.length = b.length) && allFrom (fun j => !dikeAt a b j) 0 a.length
def pars (a b : List Par) : Bool := decide (a.length = b.length) && allFrom (fun j => !parAt a b j) 0 a.length
theorem specDike_ev (a b : List Sec) (h : a.length ≤ 9223372036854775807) : Ev (fun k => spec_SameDike.f k a b) (dikes a b) :=
  rows3 (L := fun k i => spec_SameDike.l0 k a b i) (c := fun i => dikeAt a b i) h (fun _ _ => rfl)
theorem implDike_ev (a b : List Sec) (h : a.length ≤ 9223372036854775807) : Ev (fun k => impl_SameDike.f k a b) (dikes a b) := by
  have e : Ev (fun k => impl_same_impl_Section.f k a b) (decide (a.length = b.length) && allFrom (fun j => !dikeAt b a j) 0 a.length) :=
    rows4 (L := fun k i => impl_same_impl_Section.l0 k b a (a.length : Int) i) (c := fun i => dikeAt b a i) h (fun _ _ => rfl)
  rw [allFrom_congr (q := fun j => !dikeAt a b j) (fun j => by rw [dikeAt_comm])] at e
  exact Ev.bindE e (Ev.const fun _ => rfl)
theorem specPars_ev (a b : List Par) (h : a.length ≤ 9223372036854775807) : Ev (fun k => spec_SameParcels.f k a b) (pars a b) :=
  rows3 (L := fun k i => spec_SameParcels.l0 k a b i) (c := fun i => parAt a b i) h (fun _ _ => rfl)
theorem implPars_ev (a b : List Par) (h : a.length ≤ 9223372036854775807) : Ev (fun k => impl_SameParcels.f k a b) (pars a b) := by
  have e : Ev (fun k => impl_same_impl_Parcel.f k a b) (decide (a.length = b.length) && allFrom (fun j => !parAt b a j) 0 a.length) :=
    rows4 (L := fun k i => impl_same_impl_Parcel.l0 k b a (a.length : Int) i) (c := fun i => parAt b a i) h (fun _ _ => rfl)
  rw [allFrom_congr (q := fun j => !parAt a b j) (fun j => by rw [parAt_comm])] at e
  exact Ev.bindE e (Ev.const fun _ => rfl)
def curves (a0 a1 b0 b1 : List Int) : Bool := decide (a0 = b0) && decide (a1 = b1)
theorem specCurve_ev (a0 a1 b0 b1 : List Int) (h0 : a0.length ≤ 9223372036854775807) (h1 : a1.length ≤ 9223372036854775807) : Ev (fun k => spec_SameCurve.f k a0 a1 b0 b1) (curves a0 a1 b0 b1) := by
  unfold spec_SameCurve.f curves
  refine Ev.bindE (specInts_ev a0 b0 h0) (Ev.ite (fun h => ?_) (fun h => ?_))
  · rw [h, Bool.true_and]; exact Ev.bindE (specInts_ev a1 b1 h1) (Ev.const fun _ => rfl)
  · rw [Bool.eq_false_iff.2 h, Bool.false_and]; exact Ev.const fun _ => rfl
theorem implCurve_ev (a0 a1 b0 b1 : List Int) (h0 : a0.length ≤ 9223372036854775807) (h1 : a1.length ≤ 9223372036854775807) : Ev (fun k => impl_SameCurve.f k a0 a1 b0 b1) (curves a0 a1 b0 b1) := by
  unfold impl_SameCurve.f curves
  refine Ev.bindE (implInts_ev a0 b0 h0) (Ev.ite (fun h => ?_) (fun h => ?_))
  · rw [h, Bool.true_and]; exact Ev.bindE (implInts_ev a1 b1 h1) (Ev.const fun _ => rfl)
  · rw [Bool.eq_false_iff.2 h, Bool.false_and]; exact Ev.const fun _ => rfl
def desks (a0 a1 : List Int) (a2 : List Sec) (a3 : List Par) (a4 : ByteArray) (b0 b1 : List Int) (b2 : List Sec) (b3 : List Par) (b4 : ByteArray) : Bool :=
  curves a0 a1 b0 b1 && (dikes a2 b2 && (pars a3 b3 && (a4.toList == b4.toList)))
theorem specDesk_ev (a0 a1 : List Int) (a2 : List Sec) (a3 : List Par) (a4 : ByteArray) (b0 b1 : List Int) (b2 : List Sec) (b3 : List Par) (b4 : ByteArray) (h0 : fit_Int64S a0) (h1 : fit_Int64S a1) (h2 : fit_SectionS a2) (h3 : fit_ParcelS a3) :
    Ev (fun k => spec_SameDesk.f k a0 a1 a2 a3 a4 b0 b1 b2 b3 b4) (desks a0 a1 a2 a3 a4 b0 b1 b2 b3 b4) := by
  unfold spec_SameDesk.f desks
  refine Ev.bindE (specCurve_ev a0 a1 b0 b1 h0 h1) (Ev.ite (fun h => ?_) (fun h => ?_))
  · rw [h, Bool.true_and]
    refine Ev.bindE (specDike_ev a2 b2 h2) (Ev.ite (fun h => ?_) (fun h => ?_))
    · rw [h, Bool.true_and]
      refine Ev.bindE (specPars_ev a3 b3 h3) (Ev.ite (fun h => ?_) (fun h => ?_))
      · rw [h, Bool.true_and]; exact Ev.const fun _ => rfl
      · rw [Bool.eq_false_iff.2 h, Bool.false_and]; exact Ev.const fun _ => rfl
    · rw [Bool.eq_false_iff.2 h, Bool.false_and]; exact Ev.const fun _ => rfl
  · rw [Bool.eq_false_iff.2 h, Bool.false_and]; exact Ev.const fun _ => rfl
theorem implDesk_ev (a0 a1 : List Int) (a2 : List Sec) (a3 : List Par) (a4 : ByteArray) (b0 b1 : List Int) (b2 : List Sec) (b3 : List Par) (b4 : ByteArray) (h0 : fit_Int64S a0) (h1 : fit_Int64S a1) (h2 : fit_SectionS a2) (h3 : fit_ParcelS a3) :
    Ev (fun k => impl_SameDesk.f k a0 a1 a2 a3 a4 b0 b1 b2 b3 b4) (desks a0 a1 a2 a3 a4 b0 b1 b2 b3 b4) := by
  unfold impl_SameDesk.f desks
  refine Ev.bindE (implCurve_ev a0 a1 b0 b1 h0 h1) (Ev.ite (fun h => ?_) (fun h => ?_))
  · rw [h, Bool.true_and]
    refine Ev.bindE (implDike_ev a2 b2 h2) (Ev.ite (fun h => ?_) (fun h => ?_))
    · rw [h, Bool.true_and]
      refine Ev.bindE (implPars_ev a3 b3 h3) (Ev.ite (fun h => ?_) (fun h => ?_))
      · rw [h, Bool.true_and]; exact Ev.const fun _ => rfl
      · rw [Bool.eq_false_iff.2 h, Bool.false_and]; exact Ev.const fun _ => rfl
    · rw [Bool.eq_false_iff.2 h, Bool.false_and]; exact Ev.const fun _ => rfl
  · rw [Bool.eq_false_iff.2 h, Bool.false_and]; exact Ev.const fun _ => rfl
theorem FnExactSameDesk : Say.FnExactSameDesk := by
  intro a0 a1 a2 a3 a4 b0 b1 b2 b3 b4 ha0 ha1 ha2 ha3 ha4 hb0 hb1 hb2 hb3 hb4
  refine Ev.rounds ?_
  unfold laws_FnExactSameDesk.f
  have na := szv_Desk_nonneg a0 a1 a2 a3 a4
  have nb := szv_Desk_nonneg b0 b1 b2 b3 b4
  refine Ev.bindE ((sz_Desk a0 a1 a2 a3 a4 ha0 ha1 ha2 ha3 ha4).2 _ (by omega) (by omega)) ?_
  by_cases h : szv_Desk a0 a1 a2 a3 a4 ≤ 1048576
  · simp only [if_pos h]
    refine Ev.ifNeg (by omega) (Ev.bindE ((sz_Desk b0 b1 b2 b3 b4 hb0 hb1 hb2 hb3 hb4).2 _ (by omega) (by omega)) ?_)
    by_cases h' : szv_Desk b0 b1 b2 b3 b4 ≤ 1048576 - szv_Desk a0 a1 a2 a3 a4
    · simp only [if_pos h']
      have tx := to_Desk a0 a1 a2 a3 a4 h
      have ty := to_Desk b0 b1 b2 b3 b4 (by omega)
      have fits : ∀ (v0 v1 : List Int) (v2 : List S102) (v3 : List S104) (v4 : ByteArray), szv_Desk v0 v1 v2 v3 v4 ≤ 1048576 → fit_Int64S v0 ∧ fit_Int64S v1 ∧ fit_SectionS (v2.map c_Section) ∧ fit_ParcelS (v3.map c_Parcel) := by
        intro v0 v1 v2 v3 v4 hv
        unfold szv_Desk szv_Curve at hv
        have n0 := szv_Int64S_nonneg v0
        have n1 := szv_Int64S_nonneg v1
        have n2 := szv_SectionS_nonneg v2
        have n3 := szv_ParcelS_nonneg v3
        exact ⟨fitc_Int64S _ (by omega), fitc_Int64S _ (by omega), fitc_SectionS _ (by omega), fitc_ParcelS _ (by omega)⟩
      obtain ⟨fa0, fa1, fa2, fa3⟩ := fits a0 a1 a2 a3 a4 h
      obtain ⟨fb0, fb1, fb2, fb3⟩ := fits b0 b1 b2 b3 b4 (by omega)
      refine Ev.ifNeg (by omega) (Ev.bindE tx (Ev.bindE ty (Ev.bindE (specDesk_ev _ _ _ _ _ _ _ _ _ _ fa0 fa1 fa2 fa3) (Ev.bindE tx (Ev.bindE ty (Ev.bindE (implDesk_ev _ _ _ _ _ _ _ _ _ _ fa0 fa1 fa2 fa3) ?_))))))
      simp only [bne_self_eq_false, Bool.false_eq_true, if_false]
      refine Ev.bindE tx (Ev.bindE (eq_Desk _ _ _ _ _ fa0 fa1 fa2 fa3) (Ev.ifPos rfl (Ev.bindE ty (Ev.bindE (eq_Desk _ _ _ _ _ fb0 fb1 fb2 fb3) (Ev.ifPos rfl (Ev.const fun _ => rfl))))))
    · simp only [if_neg h']
      exact Ev.ifPos (by omega) (Ev.const fun _ => rfl)
  · simp only [if_neg h]
    exact Ev.ifPos (by omega) (Ev.const fun _ => rfl)
end Go.Proofs.Ytndclpkcbiaekaa.Pure

/-! ## LawFnExactSameDesk -/
/- FnExactSameDesk: the law's row, out of its plain statement and the walks. -/
namespace Go.Proofs.Ytndclpkcbiaekaa.fnExactSameDesk
open Go.ChangeShapes Go.WideShapes Go.ChangeAt Go.RowKit Go.Proofs.Ytndclpkcbiaekaa.X
open Go.ChangeMaps (open_string shut_string)
theorem own : ownKnob Try.prog.godebug = none := by kernel_rfl
theorem laidOut : laidOutB Try.prog = true := by kernel_rfl
open Go.Proofs.YtndclpkcbiaekaaW.PrintWords in
theorem reader0 : Rdr.Reads Try.prog 37 k37 (fun x : S37 => (fun x : S33 => (Rdr.Lst Rdr.I64) x.f0 ∧ ((Rdr.Lst Rdr.I64) x.f1)) x.f0 ∧ ((Rdr.Lst (fun x : S102 => Rdr.I64 x.f0 ∧ (Rdr.I64 x.f1))) x.f1 ∧ ((Rdr.Lst (fun x : S104 => Rdr.I64 x.f0 ∧ (Rdr.I64 x.f1 ∧ (Rdr.I64 x.f2 ∧ (Rdr.I64 x.f3))))) x.f2 ∧ (Rdr.Str x.f3)))) := (show Rdr.Reads Try.prog 37 k37 _ from Rdr.reads_iso (f := fun x : S37 => (x.f0, x.f1, x.f2, x.f3)) (fun a => ⟨a.1, a.2.1, a.2.2.1, a.2.2.2⟩) (fun _ => rfl) (Rdr.reads_struct Try.underlying37 (by kernel_rfl) (Rdr.freads_cons rfl (show Rdr.Reads Try.prog 33 k33 _ from Rdr.reads_iso (f := fun x : S33 => (x.f0, x.f1)) (fun a => ⟨a.1, a.2⟩) (fun _ => rfl) (Rdr.reads_struct Try.underlying33 (by kernel_rfl) (Rdr.freads_cons rfl (Rdr.reads_slice Try.underlying22 (by kernel_rfl) (Rdr.reads_i64 Try.underlying2 (by kernel_rfl))) rfl (Rdr.freads_last rfl (Rdr.reads_slice Try.underlying22 (by kernel_rfl) (Rdr.reads_i64 Try.underlying2 (by kernel_rfl))))))) rfl (Rdr.freads_cons rfl (Rdr.reads_slice Try.underlying34 (by kernel_rfl) (show Rdr.Reads Try.prog 102 k102 _ from Rdr.reads_iso (f := fun x : S102 => (x.f0, x.f1)) (fun a => ⟨a.1, a.2⟩) (fun _ => rfl) (Rdr.reads_struct Try.underlying102 (by kernel_rfl) (Rdr.freads_cons rfl (Rdr.reads_i64 Try.underlying2 (by kernel_rfl)) rfl (Rdr.freads_last rfl (Rdr.reads_i64 Try.underlying2 (by kernel_rfl))))))) rfl (Rdr.freads_cons rfl (Rdr.reads_slice Try.underlying35 (by kernel_rfl) (show Rdr.Reads Try.prog 104 k104 _ from Rdr.reads_iso (f := fun x : S104 => (x.f0, x.f1, x.f2, x.f3)) (fun a => ⟨a.1, a.2.1, a.2.2.1, a.2.2.2⟩) (fun _ => rfl) (Rdr.reads_struct Try.underlying104 (by kernel_rfl) (Rdr.freads_cons rfl (Rdr.reads_i64 Try.underlying2 (by kernel_rfl)) rfl (Rdr.freads_cons rfl (Rdr.reads_i64 Try.underlying2 (by kernel_rfl)) rfl (Rdr.freads_cons rfl (Rdr.reads_i64 Try.underlying2 (by kernel_rfl)) rfl (Rdr.freads_last rfl (Rdr.reads_i64 Try.underlying2 (by kernel_rfl))))))))) rfl (Rdr.freads_last rfl (Rdr.reads_str Try.underlying9 (by kernel_rfl))))))))
open Go.Proofs.YtndclpkcbiaekaaW.PrintWords in
theorem reader1 : Rdr.Reads Try.prog 37 k37 (fun x : S37 => (fun x : S33 => (Rdr.Lst Rdr.I64) x.f0 ∧ ((Rdr.Lst Rdr.I64) x.f1)) x.f0 ∧ ((Rdr.Lst (fun x : S102 => Rdr.I64 x.f0 ∧ (Rdr.I64 x.f1))) x.f1 ∧ ((Rdr.Lst (fun x : S104 => Rdr.I64 x.f0 ∧ (Rdr.I64 x.f1 ∧ (Rdr.I64 x.f2 ∧ (Rdr.I64 x.f3))))) x.f2 ∧ (Rdr.Str x.f3)))) := (show Rdr.Reads Try.prog 37 k37 _ from Rdr.reads_iso (f := fun x : S37 => (x.f0, x.f1, x.f2, x.f3)) (fun a => ⟨a.1, a.2.1, a.2.2.1, a.2.2.2⟩) (fun _ => rfl) (Rdr.reads_struct Try.underlying37 (by kernel_rfl) (Rdr.freads_cons rfl (show Rdr.Reads Try.prog 33 k33 _ from Rdr.reads_iso (f := fun x : S33 => (x.f0, x.f1)) (fun a => ⟨a.1, a.2⟩) (fun _ => rfl) (Rdr.reads_struct Try.underlying33 (by kernel_rfl) (Rdr.freads_cons rfl (Rdr.reads_slice Try.underlying22 (by kernel_rfl) (Rdr.reads_i64 Try.underlying2 (by kernel_rfl))) rfl (Rdr.freads_last rfl (Rdr.reads_slice Try.underlying22 (by kernel_rfl) (Rdr.reads_i64 Try.underlying2 (by kernel_rfl))))))) rfl (Rdr.freads_cons rfl (Rdr.reads_slice Try.underlying34 (by kernel_rfl) (show Rdr.Reads Try.prog 102 k102 _ from Rdr.reads_iso (f := fun x : S102 => (x.f0, x.f1)) (fun a => ⟨a.1, a.2⟩) (fun _ => rfl) (Rdr.reads_struct Try.underlying102 (by kernel_rfl) (Rdr.freads_cons rfl (Rdr.reads_i64 Try.underlying2 (by kernel_rfl)) rfl (Rdr.freads_last rfl (Rdr.reads_i64 Try.underlying2 (by kernel_rfl))))))) rfl (Rdr.freads_cons rfl (Rdr.reads_slice Try.underlying35 (by kernel_rfl) (show Rdr.Reads Try.prog 104 k104 _ from Rdr.reads_iso (f := fun x : S104 => (x.f0, x.f1, x.f2, x.f3)) (fun a => ⟨a.1, a.2.1, a.2.2.1, a.2.2.2⟩) (fun _ => rfl) (Rdr.reads_struct Try.underlying104 (by kernel_rfl) (Rdr.freads_cons rfl (Rdr.reads_i64 Try.underlying2 (by kernel_rfl)) rfl (Rdr.freads_cons rfl (Rdr.reads_i64 Try.underlying2 (by kernel_rfl)) rfl (Rdr.freads_cons rfl (Rdr.reads_i64 Try.underlying2 (by kernel_rfl)) rfl (Rdr.freads_last rfl (Rdr.reads_i64 Try.underlying2 (by kernel_rfl))))))))) rfl (Rdr.freads_last rfl (Rdr.reads_str Try.underlying9 (by kernel_rfl))))))))
set_option maxRecDepth 100000 in
theorem lifted (os : Os) (started : os.Started) (H : Type) (enc : TypeId × Value → H) :
    ReturnsInHanded {} Try.checked os 4 .any (Rows.fnExactSameDeskSpec.pre6 enc Try.prog Try.f4 Rows.fnExactSameDeskRow.domain false) (Rows.fnExactSameDeskSpec.post enc Try.prog Try.f4 false true false false) := by
  refine returnsInHanded_of_change_sized (C := Try.checked) own started (by kernel_rfl) Try.func4
    (ChangeSpec.witness6 (enc := enc) (C := Try.checked) false ⟨#[], #[.agg #[(.slice none 0 0), (.slice none 0 0), (.slice none 0 0), (.slice none 0 0), (.string ⟨#[]⟩)], .agg #[(.slice none 0 0), (.slice none 0 0), (.slice none 0 0), (.slice none 0 0), (.string ⟨#[]⟩)]], []⟩ 8 (by kernel_rfl) (by kernel_rfl) (by kernel_rfl) (by kernel_rfl)) ?_
  intro W base args ds gs before hval0 hW hcnd hsz0 _
  have hval : ∀ (j : Nat) t v, Try.f4.params[j]? = some t → args[j]? = some v → Value.okWide Try.prog W .any base t v := hval0
  have hW' := hW
  obtain ⟨p, q, hA0, hV, rfl, hfz, hnd⟩ := hW
  have hA : DataW.TrodAll enc Try.prog W 0 (fun _ => true) true Try.f4.params.toList args.toList ds p := hA0
  rw [Try.params4] at hA hval
  obtain ⟨v0, vs0, d0, ds0, p0, q0, hargs, rfl, rfl, h0, r0⟩ := trodAll_cons hA
  obtain ⟨v1, vs1, d1, ds1, p1, q1, rfl, rfl, rfl, h1, r1⟩ := trodAll_cons r0
  obtain ⟨rfl, rfl, rfl⟩ := trodAll_nil r1
  obtain rfl : args = #[v0, v1] := by cases args; simp_all
  obtain ⟨rfl, rfl⟩ := trodVars_none hV
  have k0 := h0
  have lt0 : ∀ x ∈ p0, x.block < W.heap.size := by obtain ⟨m, hm⟩ := k0; exact DataW.trod_lt m _ _ _ hm
  obtain ⟨fuel0, hf0⟩ := h0
  obtain ⟨x0, hK0, w0⟩ := reader0.read hf0
  obtain ⟨cs0, rfl, hsz0⟩ := okWide_struct Try.underlying37 (hval 0 37 v0 rfl rfl)
  obtain ⟨A0_0, c0_0, A0_1, c0_1, A0_2, c0_2, A0_3, c0_3, hcs0, hl0_0, hC0_0, hl0_1, hC0_1, hl0_2, hC0_2, hl0_3, hC0_3⟩ := k37_open hK0
  obtain rfl : cs0 = #[.slice A0_0 x0.f0.f0.length c0_0, .slice A0_1 x0.f0.f1.length c0_1, .slice A0_2 x0.f1.length c0_2, .slice A0_3 x0.f2.length c0_3, .string x0.f3] := by cases cs0; simpa [Value.cells] using hcs0
  have k1 := h1
  have lt1 : ∀ x ∈ p1, x.block < W.heap.size := by obtain ⟨m, hm⟩ := k1; exact DataW.trod_lt m _ _ _ hm
  obtain ⟨fuel1, hf1⟩ := h1
  obtain ⟨x1, hK1, w1⟩ := reader1.read hf1
  obtain ⟨cs1, rfl, hsz1⟩ := okWide_struct Try.underlying37 (hval 1 37 v1 rfl rfl)
  obtain ⟨A1_0, c1_0, A1_1, c1_1, A1_2, c1_2, A1_3, c1_3, hcs1, hl1_0, hC1_0, hl1_1, hC1_1, hl1_2, hC1_2, hl1_3, hC1_3⟩ := k37_open hK1
  obtain rfl : cs1 = #[.slice A1_0 x1.f0.f0.length c1_0, .slice A1_1 x1.f0.f1.length c1_1, .slice A1_2 x1.f1.length c1_2, .slice A1_3 x1.f2.length c1_3, .string x1.f3] := by cases cs1; simpa [Value.cells] using hcs1
  clear hA0 hval0 hsz0
  obtain ⟨k, h⟩ := Pure.FnExactSameDesk (x0.f0.f0) (x0.f0.f1) (x0.f1) (x0.f2) (x0.f3) (x1.f0.f0) (x1.f0.f1) (x1.f1) (x1.f2) (x1.f3) w0.1.1 w0.1.2 w0.2.1 w0.2.2.1 w0.2.2.2 w1.1.1 w1.1.2 w1.2.1 w1.2.2.1 w1.2.2.2
  refine (laws_FnExactSameDesk.calls k _ _ (x0.f0.f0) _ _ (x0.f0.f1) _ _ (x0.f1) _ _ (x0.f2) (x0.f3) _ _ (x1.f0.f0) _ _ (x1.f0.f1) _ _ (x1.f1) _ _ (x1.f2) (x1.f3) true W hC0_0 hl0_0 hC0_1 hl0_1 hC0_2 hl0_2 hC0_3 hl0_3 hC1_0 hl1_0 hC1_1 hl1_1 hC1_2 hl1_2 hC1_3 hl1_3 ⟨rfl⟩ h).mono fun e W' ⟨he, hd⟩ => ?_
  have bel : Below W.heap.size W W' := hd
  subst he
  exact ⟨_, rfl, _, _, _, [], _, [], hW', trodAll_mk1 (shut_bool Try.underlying4 _), (trodAll_cons_mk (Below.trod laidOut (by kernel_rfl) (of_decide_eq_true (by kernel_rfl)) k0 bel lt0) (trodAll_cons_mk (Below.trod laidOut (by kernel_rfl) (of_decide_eq_true (by kernel_rfl)) k1 bel lt1) trodAll_mk0)), rfl, bel.frame _, fun h => by cases h⟩
theorem over : Rows.fnExactSameDeskRow.holds Try.pinned (OpenSpec.ofChange Rows.fnExactSameDeskSpec) :=
  OpenClaim.holds_of_wide 4 Try.f4 rfl rfl rfl rfl rfl rfl rfl ⟨rfl, rfl, rfl, rfl, rfl⟩ rfl rfl rfl rfl rfl (by kernel_rfl) Try.func4 (by kernel_rfl)
    (of_decide_eq_true (by kernel_rfl)) (by unfold Func.isWrapper; first | (rw [if_pos (by decide +kernel)]; kernel_rfl) | (rw [if_neg (by decide +kernel)]; exact ⟨rfl, rfl⟩))
    (fun os started H enc _ => lifted os started H enc)
theorem proved : Rows.FnExactSameDeskSaid := over
end Go.Proofs.Ytndclpkcbiaekaa.fnExactSameDesk
namespace Go.Proofs.Ytndclpkcbiaekaa
/-- The row, under a short name, for the claim. -/
theorem fnExactSameDesk_holds : Rows.FnExactSameDeskSaid := fnExactSameDesk.proved
end Go.Proofs.Ytndclpkcbiaekaa
