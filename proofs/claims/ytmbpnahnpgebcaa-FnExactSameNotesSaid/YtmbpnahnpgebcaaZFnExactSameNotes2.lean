/- The plain law of SameNotes: both compare two rows of notes in the same way, and leave them as they are. For all rows whose notes hold at most 1048576 letters and elements together (the law says nothing of larger ones). -/
import Derived.Test.YtmbpnahnpgebcaaZFnExactSameNotes1
import Derived.Test.YtmbpnahnpgebcaaRows
import Derived.WalkKit
import Derived.ProofKit
import Derived.OpenShut
import Derived.ShutString
import Derived.ChangeOld
import Derived.Below
import Derived.SizedLaws
set_option linter.unusedVariables false
set_option linter.unusedSimpArgs false

/-! ## PureFnExactSameNotes -/
/- The plain law of SameNotes: both compare two rows of notes in the same way, and leave them as they are. For all rows whose notes hold at most 1048576 letters and elements together (the law says nothing of larger ones). -/
namespace Go.Proofs.Ytmbpnahnpgebcaa.Pure
open Go.RowKit Go.Proofs.YtmbpnahnpgebcaaW.PrintWords Go.Proofs.Ytmbpnahnpgebcaa.X Go.Proofs.Ytmbpnahnpgebcaa.B Go.Proofs.Ytmbpnahnpgebcaa.C Go.Proofs.Ytmbpnahnpgebcaa.PSame
abbrev Nt := S32
def same1 (x y : Nt) : Bool := decide (x.f0 = y.f0) && (decide (x.f1.toList = y.f1.toList) && decide (x.f2 = y.f2))
def sameAll (a b : List Nt) : Bool := decide (a.length = b.length) && allFrom (fun j => same1 (a.getD j z32) (b.getD j z32)) 0 a.length
theorem specSame_ev (a b : List Nt) (ha : fit_NoteS a) : Ev (fun k => spec_SameNotes.f k a b) (sameAll a b) := by
  obtain ⟨hn, hx⟩ := ha
  unfold sameAll
  by_cases hl : a.length = b.length
  · rw [decide_eq_true hl, Bool.true_and]
    have h := allScan (fun k i => spec_SameNotes.l0 k a b (i : Int)) a.length (fun j => same1 (a.getD j z32) (b.getD j z32)) true (Ev.const fun k => by
      simp only [spec_SameNotes.l0]
      rw [if_neg (by omega)]) (by
      intro i hi
      have hb : i < b.length := by omega
      simp only [getD_at hi, getD_at hb]
      have hr := EvEq.now (g := fun k => spec_SameNotes.l0 (k + 1) a b (i : Int)) (f := fun k => if a[i].f0 = b[i].f0 then (if a[i].f1.toList = b[i].f1.toList then (spec_l00Same.f k a[i].f2 b[i].f2).bind fun u => if u = true then spec_SameNotes.l0 k a b ((i + 1 : Nat) : Int) else some false else some false) else some false) fun k => by
        simp only [spec_SameNotes.l0]
        rw [if_pos (by omega), if_pos (by omega), if_pos (by omega), rdat_T32 hi, rdat_T32 hb, wnext hi (by omega)]
      refine hr.trans ?_
      by_cases c0 : a[i].f0 = b[i].f0
      · simp only [if_pos c0]
        by_cases c : a[i].f1.toList = b[i].f1.toList
        · simp only [if_pos c]
          refine EvEq.bind (specInts_ev _ _ (hx _ (List.getElem_mem hi))) (EvEq.now fun k => ?_)
          simp [same1, c, c0]
        · refine EvEq.now fun k => ?_
          simp [same1, c]
      · refine EvEq.now fun k => ?_
        simp [same1, c0]) 0 (by omega)
    rw [Bool.and_true] at h
    refine Ev.ofEq (EvEq.now fun k => ?_) h
    unfold spec_SameNotes.f
    rw [if_pos (by omega)]
    rfl
  · rw [decide_eq_false hl, Bool.false_and]
    refine Ev.const fun k => ?_
    unfold spec_SameNotes.f
    rw [if_neg (by omega)]
theorem implSame_ev (a b : List Nt) (ha : fit_NoteS a) : Ev (fun k => impl_SameNotes.f k a b) (sameAll a b) := by
  obtain ⟨hn, hx⟩ := ha
  unfold sameAll
  by_cases hl : a.length = b.length
  · rw [decide_eq_true hl, Bool.true_and]
    have h := allScan (fun k i => impl_SameNotes.l0 k b a (a.length : Int) (i : Int)) a.length (fun j => same1 (a.getD j z32) (b.getD j z32)) true (Ev.const fun k => by
      simp only [impl_SameNotes.l0]
      rw [if_neg (by omega)]) (by
      intro i hi
      have hb : i < b.length := by omega
      simp only [getD_at hi, getD_at hb]
      have hr := EvEq.now (g := fun k => impl_SameNotes.l0 (k + 1) b a (a.length : Int) (i : Int)) (f := fun k => if a[i].f0 = b[i].f0 then (if a[i].f1.toList = b[i].f1.toList then (impl_same_int64.f k a[i].f2 b[i].f2).bind fun u => if u = true then impl_SameNotes.l0 k b a (a.length : Int) ((i + 1 : Nat) : Int) else some false else some false) else some false) fun k => by
        simp only [impl_SameNotes.l0]
        rw [if_pos (by omega), if_pos (by omega), if_pos (by omega), if_pos (by omega), rdat_T32 hi, rdat_T32 hb, wnext hi (by omega)]
      refine hr.trans ?_
      by_cases c0 : a[i].f0 = b[i].f0
      · simp only [if_pos c0]
        by_cases c : a[i].f1.toList = b[i].f1.toList
        · simp only [if_pos c]
          refine EvEq.bind (implInts_ev _ _ (hx _ (List.getElem_mem hi))) (EvEq.now fun k => ?_)
          simp [same1, c, c0]
        · refine EvEq.now fun k => ?_
          simp [same1, c]
      · refine EvEq.now fun k => ?_
        simp [same1, c0]) 0 (by omega)
    rw [Bool.and_true] at h
    refine Ev.ofEq (EvEq.now fun k => ?_) h
    unfold impl_SameNotes.f
    rw [if_pos (by omega)]
    rfl
  · rw [decide_eq_false hl, Bool.false_and]
    refine Ev.const fun k => ?_
    unfold impl_SameNotes.f
    rw [if_neg (by omega)]
theorem FnExactSameNotes : Say.FnExactSameNotes := by
  intro xs ys hx hy
  refine Ev.rounds ?_
  unfold laws_FnExactSameNotes.f
  have nx := szv_NoteS_nonneg xs
  have ny := szv_NoteS_nonneg ys
  refine Ev.bindE ((sz_NoteS xs hx).2 _ (by omega) (by omega)) ?_
  by_cases h : szv_NoteS xs ≤ 1048576
  · simp only [if_pos h]
    refine Ev.ifNeg (by omega) (Ev.bindE ((sz_NoteS ys hy).2 _ (by omega) (by omega)) ?_)
    by_cases h' : szv_NoteS ys ≤ 1048576 - szv_NoteS xs
    · simp only [if_pos h']
      have tx := to_NoteS xs h
      have ty := to_NoteS ys (by omega)
      have fx := fitc_NoteS xs h
      have fy := fitc_NoteS ys (by omega)
      refine Ev.ifNeg (by omega) (Ev.bindE tx (Ev.bindE ty (Ev.bindE (specSame_ev _ _ fx) (Ev.bindE tx (Ev.bindE ty (Ev.bindE (implSame_ev _ _ fx) ?_))))))
      simp only [bne_self_eq_false, Bool.false_eq_true, if_false]
      refine Ev.bindE tx (Ev.bindE (eq_NoteS _ fx) (Ev.ifPos rfl (Ev.bindE ty (Ev.bindE (eq_NoteS _ fy) (Ev.ifPos rfl (Ev.const fun _ => rfl))))))
    · simp only [if_neg h']
      exact Ev.ifPos (by omega) (Ev.const fun _ => rfl)
  · simp only [if_neg h]
    exact Ev.ifPos (by omega) (Ev.const fun _ => rfl)
end Go.Proofs.Ytmbpnahnpgebcaa.Pure

/-! ## LawFnExactSameNotes -/
/- FnExactSameNotes: the law's row, out of its plain statement and the walks. -/
namespace Go.Proofs.Ytmbpnahnpgebcaa.fnExactSameNotes
open Go.ChangeShapes Go.WideShapes Go.ChangeAt Go.RowKit Go.Proofs.Ytmbpnahnpgebcaa.X
open Go.ChangeMaps (open_string shut_string)
theorem own : ownKnob Try.prog.godebug = none := by kernel_rfl
theorem laidOut : laidOutB Try.prog = true := by kernel_rfl
open Go.Proofs.YtmbpnahnpgebcaaW.PrintWords in
theorem reader0 : Rdr.Reads Try.prog 22 (Kd.slice 31 k31) (Rdr.Lst (fun x : S31 => Rdr.I64 x.f0 ∧ (Rdr.Str x.f1 ∧ ((Rdr.Lst Rdr.I64) x.f2)))) := (Rdr.reads_slice Try.underlying22 (by kernel_rfl) (show Rdr.Reads Try.prog 31 k31 _ from Rdr.reads_iso (f := fun x : S31 => (x.f0, x.f1, x.f2)) (fun a => ⟨a.1, a.2.1, a.2.2⟩) (fun _ => rfl) (Rdr.reads_struct Try.underlying31 (by kernel_rfl) (Rdr.freads_cons rfl (Rdr.reads_i64 Try.underlying2 (by kernel_rfl)) rfl (Rdr.freads_cons rfl (Rdr.reads_str Try.underlying9 (by kernel_rfl)) rfl (Rdr.freads_last rfl (Rdr.reads_slice Try.underlying29 (by kernel_rfl) (Rdr.reads_i64 Try.underlying2 (by kernel_rfl)))))))))
open Go.Proofs.YtmbpnahnpgebcaaW.PrintWords in
theorem reader1 : Rdr.Reads Try.prog 22 (Kd.slice 31 k31) (Rdr.Lst (fun x : S31 => Rdr.I64 x.f0 ∧ (Rdr.Str x.f1 ∧ ((Rdr.Lst Rdr.I64) x.f2)))) := (Rdr.reads_slice Try.underlying22 (by kernel_rfl) (show Rdr.Reads Try.prog 31 k31 _ from Rdr.reads_iso (f := fun x : S31 => (x.f0, x.f1, x.f2)) (fun a => ⟨a.1, a.2.1, a.2.2⟩) (fun _ => rfl) (Rdr.reads_struct Try.underlying31 (by kernel_rfl) (Rdr.freads_cons rfl (Rdr.reads_i64 Try.underlying2 (by kernel_rfl)) rfl (Rdr.freads_cons rfl (Rdr.reads_str Try.underlying9 (by kernel_rfl)) rfl (Rdr.freads_last rfl (Rdr.reads_slice Try.underlying29 (by kernel_rfl) (Rdr.reads_i64 Try.underlying2 (by kernel_rfl)))))))))
set_option maxRecDepth 100000 in
theorem lifted (os : Os) (started : os.Started) (H : Type) (enc : TypeId × Value → H) :
    ReturnsInHanded {} Try.checked os 3 .any (Rows.fnExactSameNotesSpec.pre6 enc Try.prog Try.f3 Rows.fnExactSameNotesRow.domain false) (Rows.fnExactSameNotesSpec.post enc Try.prog Try.f3 false true false false) := by
  refine returnsInHanded_of_change_sized (C := Try.checked) own started (by kernel_rfl) Try.func3
    (ChangeSpec.witness6 (enc := enc) (C := Try.checked) false ⟨#[], #[.slice none 0 0, .slice none 0 0], []⟩ 8 (by kernel_rfl) (by kernel_rfl) (by kernel_rfl) (by kernel_rfl)) ?_
  intro W base args ds gs before hval0 hW hcnd hsz0 _
  have hval : ∀ (j : Nat) t v, Try.f3.params[j]? = some t → args[j]? = some v → Value.okWide Try.prog W .any base t v := hval0
  have hW' := hW
  obtain ⟨p, q, hA0, hV, rfl, hfz, hnd⟩ := hW
  have hA : DataW.TrodAll enc Try.prog W 0 (fun _ => true) true Try.f3.params.toList args.toList ds p := hA0
  rw [Try.params3] at hA hval
  obtain ⟨v0, vs0, d0, ds0, p0, q0, hargs, rfl, rfl, h0, r0⟩ := trodAll_cons hA
  obtain ⟨v1, vs1, d1, ds1, p1, q1, rfl, rfl, rfl, h1, r1⟩ := trodAll_cons r0
  obtain ⟨rfl, rfl, rfl⟩ := trodAll_nil r1
  obtain rfl : args = #[v0, v1] := by cases args; simp_all
  obtain ⟨rfl, rfl⟩ := trodVars_none hV
  have k0 := h0
  have lt0 : ∀ x ∈ p0, x.block < W.heap.size := by obtain ⟨m, hm⟩ := k0; exact DataW.trod_lt m _ _ _ hm
  obtain ⟨fuel0, hf0⟩ := h0
  obtain ⟨x0, hK0, w0⟩ := reader0.read hf0
  obtain ⟨a0, len0, cap0, rfl⟩ := okWide_slice Try.underlying22 (hval 0 22 v0 rfl rfl)
  obtain ⟨A0, c0, hcs0, hl0, hC0⟩ := hK0
  simp [Value.cells] at hcs0
  obtain ⟨rfl, rfl, rfl⟩ := hcs0
  have k1 := h1
  have lt1 : ∀ x ∈ p1, x.block < W.heap.size := by obtain ⟨m, hm⟩ := k1; exact DataW.trod_lt m _ _ _ hm
  obtain ⟨fuel1, hf1⟩ := h1
  obtain ⟨x1, hK1, w1⟩ := reader1.read hf1
  obtain ⟨a1, len1, cap1, rfl⟩ := okWide_slice Try.underlying22 (hval 1 22 v1 rfl rfl)
  obtain ⟨A1, c1, hcs1, hl1, hC1⟩ := hK1
  simp [Value.cells] at hcs1
  obtain ⟨rfl, rfl, rfl⟩ := hcs1
  clear hA0 hval0 hsz0
  obtain ⟨k, h⟩ := Pure.FnExactSameNotes x0 x1 w0 w1
  refine (laws_FnExactSameNotes.calls k _ _ x0 _ _ x1 true W hC0 hl0 hC1 hl1 ⟨rfl⟩ h).mono fun e W' ⟨he, hd⟩ => ?_
  have bel : Below W.heap.size W W' := hd
  subst he
  exact ⟨_, rfl, _, _, _, [], _, [], hW', trodAll_mk1 (shut_bool Try.underlying4 _), (trodAll_cons_mk (Below.trod laidOut (by kernel_rfl) (of_decide_eq_true (by kernel_rfl)) k0 bel lt0) (trodAll_cons_mk (Below.trod laidOut (by kernel_rfl) (of_decide_eq_true (by kernel_rfl)) k1 bel lt1) trodAll_mk0)), rfl, bel.frame _, fun h => by cases h⟩
theorem over : Rows.fnExactSameNotesRow.holds Try.pinned (OpenSpec.ofChange Rows.fnExactSameNotesSpec) :=
  OpenClaim.holds_of_wide 3 Try.f3 rfl rfl rfl rfl rfl rfl rfl ⟨rfl, rfl, rfl, rfl, rfl⟩ rfl rfl rfl rfl rfl (by kernel_rfl) Try.func3 (by kernel_rfl)
    (of_decide_eq_true (by kernel_rfl)) (by unfold Func.isWrapper; first | (rw [if_pos (by decide +kernel)]; kernel_rfl) | (rw [if_neg (by decide +kernel)]; exact ⟨rfl, rfl⟩))
    (fun os started H enc _ => lifted os started H enc)
theorem proved : Rows.FnExactSameNotesSaid := over
end Go.Proofs.Ytmbpnahnpgebcaa.fnExactSameNotes
namespace Go.Proofs.Ytmbpnahnpgebcaa
/-- The row, under a short name, for the claim. -/
theorem fnExactSameNotes_holds : Rows.FnExactSameNotesSaid := fnExactSameNotes.proved
end Go.Proofs.Ytmbpnahnpgebcaa
