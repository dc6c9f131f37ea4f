/- FnExactValidNote: the law's row, out of its plain statement and the walks. -/
import Derived.Test.YtieooajamljhnaaRows
import Derived.Test.YtieooajamljhnaaSFnExactValidNote
import Derived.Test.YtieooajamljhnaaPureFnExactValidNote
import Derived.WalkKit
import Derived.ProofKit
import Derived.OpenShut
import Derived.ShutString
import Derived.ChangeOld
import Derived.Below
import Derived.SizedLaws
namespace Go.Proofs.Ytieooajamljhnaa.fnExactValidNote
open Go.ChangeShapes Go.WideShapes Go.ChangeAt Go.RowKit Go.Proofs.Ytieooajamljhnaa.X
open Go.ChangeMaps (open_string shut_string)
set_option linter.unusedVariables false
theorem own : ownKnob Try.prog.godebug = none := by kernel_rfl
theorem laidOut : laidOutB Try.prog = true := by kernel_rfl
open Go.Proofs.YtieooajamljhnaaW.PrintWords in
theorem reader0 : Rdr.Reads Try.prog 48 k48 (fun x : S48 => Rdr.I64 x.f0 ∧ (Rdr.Str x.f1 ∧ ((Rdr.Lst Rdr.I64) x.f2))) := (show Rdr.Reads Try.prog 48 k48 _ from Rdr.reads_iso (f := fun x : S48 => (x.f0, x.f1, x.f2)) (fun a => ⟨a.1, a.2.1, a.2.2⟩) (fun _ => rfl) (Rdr.reads_struct Try.underlying48 (by kernel_rfl) (Rdr.freads_cons rfl (Rdr.reads_i64 Try.underlying2 (by kernel_rfl)) rfl (Rdr.freads_cons rfl (Rdr.reads_str Try.underlying9 (by kernel_rfl)) rfl (Rdr.freads_last rfl (Rdr.reads_slice Try.underlying46 (by kernel_rfl) (Rdr.reads_i64 Try.underlying2 (by kernel_rfl))))))))
set_option maxRecDepth 100000 in
theorem lifted (os : Os) (started : os.Started) (H : Type) (enc : TypeId × Value → H) :
    ReturnsInHanded {} Try.checked os 8 .any (Rows.fnExactValidNoteSpec.pre6 enc Try.prog Try.f8 Rows.fnExactValidNoteRow.domain false) (Rows.fnExactValidNoteSpec.post enc Try.prog Try.f8 false true false false) := by
  refine returnsInHanded_of_change_sized (C := Try.checked) own started (by kernel_rfl) Try.func8
    (ChangeSpec.witness6 (enc := enc) (C := Try.checked) false ⟨#[], #[.agg #[(.int .i64 0), (.string ⟨#[]⟩), (.slice none 0 0)]], []⟩ 8 (by kernel_rfl) (by kernel_rfl) (by kernel_rfl) (by kernel_rfl)) ?_
  intro W base args ds gs before hval0 hW hcnd hsz0 _
  have hval : ∀ (j : Nat) t v, Try.f8.params[j]? = some t → args[j]? = some v → Value.okWide Try.prog W .any base t v := hval0
  have hW' := hW
  obtain ⟨p, q, hA0, hV, rfl, hfz, hnd⟩ := hW
  have hA : DataW.TrodAll enc Try.prog W 0 (fun _ => true) true Try.f8.params.toList args.toList ds p := hA0
  rw [Try.params8] at hA hval
  obtain ⟨v0, vs0, d0, ds0, p0, q0, hargs, rfl, rfl, h0, r0⟩ := trodAll_cons hA
  obtain ⟨rfl, rfl, rfl⟩ := trodAll_nil r0
  obtain rfl : args = #[v0] := by cases args; simp_all
  obtain ⟨rfl, rfl⟩ := trodVars_none hV
  have k0 := h0
  have lt0 : ∀ x ∈ p0, x.block < W.heap.size := by obtain ⟨m, hm⟩ := k0; exact DataW.trod_lt m _ _ _ hm
  obtain ⟨fuel0, hf0⟩ := h0
  obtain ⟨x0, hK0, w0⟩ := reader0.read hf0
  obtain ⟨cs0, rfl, hsz0⟩ := okWide_struct Try.underlying48 (hval 0 48 v0 rfl rfl)
  obtain ⟨A0_2, c0_2, hcs0, hl0_2, hC0_2⟩ := k48_open hK0
  obtain rfl : cs0 = #[.int .i64 x0.f0, .string x0.f1, .slice A0_2 x0.f2.length c0_2] := by cases cs0; simpa [Value.cells] using hcs0
  clear hA0 hval0 hsz0
  obtain ⟨k, h⟩ := Pure.FnExactValidNote (x0.f0) (x0.f1) (x0.f2) w0.1 w0.2.1 w0.2.2
  refine (laws_FnExactValidNote.calls k (x0.f0) (x0.f1) _ _ (x0.f2) true W hC0_2 hl0_2 h).mono fun e W' ⟨he, hd⟩ => ?_
  have bel : Below W.heap.size W W' := hd
  subst he
  exact ⟨_, rfl, _, _, _, [], _, [], hW', trodAll_mk1 (shut_bool Try.underlying4 _), (trodAll_cons_mk (Below.trod laidOut (by kernel_rfl) (of_decide_eq_true (by kernel_rfl)) k0 bel lt0) trodAll_mk0), rfl, bel.frame _, fun h => by cases h⟩
theorem over : Rows.fnExactValidNoteRow.holds Try.pinned (OpenSpec.ofChange Rows.fnExactValidNoteSpec) :=
  OpenClaim.holds_of_wide 8 Try.f8 rfl rfl rfl rfl rfl rfl rfl ⟨rfl, rfl, rfl, rfl, rfl⟩ rfl rfl rfl rfl rfl (by kernel_rfl) Try.func8 (by kernel_rfl)
    (of_decide_eq_true (by kernel_rfl)) (by unfold Func.isWrapper; first | (rw [if_pos (by decide +kernel)]; kernel_rfl) | (rw [if_neg (by decide +kernel)]; exact ⟨rfl, rfl⟩))
    (fun os started H enc _ => lifted os started H enc)
theorem proved : Rows.FnExactValidNoteSaid := over
end Go.Proofs.Ytieooajamljhnaa.fnExactValidNote
namespace Go.Proofs.Ytieooajamljhnaa
/-- The row, under a short name, for the claim. -/
theorem fnExactValidNote_holds : Rows.FnExactValidNoteSaid := fnExactValidNote.proved
end Go.Proofs.Ytieooajamljhnaa
