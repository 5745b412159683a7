/- The law FnExactWriterSure, for every input: its row, out of its pure statement and the walk of its function. Written by a program (wip/gen/xprint.py). -/
import Derived.Test.YtepefeclpdnfmaaRows
import Derived.Test.YtepefeclpdnfmaaPFnExactWriterSurex3
import Derived.Test.YtepefeclpdnfmaaGFnExactWriterSure
import Derived.Test.YtepefeclpdnfmaaPureFnExactWriterSure
import Derived.WalkKit
import Derived.ProofKit
import Derived.OpenShut
import Derived.ShutString
import Derived.ChangeOld
import Derived.Below
import Derived.SizedLaws
import Derived.Carry
namespace Go.Proofs.Ytepefeclpdnfmaa.fnExactWriterSure
open Go.ChangeShapes Go.WideShapes Go.ChangeAt Go.RowKit
open Go.ChangeMaps (open_string shut_string)
open Go.RowKit Go.Proofs.Ytepefeclpdnfmaa.PFnExactWriterSure Go.Proofs.YtepefeclpdnfmaaW.PrintWords Go.Proofs.YtepefeclpdnfmaaW.PrintLast Go.Proofs.YtepefeclpdnfmaaW.Opn Go.Proofs.Ytepefeclpdnfmaa.GFnExactWriterSure
set_option linter.unusedVariables false
theorem own : ownKnob Try.prog.godebug = none := by kernel_rfl
theorem laidOut : laidOutB Try.prog = true := by kernel_rfl
set_option maxRecDepth 100000 in
theorem lifted (os : Os) (started : os.Started) (H : Type) (enc : TypeId × Value → H) :
    ReturnsInHanded {} Try.checked os 6 .any (Rows.fnExactWriterSureSpec.pre6 enc Try.prog Try.f6 Rows.fnExactWriterSureRow.domain false) (Rows.fnExactWriterSureSpec.post enc Try.prog Try.f6 false true false false) := by
  refine returnsInHanded_of_change_sized (C := Try.checked) own started (by kernel_rfl) Try.func6
    (ChangeSpec.witness6 (enc := enc) (C := Try.checked) false ⟨#[], #[.agg #[.int .i64 0, .slice none 0 0]], []⟩ 8 (by kernel_rfl) (by kernel_rfl) (by kernel_rfl) (by kernel_rfl)) ?_
  intro W base args ds gs before hval0 hW hcnd hsz0 _
  have hsz : (DataW.weightsEach Try.prog (Try.f6.params.toList ++ Rows.fnExactWriterSureSpec.plain.varTypes Try.prog) (ds ++ gs)).all (· ≤ reachBytes) = true := hsz0
  have hval : ∀ (j : Nat) t v, Try.f6.params[j]? = some t → args[j]? = some v → Value.okWide Try.prog W .any base t v := hval0
  have hW' := hW
  obtain ⟨p, q, hA0, hV, rfl, hfz, hnd⟩ := hW
  have hA : DataW.TrodAll enc Try.prog W 0 (fun _ => true) true Try.f6.params.toList args.toList ds p := hA0
  rw [Try.params6] at hA hval hsz
  obtain ⟨v0, vs0, d0, ds0, p0, q0, hargs, rfl, rfl, h0, r0⟩ := trodAll_cons hA
  obtain ⟨rfl, rfl, rfl⟩ := trodAll_nil r0
  obtain rfl : args = #[v0] := by cases args; simp_all
  obtain ⟨rfl, rfl⟩ := trodVars_none hV
  have k0 := h0
  have lt0 : ∀ x ∈ p0, x.block < W.heap.size := by obtain ⟨m, hm⟩ := k0; exact DataW.trod_lt m _ _ _ hm
  obtain ⟨cs0, rfl, hz0⟩ := okWide_struct Try.underlying45 (hval 0 45 v0 rfl rfl)
  obtain ⟨fuel0, hf0⟩ := h0
  obtain ⟨x0, hK0, hG0⟩ := ((opens_struct Try.underlying45 (by kernel_rfl) (opensF_cons rfl (by kernel_rfl) (opens_int Try.underlying3) (opensF_one rfl (by kernel_rfl) (opens_slice Try.underlying43 (by kernel_rfl) o129)))) : Opens Try.prog 45 (Kd.pair (Kd.int .i64) (Kd.slice 129 k129)) (fun x0 => ((Lit.int .i64 x0.1).wf = true ∧ (x0.2.length ≤ 9223372036854775807 ∧ ∀ e0 ∈ x0.2, G129 e0)))).get _ _ _ _ _ _ _ _ _ hf0
  obtain ⟨_, _, e0, rfl, ⟨A0_1, c0_1, rfl, hl0_1, hC0_1⟩⟩ := hK0
  obtain rfl : cs0 = #[.int .i64 x0.1, .slice A0_1 x0.2.length c0_1] := by cases cs0; simpa [Value.cells] using e0
  clear hA0 hval0 hsz0 hsz
  have P : Goal := Pure.FnExactWriterSure
  obtain ⟨k, h⟩ := P (x0.1) (x0.2) hG0.1 hG0.2
  refine (laws_FnExactWriterSure.calls k (x0.1) _ _ x0.2 true W hC0_1 hl0_1 h).mono fun e W' ⟨he, bel0⟩ => ?_
  have bel : Below W.heap.size W W' := bel0
  subst he
  exact ⟨_, rfl, _, _, _, [], _, [], hW', trodAll_mk1 (shut_bool Try.underlying4 _), (trodAll_cons_mk (Below.trod laidOut (by kernel_rfl) (of_decide_eq_true (by kernel_rfl)) k0 bel lt0) trodAll_mk0), rfl, bel.frame _, fun h => by cases h⟩
theorem over : Rows.fnExactWriterSureRow.holds Try.pinned (OpenSpec.ofChange Rows.fnExactWriterSureSpec) :=
  OpenClaim.holds_of_wide 6 Try.f6 rfl rfl rfl rfl rfl rfl rfl ⟨rfl, rfl, rfl, rfl, rfl⟩ rfl rfl rfl rfl rfl (by kernel_rfl) Try.func6 (by kernel_rfl)
    (of_decide_eq_true (by kernel_rfl)) (by unfold Func.isWrapper; first | (rw [if_pos (by decide +kernel)]; kernel_rfl) | (rw [if_neg (by decide +kernel)]; exact ⟨rfl, rfl⟩))
    (fun os started H enc _ => lifted os started H enc)
theorem proved : Rows.FnExactWriterSureSaid := over
#print axioms proved
end Go.Proofs.Ytepefeclpdnfmaa.fnExactWriterSure
namespace Go.Proofs.Ytepefeclpdnfmaa
/-- The row, under a short name, for the claim. -/
theorem fnExactWriterSure_holds : Rows.FnExactWriterSureSaid := fnExactWriterSure.proved
end Go.Proofs.Ytepefeclpdnfmaa
