/- The law FnExactMendEntry, for every input: its row, out of its pure statement and the walk of its function. Written by a program (wip/gen/xprint.py). -/
import Derived.Test.YtdkdhciogedoiaaRows
import Derived.Test.YtdkdhciogedoiaaPFnExactMendEntryx5
import Derived.Test.YtdkdhciogedoiaaGFnExactMendEntry
import Derived.Test.YtdkdhciogedoiaaPureFnExactMendEntry
import Derived.WalkKit
import Derived.ProofKit
import Derived.OpenShut
import Derived.ShutString
import Derived.ChangeOld
import Derived.Below
import Derived.SizedLaws
import Derived.Carry
namespace Go.Proofs.Ytdkdhciogedoiaa.fnExactMendEntry
open Go.ChangeShapes Go.WideShapes Go.ChangeAt Go.RowKit
open Go.ChangeMaps (open_string shut_string)
open Go.RowKit Go.Proofs.Ytdkdhciogedoiaa.PFnExactMendEntry Go.Proofs.YtdkdhciogedoiaaW.PrintWords Go.Proofs.YtdkdhciogedoiaaW.PrintLast Go.Proofs.YtdkdhciogedoiaaW.Opn Go.Proofs.Ytdkdhciogedoiaa.GFnExactMendEntry
set_option linter.unusedVariables false
theorem own : ownKnob Try.prog.godebug = none := by kernel_rfl
theorem laidOut : laidOutB Try.prog = true := by kernel_rfl
set_option maxRecDepth 100000 in
theorem lifted (os : Os) (started : os.Started) (H : Type) (enc : TypeId × Value → H) :
    ReturnsInHanded {} Try.checked os 6 .any (Rows.fnExactMendEntrySpec.pre6 enc Try.prog Try.f6 Rows.fnExactMendEntryRow.domain false) (Rows.fnExactMendEntrySpec.post enc Try.prog Try.f6 false true false false) := by
  refine returnsInHanded_of_change_sized (C := Try.checked) own started (by kernel_rfl) Try.func6
    (ChangeSpec.witness6 (enc := enc) (C := Try.checked) false ⟨#[], #[.agg #[.int .i64 0, .int .i64 0, .slice none 0 0, .slice none 0 0, .bool false, .slice none 0 0], .int .i64 0], []⟩ 8 (by kernel_rfl) (by kernel_rfl) (by kernel_rfl) (by kernel_rfl)) ?_
  intro W base args ds gs before hval0 hW hcnd hsz0 _
  have hsz : (DataW.weightsEach Try.prog (Try.f6.params.toList ++ Rows.fnExactMendEntrySpec.plain.varTypes Try.prog) (ds ++ gs)).all (· ≤ reachBytes) = true := hsz0
  have hval : ∀ (j : Nat) t v, Try.f6.params[j]? = some t → args[j]? = some v → Value.okWide Try.prog W .any base t v := hval0
  have hW' := hW
  obtain ⟨p, q, hA0, hV, rfl, hfz, hnd⟩ := hW
  have hA : DataW.TrodAll enc Try.prog W 0 (fun _ => true) true Try.f6.params.toList args.toList ds p := hA0
  rw [Try.params6] at hA hval hsz
  obtain ⟨v0, vs0, d0, ds0, p0, q0, hargs, rfl, rfl, h0, r0⟩ := trodAll_cons hA
  obtain ⟨v1, vs1, d1, ds1, p1, q1, rfl, rfl, rfl, h1, r1⟩ := trodAll_cons r0
  obtain ⟨rfl, rfl, rfl⟩ := trodAll_nil r1
  obtain rfl : args = #[v0, v1] := by cases args; simp_all
  obtain ⟨rfl, rfl⟩ := trodVars_none hV
  have k0 := h0
  have lt0 : ∀ x ∈ p0, x.block < W.heap.size := by obtain ⟨m, hm⟩ := k0; exact DataW.trod_lt m _ _ _ hm
  obtain ⟨cs0, rfl, hz0⟩ := okWide_struct Try.underlying56 (hval 0 56 v0 rfl rfl)
  obtain ⟨fuel0, hf0⟩ := h0
  obtain ⟨x0, hK0, hG0⟩ := ((opens_struct Try.underlying56 (by kernel_rfl) (opensF_cons rfl (by kernel_rfl) (opens_int Try.underlying3) (opensF_cons rfl (by kernel_rfl) (opens_int Try.underlying3) (opensF_cons rfl (by kernel_rfl) (opens_slice Try.underlying26 (by kernel_rfl) (opens_int Try.underlying3)) (opensF_cons rfl (by kernel_rfl) (opens_slice Try.underlying54 (by kernel_rfl) o137) (opensF_cons rfl (by kernel_rfl) (opens_bool Try.underlying4) (opensF_one rfl (by kernel_rfl) (opens_slice Try.underlying38 (by kernel_rfl) (opens_slice Try.underlying26 (by kernel_rfl) (opens_int Try.underlying3)))))))))) : Opens Try.prog 56 (Kd.pair (Kd.int .i64) (Kd.pair (Kd.int .i64) (Kd.pair (Kd.slice 3 (Kd.int .i64)) (Kd.pair (Kd.slice 137 k137) (Kd.pair Kd.bool (Kd.slice 26 (Kd.slice 3 (Kd.int .i64)))))))) (fun x0 => ((Lit.int .i64 x0.1).wf = true ∧ (Lit.int .i64 x0.2.1).wf = true ∧ (x0.2.2.1.length ≤ 9223372036854775807 ∧ ∀ e0 ∈ x0.2.2.1, (Lit.int .i64 e0).wf = true) ∧ (x0.2.2.2.1.length ≤ 9223372036854775807 ∧ ∀ e0 ∈ x0.2.2.2.1, G137 e0) ∧ True ∧ (x0.2.2.2.2.2.length ≤ 9223372036854775807 ∧ ∀ e0 ∈ x0.2.2.2.2.2, (e0.length ≤ 9223372036854775807 ∧ ∀ e1 ∈ e0, (Lit.int .i64 e1).wf = true))))).get _ _ _ _ _ _ _ _ _ hf0
  obtain ⟨_, _, e0, rfl, ⟨_, _, rfl, rfl, ⟨_, _, rfl, ⟨A0_2, c0_2, rfl, hl0_2, hC0_2⟩, ⟨_, _, rfl, ⟨A0_3, c0_3, rfl, hl0_3, hC0_3⟩, ⟨_, _, rfl, rfl, ⟨A0_5, c0_5, rfl, hl0_5, hC0_5⟩⟩⟩⟩⟩⟩ := hK0
  obtain rfl : cs0 = #[.int .i64 x0.1, .int .i64 x0.2.1, .slice A0_2 x0.2.2.1.length c0_2, .slice A0_3 x0.2.2.2.1.length c0_3, .bool x0.2.2.2.2.1, .slice A0_5 x0.2.2.2.2.2.length c0_5] := by cases cs0; simpa [Value.cells] using e0
  obtain ⟨a1, rfl, rfl, rfl, w1⟩ := open_int Try.underlying3 (hval 1 3 v1 rfl rfl) h1
  clear hA0 hval0 hsz0 hsz
  have P : Goal := Pure.FnExactMendEntry
  obtain ⟨k, h⟩ := P (x0.1) (x0.2.1) (x0.2.2.1) (x0.2.2.2.1) (x0.2.2.2.2.1) (x0.2.2.2.2.2) a1 hG0.1 hG0.2.1 hG0.2.2.1 hG0.2.2.2.1 hG0.2.2.2.2.2 w1
  refine (laws_FnExactMendEntry.calls k (x0.1) (x0.2.1) _ _ x0.2.2.1 _ _ x0.2.2.2.1 (x0.2.2.2.2.1) _ _ x0.2.2.2.2.2 a1 true W hC0_2 hl0_2 hC0_3 hl0_3 hC0_5 hl0_5 h).mono fun e W' ⟨he, bel0⟩ => ?_
  have bel : Below W.heap.size W W' := bel0
  subst he
  exact ⟨_, rfl, _, _, _, [], _, [], hW', trodAll_mk1 (shut_bool Try.underlying4 _), (trodAll_cons_mk (Below.trod laidOut (by kernel_rfl) (of_decide_eq_true (by kernel_rfl)) k0 bel lt0) (trodAll_cons_mk (shut_int Try.underlying3 w1) trodAll_mk0)), rfl, bel.frame _, fun h => by cases h⟩
theorem over : Rows.fnExactMendEntryRow.holds Try.pinned (OpenSpec.ofChange Rows.fnExactMendEntrySpec) :=
  OpenClaim.holds_of_wide 6 Try.f6 rfl rfl rfl rfl rfl rfl rfl ⟨rfl, rfl, rfl, rfl, rfl⟩ rfl rfl rfl rfl rfl (by kernel_rfl) Try.func6 (by kernel_rfl)
    (of_decide_eq_true (by kernel_rfl)) (by unfold Func.isWrapper; first | (rw [if_pos (by decide +kernel)]; kernel_rfl) | (rw [if_neg (by decide +kernel)]; exact ⟨rfl, rfl⟩))
    (fun os started H enc _ => lifted os started H enc)
theorem proved : Rows.FnExactMendEntrySaid := over
#print axioms proved
end Go.Proofs.Ytdkdhciogedoiaa.fnExactMendEntry
namespace Go.Proofs.Ytdkdhciogedoiaa
/-- The row, under a short name, for the claim. -/
theorem fnExactMendEntry_holds : Rows.FnExactMendEntrySaid := fnExactMendEntry.proved
end Go.Proofs.Ytdkdhciogedoiaa
