/- The law FnExactMendReady, for every input: its row, out of its pure statement and the walk of its function. Written by a program (wip/gen/xprint.py). -/
import Derived.Below
import Derived.Carry
import Derived.ChangeOld
import Derived.OpenShut
import Derived.ProofKit
import Derived.ShutString
import Derived.SizedLaws
import Derived.Test.YtlomecknojaakaaRows
import Derived.WalkKit
import Derived.Test.YtlomecknojaakaaKFnExactMendReadyP13
import Derived.Test.YtlomecknojaakaaKFnExactMendReadyG
import Derived.Test.YtlomecknojaakaaKFnExactMendReadyQ
import Derived.Test.YtlomecknojaakaaKFnExactMendReadyD
namespace Go.Proofs.Ytlomecknojaakaa.fnExactMendReady
open Go.ChangeShapes Go.WideShapes Go.ChangeAt Go.RowKit
open Go.ChangeMaps (open_string shut_string)
open Go.RowKit Go.Proofs.Ytlomecknojaakaa.PFnExactMendReady Go.Proofs.YtlomecknojaakaaW.PrintWords Go.Proofs.YtlomecknojaakaaW.PrintLast Go.Proofs.YtlomecknojaakaaW.Opn Go.Proofs.Ytlomecknojaakaa.GFnExactMendReady
set_option linter.unusedVariables false
theorem own : ownKnob Try.prog.godebug = none := by kernel_rfl
theorem laidOut : laidOutB Try.prog = true := by kernel_rfl
set_option maxRecDepth 100000 in
theorem lifted (os : Os) (started : os.Started) (H : Type) (enc : TypeId × Value → H) :
    ReturnsInHanded {} Try.checked os 3 .any (Rows.fnExactMendReadySpec.pre6 enc Try.prog Try.f3 Rows.fnExactMendReadyRow.domain false) (Rows.fnExactMendReadySpec.post enc Try.prog Try.f3 false true false false) := by
  refine returnsInHanded_of_change_sized (C := Try.checked) own started (by kernel_rfl) Try.func3
    (ChangeSpec.witness6 (enc := enc) (C := Try.checked) false ⟨#[], #[.agg #[.slice none 0 0, .int .i64 0], .agg #[.int .i64 0, .int .i64 0, .slice none 0 0, .slice none 0 0, .bool false, .slice none 0 0]], []⟩ 8 (by kernel_rfl) (by kernel_rfl) (by kernel_rfl) (by kernel_rfl)) ?_
  intro W base args ds gs before hval0 hW hcnd hsz0 _
  have hsz : (DataW.weightsEach Try.prog (Try.f3.params.toList ++ Rows.fnExactMendReadySpec.plain.varTypes Try.prog) (ds ++ gs)).all (· ≤ reachBytes) = true := hsz0
  have hval : ∀ (j : Nat) t v, Try.f3.params[j]? = some t → args[j]? = some v → Value.okWide Try.prog W .any base t v := hval0
  have hW' := hW
  obtain ⟨p, q, hA0, hV, rfl, hfz, hnd⟩ := hW
  have hA : DataW.TrodAll enc Try.prog W 0 (fun _ => true) true Try.f3.params.toList args.toList ds p := hA0
  rw [Try.params3] at hA hval hsz
  obtain ⟨v0, vs0, d0, ds0, p0, q0, hargs, rfl, rfl, h0, r0⟩ := trodAll_cons hA
  obtain ⟨v1, vs1, d1, ds1, p1, q1, rfl, rfl, rfl, h1, r1⟩ := trodAll_cons r0
  obtain ⟨rfl, rfl, rfl⟩ := trodAll_nil r1
  obtain rfl : args = #[v0, v1] := by cases args; simp_all
  obtain ⟨rfl, rfl⟩ := trodVars_none hV
  have k0 := h0
  have lt0 : ∀ x ∈ p0, x.block < W.heap.size := by obtain ⟨m, hm⟩ := k0; exact DataW.trod_lt m _ _ _ hm
  obtain ⟨cs0, rfl, hz0⟩ := okWide_struct Try.underlying24 (hval 0 24 v0 rfl rfl)
  obtain ⟨fuel0, hf0⟩ := h0
  obtain ⟨x0, hK0, hG0⟩ := ((opens_struct Try.underlying24 (by kernel_rfl) (opensF_cons rfl (by kernel_rfl) (opens_slice Try.underlying22 (by kernel_rfl) (opens_int Try.underlying3)) (opensF_one rfl (by kernel_rfl) (opens_int Try.underlying3)))) : Opens Try.prog 24 (Kd.pair (Kd.slice 3 (Kd.int .i64)) (Kd.int .i64)) (fun x0 => ((x0.1.length ≤ 9223372036854775807 ∧ ∀ e0 ∈ x0.1, (Lit.int .i64 e0).wf = true) ∧ (Lit.int .i64 x0.2).wf = true))).get _ _ _ _ _ _ _ _ _ hf0
  obtain ⟨_, _, e0, ⟨A0_0, c0_0, rfl, hl0_0, hC0_0⟩, rfl⟩ := hK0
  obtain rfl : cs0 = #[.slice A0_0 x0.1.length c0_0, .int .i64 x0.2] := by cases cs0; simpa [Value.cells] using e0
  have k1 := h1
  have lt1 : ∀ x ∈ p1, x.block < W.heap.size := by obtain ⟨m, hm⟩ := k1; exact DataW.trod_lt m _ _ _ hm
  obtain ⟨cs1, rfl, hz1⟩ := okWide_struct Try.underlying28 (hval 1 28 v1 rfl rfl)
  obtain ⟨fuel1, hf1⟩ := h1
  obtain ⟨x1, hK1, hG1⟩ := ((opens_struct Try.underlying28 (by kernel_rfl) (opensF_cons rfl (by kernel_rfl) (opens_int Try.underlying3) (opensF_cons rfl (by kernel_rfl) (opens_int Try.underlying3) (opensF_cons rfl (by kernel_rfl) (opens_slice Try.underlying22 (by kernel_rfl) (opens_int Try.underlying3)) (opensF_cons rfl (by kernel_rfl) (opens_slice Try.underlying25 (by kernel_rfl) o131) (opensF_cons rfl (by kernel_rfl) (opens_bool Try.underlying4) (opensF_one rfl (by kernel_rfl) (opens_slice Try.underlying26 (by kernel_rfl) (opens_slice Try.underlying22 (by kernel_rfl) (opens_int Try.underlying3)))))))))) : Opens Try.prog 28 (Kd.pair (Kd.int .i64) (Kd.pair (Kd.int .i64) (Kd.pair (Kd.slice 3 (Kd.int .i64)) (Kd.pair (Kd.slice 131 k131) (Kd.pair Kd.bool (Kd.slice 22 (Kd.slice 3 (Kd.int .i64)))))))) (fun x1 => ((Lit.int .i64 x1.1).wf = true ∧ (Lit.int .i64 x1.2.1).wf = true ∧ (x1.2.2.1.length ≤ 9223372036854775807 ∧ ∀ e0 ∈ x1.2.2.1, (Lit.int .i64 e0).wf = true) ∧ (x1.2.2.2.1.length ≤ 9223372036854775807 ∧ ∀ e0 ∈ x1.2.2.2.1, G131 e0) ∧ True ∧ (x1.2.2.2.2.2.length ≤ 9223372036854775807 ∧ ∀ e0 ∈ x1.2.2.2.2.2, (e0.length ≤ 9223372036854775807 ∧ ∀ e1 ∈ e0, (Lit.int .i64 e1).wf = true))))).get _ _ _ _ _ _ _ _ _ hf1
  obtain ⟨_, _, e1, rfl, ⟨_, _, rfl, rfl, ⟨_, _, rfl, ⟨A1_2, c1_2, rfl, hl1_2, hC1_2⟩, ⟨_, _, rfl, ⟨A1_3, c1_3, rfl, hl1_3, hC1_3⟩, ⟨_, _, rfl, rfl, ⟨A1_5, c1_5, rfl, hl1_5, hC1_5⟩⟩⟩⟩⟩⟩ := hK1
  obtain rfl : cs1 = #[.int .i64 x1.1, .int .i64 x1.2.1, .slice A1_2 x1.2.2.1.length c1_2, .slice A1_3 x1.2.2.2.1.length c1_3, .bool x1.2.2.2.2.1, .slice A1_5 x1.2.2.2.2.2.length c1_5] := by cases cs1; simpa [Value.cells] using e1
  clear hA0 hval0 hsz0 hsz
  have P : Goal := Pure.FnExactMendReady
  obtain ⟨k, h⟩ := P (x0.1) (x0.2) (x1.1) (x1.2.1) (x1.2.2.1) (x1.2.2.2.1) (x1.2.2.2.2.1) (x1.2.2.2.2.2) hG0.1 hG0.2 hG1.1 hG1.2.1 hG1.2.2.1 hG1.2.2.2.1 hG1.2.2.2.2.2
  refine (laws_FnExactMendReady.calls k _ _ x0.1 (x0.2) (x1.1) (x1.2.1) _ _ x1.2.2.1 _ _ x1.2.2.2.1 (x1.2.2.2.2.1) _ _ x1.2.2.2.2.2 true W hC0_0 hl0_0 hC1_2 hl1_2 hC1_3 hl1_3 hC1_5 hl1_5 h).mono fun e W' ⟨he, bel0⟩ => ?_
  have bel : Below W.heap.size W W' := bel0
  subst he
  exact ⟨_, rfl, _, _, _, [], _, [], hW', trodAll_mk1 (shut_bool Try.underlying4 _), (trodAll_cons_mk (Below.trod laidOut (by kernel_rfl) (of_decide_eq_true (by kernel_rfl)) k0 bel lt0) (trodAll_cons_mk (Below.trod laidOut (by kernel_rfl) (of_decide_eq_true (by kernel_rfl)) k1 bel lt1) trodAll_mk0)), rfl, bel.frame _, fun h => by cases h⟩
theorem over : Rows.fnExactMendReadyRow.holds Try.pinned (OpenSpec.ofChange Rows.fnExactMendReadySpec) :=
  OpenClaim.holds_of_wide 3 Try.f3 rfl rfl rfl rfl rfl rfl rfl ⟨rfl, rfl, rfl, rfl, rfl⟩ rfl rfl rfl rfl rfl (by kernel_rfl) Try.func3 (by kernel_rfl)
    (of_decide_eq_true (by kernel_rfl)) (by unfold Func.isWrapper; first | (rw [if_pos (by decide +kernel)]; kernel_rfl) | (rw [if_neg (by decide +kernel)]; exact ⟨rfl, rfl⟩))
    (fun os started H enc _ => lifted os started H enc)
theorem proved : Rows.FnExactMendReadySaid := over
#print axioms proved
end Go.Proofs.Ytlomecknojaakaa.fnExactMendReady
namespace Go.Proofs.Ytlomecknojaakaa
theorem fnExactMendReady_holds : Rows.FnExactMendReadySaid := fnExactMendReady.proved
end Go.Proofs.Ytlomecknojaakaa
