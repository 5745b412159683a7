/- The law FnExactSureOf, for every input: its row, out of its pure statement and the walk of its function. Written by a program (wip/gen/xprint.py). -/
import Derived.Below
import Derived.Carry
import Derived.ChangeOld
import Derived.OpenShut
import Derived.ProofKit
import Derived.ShutString
import Derived.SizedLaws
import Derived.Test.YtlomecknojaakacRows
import Derived.WalkKit
import Derived.Test.YtlomecknojaakacKFnExactSureOfP11
import Derived.Test.YtlomecknojaakacKFnExactSureOfG
import Derived.Test.YtlomecknojaakacKFnExactSureOfQ
import Derived.Test.YtlomecknojaakacKFnExactSureOfD
namespace Go.Proofs.Ytlomecknojaakac.fnExactSureOf
open Go.ChangeShapes Go.WideShapes Go.ChangeAt Go.RowKit
open Go.ChangeMaps (open_string shut_string)
open Go.RowKit Go.Proofs.Ytlomecknojaakac.PFnExactSureOf Go.Proofs.YtlomecknojaakacW.PrintWords Go.Proofs.YtlomecknojaakacW.PrintLast Go.Proofs.YtlomecknojaakacW.Opn Go.Proofs.Ytlomecknojaakac.GFnExactSureOf
set_option linter.unusedVariables false
theorem own : ownKnob Try.prog.godebug = none := by kernel_rfl
theorem laidOut : laidOutB Try.prog = true := by kernel_rfl
set_option maxRecDepth 100000 in
theorem lifted (os : Os) (started : os.Started) (H : Type) (enc : TypeId × Value → H) :
    ReturnsInHanded {} Try.checked os 7 .any (Rows.fnExactSureOfSpec.pre6 enc Try.prog Try.f7 Rows.fnExactSureOfRow.domain false) (Rows.fnExactSureOfSpec.post enc Try.prog Try.f7 false true false false) := by
  refine returnsInHanded_of_change_sized (C := Try.checked) own started (by kernel_rfl) Try.func7
    (ChangeSpec.witness6 (enc := enc) (C := Try.checked) false ⟨#[], #[.agg #[.slice none 0 0, .int .i64 0, .slice none 0 0, .slice none 0 0, .slice none 0 0, .int .i64 0, .slice none 0 0, .slice none 0 0, .slice none 0 0, .slice none 0 0, .bool false], .int .i64 0], []⟩ 8 (by kernel_rfl) (by kernel_rfl) (by kernel_rfl) (by kernel_rfl)) ?_
  intro W base args ds gs before hval0 hW hcnd hsz0 _
  have hsz : (DataW.weightsEach Try.prog (Try.f7.params.toList ++ Rows.fnExactSureOfSpec.plain.varTypes Try.prog) (ds ++ gs)).all (· ≤ reachBytes) = true := hsz0
  have hval : ∀ (j : Nat) t v, Try.f7.params[j]? = some t → args[j]? = some v → Value.okWide Try.prog W .any base t v := hval0
  have hW' := hW
  obtain ⟨p, q, hA0, hV, rfl, hfz, hnd⟩ := hW
  have hA : DataW.TrodAll enc Try.prog W 0 (fun _ => true) true Try.f7.params.toList args.toList ds p := hA0
  rw [Try.params7] at hA hval hsz
  obtain ⟨v0, vs0, d0, ds0, p0, q0, hargs, rfl, rfl, h0, r0⟩ := trodAll_cons hA
  obtain ⟨v1, vs1, d1, ds1, p1, q1, rfl, rfl, rfl, h1, r1⟩ := trodAll_cons r0
  obtain ⟨rfl, rfl, rfl⟩ := trodAll_nil r1
  obtain rfl : args = #[v0, v1] := by cases args; simp_all
  obtain ⟨rfl, rfl⟩ := trodVars_none hV
  have k0 := h0
  have lt0 : ∀ x ∈ p0, x.block < W.heap.size := by obtain ⟨m, hm⟩ := k0; exact DataW.trod_lt m _ _ _ hm
  obtain ⟨cs0, rfl, hz0⟩ := okWide_struct Try.underlying91 (hval 0 91 v0 rfl rfl)
  obtain ⟨fuel0, hf0⟩ := h0
  obtain ⟨x0, hK0, hG0⟩ := ((opens_struct Try.underlying91 (by kernel_rfl) (opensF_cons rfl (by kernel_rfl) (opens_struct Try.underlying42 (by kernel_rfl) (opensF_cons rfl (by kernel_rfl) (opens_slice Try.underlying24 (by kernel_rfl) (opens_int Try.underlying3)) (opensF_one rfl (by kernel_rfl) (opens_int Try.underlying3)))) (opensF_cons rfl (by kernel_rfl) (opens_slice Try.underlying61 (by kernel_rfl) o160) (opensF_cons rfl (by kernel_rfl) (opens_slice Try.underlying24 (by kernel_rfl) (opens_int Try.underlying3)) (opensF_cons rfl (by kernel_rfl) (opens_struct Try.underlying85 (by kernel_rfl) (opensF_cons rfl (by kernel_rfl) (opens_slice Try.underlying83 (by kernel_rfl) o240) (opensF_one rfl (by kernel_rfl) (opens_int Try.underlying3)))) (opensF_cons rfl (by kernel_rfl) (opens_slice Try.underlying86 (by kernel_rfl) o228) (opensF_cons rfl (by kernel_rfl) (opens_slice Try.underlying87 (by kernel_rfl) o46) (opensF_cons rfl (by kernel_rfl) (opens_slice Try.underlying88 (by kernel_rfl) o105) (opensF_cons rfl (by kernel_rfl) (opens_slice Try.underlying89 (by kernel_rfl) o231) (opensF_one rfl (by kernel_rfl) (opens_bool Try.underlying4))))))))))) : Opens Try.prog 91 (Kd.pair (Kd.pair (Kd.slice 3 (Kd.int .i64)) (Kd.int .i64)) (Kd.pair (Kd.slice 160 k160) (Kd.pair (Kd.slice 3 (Kd.int .i64)) (Kd.pair (Kd.pair (Kd.slice 240 k240) (Kd.int .i64)) (Kd.pair (Kd.slice 228 k228) (Kd.pair (Kd.slice 46 k46) (Kd.pair (Kd.slice 105 k105) (Kd.pair (Kd.slice 231 k231) Kd.bool)))))))) (fun x0 => (((x0.1.1.length ≤ 9223372036854775807 ∧ ∀ e0 ∈ x0.1.1, (Lit.int .i64 e0).wf = true) ∧ (Lit.int .i64 x0.1.2).wf = true) ∧ (x0.2.1.length ≤ 9223372036854775807 ∧ ∀ e0 ∈ x0.2.1, G160 e0) ∧ (x0.2.2.1.length ≤ 9223372036854775807 ∧ ∀ e0 ∈ x0.2.2.1, (Lit.int .i64 e0).wf = true) ∧ ((x0.2.2.2.1.1.length ≤ 9223372036854775807 ∧ ∀ e0 ∈ x0.2.2.2.1.1, G240 e0) ∧ (Lit.int .i64 x0.2.2.2.1.2).wf = true) ∧ (x0.2.2.2.2.1.length ≤ 9223372036854775807 ∧ ∀ e0 ∈ x0.2.2.2.2.1, G228 e0) ∧ (x0.2.2.2.2.2.1.length ≤ 9223372036854775807 ∧ ∀ e0 ∈ x0.2.2.2.2.2.1, G46 e0) ∧ (x0.2.2.2.2.2.2.1.length ≤ 9223372036854775807 ∧ ∀ e0 ∈ x0.2.2.2.2.2.2.1, G105 e0) ∧ (x0.2.2.2.2.2.2.2.1.length ≤ 9223372036854775807 ∧ ∀ e0 ∈ x0.2.2.2.2.2.2.2.1, G231 e0) ∧ True))).get _ _ _ _ _ _ _ _ _ hf0
  obtain ⟨_, _, e0, ⟨_, _, rfl, ⟨A0_0, c0_0, rfl, hl0_0, hC0_0⟩, rfl⟩, ⟨_, _, rfl, ⟨A0_2, c0_2, rfl, hl0_2, hC0_2⟩, ⟨_, _, rfl, ⟨A0_3, c0_3, rfl, hl0_3, hC0_3⟩, ⟨_, _, rfl, ⟨_, _, rfl, ⟨A0_4, c0_4, rfl, hl0_4, hC0_4⟩, rfl⟩, ⟨_, _, rfl, ⟨A0_6, c0_6, rfl, hl0_6, hC0_6⟩, ⟨_, _, rfl, ⟨A0_7, c0_7, rfl, hl0_7, hC0_7⟩, ⟨_, _, rfl, ⟨A0_8, c0_8, rfl, hl0_8, hC0_8⟩, ⟨_, _, rfl, ⟨A0_9, c0_9, rfl, hl0_9, hC0_9⟩, rfl⟩⟩⟩⟩⟩⟩⟩⟩ := hK0
  obtain rfl : cs0 = #[.slice A0_0 x0.1.1.length c0_0, .int .i64 x0.1.2, .slice A0_2 x0.2.1.length c0_2, .slice A0_3 x0.2.2.1.length c0_3, .slice A0_4 x0.2.2.2.1.1.length c0_4, .int .i64 x0.2.2.2.1.2, .slice A0_6 x0.2.2.2.2.1.length c0_6, .slice A0_7 x0.2.2.2.2.2.1.length c0_7, .slice A0_8 x0.2.2.2.2.2.2.1.length c0_8, .slice A0_9 x0.2.2.2.2.2.2.2.1.length c0_9, .bool x0.2.2.2.2.2.2.2.2] := by cases cs0; simpa [Value.cells] using e0
  obtain ⟨a1, rfl, rfl, rfl, w1⟩ := open_int Try.underlying3 (hval 1 3 v1 rfl rfl) h1
  clear hA0 hval0 hsz0 hsz
  have P : Goal := Pure.FnExactSureOf
  obtain ⟨k, h⟩ := P (x0.1.1) (x0.1.2) (x0.2.1) (x0.2.2.1) (x0.2.2.2.1.1) (x0.2.2.2.1.2) (x0.2.2.2.2.1) (x0.2.2.2.2.2.1) (x0.2.2.2.2.2.2.1) (x0.2.2.2.2.2.2.2.1) (x0.2.2.2.2.2.2.2.2) a1 hG0.1.1 hG0.1.2 hG0.2.1 hG0.2.2.1 hG0.2.2.2.1.1 hG0.2.2.2.1.2 hG0.2.2.2.2.1 hG0.2.2.2.2.2.1 hG0.2.2.2.2.2.2.1 hG0.2.2.2.2.2.2.2.1 w1
  refine (laws_FnExactSureOf.calls k _ _ x0.1.1 (x0.1.2) _ _ x0.2.1 _ _ x0.2.2.1 _ _ x0.2.2.2.1.1 (x0.2.2.2.1.2) _ _ x0.2.2.2.2.1 _ _ x0.2.2.2.2.2.1 _ _ x0.2.2.2.2.2.2.1 _ _ x0.2.2.2.2.2.2.2.1 (x0.2.2.2.2.2.2.2.2) a1 true W hC0_0 hl0_0 hC0_2 hl0_2 hC0_3 hl0_3 hC0_4 hl0_4 hC0_6 hl0_6 hC0_7 hl0_7 hC0_8 hl0_8 hC0_9 hl0_9 h).mono fun e W' ⟨he, bel0⟩ => ?_
  have bel : Below W.heap.size W W' := bel0
  subst he
  exact ⟨_, rfl, _, _, _, [], _, [], hW', trodAll_mk1 (shut_bool Try.underlying4 _), (trodAll_cons_mk (Below.trod laidOut (by kernel_rfl) (of_decide_eq_true (by kernel_rfl)) k0 bel lt0) (trodAll_cons_mk (shut_int Try.underlying3 w1) trodAll_mk0)), rfl, bel.frame _, fun h => by cases h⟩
theorem over : Rows.fnExactSureOfRow.holds Try.pinned (OpenSpec.ofChange Rows.fnExactSureOfSpec) :=
  OpenClaim.holds_of_wide 7 Try.f7 rfl rfl rfl rfl rfl rfl rfl ⟨rfl, rfl, rfl, rfl, rfl⟩ rfl rfl rfl rfl rfl (by kernel_rfl) Try.func7 (by kernel_rfl)
    (of_decide_eq_true (by kernel_rfl)) (by unfold Func.isWrapper; first | (rw [if_pos (by decide +kernel)]; kernel_rfl) | (rw [if_neg (by decide +kernel)]; exact ⟨rfl, rfl⟩))
    (fun os started H enc _ => lifted os started H enc)
theorem proved : Rows.FnExactSureOfSaid := over
#print axioms proved
end Go.Proofs.Ytlomecknojaakac.fnExactSureOf
namespace Go.Proofs.Ytlomecknojaakac
theorem fnExactSureOf_holds : Rows.FnExactSureOfSaid := fnExactSureOf.proved
end Go.Proofs.Ytlomecknojaakac
