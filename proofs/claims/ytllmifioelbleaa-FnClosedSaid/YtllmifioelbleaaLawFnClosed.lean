/- The law FnClosed, for every input: its row, out of its pure statement and of the plain function that its code is. Conditions: none. -/
import Derived.Test.YtllmifioelbleaaRows
import Derived.Test.YtllmifioelbleaaMFnClosed
import Derived.Test.YtllmifioelbleaaPureFnClosed
namespace Go.Proofs.Ytllmifioelbleaa.fnClosed
open Go.ChangeShapes Go.WideShapes Go.ChangeAt Go.RowKit Go.OM
open Go.ChangeMaps (open_string shut_string)
set_option linter.unusedVariables false
theorem own : ownKnob Try.prog.godebug = none := by kernel_rfl
theorem laidOut : laidOutB Try.prog = true := by kernel_rfl
set_option maxRecDepth 100000 in
theorem lifted (os : Os) (started : os.Started) (H : Type) (enc : TypeId × Value → H) :
    ReturnsInHanded {} Try.checked os 6 .any (Rows.fnClosedSpec.pre6 enc Try.prog Try.f6 Rows.fnClosedRow.domain false) (Rows.fnClosedSpec.post enc Try.prog Try.f6 false true false false) := by
  refine returnsInHanded_of_change_sized (C := Try.checked) own started (by kernel_rfl) Try.func6
    (ChangeSpec.witness6 (enc := enc) (C := Try.checked) false ⟨#[], #[.slice none 0 0], []⟩ 8 (by kernel_rfl) (by kernel_rfl) (by kernel_rfl) (by kernel_rfl)) ?_
  intro W base args ds gs before hval0 hW hcnd hsz0 _
  have hval : ∀ (j : Nat) t v, Try.f6.params[j]? = some t → args[j]? = some v → Value.okWide Try.prog W .any base t v := hval0
  have hW' := hW
  obtain ⟨p, q, hA0, hV, rfl, hfz, hnd⟩ := hW
  have hA : DataW.TrodAll enc Try.prog W 0 (fun _ => true) true Try.f6.params.toList args.toList ds p := hA0
  rw [Try.params6] at hA hval
  have hc := law_calls OmFnClosed.tysOk (f := 6) (fk := OmFnClosed.laws_FnClosed.fk) OmFnClosed.laws_FnClosed.ok (fun x hx => by obtain ⟨k, h⟩ := OmFnClosed.pureL x.1 hx.1; exact ⟨k, true, h, rfl⟩) (b0 := base) (ids := [22]) (by kernel_rfl) hA (fun j t v h1 h2 => hval j t v (by simpa using h1) (by simpa using h2))
  have hS := fun (W' : Go.World) (bel : Below W.heap.size W W') => trodAll_stays laidOut bel (by kernel_rfl) hA
  obtain ⟨v0, vs0, d0, ds0, p0, q0, hargs, rfl, rfl, h0, r0⟩ := trodAll_cons hA
  obtain ⟨rfl, rfl, rfl⟩ := trodAll_nil r0
  obtain ⟨rfl, rfl⟩ := trodVars_none hV
  refine hc.mono fun e W' ⟨he, bel⟩ => ?_
  subst he
  exact ⟨_, rfl, _, _, _, [], _, [], hW', trodAll_mk1 (shut_bool Try.underlying4 _), hS W' bel, rfl, bel.frame _, fun h => by cases h⟩
theorem over : Rows.fnClosedRow.holds Try.pinned (OpenSpec.ofChange Rows.fnClosedSpec) :=
  OpenClaim.holds_of_wide 6 Try.f6 rfl rfl rfl rfl rfl rfl rfl ⟨rfl, rfl, rfl, rfl, rfl⟩ rfl rfl rfl rfl rfl (by kernel_rfl) Try.func6 (by kernel_rfl)
    (of_decide_eq_true (by kernel_rfl)) (by unfold Func.isWrapper; first | (rw [if_pos (by decide +kernel)]; kernel_rfl) | (rw [if_neg (by decide +kernel)]; exact ⟨rfl, rfl⟩))
    (fun os started H enc _ => lifted os started H enc)
theorem proved : Rows.FnClosedSaid := over
#print axioms proved
end Go.Proofs.Ytllmifioelbleaa.fnClosed
namespace Go.Proofs.Ytllmifioelbleaa
/-- The row, under a short name, for the claim. -/
theorem fnClosed_holds : Rows.FnClosedSaid := fnClosed.proved
end Go.Proofs.Ytllmifioelbleaa
