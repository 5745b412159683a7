/- The law FnStoreBytes, for every input: its row, out of its pure statement and of the plain function that its code is. Conditions: none. -/
import Derived.Test.YtllmifioelbleaaRows
import Derived.Test.YtllmifioelbleaaMFnStoreBytes
import Derived.Test.YtllmifioelbleaaPureFnStoreBytes
namespace Go.Proofs.Ytllmifioelbleaa.fnStoreBytes
open Go.ChangeShapes Go.WideShapes Go.ChangeAt Go.RowKit Go.OM
open Go.ChangeMaps (open_string shut_string)
set_option linter.unusedVariables false
theorem own : ownKnob Try.prog.godebug = none := by kernel_rfl
theorem laidOut : laidOutB Try.prog = true := by kernel_rfl
set_option maxRecDepth 100000 in
theorem lifted (os : Os) (started : os.Started) (H : Type) (enc : TypeId × Value → H) :
    ReturnsInHanded {} Try.checked os 7 .any (Rows.fnStoreBytesSpec.pre6 enc Try.prog Try.f7 Rows.fnStoreBytesRow.domain false) (Rows.fnStoreBytesSpec.post enc Try.prog Try.f7 false true false false) := by
  refine returnsInHanded_of_change_sized (C := Try.checked) own started (by kernel_rfl) Try.func7
    (ChangeSpec.witness6 (enc := enc) (C := Try.checked) false ⟨#[], #[.slice none 0 0], []⟩ 8 (by kernel_rfl) (by kernel_rfl) (by kernel_rfl) (by kernel_rfl)) ?_
  intro W base args ds gs before hval0 hW hcnd hsz0 _
  have hval : ∀ (j : Nat) t v, Try.f7.params[j]? = some t → args[j]? = some v → Value.okWide Try.prog W .any base t v := hval0
  have hW' := hW
  obtain ⟨p, q, hA0, hV, rfl, hfz, hnd⟩ := hW
  have hA : DataW.TrodAll enc Try.prog W 0 (fun _ => true) true Try.f7.params.toList args.toList ds p := hA0
  rw [Try.params7] at hA hval
  have hc := law_calls OmFnStoreBytes.tysOk (f := 7) (fk := OmFnStoreBytes.laws_FnStoreBytes.fk) OmFnStoreBytes.laws_FnStoreBytes.ok (fun x hx => by obtain ⟨k, h⟩ := OmFnStoreBytes.pureL x.1 hx.1; exact ⟨k, true, h, rfl⟩) (b0 := base) (ids := [22]) (by kernel_rfl) hA (fun j t v h1 h2 => hval j t v (by simpa using h1) (by simpa using h2))
  have hS := fun (W' : Go.World) (bel : Below W.heap.size W W') => trodAll_stays laidOut bel (by kernel_rfl) hA
  obtain ⟨v0, vs0, d0, ds0, p0, q0, hargs, rfl, rfl, h0, r0⟩ := trodAll_cons hA
  obtain ⟨rfl, rfl, rfl⟩ := trodAll_nil r0
  obtain ⟨rfl, rfl⟩ := trodVars_none hV
  refine hc.mono fun e W' ⟨he, bel⟩ => ?_
  subst he
  exact ⟨_, rfl, _, _, _, [], _, [], hW', trodAll_mk1 (shut_bool Try.underlying4 _), hS W' bel, rfl, bel.frame _, fun h => by cases h⟩
theorem over : Rows.fnStoreBytesRow.holds Try.pinned (OpenSpec.ofChange Rows.fnStoreBytesSpec) :=
  OpenClaim.holds_of_wide 7 Try.f7 rfl rfl rfl rfl rfl rfl rfl ⟨rfl, rfl, rfl, rfl, rfl⟩ rfl rfl rfl rfl rfl (by kernel_rfl) Try.func7 (by kernel_rfl)
    (of_decide_eq_true (by kernel_rfl)) (by unfold Func.isWrapper; first | (rw [if_pos (by decide +kernel)]; kernel_rfl) | (rw [if_neg (by decide +kernel)]; exact ⟨rfl, rfl⟩))
    (fun os started H enc _ => lifted os started H enc)
theorem proved : Rows.FnStoreBytesSaid := over
#print axioms proved
end Go.Proofs.Ytllmifioelbleaa.fnStoreBytes
namespace Go.Proofs.Ytllmifioelbleaa
/-- The row, under a short name, for the claim. -/
theorem fnStoreBytes_holds : Rows.FnStoreBytesSaid := fnStoreBytes.proved
end Go.Proofs.Ytllmifioelbleaa
