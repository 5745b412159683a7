/- The law FnWorlds, for every input: its row, out of its pure statement and of the plain function that its code is. Conditions: none. -/
import Derived.Test.YtngfjichhphjeaaGreatRows
import Derived.Test.YtngfjichhphjeaaGreatMFnWorlds
import Derived.Test.YtngfjichhphjeaaGreatPureFnWorlds
namespace Go.Proofs.YtngfjichhphjeaaGreat.fnWorlds
open Go.ChangeShapes Go.WideShapes Go.ChangeAt Go.RowKit Go.OM
open Go.ChangeMaps (open_string shut_string)
set_option linter.unusedVariables false
theorem own : ownKnob Tryz.prog.godebug = none := by kernel_rfl
theorem laidOut : laidOutB Tryz.prog = true := by kernel_rfl
set_option maxRecDepth 100000 in
theorem lifted (os : Os) (started : os.Started) (H : Type) (enc : TypeId × Value → H) :
    ReturnsInHanded {} Tryz.checked os 3 .any (Rows.fnWorldsSpec.pre6 enc Tryz.prog Tryz.f3 Rows.fnWorldsRow.domain false) (Rows.fnWorldsSpec.post enc Tryz.prog Tryz.f3 false true false false) := by
  refine returnsInHanded_of_change_sized (C := Tryz.checked) own started (by kernel_rfl) Tryz.func3
    (ChangeSpec.witness6 (enc := enc) (C := Tryz.checked) false ⟨#[], #[.slice none 0 0], []⟩ 8 (by kernel_rfl) (by kernel_rfl) (by kernel_rfl) (by kernel_rfl)) ?_
  intro W base args ds gs before hval0 hW hcnd hsz0 _
  have hval : ∀ (j : Nat) t v, Tryz.f3.params[j]? = some t → args[j]? = some v → Value.okWide Tryz.prog W .any base t v := hval0
  have hW' := hW
  obtain ⟨p, q, hA0, hV, rfl, hfz, hnd⟩ := hW
  have hA : DataW.TrodAll enc Tryz.prog W 0 (fun _ => true) true Tryz.f3.params.toList args.toList ds p := hA0
  rw [Tryz.params3] at hA hval
  have hc := law_calls OmFnWorlds.tysOk (f := 3) (fk := OmFnWorlds.laws_FnWorlds.fk) OmFnWorlds.laws_FnWorlds.ok (fun x hx => by obtain ⟨k, h⟩ := OmFnWorlds.pureL x.1 hx.1; exact ⟨k, true, h, rfl⟩) (b0 := base) (ids := [22]) (by kernel_rfl) hA (fun j t v h1 h2 => hval j t v (by simpa using h1) (by simpa using h2))
  have hS := fun (W' : Go.World) (bel : Below W.heap.size W W') => trodAll_stays laidOut bel (by kernel_rfl) hA
  obtain ⟨v0, vs0, d0, ds0, p0, q0, hargs, rfl, rfl, h0, r0⟩ := trodAll_cons hA
  obtain ⟨rfl, rfl, rfl⟩ := trodAll_nil r0
  obtain ⟨rfl, rfl⟩ := trodVars_none hV
  refine hc.mono fun e W' ⟨he, bel⟩ => ?_
  subst he
  exact ⟨_, rfl, _, _, _, [], _, [], hW', trodAll_mk1 (shut_bool Tryz.underlying4 _), hS W' bel, rfl, bel.frame _, fun h => by cases h⟩
theorem over : Rows.fnWorldsRow.holds Tryz.pinned (OpenSpec.ofChange Rows.fnWorldsSpec) :=
  OpenClaim.holds_of_wide 3 Tryz.f3 rfl rfl rfl rfl rfl rfl rfl ⟨rfl, rfl, rfl, rfl, rfl⟩ rfl rfl rfl rfl rfl (by kernel_rfl) Tryz.func3 (by kernel_rfl)
    (of_decide_eq_true (by kernel_rfl)) (by unfold Func.isWrapper; first | (rw [if_pos (by decide +kernel)]; kernel_rfl) | (rw [if_neg (by decide +kernel)]; exact ⟨rfl, rfl⟩))
    (fun os started H enc _ => lifted os started H enc)
theorem proved : Rows.FnWorldsSaid := over
#print axioms proved
end Go.Proofs.YtngfjichhphjeaaGreat.fnWorlds
namespace Go.Proofs.YtngfjichhphjeaaGreat
/-- The row, under a short name, for the claim. -/
theorem fnWorlds_holds : Rows.FnWorldsSaid := fnWorlds.proved
end Go.Proofs.YtngfjichhphjeaaGreat
