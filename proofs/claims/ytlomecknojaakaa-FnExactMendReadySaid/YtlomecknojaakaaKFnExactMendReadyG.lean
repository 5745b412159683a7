-- Written by wip/gen/pack.py of this repo. Lean checks it.
import Derived.KernelRfl
import Derived.Test.YtlomecknojaakaaKFnExactMendReadyP13
import Derived.Test.YtlomecknojaakaaKFnExactMendReadyW0
import Derived.Test.YtlomecknojaakaaKFnExactMendReadyD
namespace Go.Proofs.Ytlomecknojaakaa.GFnExactMendReady
open Go.RowKit Go.Proofs.Ytlomecknojaakaa.PFnExactMendReady Go.Proofs.YtlomecknojaakaaW.PrintWords Go.Proofs.YtlomecknojaakaaW.PrintLast Go.Proofs.YtlomecknojaakaaW.Opn
set_option maxRecDepth 100000
def G131 (y : S131) : Prop := (Lit.int .i64 y.f0).wf = true ∧ (Lit.int .i64 y.f1).wf = true ∧ True ∧ y.f3.size ≤ 9223372036854775807
theorem o131 : Opens Try.prog 131 k131 G131 := opens_iso (fun y : S131 => (y.f0, y.f1, y.f2, y.f3)) (fun p => ⟨p.1, p.2.1, p.2.2.1, p.2.2.2⟩) (fun _ => rfl) (opens_struct Try.underlying131 (by kernel_rfl) (opensF_cons rfl (by kernel_rfl) (opens_int Try.underlying3) (opensF_cons rfl (by kernel_rfl) (opens_int Try.underlying3) (opensF_cons rfl (by kernel_rfl) (opens_bool Try.underlying4) (opensF_one rfl (by kernel_rfl) (opens_string Try.underlying9))))))
def Goal : Prop := ∀ (l0_0 : List Int) (a0_1 : Int) (a1_0 : Int) (a1_1 : Int) (l1_2 : List Int) (l1_3 : List (S131)) (a1_4 : Bool) (l1_5 : List (List Int)), (l0_0.length ≤ 9223372036854775807 ∧ ∀ e0 ∈ l0_0, (Lit.int .i64 e0).wf = true) → (Lit.int .i64 a0_1).wf = true → (Lit.int .i64 a1_0).wf = true → (Lit.int .i64 a1_1).wf = true → (l1_2.length ≤ 9223372036854775807 ∧ ∀ e0 ∈ l1_2, (Lit.int .i64 e0).wf = true) → (l1_3.length ≤ 9223372036854775807 ∧ ∀ e0 ∈ l1_3, G131 e0) → (l1_5.length ≤ 9223372036854775807 ∧ ∀ e0 ∈ l1_5, (e0.length ≤ 9223372036854775807 ∧ ∀ e1 ∈ e0, (Lit.int .i64 e1).wf = true)) → ∃ k, laws_FnExactMendReady.f k l0_0 a0_1 a1_0 a1_1 l1_2 l1_3 a1_4 l1_5 = some true
end Go.Proofs.Ytlomecknojaakaa.GFnExactMendReady
