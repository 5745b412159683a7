/- What the arguments of the law FnExactWriterSure are known to be, and the one pure statement that is left of it. Written by a program (wip/gen/xprint.py). -/
import Derived.Test.YtepefeclpdnfmaaPFnExactWriterSurex3
import Derived.Test.YtepefeclpdnfmaaWOpn
import Derived.KernelRfl
namespace Go.Proofs.Ytepefeclpdnfmaa.GFnExactWriterSure
open Go.RowKit Go.Proofs.Ytepefeclpdnfmaa.PFnExactWriterSure Go.Proofs.YtepefeclpdnfmaaW.PrintWords Go.Proofs.YtepefeclpdnfmaaW.PrintLast Go.Proofs.YtepefeclpdnfmaaW.Opn
set_option maxRecDepth 100000
def G129 (y : S129) : Prop := y.f0.size ≤ 9223372036854775807 ∧ (y.f1.length ≤ 9223372036854775807 ∧ ∀ e0 ∈ y.f1, (Lit.int .i64 e0).wf = true) ∧ True
theorem o129 : Opens Try.prog 129 k129 G129 := opens_iso (fun y : S129 => (y.f0, y.f1, y.f2)) (fun p => ⟨p.1, p.2.1, p.2.2⟩) (fun _ => rfl) (opens_struct Try.underlying129 (by kernel_rfl) (opensF_cons rfl (by kernel_rfl) (opens_string Try.underlying9) (opensF_cons rfl (by kernel_rfl) (opens_slice Try.underlying54 (by kernel_rfl) (opens_int Try.underlying3)) (opensF_one rfl (by kernel_rfl) (opens_bool Try.underlying4)))))
/-- The pure statement. -/
def Goal : Prop := ∀ (a0_0 : Int) (l0_1 : List (S129)), (Lit.int .i64 a0_0).wf = true → (l0_1.length ≤ 9223372036854775807 ∧ ∀ e0 ∈ l0_1, G129 e0) → ∃ k, laws_FnExactWriterSure.f k a0_0 l0_1 = some true
end Go.Proofs.Ytepefeclpdnfmaa.GFnExactWriterSure
