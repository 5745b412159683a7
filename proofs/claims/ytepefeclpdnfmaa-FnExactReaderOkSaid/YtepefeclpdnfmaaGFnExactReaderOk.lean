/- What the arguments of the law FnExactReaderOk are known to be, and the one pure statement that is left of it. Written by a program (wip/gen/xprint.py). -/
import Derived.Test.YtepefeclpdnfmaaPFnExactReaderOkx2
import Derived.Test.YtepefeclpdnfmaaWOpn
import Derived.KernelRfl
namespace Go.Proofs.Ytepefeclpdnfmaa.GFnExactReaderOk
open Go.RowKit Go.Proofs.Ytepefeclpdnfmaa.PFnExactReaderOk Go.Proofs.YtepefeclpdnfmaaW.PrintWords Go.Proofs.YtepefeclpdnfmaaW.PrintLast Go.Proofs.YtepefeclpdnfmaaW.Opn
set_option maxRecDepth 100000
def G126 (y : S126) : Prop := (Lit.int .i64 y.f0).wf = true ∧ (Lit.int .i64 y.f1).wf = true ∧ y.f2.size ≤ 9223372036854775807
theorem o126 : Opens Try.prog 126 k126 G126 := opens_iso (fun y : S126 => (y.f0, y.f1, y.f2)) (fun p => ⟨p.1, p.2.1, p.2.2⟩) (fun _ => rfl) (opens_struct Try.underlying126 (by kernel_rfl) (opensF_cons rfl (by kernel_rfl) (opens_int Try.underlying3) (opensF_cons rfl (by kernel_rfl) (opens_int Try.underlying3) (opensF_one rfl (by kernel_rfl) (opens_string Try.underlying9)))))
/-- The pure statement. -/
def Goal : Prop := ∀ (a0_0 : Int) (a0_1 : Int) (l0_2 : List (S126)), (Lit.int .i64 a0_0).wf = true → (Lit.int .i64 a0_1).wf = true → (l0_2.length ≤ 9223372036854775807 ∧ ∀ y ∈ l0_2, G126 y) → ∃ k, laws_FnExactReaderOk.f k a0_0 a0_1 l0_2 = some true
end Go.Proofs.Ytepefeclpdnfmaa.GFnExactReaderOk
