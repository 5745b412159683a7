/- What the arguments of the law FnExactLostOk are known to be, and the one pure statement that is left of it. Written by a program (wip/gen/xprint.py). -/
import Derived.Test.YtepefeclpdnfmaaPFnExactLostOkx5
import Derived.Test.YtepefeclpdnfmaaWOpn
import Derived.KernelRfl
namespace Go.Proofs.Ytepefeclpdnfmaa.GFnExactLostOk
open Go.RowKit Go.Proofs.Ytepefeclpdnfmaa.PFnExactLostOk Go.Proofs.YtepefeclpdnfmaaW.PrintWords Go.Proofs.YtepefeclpdnfmaaW.PrintLast Go.Proofs.YtepefeclpdnfmaaW.Opn
set_option maxRecDepth 100000
/-- The pure statement. -/
def Goal : Prop := ∀ (l0_0 : List Int) (a0_1 : Int) (l1 : List Int), (l0_0.length ≤ 9223372036854775807 ∧ ∀ e0 ∈ l0_0, (Lit.int .i64 e0).wf = true) → (Lit.int .i64 a0_1).wf = true → (l1.length ≤ 9223372036854775807 ∧ ∀ e0 ∈ l1, (Lit.int .i64 e0).wf = true) → ∃ k, laws_FnExactLostOk.f k l0_0 a0_1 l1 = some true
end Go.Proofs.Ytepefeclpdnfmaa.GFnExactLostOk
