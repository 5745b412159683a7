-- Written by wip/gen/pack.py of this repo. Lean checks it.
import Derived.KernelRfl
import Derived.Test.YtdkdhciogedoiaaKFnSureToP10
import Derived.Test.YtdkdhciogedoiaaKFnSureToW0
import Derived.Test.YtdkdhciogedoiaaKFnSureToD
namespace Go.Proofs.Ytdkdhciogedoiaa.GFnSureTo
open Go.RowKit Go.Proofs.Ytdkdhciogedoiaa.PFnSureTo Go.Proofs.YtdkdhciogedoiaaW.PrintWords Go.Proofs.YtdkdhciogedoiaaW.PrintLast Go.Proofs.YtdkdhciogedoiaaW.Opn
set_option maxRecDepth 100000
def Goal : Prop := ∀ (l0 : List Int), (l0.length ≤ 9223372036854775807 ∧ ∀ e0 ∈ l0, (Lit.int .u8 e0).wf = true) → ∃ k, laws_FnSureTo.f k l0 = some true
end Go.Proofs.Ytdkdhciogedoiaa.GFnSureTo
