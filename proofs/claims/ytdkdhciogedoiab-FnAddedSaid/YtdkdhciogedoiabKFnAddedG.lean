-- Written by wip/gen/pack.py of this repo. Lean checks it.
import Derived.KernelRfl
import Derived.Test.YtdkdhciogedoiabKFnAddedP14
import Derived.Test.YtdkdhciogedoiabKFnAddedW0
import Derived.Test.YtdkdhciogedoiabKFnAddedD
namespace Go.Proofs.Ytdkdhciogedoiab.GFnAdded
open Go.RowKit Go.Proofs.Ytdkdhciogedoiab.PFnAdded Go.Proofs.YtdkdhciogedoiabW.PrintWords Go.Proofs.YtdkdhciogedoiabW.PrintLast Go.Proofs.YtdkdhciogedoiabW.Opn
set_option maxRecDepth 100000
def Goal : Prop := ∀ (l0 : List Int), (l0.length ≤ 9223372036854775807 ∧ ∀ e0 ∈ l0, (Lit.int .u8 e0).wf = true) → ∃ k, laws_FnAdded.f k l0 = some true
end Go.Proofs.Ytdkdhciogedoiab.GFnAdded
