/- What the arguments of the law FnExactWriterOk are known to be, and the one pure statement that is left of it. Written by a program (wip/gen/xprint.py). -/
import Derived.Test.YtdkdhciogedoiaaPFnExactWriterOkx8
import Derived.Test.YtdkdhciogedoiaaWOpn
import Derived.KernelRfl
namespace Go.Proofs.Ytdkdhciogedoiaa.GFnExactWriterOk
open Go.RowKit Go.Proofs.Ytdkdhciogedoiaa.PFnExactWriterOk Go.Proofs.YtdkdhciogedoiaaW.PrintWords Go.Proofs.YtdkdhciogedoiaaW.PrintLast Go.Proofs.YtdkdhciogedoiaaW.Opn
set_option maxRecDepth 100000
def G140 (y : S140) : Prop := y.f0.size ≤ 9223372036854775807 ∧ (y.f1.length ≤ 9223372036854775807 ∧ ∀ e0 ∈ y.f1, (Lit.int .i64 e0).wf = true) ∧ True
theorem o140 : Opens Try.prog 140 k140 G140 := opens_iso (fun y : S140 => (y.f0, y.f1, y.f2)) (fun p => ⟨p.1, p.2.1, p.2.2⟩) (fun _ => rfl) (opens_struct Try.underlying140 (by kernel_rfl) (opensF_cons rfl (by kernel_rfl) (opens_string Try.underlying9) (opensF_cons rfl (by kernel_rfl) (opens_slice Try.underlying26 (by kernel_rfl) (opens_int Try.underlying3)) (opensF_one rfl (by kernel_rfl) (opens_bool Try.underlying4)))))
/-- The pure statement. -/
def Goal : Prop := ∀ (l0_0 : List Int) (a0_1 : Int) (a1_0 : Int) (l1_1 : List (S140)), (l0_0.length ≤ 9223372036854775807 ∧ ∀ e0 ∈ l0_0, (Lit.int .i64 e0).wf = true) → (Lit.int .i64 a0_1).wf = true → (Lit.int .i64 a1_0).wf = true → (l1_1.length ≤ 9223372036854775807 ∧ ∀ e0 ∈ l1_1, G140 e0) → ∃ k, laws_FnExactWriterOk.f k l0_0 a0_1 a1_0 l1_1 = some true
end Go.Proofs.Ytdkdhciogedoiaa.GFnExactWriterOk
