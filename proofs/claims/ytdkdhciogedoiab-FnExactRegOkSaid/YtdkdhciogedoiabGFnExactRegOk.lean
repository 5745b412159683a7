/- What the arguments of the law FnExactRegOk are known to be, and the one pure statement that is left of it. Written by a program (wip/gen/xprint.py). -/
import Derived.Test.YtdkdhciogedoiabPFnExactRegOkx8
import Derived.Test.YtdkdhciogedoiabWOpn
import Derived.KernelRfl
namespace Go.Proofs.Ytdkdhciogedoiab.GFnExactRegOk
open Go.RowKit Go.Proofs.Ytdkdhciogedoiab.PFnExactRegOk Go.Proofs.YtdkdhciogedoiabW.PrintWords Go.Proofs.YtdkdhciogedoiabW.PrintLast Go.Proofs.YtdkdhciogedoiabW.Opn
set_option maxRecDepth 100000
def G145 (y : S145) : Prop := (y.f0.length ≤ 9223372036854775807 ∧ ∀ e0 ∈ y.f0, (Lit.int .i64 e0).wf = true) ∧ True ∧ (Lit.int .i64 y.f2).wf = true
theorem o145 : Opens Try.prog 145 k145 G145 := opens_iso (fun y : S145 => (y.f0, y.f1, y.f2)) (fun p => ⟨p.1, p.2.1, p.2.2⟩) (fun _ => rfl) (opens_struct Try.underlying145 (by kernel_rfl) (opensF_cons rfl (by kernel_rfl) (opens_slice Try.underlying22 (by kernel_rfl) (opens_int Try.underlying3)) (opensF_cons rfl (by kernel_rfl) (opens_bool Try.underlying4) (opensF_one rfl (by kernel_rfl) (opens_int Try.underlying3)))))
/-- The pure statement. -/
def Goal : Prop := ∀ (l0_0 : List Int) (a0_1 : Int) (l1_0 : List (S145)) (a1_1 : Int), (l0_0.length ≤ 9223372036854775807 ∧ ∀ e0 ∈ l0_0, (Lit.int .i64 e0).wf = true) → (Lit.int .i64 a0_1).wf = true → (l1_0.length ≤ 9223372036854775807 ∧ ∀ e0 ∈ l1_0, G145 e0) → (Lit.int .i64 a1_1).wf = true → ∃ k, laws_FnExactRegOk.f k l0_0 a0_1 l1_0 a1_1 = some true
end Go.Proofs.Ytdkdhciogedoiab.GFnExactRegOk
