/- What the arguments of the law FnExactMendEntry are known to be, and the one pure statement that is left of it. Written by a program (wip/gen/xprint.py). -/
import Derived.Test.YtdkdhciogedoiaaPFnExactMendEntryx5
import Derived.Test.YtdkdhciogedoiaaWOpn
import Derived.KernelRfl
namespace Go.Proofs.Ytdkdhciogedoiaa.GFnExactMendEntry
open Go.RowKit Go.Proofs.Ytdkdhciogedoiaa.PFnExactMendEntry Go.Proofs.YtdkdhciogedoiaaW.PrintWords Go.Proofs.YtdkdhciogedoiaaW.PrintLast Go.Proofs.YtdkdhciogedoiaaW.Opn
set_option maxRecDepth 100000
def G137 (y : S137) : Prop := (Lit.int .i64 y.f0).wf = true ∧ (Lit.int .i64 y.f1).wf = true ∧ True ∧ y.f3.size ≤ 9223372036854775807
theorem o137 : Opens Try.prog 137 k137 G137 := opens_iso (fun y : S137 => (y.f0, y.f1, y.f2, y.f3)) (fun p => ⟨p.1, p.2.1, p.2.2.1, p.2.2.2⟩) (fun _ => rfl) (opens_struct Try.underlying137 (by kernel_rfl) (opensF_cons rfl (by kernel_rfl) (opens_int Try.underlying3) (opensF_cons rfl (by kernel_rfl) (opens_int Try.underlying3) (opensF_cons rfl (by kernel_rfl) (opens_bool Try.underlying4) (opensF_one rfl (by kernel_rfl) (opens_string Try.underlying9))))))
/-- The pure statement. -/
def Goal : Prop := ∀ (a0_0 : Int) (a0_1 : Int) (l0_2 : List Int) (l0_3 : List (S137)) (a0_4 : Bool) (l0_5 : List (List Int)) (a1 : Int), (Lit.int .i64 a0_0).wf = true → (Lit.int .i64 a0_1).wf = true → (l0_2.length ≤ 9223372036854775807 ∧ ∀ e0 ∈ l0_2, (Lit.int .i64 e0).wf = true) → (l0_3.length ≤ 9223372036854775807 ∧ ∀ e0 ∈ l0_3, G137 e0) → (l0_5.length ≤ 9223372036854775807 ∧ ∀ e0 ∈ l0_5, (e0.length ≤ 9223372036854775807 ∧ ∀ e1 ∈ e0, (Lit.int .i64 e1).wf = true)) → (Lit.int .i64 a1).wf = true → ∃ k, laws_FnExactMendEntry.f k a0_0 a0_1 l0_2 l0_3 a0_4 l0_5 a1 = some true
end Go.Proofs.Ytdkdhciogedoiaa.GFnExactMendEntry
