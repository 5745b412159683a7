/- The plain law: a new mend is the same by the program and by the reference, and it is the caller's own. Conditions: what is known of a value that came in. -/
import Derived.Test.YtdkdhciogedoiaaFamFnExactMendNew
set_option linter.unusedVariables false
set_option linter.unusedSimpArgs false
namespace Go.Proofs.Ytdkdhciogedoiaa.OmFnExactMendNew
open Go Go.OM
theorem pureL (a0 a1 : Int) (h0 : Gd (.int .i64) a0) (h1 : Gd (.int .i64) a1) : ∃ k, laws_FnExactMendNew.f k a0 a1 = some true := by
  have e1 : spec_MendNew.f a0 a1 = some (a1, (a0, (([] : List Int), (([] : List Entry), (false, (([] : List (List Int)), ())))))) := rfl
  have e2 : impl_MendNew.f a0 a1 = some (a1, (a0, (([] : List Int), (([] : List Entry), (false, (([] : List (List Int)), ())))))) := rfl
  have hc : cnt tMend (a1, (a0, (([] : List Int), (([] : List Entry), (false, (([] : List (List Int)), ())))))) = 0 := rfl
  generalize (a1, (a0, (([] : List Int), (([] : List Entry), (false, (([] : List (List Int)), ())))))) = r at *
  refine Ev.get (v := true) ?_
  simp only [laws_FnExactMendNew.f]
  have q1 := eq_Mend r (by omega)
  have w1 := W_Mend_le r
  obtain ⟨n2, x2, m4, m5, m6, m7⟩ := mk_Mend r 1 (by omega) (by omega)
  repeat first | exact Ev.ret | refine Ev.bind (by assumption) ?_ | refine Ev.bindc (by assumption) ?_ | refine Ev.pos (by first | trivial | omega) ?_ | refine Ev.neg (by omega) ?_
end Go.Proofs.Ytdkdhciogedoiaa.OmFnExactMendNew
