import Derived.Test.YtepefeclpdnfmaaFFnExactDeedOk
set_option linter.unusedVariables false
set_option linter.unusedSimpArgs false
namespace Go.Proofs.Ytepefeclpdnfmaa.OmFnExactDeedOk
open Go Go.OM
theorem sz_Deed : SzOk tDeed (fun _ => laws_szDeed.f) := by
  intro x n hg h0 hn
  have g0 : x.2.2.2.2.1.size ≤ 9223372036854775807 := hg.2.2.2.2.1
  have e0 : (wrap64 (n - ((x.2.2.2.2.1.size : Nat) : Int))) = n - ((x.2.2.2.2.1.size : Nat) : Int) := wrap64_id (by omega) (by omega)
  by_cases h0 : (wrap64 (n - ((x.2.2.2.2.1.size : Nat) : Int))) < 0
  · refine ⟨-1, ?_, by omega, fun h => by omega⟩; simp only [laws_szDeed.f]; exact Ev.pos h0 Ev.ret
  refine ⟨(wrap64 (n - ((x.2.2.2.2.1.size : Nat) : Int))), ?_, by omega, fun h => ?_⟩
  · simp only [laws_szDeed.f]; exact Ev.neg h0 (Ev.ret)
  · show _ + (((cnt (.int .i64) x.1 + (cnt (.int .i64) x.2.1 + (cnt (.int .i64) x.2.2.1 + (cnt (.int .i64) x.2.2.2.1 + (cnt .str x.2.2.2.2.1 + cnt .unit x.2.2.2.2.2))))) : Nat) : Int) ≤ n
    have z0 : cnt (.int .i64) x.1 = 0 := rfl
    have z1 : cnt (.int .i64) x.2.1 = 0 := rfl
    have z2 : cnt (.int .i64) x.2.2.1 = 0 := rfl
    have z3 : cnt (.int .i64) x.2.2.2.1 = 0 := rfl
    have z4 : cnt .str x.2.2.2.2.1 = x.2.2.2.2.1.size := rfl
    have zu : cnt .unit x.2.2.2.2.2 = 0 := rfl
    omega
theorem to_Deed : ToOk tDeed (fun _ => laws_toDeed.f) := by
  intro x hc
  have hc : (cnt (.int .i64) x.1 + (cnt (.int .i64) x.2.1 + (cnt (.int .i64) x.2.2.1 + (cnt (.int .i64) x.2.2.2.1 + (cnt .str x.2.2.2.2.1 + cnt .unit x.2.2.2.2.2))))) ≤ 1048576 := hc
  simp only [laws_toDeed.f]; exact Ev.ret
end Go.Proofs.Ytepefeclpdnfmaa.OmFnExactDeedOk
