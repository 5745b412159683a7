/- The plain law: the nodes of an epoch are the same by the program and by the reference, and the answer is the caller's own. Conditions: what is known of a value that came in. -/
import Derived.Test.YtdkdhciogedoiaaFamFnExactEraNodes
set_option linter.unusedVariables false
set_option linter.unusedSimpArgs false
namespace Go.Proofs.Ytdkdhciogedoiaa.OmFnExactEraNodes
open Go Go.OM
theorem cnt_ints (l : List Int) : cnt (.sl (.int .i64)) l = l.length := by
  show l.length + (l.map fun _ => 0).sum = l.length
  have : (l.map fun _ => 0).sum = 0 := by induction l with
    | nil => rfl
    | cons x l ih => simpa using ih
  omega
theorem both (a0 : Register) (a1 : Int) (hc : cnt tRegister a0 ≤ 1048576) (h1 : Gd (.int .i64) a1) : ∃ r, spec_EraNodes.f a0 a1 = some r ∧ impl_EraNodes.f a0 a1 = some r ∧ cnt (.sl (.int .i64)) r ≤ 1048576 := by
  have hl : a0.1.length + (a0.1.map fun x => cnt tEra x).sum + (0 + 0) ≤ 1048576 := hc
  simp only [spec_EraNodes.f, impl_EraNodes.f, spec_l1In.f, impl_within.f, impl_copyInts.f]
  by_cases c1 : (1 : Int) ≤ a1
  · by_cases c2 : a1 ≤ ((a0.1.length : Nat) : Int)
    · have hw : wrap64 (a1 - 1) = a1 - 1 := wrap64_id (by omega) (by omega)
      have hi : (a1 - 1).toNat < a0.1.length := by omega
      have hm := sum_mem (f := fun x => cnt tEra x) (getD_mem (d := (([] : List Int), (false, ((0 : Int), ())))) hi)
      have hm : cnt (.sl (.int .i64)) (a0.1.getD (a1 - 1).toNat (([] : List Int), (false, ((0 : Int), ())))).1 + (0 + (0 + 0)) ≤ (a0.1.map fun x => cnt tEra x).sum := hm
      have c3 : (0 : Int) ≤ a1 - 1 ∧ a1 - 1 < ((a0.1.length : Nat) : Int) := by omega
      generalize hx : (a0.1.getD (a1 - 1).toNat (([] : List Int), (false, ((0 : Int), ())))).1 = l at *
      have hl2 := cnt_ints l
      have c4 : (((([] : List Int).length : Nat) : Int) + ((l.length : Nat) : Int)) ≤ lim := by simp [lim]; omega
      refine ⟨l, ?_, ?_, by omega⟩ <;> simp only [c1, c2, hw, c3, hx, c4, if_true, decide_true, Option.bind_some, and_self, List.nil_append]
    · exact ⟨[], by simp [c1, c2], by simp [c1, c2], by rw [cnt_ints]; decide⟩
  · exact ⟨[], by simp [c1], by simp [c1], by rw [cnt_ints]; decide⟩
theorem pureL (a0 : Register) (a1 : Int) (h0 : Gd tRegister a0) (h1 : Gd (.int .i64) a1) : ∃ k, laws_FnExactEraNodes.f k a0 a1 = some true := by
  obtain ⟨v, s1, s2, s3⟩ := sz_Register a0 1048576 h0 (by omega) (by omega)
  refine Ev.get (v := true) ?_
  simp only [laws_FnExactEraNodes.f]
  refine Ev.bind s1 ?_
  by_cases hv : v < 0
  · exact Ev.pos hv Ev.ret
  refine Ev.neg hv ?_
  have hc : cnt tRegister a0 ≤ 1048576 := by have := s3 (by omega); omega
  have ht := to_Register a0 hc
  obtain ⟨r, e1, e2, e3⟩ := both a0 a1 hc h1
  have q1 := eq_IntS r (by omega)
  have q2 := eq_Register a0 (by omega)
  have w1 := W_Register_le a0
  have w2 := W_IntS_le r
  obtain ⟨n1, x1, m1, m2, m3⟩ := mk_Register a0 1 (by omega) (by omega)
  obtain ⟨n2, x2, m4, m5, m6, m7⟩ := mk_IntS r 1 (by omega) (by omega)
  repeat first | exact Ev.ret | refine Ev.bind (by assumption) ?_ | refine Ev.bindc (by assumption) ?_ | refine Ev.pos (by first | trivial | omega) ?_ | refine Ev.neg (by omega) ?_
end Go.Proofs.Ytdkdhciogedoiaa.OmFnExactEraNodes
