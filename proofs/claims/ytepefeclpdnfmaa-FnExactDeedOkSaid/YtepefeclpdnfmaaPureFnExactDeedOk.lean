/- The plain law: a deed is right by the program just if it is by the reference. Conditions: what is known of a value that came in. -/
import Derived.Test.YtepefeclpdnfmaaFamFnExactDeedOk
set_option linter.unusedVariables false
set_option linter.unusedSimpArgs false
namespace Go.Proofs.Ytepefeclpdnfmaa.OmFnExactDeedOk
open Go Go.OM
/-- A letter strikes a part. -/
noncomputable def strike (c : Int) (x : Deed) : Deed :=
  if c = 65 ∨ c = 80 then (x.1, ((0 : Int), x.2.2)) else if c = 66 then (x.1, (x.2.1, ((0 : Int), x.2.2.2))) else if c = 67 then (x.1, (x.2.1, (x.2.2.1, ((0 : Int), x.2.2.2.2))))
  else if c = 84 then (x.1, (x.2.1, (x.2.2.1, (x.2.2.2.1, ((⟨#[]⟩ : ByteArray), x.2.2.2.2.2))))) else x
noncomputable def strikes : List Int → Deed → Deed
  | [], x => x
  | c :: l, x => strikes l (strike c x)
noncomputable def last (a x : Deed) : Bool := decide (1 ≤ a.1) && decide (a.1 ≤ 16) && decide (x = ((0 : Int), ((0 : Int), ((0 : Int), ((0 : Int), ((⟨#[]⟩ : ByteArray), ())))))) && decide (((a.2.2.2.2.1.size : Nat) : Int) ≤ (40 : Int))
theorem step (k : Nat) (xs : List Int) (n i : Int) (a x : Deed) : impl_DeedOk.p9 (k + 1) xs n i a x = if i < n then (if (0 : Int) ≤ i ∧ i < ((xs.length : Nat) : Int) then impl_DeedOk.p9 k xs n (wrap64 (i + (1 : Int))) a (strike (xs.getD i.toNat (0 : Int)) x) else none) else some (last a x) := by
  simp only [impl_DeedOk.p9, strike]
  by_cases h : i < n
  · simp only [h, if_true]
    by_cases h2 : (0 : Int) ≤ i ∧ i < ((xs.length : Nat) : Int)
    · simp only [h2, and_self, if_true]
      generalize xs.getD i.toNat 0 = c
      by_cases c1 : c = 65
      · simp [c1]
      · by_cases c2 : c = 80
        · simp [c2]
        · by_cases c3 : c = 66
          · simp [c3]
          · by_cases c4 : c = 67
            · simp [c4]
            · by_cases c5 : c = 84
              · simp [c5]
              · simp [c1, c2, c3, c4, c5]
    · simp only [h2, if_false]
  · simp only [h, if_false, impl_within.f, impl_dataOk.f, last]
    by_cases c1 : (1 : Int) ≤ a.1
    · by_cases c2 : a.1 ≤ (16 : Int)
      · by_cases c3 : x = ((0 : Int), ((0 : Int), ((0 : Int), ((0 : Int), ((⟨#[]⟩ : ByteArray), ())))))
        · simp [c1, c2, c3]
        · simp [c1, c2, c3]
      · simp [c1, c2]
    · simp [c1]
theorem walk (xs : List Int) (hl : xs.length ≤ 10) (a : Deed) : ∀ (m i : Nat) (x : Deed), i + m = xs.length → Ev (fun k => impl_DeedOk.p9 k xs ((xs.length : Nat) : Int) (i : Int) a x) (last a (strikes (xs.drop i) x)) := by
  intro m
  induction m with
  | zero =>
    intro i x h
    refine Ev.succ ((Ev.neg (by omega) ?_).cg fun k => step k xs _ _ a x)
    rw [List.drop_eq_nil_of_le (by omega)]
    exact Ev.ret
  | succ m ih =>
    intro i x h
    have hi : i < xs.length := by omega
    refine Ev.succ ((Ev.pos (by omega) (Ev.pos (by omega) ?_)).cg fun k => step k xs _ _ a x)
    rw [wrap64_id (by omega) (by omega), drop_get (d := (0 : Int)) hi]
    exact ih (i + 1) _ (by omega)
theorem impl_ev (a : Deed) (s : ByteArray) (hs : impl_deedHas.f a.1 = some s) (hl : (listOf s).length ≤ 10) : Ev (fun k => impl_DeedOk.f k a) (last a (strikes (listOf s) ((0 : Int), a.2))) := by
  simp only [impl_DeedOk.f]
  refine Ev.bindc hs ?_
  have := walk (listOf s) hl a (listOf s).length 0 ((0 : Int), a.2) (by omega)
  rw [List.drop_zero] at this
  exact this
theorem both (a : Deed) : ∃ r, spec_DeedOk.f a = some r ∧ Ev (fun k => impl_DeedOk.f k a) r := by
  obtain ⟨kd, A, B, C, T, u⟩ := a
  by_cases h : 1 ≤ kd ∧ kd ≤ 16
  · have hk : kd = 1 ∨ kd = 2 ∨ kd = 3 ∨ kd = 4 ∨ kd = 5 ∨ kd = 6 ∨ kd = 7 ∨ kd = 8 ∨ kd = 9 ∨ kd = 10 ∨ kd = 11 ∨ kd = 12 ∨ kd = 13 ∨ kd = 14 ∨ kd = 15 ∨ kd = 16 := by omega
    have key : ∀ (s : ByteArray) (r : Bool), impl_deedHas.f kd = some s → (listOf s).length ≤ 10 → spec_DeedOk.f (kd, A, B, C, T, u) = some r → last (kd, A, B, C, T, u) (strikes (listOf s) ((0 : Int), A, B, C, T, u)) = r → ∃ r, spec_DeedOk.f (kd, A, B, C, T, u) = some r ∧ Ev (fun k => impl_DeedOk.f k (kd, A, B, C, T, u)) r :=
      fun s r h1 h2 h3 h4 => ⟨r, h3, (impl_ev (kd, A, B, C, T, u) s h1 h2).eq h4⟩
    have e0 : listOf (⟨#[]⟩ : ByteArray) = [] := rfl
    have eA : listOf (⟨#[65]⟩ : ByteArray) = [65] := rfl
    have eP : listOf (⟨#[80]⟩ : ByteArray) = [80] := rfl
    have eAT : listOf (⟨#[65, 84]⟩ : ByteArray) = [65, 84] := rfl
    have eAB : listOf (⟨#[65, 66]⟩ : ByteArray) = [65, 66] := rfl
    have eBC : listOf (⟨#[66, 67]⟩ : ByteArray) = [66, 67] := rfl
    have eABC : listOf (⟨#[65, 66, 67]⟩ : ByteArray) = [65, 66, 67] := rfl
    have ite2 : ∀ (c : Prop) [Decidable c] (b : Bool), (if c then some b else some false) = some (decide c && b) := fun c _ b => by by_cases hc : c <;> simp [hc]
    rcases hk with rfl | rfl | rfl | rfl | rfl | rfl | rfl | rfl | rfl | rfl | rfl | rfl | rfl | rfl | rfl | rfl
    all_goals
      refine key _ _ (by simp only [impl_deedHas.f]; simp; rfl) ?_ (by simp only [spec_DeedOk.f, spec_l1In.f, spec_l13Names.f]; simp; rw [ite2]) ?_
      · simp only [e0, eA, eP, eAT, eAB, eBC, eABC]; decide
      · simp [e0, eA, eP, eAT, eAB, eBC, eABC, strikes, strike, last]
  · have hs : ∃ s, impl_deedHas.f kd = some s ∧ (listOf s).length ≤ 10 := by
      refine ⟨⟨#[65]⟩, ?_, by decide⟩
      simp only [impl_deedHas.f]
      rw [if_neg (by omega), if_neg (by omega), if_neg (by omega), if_neg (by omega), if_neg (by omega), if_neg (by omega), if_neg (by omega), if_neg (by omega), if_neg (by omega)]
    obtain ⟨s, h1, h2⟩ := hs
    refine ⟨false, ?_, (impl_ev (kd, A, B, C, T, u) s h1 h2).eq ?_⟩
    · simp only [spec_DeedOk.f, spec_l1In.f]
      by_cases c : 1 ≤ kd
      · have : ¬ kd ≤ 16 := by omega
        simp [c, this]
      · simp [c]
    · simp only [last]
      by_cases c : 1 ≤ kd
      · have : ¬ kd ≤ 16 := by omega
        simp [this]
      · simp [c]
theorem pureL (a0 : Deed) (h0 : Gd tDeed a0) : ∃ k, laws_FnExactDeedOk.f k a0 = some true := by
  obtain ⟨v, s1, s2, s3⟩ := sz_Deed a0 1048576 h0 (by omega) (by omega)
  refine Ev.get (v := true) ?_
  simp only [laws_FnExactDeedOk.f]
  refine Ev.bind s1 ?_
  by_cases hv : v < 0
  · exact Ev.pos hv Ev.ret
  refine Ev.neg hv ?_
  have ht : laws_toDeed.f a0 = some a0 := rfl
  obtain ⟨r, e1, e2⟩ := both a0
  repeat first | exact Ev.ret | refine Ev.bind (by assumption) ?_ | refine Ev.bindc (by assumption) ?_ | refine Ev.pos (by first | trivial | omega) ?_ | refine Ev.neg (by omega) ?_
end Go.Proofs.Ytepefeclpdnfmaa.OmFnExactDeedOk
