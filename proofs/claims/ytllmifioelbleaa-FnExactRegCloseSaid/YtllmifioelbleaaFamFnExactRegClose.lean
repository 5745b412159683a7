import Derived.Test.YtllmifioelbleaaFFnExactRegClose
set_option linter.unusedVariables false
set_option linter.unusedSimpArgs false
namespace Go.Proofs.Ytllmifioelbleaa.OmFnExactRegClose
open Go Go.OM
theorem sz_IntS : SzOk (.sl (.int .i64)) (fun _ => laws_szIntS.f) := sz_flat (fun _ => rfl) (fun _ _ _ => rfl)
theorem sz_Config : SzOk tConfig (fun _ => laws_szConfig.f) := by
  intro x n hg h0 hn
  obtain ⟨v0, a0, b0, c0⟩ := sz_IntS x.1 n hg.1 (by omega) (by omega)
  by_cases h0 : v0 < 0
  · refine ⟨-1, ?_, by omega, fun h => by omega⟩; simp only [laws_szConfig.f]; exact Ev.bind a0 (Ev.pos h0 Ev.ret)
  refine ⟨v0, ?_, by omega, fun h => ?_⟩
  · simp only [laws_szConfig.f]; exact Ev.bind a0 (Ev.neg h0 (Ev.ret))
  · have q0 := c0 (by omega)
    show _ + (((cnt (.sl (.int .i64)) x.1 + (cnt (.int .i64) x.2.1 + cnt .unit x.2.2)) : Nat) : Int) ≤ n
    have z1 : cnt (.int .i64) x.2.1 = 0 := rfl
    have zu : cnt .unit x.2.2 = 0 := rfl
    omega
theorem sz_Era : SzOk tEra (fun _ => laws_szEra.f) := by
  intro x n hg h0 hn
  obtain ⟨v0, a0, b0, c0⟩ := sz_IntS x.1 n hg.1 (by omega) (by omega)
  by_cases h0 : v0 < 0
  · refine ⟨-1, ?_, by omega, fun h => by omega⟩; simp only [laws_szEra.f]; exact Ev.bind a0 (Ev.pos h0 Ev.ret)
  refine ⟨v0, ?_, by omega, fun h => ?_⟩
  · simp only [laws_szEra.f]; exact Ev.bind a0 (Ev.neg h0 (Ev.ret))
  · have q0 := c0 (by omega)
    show _ + (((cnt (.sl (.int .i64)) x.1 + (cnt .bool x.2.1 + (cnt (.int .i64) x.2.2.1 + cnt .unit x.2.2.2))) : Nat) : Int) ≤ n
    have z1 : cnt .bool x.2.1 = 0 := rfl
    have z2 : cnt (.int .i64) x.2.2.1 = 0 := rfl
    have zu : cnt .unit x.2.2.2 = 0 := rfl
    omega
theorem sz_EraS : SzOk (.sl tEra) laws_szEraS.f := sz_row (t := tEra) (p := laws_szEraS.p11) (d := (([] : List Int), (false, ((0 : Int), ())))) (fun _ _ _ _ => rfl) (fun _ _ _ => rfl) sz_Era
theorem sz_Register : SzOk tRegister laws_szRegister.f := by
  intro x n hg h0 hn
  obtain ⟨v0, a0, b0, c0⟩ := sz_EraS x.1 n hg.1 (by omega) (by omega)
  by_cases h0 : v0 < 0
  · refine ⟨-1, ?_, by omega, fun h => by omega⟩; simp only [laws_szRegister.f]; exact Ev.bind a0 (Ev.pos h0 Ev.ret)
  refine ⟨v0, ?_, by omega, fun h => ?_⟩
  · simp only [laws_szRegister.f]; exact Ev.bind a0 (Ev.neg h0 (Ev.ret))
  · have q0 := c0 (by omega)
    show _ + (((cnt (.sl tEra) x.1 + (cnt (.int .i64) x.2.1 + cnt .unit x.2.2)) : Nat) : Int) ≤ n
    have z1 : cnt (.int .i64) x.2.1 = 0 := rfl
    have zu : cnt .unit x.2.2 = 0 := rfl
    omega
theorem to_IntS : ToOk (.sl (.int .i64)) laws_toIntS.f := to_row (t := (.int .i64)) (p := laws_toIntS.p7) (d := (0 : Int)) (z := (0 : Int)) (to_loopF (fun _ _ _ _ => rfl)) (fun _ _ => rfl) to_id
theorem to_Config : ToOk tConfig laws_toConfig.f := by
  intro x hc
  have hc : (cnt (.sl (.int .i64)) x.1 + (cnt (.int .i64) x.2.1 + cnt .unit x.2.2)) ≤ 1048576 := hc
  have a0 := to_IntS x.1 (by show cnt (.sl (.int .i64)) x.1 ≤ 1048576; omega)
  simp only [laws_toConfig.f]; exact Ev.bind a0 (Ev.ret)
theorem to_Era : ToOk tEra laws_toEra.f := by
  intro x hc
  have hc : (cnt (.sl (.int .i64)) x.1 + (cnt .bool x.2.1 + (cnt (.int .i64) x.2.2.1 + cnt .unit x.2.2.2))) ≤ 1048576 := hc
  have a0 := to_IntS x.1 (by show cnt (.sl (.int .i64)) x.1 ≤ 1048576; omega)
  simp only [laws_toEra.f]; exact Ev.bind a0 (Ev.ret)
theorem to_EraS : ToOk (.sl tEra) laws_toEraS.f := to_row (t := tEra) (p := laws_toEraS.p7) (e := laws_toEra.f) (d := (([] : List Int), (false, ((0 : Int), ())))) (z := (([] : List Int), (false, ((0 : Int), ())))) (fun _ _ _ _ => rfl) (fun _ _ => rfl) to_Era
theorem to_Register : ToOk tRegister laws_toRegister.f := by
  intro x hc
  have hc : (cnt (.sl tEra) x.1 + (cnt (.int .i64) x.2.1 + cnt .unit x.2.2)) ≤ 1048576 := hc
  have a0 := to_EraS x.1 (by show cnt (.sl tEra) x.1 ≤ 1048576; omega)
  simp only [laws_toRegister.f]; exact Ev.bind a0 (Ev.ret)
theorem eq_IntS : EqOk (.sl (.int .i64)) laws_eqIntS.f := eq_leaf (t := (.int .i64)) (p := laws_eqIntS.p9) (d := (0 : Int)) (q := fun x y => decide (x = y)) (fun k xs ys i => by simp only [laws_eqIntS.p9, decide_eq_true_eq]) (fun _ => decide_eq_true rfl) (fun _ _ _ => rfl)
theorem eq_Era : EqOk tEra laws_eqEra.f := by
  intro x hc
  have hc : (cnt (.sl (.int .i64)) x.1 + (cnt .bool x.2.1 + (cnt (.int .i64) x.2.2.1 + cnt .unit x.2.2.2))) ≤ 1099511627776 := hc
  have a0 := eq_IntS x.1 (by show cnt (.sl (.int .i64)) x.1 ≤ 1099511627776; omega)
  simp only [laws_eqEra.f]; exact Ev.bind a0 (Ev.pos (by trivial) (Ev.pos (by trivial) (Ev.pos (by trivial) (Ev.ret))))
theorem eq_EraS : EqOk (.sl tEra) laws_eqEraS.f := eq_row (t := tEra) (p := laws_eqEraS.p9) (e := laws_eqEra.f) (d := (([] : List Int), (false, ((0 : Int), ())))) (fun _ _ _ _ => rfl) (fun _ _ _ => rfl) eq_Era
theorem eq_Register : EqOk tRegister laws_eqRegister.f := by
  intro x hc
  have hc : (cnt (.sl tEra) x.1 + (cnt (.int .i64) x.2.1 + cnt .unit x.2.2)) ≤ 1099511627776 := hc
  have a0 := eq_EraS x.1 (by show cnt (.sl tEra) x.1 ≤ 1099511627776; omega)
  simp only [laws_eqRegister.f]; exact Ev.bind a0 (Ev.pos (by trivial) (Ev.pos (by trivial) (Ev.ret)))
theorem eq_Config : EqOk tConfig laws_eqConfig.f := by
  intro x hc
  have hc : (cnt (.sl (.int .i64)) x.1 + (cnt (.int .i64) x.2.1 + cnt .unit x.2.2)) ≤ 1099511627776 := hc
  have a0 := eq_IntS x.1 (by show cnt (.sl (.int .i64)) x.1 ≤ 1099511627776; omega)
  simp only [laws_eqConfig.f]; exact Ev.bind a0 (Ev.pos (by trivial) (Ev.pos (by trivial) (Ev.ret)))
noncomputable def W_IntS (xs : List Int) : Nat := wsum (fun _ => 1) xs
theorem W_IntS_le (xs : List Int) : W_IntS xs ≤ 8 * cnt (.sl (.int .i64)) xs := wsum_le (t := .int .i64) (W := fun _ => 1) (fun x => by omega) xs
theorem mk_IntS : MkOk (.sl (.int .i64)) W_IntS laws_markIntS.f laws_heldIntS.f := by
  refine mk_row (t := (.int .i64)) (W := (fun _ => 1)) (p := laws_markIntS.p5) (q := laws_heldIntS.p5) (e := (fun _ x n => some (wrap64 (n + (1 : Int)), n))) (g := (fun _ x n => some (if x = n then some (wrap64 (n + (1 : Int))) else none))) (d := (0 : Int)) ?_ ?_ ?_ ?_ (fun _ _ _ => rfl) (fun _ _ _ => rfl) markInt_ok (fun _ => Nat.le_refl 1)
  · intro k xs n i hl hi
    have e : wrap64 ((i : Int) + 1) = ((i + 1 : Nat) : Int) := wrap64_id (by omega) (by omega)
    have c1 : (i : Int) < ((xs.length : Nat) : Int) := by omega
    have c2 : (0 : Int) ≤ (i : Int) := by omega
    simp only [laws_markIntS.p5, Int.toNat_natCast, List.length_set, c1, c2, and_self, if_true, getD_set_self hi, List.set_set, e, Option.bind_assoc, Option.bind_some]
  · intro k xs n i hi
    have c1 : ¬ (i : Int) < ((xs.length : Nat) : Int) := by omega
    simp only [laws_markIntS.p5, c1, if_false]
  · intro k xs n i hl hi
    have e : wrap64 ((i : Int) + 1) = ((i + 1 : Nat) : Int) := wrap64_id (by omega) (by omega)
    have c1 : (i : Int) < ((xs.length : Nat) : Int) := by omega
    have c2 : (0 : Int) ≤ (i : Int) := by omega
    simp only [laws_heldIntS.p5, Int.toNat_natCast, c1, c2, and_self, if_true, e, Option.bind_assoc, Option.bind_some, ite_bind, bind_match]
    split <;> rfl
  · intro k xs n i hi
    have c1 : ¬ (i : Int) < ((xs.length : Nat) : Int) := by omega
    simp only [laws_heldIntS.p5, c1, if_false]
noncomputable def W_Config (x : Config) : Nat := W_IntS x.1
theorem W_Config_le (x : Config) : W_Config x ≤ 8 * cnt tConfig x := by
  show _ ≤ 8 * (cnt (.sl (.int .i64)) x.1 + (cnt (.int .i64) x.2.1 + cnt .unit x.2.2))
  have w0 := W_IntS_le x.1
  unfold W_Config; omega
theorem mk_Config : Mk1 tConfig W_Config laws_markConfig.f := by
  intro x n h1 h2
  unfold W_Config at h2
  obtain ⟨n0, x0, a0, b0, c0⟩ := mk_IntS.one x.1 n (by omega) (by omega)
  refine ⟨n0, (x0, (x.2.1, x.2.2)), ?_, by omega, by unfold W_Config; omega⟩
  · simp only [laws_markConfig.f]; exact Ev.bind a0 (Ev.ret)
noncomputable def WE_Era (x : Era) : Nat := W_IntS x.1 + 1 + 1
theorem WE_Era_le (x : Era) : WE_Era x ≤ 8 * cnt tEra x + 8 := by
  show _ ≤ 8 * (cnt (.sl (.int .i64)) x.1 + (cnt .bool x.2.1 + (cnt (.int .i64) x.2.2.1 + cnt .unit x.2.2.2))) + 8
  have w0 := W_IntS_le x.1
  unfold WE_Era; omega
noncomputable def em_Era (k : Nat) (x : Era) (n : Int) : Option (Int × Era) := (laws_markIntS.f k x.1 n).bind fun r1 => some ((wrap64 ((wrap64 (r1.1 + (1 : Int))) + (1 : Int))), (r1.2, ((decide ((Int.tmod r1.1 (3 : Int)) = (0 : Int))), ((wrap64 (r1.1 + (1 : Int))), x.2.2.2))))
noncomputable def eh_Era (k : Nat) (x : Era) (n : Int) : Option (Option Int) := (laws_heldIntS.f k x.1 n).bind fun r1 => if r1 < (0 : Int) then some none else if x.2.1 = (decide ((Int.tmod r1 (3 : Int)) = (0 : Int))) then if x.2.2.1 = (wrap64 (r1 + (1 : Int))) then some (some (wrap64 ((wrap64 (r1 + (1 : Int))) + (1 : Int)))) else some none else some none
theorem ee_Era : MkE tEra WE_Era em_Era eh_Era := by
  intro x n h1 h2
  unfold WE_Era at h2
  obtain ⟨n1, x1, a1, b1, c1, d1⟩ := mk_IntS x.1 n (by omega) (by omega)
  have w1 : wrap64 (n1 + (1 : Int)) = n1 + 1 := by rw [wrap64_id (by omega) (by omega)]
  have w2 : wrap64 ((n1 + 1) + (1 : Int)) = n1 + 2 := by rw [wrap64_id (by omega) (by omega)]; omega
  refine ⟨(n1 + 2), (x1, ((decide ((Int.tmod n1 (3 : Int)) = (0 : Int))), ((n1 + 1), x.2.2.2))), ?_, by omega, by unfold WE_Era; omega, ?_⟩
  · simp only [em_Era, w1, w2]
    refine Ev.bind a1 ?_
    try simp only [w1, w2]
    exact Ev.ret
  · simp only [eh_Era, w1, w2]
    refine Ev.bind d1 ?_
    try simp only [w1, w2]
    refine Ev.neg (by omega) ?_
    try refine Ev.pos (by trivial) ?_
    try refine Ev.pos (by trivial) ?_
    exact Ev.ret
noncomputable def W_EraS (xs : List Era) : Nat := wsum WE_Era xs
theorem W_EraS_le (xs : List Era) : W_EraS xs ≤ 8 * cnt (.sl tEra) xs := wsum_le (t := tEra) WE_Era_le xs
theorem mk_EraS : MkOk (.sl tEra) W_EraS laws_markEraS.f laws_heldEraS.f := by
  refine mk_row (t := tEra) (W := WE_Era) (p := laws_markEraS.p5) (q := laws_heldEraS.p5) (e := em_Era) (g := eh_Era) (d := (([] : List Int), (false, ((0 : Int), ())))) ?_ ?_ ?_ ?_ (fun _ _ _ => rfl) (fun _ _ _ => rfl) ee_Era (fun _ => by unfold WE_Era; omega)
  · intro k xs n i hl hi
    have e : wrap64 ((i : Int) + 1) = ((i + 1 : Nat) : Int) := wrap64_id (by omega) (by omega)
    have c1 : (i : Int) < ((xs.length : Nat) : Int) := by omega
    have c2 : (0 : Int) ≤ (i : Int) := by omega
    simp only [laws_markEraS.p5, em_Era, eh_Era, Int.toNat_natCast, List.length_set, c1, c2, and_self, if_true, getD_set_self hi, List.set_set, e, Option.bind_assoc, Option.bind_some]
  · intro k xs n i hi
    have c1 : ¬ (i : Int) < ((xs.length : Nat) : Int) := by omega
    simp only [laws_markEraS.p5, c1, if_false]
  · intro k xs n i hl hi
    have e : wrap64 ((i : Int) + 1) = ((i + 1 : Nat) : Int) := wrap64_id (by omega) (by omega)
    have c1 : (i : Int) < ((xs.length : Nat) : Int) := by omega
    have c2 : (0 : Int) ≤ (i : Int) := by omega
    simp only [laws_heldEraS.p5, em_Era, eh_Era, Int.toNat_natCast, c1, c2, and_self, if_true, e, Option.bind_assoc, Option.bind_some, ite_bind, bind_match]
  · intro k xs n i hi
    have c1 : ¬ (i : Int) < ((xs.length : Nat) : Int) := by omega
    simp only [laws_heldEraS.p5, c1, if_false]
noncomputable def W_Register (x : Register) : Nat := W_EraS x.1
theorem W_Register_le (x : Register) : W_Register x ≤ 8 * cnt tRegister x := by
  show _ ≤ 8 * (cnt (.sl tEra) x.1 + (cnt (.int .i64) x.2.1 + cnt .unit x.2.2))
  have w0 := W_EraS_le x.1
  unfold W_Register; omega
theorem mk_Register : MkOk tRegister W_Register laws_markRegister.f laws_heldRegister.f := by
  intro x n h1 h2
  unfold W_Register at h2
  obtain ⟨n0, x0, a0, b0, c0, d0⟩ := mk_EraS x.1 n (by omega) (by omega)
  refine ⟨n0, (x0, (x.2.1, x.2.2)), ?_, by omega, by unfold W_Register; omega, ?_⟩
  · simp only [laws_markRegister.f]; exact Ev.bind a0 (Ev.ret)
  · simp only [laws_heldRegister.f]; exact Ev.bind d0 (Ev.neg (by omega) (Ev.ret))
end Go.Proofs.Ytllmifioelbleaa.OmFnExactRegClose
