import Derived.Test.YtllmifioelbleabFFnExactWriterForget
set_option linter.unusedVariables false
set_option linter.unusedSimpArgs false
namespace Go.Proofs.Ytllmifioelbleab.OmFnExactWriterForget
open Go Go.OM
theorem sz_IntS : SzOk (.sl (.int .i64)) (fun _ => laws_szIntS.f) := sz_flat (fun _ => rfl) (fun _ _ _ => rfl)
theorem sz_Config : SzOk tConfig (fun _ => laws_szConfig.f) := by
  intro x n hg h0 hn
  obtain ⟨v0, a0, b0, c0⟩ := sz_IntS x.1 n hg.1 (by omega) (by omega)
  by_cases h0 : v0 < 0
  · refine ⟨-1, ?_, by omega, fun h => by omega⟩; simp only [laws_szConfig.f]; exact Ev.bind a0 (Ev.pos h0 Ev.ret)
  refine ⟨v0, ?_, by omega, fun h => ?_⟩
  · simp only [laws_szConfig.f]; exact Ev.bind a0 (Ev.neg h0 (Ev.ret))
  · have q0 := c0 (by omega)
    show _ + (((cnt (.sl (.int .i64)) x.1 + (cnt (.int .i64) x.2.1 + cnt .unit x.2.2)) : Nat) : Int) ≤ n
    have z1 : cnt (.int .i64) x.2.1 = 0 := rfl
    have zu : cnt .unit x.2.2 = 0 := rfl
    omega
theorem sz_Word : SzOk tWord (fun _ => laws_szWord.f) := by
  intro x n hg h0 hn
  have g0 : x.1.size ≤ 9223372036854775807 := hg.1
  have e0 : (wrap64 (n - ((x.1.size : Nat) : Int))) = n - ((x.1.size : Nat) : Int) := wrap64_id (by omega) (by omega)
  by_cases h0 : (wrap64 (n - ((x.1.size : Nat) : Int))) < 0
  · refine ⟨-1, ?_, by omega, fun h => by omega⟩; simp only [laws_szWord.f]; exact Ev.pos h0 Ev.ret
  obtain ⟨v1, a1, b1, c1⟩ := sz_IntS x.2.1 (wrap64 (n - ((x.1.size : Nat) : Int))) hg.2.1 (by omega) (by omega)
  by_cases h1 : v1 < 0
  · refine ⟨-1, ?_, by omega, fun h => by omega⟩; simp only [laws_szWord.f]; exact Ev.neg h0 (Ev.bind a1 (Ev.pos h1 Ev.ret))
  refine ⟨v1, ?_, by omega, fun h => ?_⟩
  · simp only [laws_szWord.f]; exact Ev.neg h0 (Ev.bind a1 (Ev.neg h1 (Ev.ret)))
  · have q1 := c1 (by omega)
    show _ + (((cnt .str x.1 + (cnt (.sl (.int .i64)) x.2.1 + (cnt .bool x.2.2.1 + cnt .unit x.2.2.2))) : Nat) : Int) ≤ n
    have z0 : cnt .str x.1 = x.1.size := rfl
    have z2 : cnt .bool x.2.2.1 = 0 := rfl
    have zu : cnt .unit x.2.2.2 = 0 := rfl
    omega
theorem sz_WordS : SzOk (.sl tWord) laws_szWordS.f := sz_row (t := tWord) (p := laws_szWordS.p11) (d := ((⟨#[]⟩ : ByteArray), (([] : List Int), (false, ())))) (fun _ _ _ _ => rfl) (fun _ _ _ => rfl) sz_Word
theorem sz_Writer : SzOk tWriter laws_szWriter.f := by
  intro x n hg h0 hn
  obtain ⟨v0, a0, b0, c0⟩ := sz_WordS x.2.1 n hg.2.1 (by omega) (by omega)
  by_cases h0 : v0 < 0
  · refine ⟨-1, ?_, by omega, fun h => by omega⟩; simp only [laws_szWriter.f]; exact Ev.bind a0 (Ev.pos h0 Ev.ret)
  refine ⟨v0, ?_, by omega, fun h => ?_⟩
  · simp only [laws_szWriter.f]; exact Ev.bind a0 (Ev.neg h0 (Ev.ret))
  · have q0 := c0 (by omega)
    show _ + (((cnt (.int .i64) x.1 + (cnt (.sl tWord) x.2.1 + cnt .unit x.2.2)) : Nat) : Int) ≤ n
    have z0 : cnt (.int .i64) x.1 = 0 := rfl
    have zu : cnt .unit x.2.2 = 0 := rfl
    omega
theorem to_IntS : ToOk (.sl (.int .i64)) laws_toIntS.f := to_row (t := (.int .i64)) (p := laws_toIntS.p7) (d := (0 : Int)) (z := (0 : Int)) (to_loopF (fun _ _ _ _ => rfl)) (fun _ _ => rfl) to_id
theorem to_Config : ToOk tConfig laws_toConfig.f := by
  intro x hc
  have hc : (cnt (.sl (.int .i64)) x.1 + (cnt (.int .i64) x.2.1 + cnt .unit x.2.2)) ≤ 1048576 := hc
  have a0 := to_IntS x.1 (by show cnt (.sl (.int .i64)) x.1 ≤ 1048576; omega)
  simp only [laws_toConfig.f]; exact Ev.bind a0 (Ev.ret)
theorem to_Word : ToOk tWord laws_toWord.f := by
  intro x hc
  have hc : (cnt .str x.1 + (cnt (.sl (.int .i64)) x.2.1 + (cnt .bool x.2.2.1 + cnt .unit x.2.2.2))) ≤ 1048576 := hc
  have a0 := to_IntS x.2.1 (by show cnt (.sl (.int .i64)) x.2.1 ≤ 1048576; omega)
  simp only [laws_toWord.f]; exact Ev.bind a0 (Ev.ret)
theorem to_WordS : ToOk (.sl tWord) laws_toWordS.f := to_row (t := tWord) (p := laws_toWordS.p7) (e := laws_toWord.f) (d := ((⟨#[]⟩ : ByteArray), (([] : List Int), (false, ())))) (z := ((⟨#[]⟩ : ByteArray), (([] : List Int), (false, ())))) (fun _ _ _ _ => rfl) (fun _ _ => rfl) to_Word
theorem to_Writer : ToOk tWriter laws_toWriter.f := by
  intro x hc
  have hc : (cnt (.int .i64) x.1 + (cnt (.sl tWord) x.2.1 + cnt .unit x.2.2)) ≤ 1048576 := hc
  have a0 := to_WordS x.2.1 (by show cnt (.sl tWord) x.2.1 ≤ 1048576; omega)
  simp only [laws_toWriter.f]; exact Ev.bind a0 (Ev.ret)
theorem eq_IntS : EqOk (.sl (.int .i64)) laws_eqIntS.f := eq_leaf (t := (.int .i64)) (p := laws_eqIntS.p9) (d := (0 : Int)) (q := fun x y => decide (x = y)) (fun k xs ys i => by simp only [laws_eqIntS.p9, decide_eq_true_eq]) (fun _ => decide_eq_true rfl) (fun _ _ _ => rfl)
theorem eq_Word : EqOk tWord laws_eqWord.f := by
  intro x hc
  have hc : (cnt .str x.1 + (cnt (.sl (.int .i64)) x.2.1 + (cnt .bool x.2.2.1 + cnt .unit x.2.2.2))) ≤ 1099511627776 := hc
  have a0 := eq_IntS x.2.1 (by show cnt (.sl (.int .i64)) x.2.1 ≤ 1099511627776; omega)
  simp only [laws_eqWord.f]; exact Ev.pos (by trivial) (Ev.bind a0 (Ev.pos (by trivial) (Ev.pos (by trivial) (Ev.ret))))
theorem eq_WordS : EqOk (.sl tWord) laws_eqWordS.f := eq_row (t := tWord) (p := laws_eqWordS.p9) (e := laws_eqWord.f) (d := ((⟨#[]⟩ : ByteArray), (([] : List Int), (false, ())))) (fun _ _ _ _ => rfl) (fun _ _ _ => rfl) eq_Word
theorem eq_Writer : EqOk tWriter laws_eqWriter.f := by
  intro x hc
  have hc : (cnt (.int .i64) x.1 + (cnt (.sl tWord) x.2.1 + cnt .unit x.2.2)) ≤ 1099511627776 := hc
  have a0 := eq_WordS x.2.1 (by show cnt (.sl tWord) x.2.1 ≤ 1099511627776; omega)
  simp only [laws_eqWriter.f]; exact Ev.pos (by trivial) (Ev.bind a0 (Ev.pos (by trivial) (Ev.ret)))
theorem eq_Config : EqOk tConfig laws_eqConfig.f := by
  intro x hc
  have hc : (cnt (.sl (.int .i64)) x.1 + (cnt (.int .i64) x.2.1 + cnt .unit x.2.2)) ≤ 1099511627776 := hc
  have a0 := eq_IntS x.1 (by show cnt (.sl (.int .i64)) x.1 ≤ 1099511627776; omega)
  simp only [laws_eqConfig.f]; exact Ev.bind a0 (Ev.pos (by trivial) (Ev.pos (by trivial) (Ev.ret)))
theorem text_loop : ∀ (m : Nat) (x : Int) (s : ByteArray), 0 ≤ x → x ≤ 9223372036854775807 → x < 10 ^ m → s.size + m ≤ 1000 → ∃ t, Ev (fun k => laws_markText.p9 k x s) t := by
  intro m
  induction m with
  | zero =>
    intro x s h0 hb h1 hs
    have hx : x = 0 := by simp at h1; omega
    have hsz : (((⟨#[109]⟩ : ByteArray).size : Nat) : Int) + ((s.size : Nat) : Int) ≤ (9223372036854775807 : Int) := by
      have : (⟨#[109]⟩ : ByteArray).size = 1 := rfl
      omega
    refine ⟨(⟨#[109]⟩ : ByteArray) ++ s, Ev.succ ?_⟩
    simp only [laws_markText.p9]
    exact Ev.neg (by omega) (Ev.pos hsz Ev.ret)
  | succ m ih =>
    intro x s h0 hb h1 hs
    have hsz : ∀ y : Int, (bytesOf ([y] : List Int)).size = 1 := fun y => rfl
    by_cases hx : (0 : Int) < x
    · have hd : Int.tdiv x 10 = x / 10 := Int.tdiv_eq_ediv_of_nonneg h0
      have hlt : x / 10 < 10 ^ m := by
        rw [Int.pow_succ] at h1
        exact Int.ediv_lt_of_lt_mul (by omega) h1
      have hw : wrap64 (Int.tdiv x 10) = x / 10 := by
        rw [hd]
        exact wrap64_id (by omega) (by omega)
      obtain ⟨t, ht⟩ := ih (x / 10) (bytesOf ([(IntKind.wrap .u8 (wrap64 ((48 : Int) + (Int.tmod x (10 : Int)))))] : List Int) ++ s) (by omega) (by omega) hlt (by rw [ByteArray.size_append, hsz]; omega)
      refine ⟨t, Ev.succ ?_⟩
      simp only [laws_markText.p9, hw]
      exact Ev.pos hx (Ev.pos (by rw [hsz]; omega) ht)
    · have hsz2 : (((⟨#[109]⟩ : ByteArray).size : Nat) : Int) + ((s.size : Nat) : Int) ≤ (9223372036854775807 : Int) := by
        have : (⟨#[109]⟩ : ByteArray).size = 1 := rfl
        omega
      refine ⟨(⟨#[109]⟩ : ByteArray) ++ s, Ev.succ ?_⟩
      simp only [laws_markText.p9]
      exact Ev.neg hx (Ev.pos hsz2 Ev.ret)
theorem text_ev (x : Int) (h0 : 0 ≤ x) (h1 : x ≤ 9223372036854775807) : ∃ t, Ev (fun k => laws_markText.f k x) t := by
  by_cases hx : x ≤ 0
  · exact ⟨_, by simp only [laws_markText.f]; exact Ev.pos hx Ev.ret⟩
  · obtain ⟨t, ht⟩ := text_loop 20 x ⟨#[]⟩ h0 h1 (by omega) (by show (0 : Nat) + 20 ≤ 1000; omega)
    exact ⟨t, by simp only [laws_markText.f]; exact Ev.neg hx ht⟩
noncomputable def W_IntS (xs : List Int) : Nat := wsum (fun _ => 1) xs
theorem W_IntS_le (xs : List Int) : W_IntS xs ≤ 8 * cnt (.sl (.int .i64)) xs := wsum_le (t := .int .i64) (W := fun _ => 1) (fun x => by omega) xs
theorem mk_IntS : MkOk (.sl (.int .i64)) W_IntS laws_markIntS.f laws_heldIntS.f := by
  refine mk_row (t := (.int .i64)) (W := (fun _ => 1)) (p := laws_markIntS.p5) (q := laws_heldIntS.p5) (e := (fun _ x n => some (wrap64 (n + (1 : Int)), n))) (g := (fun _ x n => some (if x = n then some (wrap64 (n + (1 : Int))) else none))) (d := (0 : Int)) ?_ ?_ ?_ ?_ (fun _ _ _ => rfl) (fun _ _ _ => rfl) markInt_ok (fun _ => Nat.le_refl 1)
  · intro k xs n i hl hi
    have e : wrap64 ((i : Int) + 1) = ((i + 1 : Nat) : Int) := wrap64_id (by omega) (by omega)
    have c1 : (i : Int) < ((xs.length : Nat) : Int) := by omega
    have c2 : (0 : Int) ≤ (i : Int) := by omega
    simp only [laws_markIntS.p5, Int.toNat_natCast, List.length_set, c1, c2, and_self, if_true, getD_set_self hi, List.set_set, e, Option.bind_assoc, Option.bind_some]
  · intro k xs n i hi
    have c1 : ¬ (i : Int) < ((xs.length : Nat) : Int) := by omega
    simp only [laws_markIntS.p5, c1, if_false]
  · intro k xs n i hl hi
    have e : wrap64 ((i : Int) + 1) = ((i + 1 : Nat) : Int) := wrap64_id (by omega) (by omega)
    have c1 : (i : Int) < ((xs.length : Nat) : Int) := by omega
    have c2 : (0 : Int) ≤ (i : Int) := by omega
    simp only [laws_heldIntS.p5, Int.toNat_natCast, c1, c2, and_self, if_true, e, Option.bind_assoc, Option.bind_some, ite_bind, bind_match]
    split <;> rfl
  · intro k xs n i hi
    have c1 : ¬ (i : Int) < ((xs.length : Nat) : Int) := by omega
    simp only [laws_heldIntS.p5, c1, if_false]
noncomputable def W_Config (x : Config) : Nat := W_IntS x.1
theorem W_Config_le (x : Config) : W_Config x ≤ 8 * cnt tConfig x := by
  show _ ≤ 8 * (cnt (.sl (.int .i64)) x.1 + (cnt (.int .i64) x.2.1 + cnt .unit x.2.2))
  have w0 := W_IntS_le x.1
  unfold W_Config; omega
theorem mk_Config : Mk1 tConfig W_Config laws_markConfig.f := by
  intro x n h1 h2
  unfold W_Config at h2
  obtain ⟨n0, x0, a0, b0, c0⟩ := mk_IntS.one x.1 n (by omega) (by omega)
  refine ⟨n0, (x0, (x.2.1, x.2.2)), ?_, by omega, by unfold W_Config; omega⟩
  · simp only [laws_markConfig.f]; exact Ev.bind a0 (Ev.ret)
noncomputable def WE_Word (x : Word) : Nat := 1 + W_IntS x.2.1 + 1
theorem WE_Word_le (x : Word) : WE_Word x ≤ 8 * cnt tWord x + 8 := by
  show _ ≤ 8 * (cnt .str x.1 + (cnt (.sl (.int .i64)) x.2.1 + (cnt .bool x.2.2.1 + cnt .unit x.2.2.2))) + 8
  have w0 := W_IntS_le x.2.1
  unfold WE_Word; omega
noncomputable def em_Word (k : Nat) (x : Word) (n : Int) : Option (Int × Word) := (laws_markText.f k n).bind fun r1 => (laws_markIntS.f k x.2.1 (wrap64 (n + (1 : Int)))).bind fun r2 => some ((wrap64 (r2.1 + (1 : Int))), (r1, (r2.2, ((decide ((Int.tmod r2.1 (3 : Int)) = (0 : Int))), x.2.2.2))))
noncomputable def eh_Word (k : Nat) (x : Word) (n : Int) : Option (Option Int) := (laws_markText.f k n).bind fun r1 => if x.1 = r1 then (laws_heldIntS.f k x.2.1 (wrap64 (n + (1 : Int)))).bind fun r2 => if r2 < (0 : Int) then some none else if x.2.2.1 = (decide ((Int.tmod r2 (3 : Int)) = (0 : Int))) then some (some (wrap64 (r2 + (1 : Int)))) else some none else some none
theorem ee_Word : MkE tWord WE_Word em_Word eh_Word := by
  intro x n h1 h2
  unfold WE_Word at h2
  obtain ⟨t1, q1⟩ := text_ev n (by omega) (by omega)
  have w1 : wrap64 (n + (1 : Int)) = n + 1 := by rw [wrap64_id (by omega) (by omega)]
  obtain ⟨n2, x2, a2, b2, c2, d2⟩ := mk_IntS x.2.1 (n + 1) (by omega) (by omega)
  have w2 : wrap64 (n2 + (1 : Int)) = n2 + 1 := by rw [wrap64_id (by omega) (by omega)]
  refine ⟨(n2 + 1), (t1, (x2, ((decide ((Int.tmod n2 (3 : Int)) = (0 : Int))), x.2.2.2))), ?_, by omega, by unfold WE_Word; omega, ?_⟩
  · simp only [em_Word, w1, w2]
    refine Ev.bind q1 ?_
    try simp only [w1, w2]
    refine Ev.bind a2 ?_
    try simp only [w1, w2]
    exact Ev.ret
  · simp only [eh_Word, w1, w2]
    refine Ev.bind q1 ?_
    try simp only [w1, w2]
    try refine Ev.pos (by trivial) ?_
    refine Ev.bind d2 ?_
    try simp only [w1, w2]
    refine Ev.neg (by omega) ?_
    try refine Ev.pos (by trivial) ?_
    exact Ev.ret
noncomputable def W_WordS (xs : List Word) : Nat := wsum WE_Word xs
theorem W_WordS_le (xs : List Word) : W_WordS xs ≤ 8 * cnt (.sl tWord) xs := wsum_le (t := tWord) WE_Word_le xs
theorem mk_WordS : MkOk (.sl tWord) W_WordS laws_markWordS.f laws_heldWordS.f := by
  refine mk_row (t := tWord) (W := WE_Word) (p := laws_markWordS.p5) (q := laws_heldWordS.p5) (e := em_Word) (g := eh_Word) (d := ((⟨#[]⟩ : ByteArray), (([] : List Int), (false, ())))) ?_ ?_ ?_ ?_ (fun _ _ _ => rfl) (fun _ _ _ => rfl) ee_Word (fun _ => by unfold WE_Word; omega)
  · intro k xs n i hl hi
    have e : wrap64 ((i : Int) + 1) = ((i + 1 : Nat) : Int) := wrap64_id (by omega) (by omega)
    have c1 : (i : Int) < ((xs.length : Nat) : Int) := by omega
    have c2 : (0 : Int) ≤ (i : Int) := by omega
    simp only [laws_markWordS.p5, em_Word, eh_Word, Int.toNat_natCast, List.length_set, c1, c2, and_self, if_true, getD_set_self hi, List.set_set, e, Option.bind_assoc, Option.bind_some]
  · intro k xs n i hi
    have c1 : ¬ (i : Int) < ((xs.length : Nat) : Int) := by omega
    simp only [laws_markWordS.p5, c1, if_false]
  · intro k xs n i hl hi
    have e : wrap64 ((i : Int) + 1) = ((i + 1 : Nat) : Int) := wrap64_id (by omega) (by omega)
    have c1 : (i : Int) < ((xs.length : Nat) : Int) := by omega
    have c2 : (0 : Int) ≤ (i : Int) := by omega
    simp only [laws_heldWordS.p5, em_Word, eh_Word, Int.toNat_natCast, c1, c2, and_self, if_true, e, Option.bind_assoc, Option.bind_some, ite_bind, bind_match]
  · intro k xs n i hi
    have c1 : ¬ (i : Int) < ((xs.length : Nat) : Int) := by omega
    simp only [laws_heldWordS.p5, c1, if_false]
noncomputable def W_Writer (x : Writer) : Nat := W_WordS x.2.1
theorem W_Writer_le (x : Writer) : W_Writer x ≤ 8 * cnt tWriter x := by
  show _ ≤ 8 * (cnt (.int .i64) x.1 + (cnt (.sl tWord) x.2.1 + cnt .unit x.2.2))
  have w0 := W_WordS_le x.2.1
  unfold W_Writer; omega
theorem mk_Writer : MkOk tWriter W_Writer laws_markWriter.f laws_heldWriter.f := by
  intro x n h1 h2
  unfold W_Writer at h2
  obtain ⟨n0, x0, a0, b0, c0, d0⟩ := mk_WordS x.2.1 n (by omega) (by omega)
  refine ⟨n0, (x.1, (x0, x.2.2)), ?_, by omega, by unfold W_Writer; omega, ?_⟩
  · simp only [laws_markWriter.f]; exact Ev.bind a0 (Ev.ret)
  · simp only [laws_heldWriter.f]; exact Ev.bind d0 (Ev.neg (by omega) (Ev.ret))
end Go.Proofs.Ytllmifioelbleab.OmFnExactWriterForget
