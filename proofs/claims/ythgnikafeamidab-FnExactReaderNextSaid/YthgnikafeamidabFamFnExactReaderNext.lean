import Derived.Test.YthgnikafeamidabFFnExactReaderNext
set_option linter.unusedVariables false
set_option linter.unusedSimpArgs false
namespace Go.Proofs.Ythgnikafeamidab.OmFnExactReaderNext
open Go Go.OM
theorem sz_IntS : SzOk (.sl (.int .i64)) (fun _ => laws_szIntS.f) := sz_flat (fun _ => rfl) (fun _ _ _ => rfl)
theorem sz_Config : SzOk tConfig (fun _ => laws_szConfig.f) := by
  intro x n hg h0 hn
  obtain ⟨v0, a0, b0, c0⟩ := sz_IntS x.1 n hg.1 (by omega) (by omega)
  by_cases h0 : v0 < 0
  · refine ⟨-1, ?_, by omega, fun h => by omega⟩; simp only [laws_szConfig.f]; exact Ev.bind a0 (Ev.pos h0 Ev.ret)
  refine ⟨v0, ?_, by omega, fun h => ?_⟩
  · simp only [laws_szConfig.f]; exact Ev.bind a0 (Ev.neg h0 (Ev.ret))
  · have q0 := c0 (by omega)
    show _ + (((cnt (.sl (.int .i64)) x.1 + (cnt (.int .i64) x.2.1 + cnt .unit x.2.2)) : Nat) : Int) ≤ n
    have z1 : cnt (.int .i64) x.2.1 = 0 := rfl
    have zu : cnt .unit x.2.2 = 0 := rfl
    omega
theorem sz_Era : SzOk tEra (fun _ => laws_szEra.f) := by
  intro x n hg h0 hn
  obtain ⟨v0, a0, b0, c0⟩ := sz_IntS x.1 n hg.1 (by omega) (by omega)
  by_cases h0 : v0 < 0
  · refine ⟨-1, ?_, by omega, fun h => by omega⟩; simp only [laws_szEra.f]; exact Ev.bind a0 (Ev.pos h0 Ev.ret)
  refine ⟨v0, ?_, by omega, fun h => ?_⟩
  · simp only [laws_szEra.f]; exact Ev.bind a0 (Ev.neg h0 (Ev.ret))
  · have q0 := c0 (by omega)
    show _ + (((cnt (.sl (.int .i64)) x.1 + (cnt .bool x.2.1 + (cnt (.int .i64) x.2.2.1 + cnt .unit x.2.2.2))) : Nat) : Int) ≤ n
    have z1 : cnt .bool x.2.1 = 0 := rfl
    have z2 : cnt (.int .i64) x.2.2.1 = 0 := rfl
    have zu : cnt .unit x.2.2.2 = 0 := rfl
    omega
theorem sz_EraS : SzOk (.sl tEra) laws_szEraS.f := sz_row (t := tEra) (p := laws_szEraS.p11) (d := (([] : List Int), (false, ((0 : Int), ())))) (fun _ _ _ _ => rfl) (fun _ _ _ => rfl) sz_Era
theorem sz_Register : SzOk tRegister laws_szRegister.f := by
  intro x n hg h0 hn
  obtain ⟨v0, a0, b0, c0⟩ := sz_EraS x.1 n hg.1 (by omega) (by omega)
  by_cases h0 : v0 < 0
  · refine ⟨-1, ?_, by omega, fun h => by omega⟩; simp only [laws_szRegister.f]; exact Ev.bind a0 (Ev.pos h0 Ev.ret)
  refine ⟨v0, ?_, by omega, fun h => ?_⟩
  · simp only [laws_szRegister.f]; exact Ev.bind a0 (Ev.neg h0 (Ev.ret))
  · have q0 := c0 (by omega)
    show _ + (((cnt (.sl tEra) x.1 + (cnt (.int .i64) x.2.1 + cnt .unit x.2.2)) : Nat) : Int) ≤ n
    have z1 : cnt (.int .i64) x.2.1 = 0 := rfl
    have zu : cnt .unit x.2.2 = 0 := rfl
    omega
theorem sz_Event : SzOk tEvent (fun _ => laws_szEvent.f) := by
  intro x n hg h0 hn
  have g0 : x.2.2.1.size ≤ 9223372036854775807 := hg.2.2.1
  have e0 : (wrap64 (n - ((x.2.2.1.size : Nat) : Int))) = n - ((x.2.2.1.size : Nat) : Int) := wrap64_id (by omega) (by omega)
  by_cases h0 : (wrap64 (n - ((x.2.2.1.size : Nat) : Int))) < 0
  · refine ⟨-1, ?_, by omega, fun h => by omega⟩; simp only [laws_szEvent.f]; exact Ev.pos h0 Ev.ret
  refine ⟨(wrap64 (n - ((x.2.2.1.size : Nat) : Int))), ?_, by omega, fun h => ?_⟩
  · simp only [laws_szEvent.f]; exact Ev.neg h0 (Ev.ret)
  · show _ + (((cnt (.int .i64) x.1 + (cnt (.int .i64) x.2.1 + (cnt .str x.2.2.1 + cnt .unit x.2.2.2))) : Nat) : Int) ≤ n
    have z0 : cnt (.int .i64) x.1 = 0 := rfl
    have z1 : cnt (.int .i64) x.2.1 = 0 := rfl
    have z2 : cnt .str x.2.2.1 = x.2.2.1.size := rfl
    have zu : cnt .unit x.2.2.2 = 0 := rfl
    omega
theorem sz_EventS : SzOk (.sl tEvent) laws_szEventS.f := sz_row (t := tEvent) (p := laws_szEventS.p11) (d := ((0 : Int), ((0 : Int), ((⟨#[]⟩ : ByteArray), ())))) (fun _ _ _ _ => rfl) (fun _ _ _ => rfl) sz_Event
theorem sz_Reader : SzOk tReader laws_szReader.f := by
  intro x n hg h0 hn
  obtain ⟨v0, a0, b0, c0⟩ := sz_EventS x.2.2.1 n hg.2.2.1 (by omega) (by omega)
  by_cases h0 : v0 < 0
  · refine ⟨-1, ?_, by omega, fun h => by omega⟩; simp only [laws_szReader.f]; exact Ev.bind a0 (Ev.pos h0 Ev.ret)
  refine ⟨v0, ?_, by omega, fun h => ?_⟩
  · simp only [laws_szReader.f]; exact Ev.bind a0 (Ev.neg h0 (Ev.ret))
  · have q0 := c0 (by omega)
    show _ + (((cnt (.int .i64) x.1 + (cnt (.int .i64) x.2.1 + (cnt (.sl tEvent) x.2.2.1 + cnt .unit x.2.2.2))) : Nat) : Int) ≤ n
    have z0 : cnt (.int .i64) x.1 = 0 := rfl
    have z1 : cnt (.int .i64) x.2.1 = 0 := rfl
    have zu : cnt .unit x.2.2.2 = 0 := rfl
    omega
theorem sz_Entry : SzOk tEntry (fun _ => laws_szEntry.f) := by
  intro x n hg h0 hn
  have g0 : x.2.2.2.1.size ≤ 9223372036854775807 := hg.2.2.2.1
  have e0 : (wrap64 (n - ((x.2.2.2.1.size : Nat) : Int))) = n - ((x.2.2.2.1.size : Nat) : Int) := wrap64_id (by omega) (by omega)
  by_cases h0 : (wrap64 (n - ((x.2.2.2.1.size : Nat) : Int))) < 0
  · refine ⟨-1, ?_, by omega, fun h => by omega⟩; simp only [laws_szEntry.f]; exact Ev.pos h0 Ev.ret
  refine ⟨(wrap64 (n - ((x.2.2.2.1.size : Nat) : Int))), ?_, by omega, fun h => ?_⟩
  · simp only [laws_szEntry.f]; exact Ev.neg h0 (Ev.ret)
  · show _ + (((cnt (.int .i64) x.1 + (cnt (.int .i64) x.2.1 + (cnt .bool x.2.2.1 + (cnt .str x.2.2.2.1 + cnt .unit x.2.2.2.2)))) : Nat) : Int) ≤ n
    have z0 : cnt (.int .i64) x.1 = 0 := rfl
    have z1 : cnt (.int .i64) x.2.1 = 0 := rfl
    have z2 : cnt .bool x.2.2.1 = 0 := rfl
    have z3 : cnt .str x.2.2.2.1 = x.2.2.2.1.size := rfl
    have zu : cnt .unit x.2.2.2.2 = 0 := rfl
    omega
theorem sz_Answer : SzOk tAnswer (fun _ => laws_szAnswer.f) := by
  intro x n hg h0 hn
  obtain ⟨v0, a0, b0, c0⟩ := sz_Entry x.2.2.1 n hg.2.2.1 (by omega) (by omega)
  by_cases h0 : v0 < 0
  · refine ⟨-1, ?_, by omega, fun h => by omega⟩; simp only [laws_szAnswer.f]; exact Ev.bind a0 (Ev.pos h0 Ev.ret)
  refine ⟨v0, ?_, by omega, fun h => ?_⟩
  · simp only [laws_szAnswer.f]; exact Ev.bind a0 (Ev.neg h0 (Ev.ret))
  · have q0 := c0 (by omega)
    show _ + (((cnt (.int .i64) x.1 + (cnt .bool x.2.1 + (cnt tEntry x.2.2.1 + cnt .unit x.2.2.2))) : Nat) : Int) ≤ n
    have z0 : cnt (.int .i64) x.1 = 0 := rfl
    have z1 : cnt .bool x.2.1 = 0 := rfl
    have zu : cnt .unit x.2.2.2 = 0 := rfl
    omega
theorem sz_AnswerS : SzOk (.sl tAnswer) laws_szAnswerS.f := sz_row (t := tAnswer) (p := laws_szAnswerS.p11) (d := ((0 : Int), (false, (((0 : Int), ((0 : Int), (false, ((⟨#[]⟩ : ByteArray), ())))), ())))) (fun _ _ _ _ => rfl) (fun _ _ _ => rfl) sz_Answer
theorem to_IntS : ToOk (.sl (.int .i64)) laws_toIntS.f := to_row (t := (.int .i64)) (p := laws_toIntS.p7) (d := (0 : Int)) (z := (0 : Int)) (to_loopF (fun _ _ _ _ => rfl)) (fun _ _ => rfl) to_id
theorem to_Config : ToOk tConfig laws_toConfig.f := by
  intro x hc
  have hc : (cnt (.sl (.int .i64)) x.1 + (cnt (.int .i64) x.2.1 + cnt .unit x.2.2)) ≤ 1048576 := hc
  have a0 := to_IntS x.1 (by show cnt (.sl (.int .i64)) x.1 ≤ 1048576; omega)
  simp only [laws_toConfig.f]; exact Ev.bind a0 (Ev.ret)
theorem to_Era : ToOk tEra laws_toEra.f := by
  intro x hc
  have hc : (cnt (.sl (.int .i64)) x.1 + (cnt .bool x.2.1 + (cnt (.int .i64) x.2.2.1 + cnt .unit x.2.2.2))) ≤ 1048576 := hc
  have a0 := to_IntS x.1 (by show cnt (.sl (.int .i64)) x.1 ≤ 1048576; omega)
  simp only [laws_toEra.f]; exact Ev.bind a0 (Ev.ret)
theorem to_EraS : ToOk (.sl tEra) laws_toEraS.f := to_row (t := tEra) (p := laws_toEraS.p7) (e := laws_toEra.f) (d := (([] : List Int), (false, ((0 : Int), ())))) (z := (([] : List Int), (false, ((0 : Int), ())))) (fun _ _ _ _ => rfl) (fun _ _ => rfl) to_Era
theorem to_Register : ToOk tRegister laws_toRegister.f := by
  intro x hc
  have hc : (cnt (.sl tEra) x.1 + (cnt (.int .i64) x.2.1 + cnt .unit x.2.2)) ≤ 1048576 := hc
  have a0 := to_EraS x.1 (by show cnt (.sl tEra) x.1 ≤ 1048576; omega)
  simp only [laws_toRegister.f]; exact Ev.bind a0 (Ev.ret)
theorem to_Event : ToOk tEvent (fun _ => laws_toEvent.f) := by
  intro x hc
  have hc : (cnt (.int .i64) x.1 + (cnt (.int .i64) x.2.1 + (cnt .str x.2.2.1 + cnt .unit x.2.2.2))) ≤ 1048576 := hc
  simp only [laws_toEvent.f]; exact Ev.ret
theorem to_EventS : ToOk (.sl tEvent) laws_toEventS.f := to_row (t := tEvent) (p := laws_toEventS.p7) (e := (fun _ => laws_toEvent.f)) (d := ((0 : Int), ((0 : Int), ((⟨#[]⟩ : ByteArray), ())))) (z := ((0 : Int), ((0 : Int), ((⟨#[]⟩ : ByteArray), ())))) (fun _ _ _ _ => rfl) (fun _ _ => rfl) to_Event
theorem to_Reader : ToOk tReader laws_toReader.f := by
  intro x hc
  have hc : (cnt (.int .i64) x.1 + (cnt (.int .i64) x.2.1 + (cnt (.sl tEvent) x.2.2.1 + cnt .unit x.2.2.2))) ≤ 1048576 := hc
  have a0 := to_EventS x.2.2.1 (by show cnt (.sl tEvent) x.2.2.1 ≤ 1048576; omega)
  simp only [laws_toReader.f]; exact Ev.bind a0 (Ev.ret)
theorem to_Entry : ToOk tEntry (fun _ => laws_toEntry.f) := by
  intro x hc
  have hc : (cnt (.int .i64) x.1 + (cnt (.int .i64) x.2.1 + (cnt .bool x.2.2.1 + (cnt .str x.2.2.2.1 + cnt .unit x.2.2.2.2)))) ≤ 1048576 := hc
  simp only [laws_toEntry.f]; exact Ev.ret
theorem to_Answer : ToOk tAnswer (fun _ => laws_toAnswer.f) := by
  intro x hc
  have hc : (cnt (.int .i64) x.1 + (cnt .bool x.2.1 + (cnt tEntry x.2.2.1 + cnt .unit x.2.2.2))) ≤ 1048576 := hc
  have a0 := to_Entry x.2.2.1 (by show cnt tEntry x.2.2.1 ≤ 1048576; omega)
  simp only [laws_toAnswer.f]; exact Ev.bind a0 (Ev.ret)
theorem to_AnswerS : ToOk (.sl tAnswer) laws_toAnswerS.f := to_row (t := tAnswer) (p := laws_toAnswerS.p7) (e := (fun _ => laws_toAnswer.f)) (d := ((0 : Int), (false, (((0 : Int), ((0 : Int), (false, ((⟨#[]⟩ : ByteArray), ())))), ())))) (z := ((0 : Int), (false, (((0 : Int), ((0 : Int), (false, ((⟨#[]⟩ : ByteArray), ())))), ())))) (fun _ _ _ _ => rfl) (fun _ _ => rfl) to_Answer
theorem eq_Event : EqOk tEvent (fun _ => laws_eqEvent.f) := by
  intro x hc
  have hc : (cnt (.int .i64) x.1 + (cnt (.int .i64) x.2.1 + (cnt .str x.2.2.1 + cnt .unit x.2.2.2))) ≤ 1099511627776 := hc
  simp only [laws_eqEvent.f]; exact Ev.pos (by trivial) (Ev.pos (by trivial) (Ev.pos (by trivial) (Ev.ret)))
theorem eq_EventS : EqOk (.sl tEvent) laws_eqEventS.f := eq_row (t := tEvent) (p := laws_eqEventS.p9) (e := (fun _ => laws_eqEvent.f)) (d := ((0 : Int), ((0 : Int), ((⟨#[]⟩ : ByteArray), ())))) (fun _ _ _ _ => rfl) (fun _ _ _ => rfl) eq_Event
theorem eq_Reader : EqOk tReader laws_eqReader.f := by
  intro x hc
  have hc : (cnt (.int .i64) x.1 + (cnt (.int .i64) x.2.1 + (cnt (.sl tEvent) x.2.2.1 + cnt .unit x.2.2.2))) ≤ 1099511627776 := hc
  have a0 := eq_EventS x.2.2.1 (by show cnt (.sl tEvent) x.2.2.1 ≤ 1099511627776; omega)
  simp only [laws_eqReader.f]; exact Ev.pos (by trivial) (Ev.pos (by trivial) (Ev.bind a0 (Ev.pos (by trivial) (Ev.ret))))
theorem eq_IntS : EqOk (.sl (.int .i64)) laws_eqIntS.f := eq_leaf (t := (.int .i64)) (p := laws_eqIntS.p9) (d := (0 : Int)) (q := fun x y => decide (x = y)) (fun k xs ys i => by simp only [laws_eqIntS.p9, decide_eq_true_eq]) (fun _ => decide_eq_true rfl) (fun _ _ _ => rfl)
theorem eq_Config : EqOk tConfig laws_eqConfig.f := by
  intro x hc
  have hc : (cnt (.sl (.int .i64)) x.1 + (cnt (.int .i64) x.2.1 + cnt .unit x.2.2)) ≤ 1099511627776 := hc
  have a0 := eq_IntS x.1 (by show cnt (.sl (.int .i64)) x.1 ≤ 1099511627776; omega)
  simp only [laws_eqConfig.f]; exact Ev.bind a0 (Ev.pos (by trivial) (Ev.pos (by trivial) (Ev.ret)))
theorem eq_Era : EqOk tEra laws_eqEra.f := by
  intro x hc
  have hc : (cnt (.sl (.int .i64)) x.1 + (cnt .bool x.2.1 + (cnt (.int .i64) x.2.2.1 + cnt .unit x.2.2.2))) ≤ 1099511627776 := hc
  have a0 := eq_IntS x.1 (by show cnt (.sl (.int .i64)) x.1 ≤ 1099511627776; omega)
  simp only [laws_eqEra.f]; exact Ev.bind a0 (Ev.pos (by trivial) (Ev.pos (by trivial) (Ev.pos (by trivial) (Ev.ret))))
theorem eq_EraS : EqOk (.sl tEra) laws_eqEraS.f := eq_row (t := tEra) (p := laws_eqEraS.p9) (e := laws_eqEra.f) (d := (([] : List Int), (false, ((0 : Int), ())))) (fun _ _ _ _ => rfl) (fun _ _ _ => rfl) eq_Era
theorem eq_Register : EqOk tRegister laws_eqRegister.f := by
  intro x hc
  have hc : (cnt (.sl tEra) x.1 + (cnt (.int .i64) x.2.1 + cnt .unit x.2.2)) ≤ 1099511627776 := hc
  have a0 := eq_EraS x.1 (by show cnt (.sl tEra) x.1 ≤ 1099511627776; omega)
  simp only [laws_eqRegister.f]; exact Ev.bind a0 (Ev.pos (by trivial) (Ev.pos (by trivial) (Ev.ret)))
theorem eq_Entry : EqOk tEntry (fun _ => laws_eqEntry.f) := by
  intro x hc
  have hc : (cnt (.int .i64) x.1 + (cnt (.int .i64) x.2.1 + (cnt .bool x.2.2.1 + (cnt .str x.2.2.2.1 + cnt .unit x.2.2.2.2)))) ≤ 1099511627776 := hc
  simp only [laws_eqEntry.f]; exact Ev.pos (by trivial) (Ev.pos (by trivial) (Ev.pos (by trivial) (Ev.pos (by trivial) (Ev.ret))))
theorem eq_Answer : EqOk tAnswer (fun _ => laws_eqAnswer.f) := by
  intro x hc
  have hc : (cnt (.int .i64) x.1 + (cnt .bool x.2.1 + (cnt tEntry x.2.2.1 + cnt .unit x.2.2.2))) ≤ 1099511627776 := hc
  have a0 := eq_Entry x.2.2.1 (by show cnt tEntry x.2.2.1 ≤ 1099511627776; omega)
  simp only [laws_eqAnswer.f]; exact Ev.pos (by trivial) (Ev.pos (by trivial) (Ev.bind a0 (Ev.pos (by trivial) (Ev.ret))))
theorem eq_AnswerS : EqOk (.sl tAnswer) laws_eqAnswerS.f := eq_row (t := tAnswer) (p := laws_eqAnswerS.p9) (e := (fun _ => laws_eqAnswer.f)) (d := ((0 : Int), (false, (((0 : Int), ((0 : Int), (false, ((⟨#[]⟩ : ByteArray), ())))), ())))) (fun _ _ _ _ => rfl) (fun _ _ _ => rfl) eq_Answer
theorem text_loop : ∀ (m : Nat) (x : Int) (s : ByteArray), 0 ≤ x → x ≤ 9223372036854775807 → x < 10 ^ m → s.size + m ≤ 1000 → ∃ t, Ev (fun k => laws_markText.p9 k x s) t := by
  intro m
  induction m with
  | zero =>
    intro x s h0 hb h1 hs
    have hx : x = 0 := by simp at h1; omega
    have hsz : (((⟨#[109]⟩ : ByteArray).size : Nat) : Int) + ((s.size : Nat) : Int) ≤ (9223372036854775807 : Int) := by
      have : (⟨#[109]⟩ : ByteArray).size = 1 := rfl
      omega
    refine ⟨(⟨#[109]⟩ : ByteArray) ++ s, Ev.succ ?_⟩
    simp only [laws_markText.p9]
    exact Ev.neg (by omega) (Ev.pos hsz Ev.ret)
  | succ m ih =>
    intro x s h0 hb h1 hs
    have hsz : ∀ y : Int, (bytesOf ([y] : List Int)).size = 1 := fun y => rfl
    by_cases hx : (0 : Int) < x
    · have hd : Int.tdiv x 10 = x / 10 := Int.tdiv_eq_ediv_of_nonneg h0
      have hlt : x / 10 < 10 ^ m := by
        rw [Int.pow_succ] at h1
        exact Int.ediv_lt_of_lt_mul (by omega) h1
      have hw : wrap64 (Int.tdiv x 10) = x / 10 := by
        rw [hd]
        exact wrap64_id (by omega) (by omega)
      obtain ⟨t, ht⟩ := ih (x / 10) (bytesOf ([(IntKind.wrap .u8 (wrap64 ((48 : Int) + (Int.tmod x (10 : Int)))))] : List Int) ++ s) (by omega) (by omega) hlt (by rw [ByteArray.size_append, hsz]; omega)
      refine ⟨t, Ev.succ ?_⟩
      simp only [laws_markText.p9, hw]
      exact Ev.pos hx (Ev.pos (by rw [hsz]; omega) ht)
    · have hsz2 : (((⟨#[109]⟩ : ByteArray).size : Nat) : Int) + ((s.size : Nat) : Int) ≤ (9223372036854775807 : Int) := by
        have : (⟨#[109]⟩ : ByteArray).size = 1 := rfl
        omega
      refine ⟨(⟨#[109]⟩ : ByteArray) ++ s, Ev.succ ?_⟩
      simp only [laws_markText.p9]
      exact Ev.neg hx (Ev.pos hsz2 Ev.ret)
theorem text_ev (x : Int) (h0 : 0 ≤ x) (h1 : x ≤ 9223372036854775807) : ∃ t, Ev (fun k => laws_markText.f k x) t := by
  by_cases hx : x ≤ 0
  · exact ⟨_, by simp only [laws_markText.f]; exact Ev.pos hx Ev.ret⟩
  · obtain ⟨t, ht⟩ := text_loop 20 x ⟨#[]⟩ h0 h1 (by omega) (by show (0 : Nat) + 20 ≤ 1000; omega)
    exact ⟨t, by simp only [laws_markText.f]; exact Ev.neg hx ht⟩
noncomputable def W_IntS (xs : List Int) : Nat := wsum (fun _ => 1) xs
theorem W_IntS_le (xs : List Int) : W_IntS xs ≤ 8 * cnt (.sl (.int .i64)) xs := wsum_le (t := .int .i64) (W := fun _ => 1) (fun x => by omega) xs
theorem mk_IntS : Mk1 (.sl (.int .i64)) W_IntS laws_markIntS.f := by
  refine mk1_row (t := (.int .i64)) (W := (fun _ => 1)) (p := laws_markIntS.p5) (e := (fun _ x n => some (wrap64 (n + (1 : Int)), n))) (d := (0 : Int)) ?_ ?_ (fun _ _ _ => rfl) markInt_ok.one (fun _ => Nat.le_refl 1)
  · intro k xs n i hl hi
    have e : wrap64 ((i : Int) + 1) = ((i + 1 : Nat) : Int) := wrap64_id (by omega) (by omega)
    have c1 : (i : Int) < ((xs.length : Nat) : Int) := by omega
    have c2 : (0 : Int) ≤ (i : Int) := by omega
    simp only [laws_markIntS.p5, Int.toNat_natCast, List.length_set, c1, c2, and_self, if_true, getD_set_self hi, List.set_set, e, Option.bind_assoc, Option.bind_some]
  · intro k xs n i hi
    have c1 : ¬ (i : Int) < ((xs.length : Nat) : Int) := by omega
    simp only [laws_markIntS.p5, c1, if_false]
noncomputable def W_Config (x : Config) : Nat := W_IntS x.1
theorem W_Config_le (x : Config) : W_Config x ≤ 8 * cnt tConfig x := by
  show _ ≤ 8 * (cnt (.sl (.int .i64)) x.1 + (cnt (.int .i64) x.2.1 + cnt .unit x.2.2))
  have w0 := W_IntS_le x.1
  unfold W_Config; omega
theorem mk_Config : Mk1 tConfig W_Config laws_markConfig.f := by
  intro x n h1 h2
  unfold W_Config at h2
  obtain ⟨n0, x0, a0, b0, c0⟩ := mk_IntS x.1 n (by omega) (by omega)
  refine ⟨n0, (x0, (x.2.1, x.2.2)), ?_, by omega, by unfold W_Config; omega⟩
  · simp only [laws_markConfig.f]; exact Ev.bind a0 (Ev.ret)
noncomputable def WE_Era (x : Era) : Nat := W_IntS x.1 + 1 + 1
theorem WE_Era_le (x : Era) : WE_Era x ≤ 8 * cnt tEra x + 8 := by
  show _ ≤ 8 * (cnt (.sl (.int .i64)) x.1 + (cnt .bool x.2.1 + (cnt (.int .i64) x.2.2.1 + cnt .unit x.2.2.2))) + 8
  have w0 := W_IntS_le x.1
  unfold WE_Era; omega
noncomputable def em_Era (k : Nat) (x : Era) (n : Int) : Option (Int × Era) := (laws_markIntS.f k x.1 n).bind fun r1 => some ((wrap64 ((wrap64 (r1.1 + (1 : Int))) + (1 : Int))), (r1.2, ((decide ((Int.tmod r1.1 (3 : Int)) = (0 : Int))), ((wrap64 (r1.1 + (1 : Int))), x.2.2.2))))
theorem ee_Era : Mk1 tEra WE_Era em_Era := by
  intro x n h1 h2
  unfold WE_Era at h2
  obtain ⟨n1, x1, a1, b1, c1⟩ := mk_IntS x.1 n (by omega) (by omega)
  have w1 : wrap64 (n1 + (1 : Int)) = n1 + 1 := by rw [wrap64_id (by omega) (by omega)]
  have w2 : wrap64 ((n1 + 1) + (1 : Int)) = n1 + 2 := by rw [wrap64_id (by omega) (by omega)]; omega
  refine ⟨(n1 + 2), (x1, ((decide ((Int.tmod n1 (3 : Int)) = (0 : Int))), ((n1 + 1), x.2.2.2))), ?_, by omega, by unfold WE_Era; omega⟩
  · simp only [em_Era, w1, w2]
    refine Ev.bind a1 ?_
    try simp only [w1, w2]
    exact Ev.ret
noncomputable def W_EraS (xs : List Era) : Nat := wsum WE_Era xs
theorem W_EraS_le (xs : List Era) : W_EraS xs ≤ 8 * cnt (.sl tEra) xs := wsum_le (t := tEra) WE_Era_le xs
theorem mk_EraS : Mk1 (.sl tEra) W_EraS laws_markEraS.f := by
  refine mk1_row (t := tEra) (W := WE_Era) (p := laws_markEraS.p5) (e := em_Era) (d := (([] : List Int), (false, ((0 : Int), ())))) ?_ ?_ (fun _ _ _ => rfl) ee_Era (fun _ => by unfold WE_Era; omega)
  · intro k xs n i hl hi
    have e : wrap64 ((i : Int) + 1) = ((i + 1 : Nat) : Int) := wrap64_id (by omega) (by omega)
    have c1 : (i : Int) < ((xs.length : Nat) : Int) := by omega
    have c2 : (0 : Int) ≤ (i : Int) := by omega
    simp only [laws_markEraS.p5, em_Era, Int.toNat_natCast, List.length_set, c1, c2, and_self, if_true, getD_set_self hi, List.set_set, e, Option.bind_assoc, Option.bind_some]
  · intro k xs n i hi
    have c1 : ¬ (i : Int) < ((xs.length : Nat) : Int) := by omega
    simp only [laws_markEraS.p5, c1, if_false]
noncomputable def W_Register (x : Register) : Nat := W_EraS x.1
theorem W_Register_le (x : Register) : W_Register x ≤ 8 * cnt tRegister x := by
  show _ ≤ 8 * (cnt (.sl tEra) x.1 + (cnt (.int .i64) x.2.1 + cnt .unit x.2.2))
  have w0 := W_EraS_le x.1
  unfold W_Register; omega
theorem mk_Register : Mk1 tRegister W_Register laws_markRegister.f := by
  intro x n h1 h2
  unfold W_Register at h2
  obtain ⟨n0, x0, a0, b0, c0⟩ := mk_EraS x.1 n (by omega) (by omega)
  refine ⟨n0, (x0, (x.2.1, x.2.2)), ?_, by omega, by unfold W_Register; omega⟩
  · simp only [laws_markRegister.f]; exact Ev.bind a0 (Ev.ret)
noncomputable def WE_Event (x : Event) : Nat := 1 + 1 + 1
theorem WE_Event_le (x : Event) : WE_Event x ≤ 8 * cnt tEvent x + 8 := by
  show _ ≤ 8 * (cnt (.int .i64) x.1 + (cnt (.int .i64) x.2.1 + (cnt .str x.2.2.1 + cnt .unit x.2.2.2))) + 8

  unfold WE_Event; omega
noncomputable def em_Event (k : Nat) (x : Event) (n : Int) : Option (Int × Event) := (laws_markText.f k (wrap64 ((wrap64 (n + (1 : Int))) + (1 : Int)))).bind fun r1 => some ((wrap64 ((wrap64 ((wrap64 (n + (1 : Int))) + (1 : Int))) + (1 : Int))), (n, ((wrap64 (n + (1 : Int))), (r1, x.2.2.2))))
noncomputable def eh_Event (k : Nat) (x : Event) (n : Int) : Option (Option Int) := if x.1 = n then if x.2.1 = (wrap64 (n + (1 : Int))) then (laws_markText.f k (wrap64 ((wrap64 (n + (1 : Int))) + (1 : Int)))).bind fun r1 => if x.2.2.1 = r1 then some (some (wrap64 ((wrap64 ((wrap64 (n + (1 : Int))) + (1 : Int))) + (1 : Int)))) else some none else some none else some none
theorem ee_Event : MkE tEvent WE_Event em_Event eh_Event := by
  intro x n h1 h2
  unfold WE_Event at h2
  have w1 : wrap64 (n + (1 : Int)) = n + 1 := by rw [wrap64_id (by omega) (by omega)]
  have w2 : wrap64 ((n + 1) + (1 : Int)) = n + 2 := by rw [wrap64_id (by omega) (by omega)]; omega
  obtain ⟨t1, q1⟩ := text_ev (n + 2) (by omega) (by omega)
  have w3 : wrap64 ((n + 2) + (1 : Int)) = n + 3 := by rw [wrap64_id (by omega) (by omega)]; omega
  refine ⟨(n + 3), (n, ((n + 1), (t1, x.2.2.2))), ?_, by omega, by unfold WE_Event; omega, ?_⟩
  · simp only [em_Event, w1, w2, w3]
    refine Ev.bind q1 ?_
    try simp only [w1, w2, w3]
    exact Ev.ret
  · simp only [eh_Event, w1, w2, w3]
    try refine Ev.pos (by trivial) ?_
    try refine Ev.pos (by trivial) ?_
    refine Ev.bind q1 ?_
    try simp only [w1, w2, w3]
    try refine Ev.pos (by trivial) ?_
    exact Ev.ret
noncomputable def W_EventS (xs : List Event) : Nat := wsum WE_Event xs
theorem W_EventS_le (xs : List Event) : W_EventS xs ≤ 8 * cnt (.sl tEvent) xs := wsum_le (t := tEvent) WE_Event_le xs
theorem mk_EventS : MkOk (.sl tEvent) W_EventS laws_markEventS.f laws_heldEventS.f := by
  refine mk_row (t := tEvent) (W := WE_Event) (p := laws_markEventS.p5) (q := laws_heldEventS.p5) (e := em_Event) (g := eh_Event) (d := ((0 : Int), ((0 : Int), ((⟨#[]⟩ : ByteArray), ())))) ?_ ?_ ?_ ?_ (fun _ _ _ => rfl) (fun _ _ _ => rfl) ee_Event (fun _ => by unfold WE_Event; omega)
  · intro k xs n i hl hi
    have e : wrap64 ((i : Int) + 1) = ((i + 1 : Nat) : Int) := wrap64_id (by omega) (by omega)
    have c1 : (i : Int) < ((xs.length : Nat) : Int) := by omega
    have c2 : (0 : Int) ≤ (i : Int) := by omega
    simp only [laws_markEventS.p5, em_Event, eh_Event, Int.toNat_natCast, List.length_set, c1, c2, and_self, if_true, getD_set_self hi, List.set_set, e, Option.bind_assoc, Option.bind_some]
  · intro k xs n i hi
    have c1 : ¬ (i : Int) < ((xs.length : Nat) : Int) := by omega
    simp only [laws_markEventS.p5, c1, if_false]
  · intro k xs n i hl hi
    have e : wrap64 ((i : Int) + 1) = ((i + 1 : Nat) : Int) := wrap64_id (by omega) (by omega)
    have c1 : (i : Int) < ((xs.length : Nat) : Int) := by omega
    have c2 : (0 : Int) ≤ (i : Int) := by omega
    simp only [laws_heldEventS.p5, em_Event, eh_Event, Int.toNat_natCast, c1, c2, and_self, if_true, e, Option.bind_assoc, Option.bind_some, ite_bind, bind_match]
  · intro k xs n i hi
    have c1 : ¬ (i : Int) < ((xs.length : Nat) : Int) := by omega
    simp only [laws_heldEventS.p5, c1, if_false]
noncomputable def W_Reader (x : Reader) : Nat := W_EventS x.2.2.1
theorem W_Reader_le (x : Reader) : W_Reader x ≤ 8 * cnt tReader x := by
  show _ ≤ 8 * (cnt (.int .i64) x.1 + (cnt (.int .i64) x.2.1 + (cnt (.sl tEvent) x.2.2.1 + cnt .unit x.2.2.2)))
  have w0 := W_EventS_le x.2.2.1
  unfold W_Reader; omega
theorem mk_Reader : MkOk tReader W_Reader laws_markReader.f laws_heldReader.f := by
  intro x n h1 h2
  unfold W_Reader at h2
  obtain ⟨n0, x0, a0, b0, c0, d0⟩ := mk_EventS x.2.2.1 n (by omega) (by omega)
  refine ⟨n0, (x.1, (x.2.1, (x0, x.2.2.2))), ?_, by omega, by unfold W_Reader; omega, ?_⟩
  · simp only [laws_markReader.f]; exact Ev.bind a0 (Ev.ret)
  · simp only [laws_heldReader.f]; exact Ev.bind d0 (Ev.neg (by omega) (Ev.ret))
noncomputable def WE_Answer (x : Answer) : Nat := 1 + 1 + 1 + 1 + 1 + 1
theorem WE_Answer_le (x : Answer) : WE_Answer x ≤ 8 * cnt tAnswer x + 8 := by
  show _ ≤ 8 * (cnt (.int .i64) x.1 + (cnt .bool x.2.1 + (cnt tEntry x.2.2.1 + cnt .unit x.2.2.2))) + 8
  have o2 : cnt tEntry x.2.2.1 = (cnt (.int .i64) x.2.2.1.1 + (cnt (.int .i64) x.2.2.1.2.1 + (cnt .bool x.2.2.1.2.2.1 + (cnt .str x.2.2.1.2.2.2.1 + cnt .unit x.2.2.1.2.2.2.2)))) := rfl
  unfold WE_Answer; omega
noncomputable def em_Answer (k : Nat) (x : Answer) (n : Int) : Option (Int × Answer) := (laws_markText.f k (wrap64 ((wrap64 ((wrap64 ((wrap64 ((wrap64 (n + (1 : Int))) + (1 : Int))) + (1 : Int))) + (1 : Int))) + (1 : Int)))).bind fun r1 => some ((wrap64 ((wrap64 ((wrap64 ((wrap64 ((wrap64 ((wrap64 (n + (1 : Int))) + (1 : Int))) + (1 : Int))) + (1 : Int))) + (1 : Int))) + (1 : Int))), (n, ((decide ((Int.tmod (wrap64 (n + (1 : Int))) (3 : Int)) = (0 : Int))), (((wrap64 ((wrap64 (n + (1 : Int))) + (1 : Int))), ((wrap64 ((wrap64 ((wrap64 (n + (1 : Int))) + (1 : Int))) + (1 : Int))), ((decide ((Int.tmod (wrap64 ((wrap64 ((wrap64 ((wrap64 (n + (1 : Int))) + (1 : Int))) + (1 : Int))) + (1 : Int))) (3 : Int)) = (0 : Int))), (r1, x.2.2.1.2.2.2.2)))), x.2.2.2))))
theorem ee_Answer : Mk1 tAnswer WE_Answer em_Answer := by
  intro x n h1 h2
  unfold WE_Answer at h2
  have w1 : wrap64 (n + (1 : Int)) = n + 1 := by rw [wrap64_id (by omega) (by omega)]
  have w2 : wrap64 ((n + 1) + (1 : Int)) = n + 2 := by rw [wrap64_id (by omega) (by omega)]; omega
  have w3 : wrap64 ((n + 2) + (1 : Int)) = n + 3 := by rw [wrap64_id (by omega) (by omega)]; omega
  have w4 : wrap64 ((n + 3) + (1 : Int)) = n + 4 := by rw [wrap64_id (by omega) (by omega)]; omega
  have w5 : wrap64 ((n + 4) + (1 : Int)) = n + 5 := by rw [wrap64_id (by omega) (by omega)]; omega
  obtain ⟨t1, q1⟩ := text_ev (n + 5) (by omega) (by omega)
  have w6 : wrap64 ((n + 5) + (1 : Int)) = n + 6 := by rw [wrap64_id (by omega) (by omega)]; omega
  refine ⟨(n + 6), (n, ((decide ((Int.tmod (n + 1) (3 : Int)) = (0 : Int))), (((n + 2), ((n + 3), ((decide ((Int.tmod (n + 4) (3 : Int)) = (0 : Int))), (t1, x.2.2.1.2.2.2.2)))), x.2.2.2))), ?_, by omega, by unfold WE_Answer; omega⟩
  · simp only [em_Answer, w1, w2, w3, w4, w5, w6]
    refine Ev.bind q1 ?_
    try simp only [w1, w2, w3, w4, w5, w6]
    exact Ev.ret
noncomputable def W_AnswerS (xs : List Answer) : Nat := wsum WE_Answer xs
theorem W_AnswerS_le (xs : List Answer) : W_AnswerS xs ≤ 8 * cnt (.sl tAnswer) xs := wsum_le (t := tAnswer) WE_Answer_le xs
theorem mk_AnswerS : Mk1 (.sl tAnswer) W_AnswerS laws_markAnswerS.f := by
  refine mk1_row (t := tAnswer) (W := WE_Answer) (p := laws_markAnswerS.p5) (e := em_Answer) (d := ((0 : Int), (false, (((0 : Int), ((0 : Int), (false, ((⟨#[]⟩ : ByteArray), ())))), ())))) ?_ ?_ (fun _ _ _ => rfl) ee_Answer (fun _ => by unfold WE_Answer; omega)
  · intro k xs n i hl hi
    have e : wrap64 ((i : Int) + 1) = ((i + 1 : Nat) : Int) := wrap64_id (by omega) (by omega)
    have c1 : (i : Int) < ((xs.length : Nat) : Int) := by omega
    have c2 : (0 : Int) ≤ (i : Int) := by omega
    simp only [laws_markAnswerS.p5, em_Answer, Int.toNat_natCast, List.length_set, c1, c2, and_self, if_true, getD_set_self hi, List.set_set, e, Option.bind_assoc, Option.bind_some]
  · intro k xs n i hi
    have c1 : ¬ (i : Int) < ((xs.length : Nat) : Int) := by omega
    simp only [laws_markAnswerS.p5, c1, if_false]
end Go.Proofs.Ythgnikafeamidab.OmFnExactReaderNext
