import Derived.Test.YthgnikafeamidaaFFnExactFill
set_option linter.unusedVariables false
set_option linter.unusedSimpArgs false
namespace Go.Proofs.Ythgnikafeamidaa.OmFnExactFill
open Go Go.OM
theorem sz_IntS : SzOk (.sl (.int .i64)) (fun _ => laws_szIntS.f) := sz_flat (fun _ => rfl) (fun _ _ _ => rfl)
theorem sz_Config : SzOk tConfig (fun _ => laws_szConfig.f) := by
  intro x n hg h0 hn
  obtain ⟨v0, a0, b0, c0⟩ := sz_IntS x.1 n hg.1 (by omega) (by omega)
  by_cases h0 : v0 < 0
  · refine ⟨-1, ?_, by omega, fun h => by omega⟩; simp only [laws_szConfig.f]; exact Ev.bind a0 (Ev.pos h0 Ev.ret)
  refine ⟨v0, ?_, by omega, fun h => ?_⟩
  · simp only [laws_szConfig.f]; exact Ev.bind a0 (Ev.neg h0 (Ev.ret))
  · have q0 := c0 (by omega)
    show _ + (((cnt (.sl (.int .i64)) x.1 + (cnt (.int .i64) x.2.1 + cnt .unit x.2.2)) : Nat) : Int) ≤ n
    have z1 : cnt (.int .i64) x.2.1 = 0 := rfl
    have zu : cnt .unit x.2.2 = 0 := rfl
    omega
theorem sz_Entry : SzOk tEntry (fun _ => laws_szEntry.f) := by
  intro x n hg h0 hn
  have g0 : x.2.2.2.1.size ≤ 9223372036854775807 := hg.2.2.2.1
  have e0 : (wrap64 (n - ((x.2.2.2.1.size : Nat) : Int))) = n - ((x.2.2.2.1.size : Nat) : Int) := wrap64_id (by omega) (by omega)
  by_cases h0 : (wrap64 (n - ((x.2.2.2.1.size : Nat) : Int))) < 0
  · refine ⟨-1, ?_, by omega, fun h => by omega⟩; simp only [laws_szEntry.f]; exact Ev.pos h0 Ev.ret
  refine ⟨(wrap64 (n - ((x.2.2.2.1.size : Nat) : Int))), ?_, by omega, fun h => ?_⟩
  · simp only [laws_szEntry.f]; exact Ev.neg h0 (Ev.ret)
  · show _ + (((cnt (.int .i64) x.1 + (cnt (.int .i64) x.2.1 + (cnt .bool x.2.2.1 + (cnt .str x.2.2.2.1 + cnt .unit x.2.2.2.2)))) : Nat) : Int) ≤ n
    have z0 : cnt (.int .i64) x.1 = 0 := rfl
    have z1 : cnt (.int .i64) x.2.1 = 0 := rfl
    have z2 : cnt .bool x.2.2.1 = 0 := rfl
    have z3 : cnt .str x.2.2.2.1 = x.2.2.2.1.size := rfl
    have zu : cnt .unit x.2.2.2.2 = 0 := rfl
    omega
theorem sz_EntryS : SzOk (.sl tEntry) laws_szEntryS.f := sz_row (t := tEntry) (p := laws_szEntryS.p11) (d := ((0 : Int), ((0 : Int), (false, ((⟨#[]⟩ : ByteArray), ()))))) (fun _ _ _ _ => rfl) (fun _ _ _ => rfl) sz_Entry
theorem sz_Store : SzOk tStore laws_szStore.f := by
  intro x n hg h0 hn
  obtain ⟨v0, a0, b0, c0⟩ := sz_EntryS x.1 n hg.1 (by omega) (by omega)
  by_cases h0 : v0 < 0
  · refine ⟨-1, ?_, by omega, fun h => by omega⟩; simp only [laws_szStore.f]; exact Ev.bind a0 (Ev.pos h0 Ev.ret)
  obtain ⟨v1, a1, b1, c1⟩ := sz_EntryS x.2.1 v0 hg.2.1 (by omega) (by omega)
  by_cases h1 : v1 < 0
  · refine ⟨-1, ?_, by omega, fun h => by omega⟩; simp only [laws_szStore.f]; exact Ev.bind a0 (Ev.neg h0 (Ev.bind a1 (Ev.pos h1 Ev.ret)))
  refine ⟨v1, ?_, by omega, fun h => ?_⟩
  · simp only [laws_szStore.f]; exact Ev.bind a0 (Ev.neg h0 (Ev.bind a1 (Ev.neg h1 (Ev.ret))))
  · have q0 := c0 (by omega)
    have q1 := c1 (by omega)
    show _ + (((cnt (.sl tEntry) x.1 + (cnt (.sl tEntry) x.2.1 + (cnt (.int .i64) x.2.2.1 + cnt .unit x.2.2.2))) : Nat) : Int) ≤ n
    have z2 : cnt (.int .i64) x.2.2.1 = 0 := rfl
    have zu : cnt .unit x.2.2.2 = 0 := rfl
    omega
theorem sz_StoreS : SzOk (.sl tStore) laws_szStoreS.f := sz_row (t := tStore) (p := laws_szStoreS.p11) (d := (([] : List Entry), (([] : List Entry), ((0 : Int), ())))) (fun _ _ _ _ => rfl) (fun _ _ _ => rfl) sz_Store
theorem to_IntS : ToOk (.sl (.int .i64)) laws_toIntS.f := to_row (t := (.int .i64)) (p := laws_toIntS.p7) (d := (0 : Int)) (z := (0 : Int)) (to_loopF (fun _ _ _ _ => rfl)) (fun _ _ => rfl) to_id
theorem to_Config : ToOk tConfig laws_toConfig.f := by
  intro x hc
  have hc : (cnt (.sl (.int .i64)) x.1 + (cnt (.int .i64) x.2.1 + cnt .unit x.2.2)) ≤ 1048576 := hc
  have a0 := to_IntS x.1 (by show cnt (.sl (.int .i64)) x.1 ≤ 1048576; omega)
  simp only [laws_toConfig.f]; exact Ev.bind a0 (Ev.ret)
theorem to_Entry : ToOk tEntry (fun _ => laws_toEntry.f) := by
  intro x hc
  have hc : (cnt (.int .i64) x.1 + (cnt (.int .i64) x.2.1 + (cnt .bool x.2.2.1 + (cnt .str x.2.2.2.1 + cnt .unit x.2.2.2.2)))) ≤ 1048576 := hc
  simp only [laws_toEntry.f]; exact Ev.ret
theorem to_EntryS : ToOk (.sl tEntry) laws_toEntryS.f := to_row (t := tEntry) (p := laws_toEntryS.p7) (e := (fun _ => laws_toEntry.f)) (d := ((0 : Int), ((0 : Int), (false, ((⟨#[]⟩ : ByteArray), ()))))) (z := ((0 : Int), ((0 : Int), (false, ((⟨#[]⟩ : ByteArray), ()))))) (fun _ _ _ _ => rfl) (fun _ _ => rfl) to_Entry
theorem to_Store : ToOk tStore laws_toStore.f := by
  intro x hc
  have hc : (cnt (.sl tEntry) x.1 + (cnt (.sl tEntry) x.2.1 + (cnt (.int .i64) x.2.2.1 + cnt .unit x.2.2.2))) ≤ 1048576 := hc
  have a0 := to_EntryS x.1 (by show cnt (.sl tEntry) x.1 ≤ 1048576; omega)
  have a1 := to_EntryS x.2.1 (by show cnt (.sl tEntry) x.2.1 ≤ 1048576; omega)
  simp only [laws_toStore.f]; exact Ev.bind a0 (Ev.bind a1 (Ev.ret))
theorem to_StoreS : ToOk (.sl tStore) laws_toStoreS.f := to_row (t := tStore) (p := laws_toStoreS.p7) (e := laws_toStore.f) (d := (([] : List Entry), (([] : List Entry), ((0 : Int), ())))) (z := (([] : List Entry), (([] : List Entry), ((0 : Int), ())))) (fun _ _ _ _ => rfl) (fun _ _ => rfl) to_Store
theorem eq_Entry : EqOk tEntry (fun _ => laws_eqEntry.f) := by
  intro x hc
  have hc : (cnt (.int .i64) x.1 + (cnt (.int .i64) x.2.1 + (cnt .bool x.2.2.1 + (cnt .str x.2.2.2.1 + cnt .unit x.2.2.2.2)))) ≤ 1099511627776 := hc
  simp only [laws_eqEntry.f]; exact Ev.pos (by trivial) (Ev.pos (by trivial) (Ev.pos (by trivial) (Ev.pos (by trivial) (Ev.ret))))
theorem eq_EntryS : EqOk (.sl tEntry) laws_eqEntryS.f := eq_row (t := tEntry) (p := laws_eqEntryS.p9) (e := (fun _ => laws_eqEntry.f)) (d := ((0 : Int), ((0 : Int), (false, ((⟨#[]⟩ : ByteArray), ()))))) (fun _ _ _ _ => rfl) (fun _ _ _ => rfl) eq_Entry
theorem eq_Store : EqOk tStore laws_eqStore.f := by
  intro x hc
  have hc : (cnt (.sl tEntry) x.1 + (cnt (.sl tEntry) x.2.1 + (cnt (.int .i64) x.2.2.1 + cnt .unit x.2.2.2))) ≤ 1099511627776 := hc
  have a0 := eq_EntryS x.1 (by show cnt (.sl tEntry) x.1 ≤ 1099511627776; omega)
  have a1 := eq_EntryS x.2.1 (by show cnt (.sl tEntry) x.2.1 ≤ 1099511627776; omega)
  simp only [laws_eqStore.f]; exact Ev.bind a0 (Ev.pos (by trivial) (Ev.bind a1 (Ev.pos (by trivial) (Ev.pos (by trivial) (Ev.ret)))))
theorem eq_IntS : EqOk (.sl (.int .i64)) laws_eqIntS.f := eq_leaf (t := (.int .i64)) (p := laws_eqIntS.p9) (d := (0 : Int)) (q := fun x y => decide (x = y)) (fun k xs ys i => by simp only [laws_eqIntS.p9, decide_eq_true_eq]) (fun _ => decide_eq_true rfl) (fun _ _ _ => rfl)
theorem eq_Config : EqOk tConfig laws_eqConfig.f := by
  intro x hc
  have hc : (cnt (.sl (.int .i64)) x.1 + (cnt (.int .i64) x.2.1 + cnt .unit x.2.2)) ≤ 1099511627776 := hc
  have a0 := eq_IntS x.1 (by show cnt (.sl (.int .i64)) x.1 ≤ 1099511627776; omega)
  simp only [laws_eqConfig.f]; exact Ev.bind a0 (Ev.pos (by trivial) (Ev.pos (by trivial) (Ev.ret)))
theorem eq_StoreS : EqOk (.sl tStore) laws_eqStoreS.f := eq_row (t := tStore) (p := laws_eqStoreS.p9) (e := laws_eqStore.f) (d := (([] : List Entry), (([] : List Entry), ((0 : Int), ())))) (fun _ _ _ _ => rfl) (fun _ _ _ => rfl) eq_Store
theorem text_loop : ∀ (m : Nat) (x : Int) (s : ByteArray), 0 ≤ x → x ≤ 9223372036854775807 → x < 10 ^ m → s.size + m ≤ 1000 → ∃ t, Ev (fun k => laws_markText.p9 k x s) t := by
  intro m
  induction m with
  | zero =>
    intro x s h0 hb h1 hs
    have hx : x = 0 := by simp at h1; omega
    have hsz : (((⟨#[109]⟩ : ByteArray).size : Nat) : Int) + ((s.size : Nat) : Int) ≤ (9223372036854775807 : Int) := by
      have : (⟨#[109]⟩ : ByteArray).size = 1 := rfl
      omega
    refine ⟨(⟨#[109]⟩ : ByteArray) ++ s, Ev.succ ?_⟩
    simp only [laws_markText.p9]
    exact Ev.neg (by omega) (Ev.pos hsz Ev.ret)
  | succ m ih =>
    intro x s h0 hb h1 hs
    have hsz : ∀ y : Int, (bytesOf ([y] : List Int)).size = 1 := fun y => rfl
    by_cases hx : (0 : Int) < x
    · have hd : Int.tdiv x 10 = x / 10 := Int.tdiv_eq_ediv_of_nonneg h0
      have hlt : x / 10 < 10 ^ m := by
        rw [Int.pow_succ] at h1
        exact Int.ediv_lt_of_lt_mul (by omega) h1
      have hw : wrap64 (Int.tdiv x 10) = x / 10 := by
        rw [hd]
        exact wrap64_id (by omega) (by omega)
      obtain ⟨t, ht⟩ := ih (x / 10) (bytesOf ([(IntKind.wrap .u8 (wrap64 ((48 : Int) + (Int.tmod x (10 : Int)))))] : List Int) ++ s) (by omega) (by omega) hlt (by rw [ByteArray.size_append, hsz]; omega)
      refine ⟨t, Ev.succ ?_⟩
      simp only [laws_markText.p9, hw]
      exact Ev.pos hx (Ev.pos (by rw [hsz]; omega) ht)
    · have hsz2 : (((⟨#[109]⟩ : ByteArray).size : Nat) : Int) + ((s.size : Nat) : Int) ≤ (9223372036854775807 : Int) := by
        have : (⟨#[109]⟩ : ByteArray).size = 1 := rfl
        omega
      refine ⟨(⟨#[109]⟩ : ByteArray) ++ s, Ev.succ ?_⟩
      simp only [laws_markText.p9]
      exact Ev.neg hx (Ev.pos hsz2 Ev.ret)
theorem text_ev (x : Int) (h0 : 0 ≤ x) (h1 : x ≤ 9223372036854775807) : ∃ t, Ev (fun k => laws_markText.f k x) t := by
  by_cases hx : x ≤ 0
  · exact ⟨_, by simp only [laws_markText.f]; exact Ev.pos hx Ev.ret⟩
  · obtain ⟨t, ht⟩ := text_loop 20 x ⟨#[]⟩ h0 h1 (by omega) (by show (0 : Nat) + 20 ≤ 1000; omega)
    exact ⟨t, by simp only [laws_markText.f]; exact Ev.neg hx ht⟩
noncomputable def W_IntS (xs : List Int) : Nat := wsum (fun _ => 1) xs
theorem W_IntS_le (xs : List Int) : W_IntS xs ≤ 8 * cnt (.sl (.int .i64)) xs := wsum_le (t := .int .i64) (W := fun _ => 1) (fun x => by omega) xs
theorem mk_IntS : Mk1 (.sl (.int .i64)) W_IntS laws_markIntS.f := by
  refine mk1_row (t := (.int .i64)) (W := (fun _ => 1)) (p := laws_markIntS.p5) (e := (fun _ x n => some (wrap64 (n + (1 : Int)), n))) (d := (0 : Int)) ?_ ?_ (fun _ _ _ => rfl) markInt_ok.one (fun _ => Nat.le_refl 1)
  · intro k xs n i hl hi
    have e : wrap64 ((i : Int) + 1) = ((i + 1 : Nat) : Int) := wrap64_id (by omega) (by omega)
    have c1 : (i : Int) < ((xs.length : Nat) : Int) := by omega
    have c2 : (0 : Int) ≤ (i : Int) := by omega
    simp only [laws_markIntS.p5, Int.toNat_natCast, List.length_set, c1, c2, and_self, if_true, getD_set_self hi, List.set_set, e, Option.bind_assoc, Option.bind_some]
  · intro k xs n i hi
    have c1 : ¬ (i : Int) < ((xs.length : Nat) : Int) := by omega
    simp only [laws_markIntS.p5, c1, if_false]
noncomputable def W_Config (x : Config) : Nat := W_IntS x.1
theorem W_Config_le (x : Config) : W_Config x ≤ 8 * cnt tConfig x := by
  show _ ≤ 8 * (cnt (.sl (.int .i64)) x.1 + (cnt (.int .i64) x.2.1 + cnt .unit x.2.2))
  have w0 := W_IntS_le x.1
  unfold W_Config; omega
theorem mk_Config : Mk1 tConfig W_Config laws_markConfig.f := by
  intro x n h1 h2
  unfold W_Config at h2
  obtain ⟨n0, x0, a0, b0, c0⟩ := mk_IntS x.1 n (by omega) (by omega)
  refine ⟨n0, (x0, (x.2.1, x.2.2)), ?_, by omega, by unfold W_Config; omega⟩
  · simp only [laws_markConfig.f]; exact Ev.bind a0 (Ev.ret)
noncomputable def WE_Entry (x : Entry) : Nat := 1 + 1 + 1 + 1
theorem WE_Entry_le (x : Entry) : WE_Entry x ≤ 8 * cnt tEntry x + 8 := by
  show _ ≤ 8 * (cnt (.int .i64) x.1 + (cnt (.int .i64) x.2.1 + (cnt .bool x.2.2.1 + (cnt .str x.2.2.2.1 + cnt .unit x.2.2.2.2)))) + 8

  unfold WE_Entry; omega
noncomputable def em_Entry (k : Nat) (x : Entry) (n : Int) : Option (Int × Entry) := (laws_markText.f k (wrap64 ((wrap64 ((wrap64 (n + (1 : Int))) + (1 : Int))) + (1 : Int)))).bind fun r1 => some ((wrap64 ((wrap64 ((wrap64 ((wrap64 (n + (1 : Int))) + (1 : Int))) + (1 : Int))) + (1 : Int))), (n, ((wrap64 (n + (1 : Int))), ((decide ((Int.tmod (wrap64 ((wrap64 (n + (1 : Int))) + (1 : Int))) (3 : Int)) = (0 : Int))), (r1, x.2.2.2.2)))))
noncomputable def eh_Entry (k : Nat) (x : Entry) (n : Int) : Option (Option Int) := if x.1 = n then if x.2.1 = (wrap64 (n + (1 : Int))) then if x.2.2.1 = (decide ((Int.tmod (wrap64 ((wrap64 (n + (1 : Int))) + (1 : Int))) (3 : Int)) = (0 : Int))) then (laws_markText.f k (wrap64 ((wrap64 ((wrap64 (n + (1 : Int))) + (1 : Int))) + (1 : Int)))).bind fun r1 => if x.2.2.2.1 = r1 then some (some (wrap64 ((wrap64 ((wrap64 ((wrap64 (n + (1 : Int))) + (1 : Int))) + (1 : Int))) + (1 : Int)))) else some none else some none else some none else some none
theorem ee_Entry : MkE tEntry WE_Entry em_Entry eh_Entry := by
  intro x n h1 h2
  unfold WE_Entry at h2
  have w1 : wrap64 (n + (1 : Int)) = n + 1 := by rw [wrap64_id (by omega) (by omega)]
  have w2 : wrap64 ((n + 1) + (1 : Int)) = n + 2 := by rw [wrap64_id (by omega) (by omega)]; omega
  have w3 : wrap64 ((n + 2) + (1 : Int)) = n + 3 := by rw [wrap64_id (by omega) (by omega)]; omega
  obtain ⟨t1, q1⟩ := text_ev (n + 3) (by omega) (by omega)
  have w4 : wrap64 ((n + 3) + (1 : Int)) = n + 4 := by rw [wrap64_id (by omega) (by omega)]; omega
  refine ⟨(n + 4), (n, ((n + 1), ((decide ((Int.tmod (n + 2) (3 : Int)) = (0 : Int))), (t1, x.2.2.2.2)))), ?_, by omega, by unfold WE_Entry; omega, ?_⟩
  · simp only [em_Entry, w1, w2, w3, w4]
    refine Ev.bind q1 ?_
    try simp only [w1, w2, w3, w4]
    exact Ev.ret
  · simp only [eh_Entry, w1, w2, w3, w4]
    try refine Ev.pos (by trivial) ?_
    try refine Ev.pos (by trivial) ?_
    try refine Ev.pos (by trivial) ?_
    refine Ev.bind q1 ?_
    try simp only [w1, w2, w3, w4]
    try refine Ev.pos (by trivial) ?_
    exact Ev.ret
noncomputable def W_EntryS (xs : List Entry) : Nat := wsum WE_Entry xs
theorem W_EntryS_le (xs : List Entry) : W_EntryS xs ≤ 8 * cnt (.sl tEntry) xs := wsum_le (t := tEntry) WE_Entry_le xs
theorem mk_EntryS : MkOk (.sl tEntry) W_EntryS laws_markEntryS.f laws_heldEntryS.f := by
  refine mk_row (t := tEntry) (W := WE_Entry) (p := laws_markEntryS.p5) (q := laws_heldEntryS.p5) (e := em_Entry) (g := eh_Entry) (d := ((0 : Int), ((0 : Int), (false, ((⟨#[]⟩ : ByteArray), ()))))) ?_ ?_ ?_ ?_ (fun _ _ _ => rfl) (fun _ _ _ => rfl) ee_Entry (fun _ => by unfold WE_Entry; omega)
  · intro k xs n i hl hi
    have e : wrap64 ((i : Int) + 1) = ((i + 1 : Nat) : Int) := wrap64_id (by omega) (by omega)
    have c1 : (i : Int) < ((xs.length : Nat) : Int) := by omega
    have c2 : (0 : Int) ≤ (i : Int) := by omega
    simp only [laws_markEntryS.p5, em_Entry, eh_Entry, Int.toNat_natCast, List.length_set, c1, c2, and_self, if_true, getD_set_self hi, List.set_set, e, Option.bind_assoc, Option.bind_some]
  · intro k xs n i hi
    have c1 : ¬ (i : Int) < ((xs.length : Nat) : Int) := by omega
    simp only [laws_markEntryS.p5, c1, if_false]
  · intro k xs n i hl hi
    have e : wrap64 ((i : Int) + 1) = ((i + 1 : Nat) : Int) := wrap64_id (by omega) (by omega)
    have c1 : (i : Int) < ((xs.length : Nat) : Int) := by omega
    have c2 : (0 : Int) ≤ (i : Int) := by omega
    simp only [laws_heldEntryS.p5, em_Entry, eh_Entry, Int.toNat_natCast, c1, c2, and_self, if_true, e, Option.bind_assoc, Option.bind_some, ite_bind, bind_match]
  · intro k xs n i hi
    have c1 : ¬ (i : Int) < ((xs.length : Nat) : Int) := by omega
    simp only [laws_heldEntryS.p5, c1, if_false]
noncomputable def WE_Store (x : Store) : Nat := W_EntryS x.1 + W_EntryS x.2.1 + 1
theorem WE_Store_le (x : Store) : WE_Store x ≤ 8 * cnt tStore x + 8 := by
  show _ ≤ 8 * (cnt (.sl tEntry) x.1 + (cnt (.sl tEntry) x.2.1 + (cnt (.int .i64) x.2.2.1 + cnt .unit x.2.2.2))) + 8
  have w0 := W_EntryS_le x.1
  have w1 := W_EntryS_le x.2.1
  unfold WE_Store; omega
noncomputable def em_Store (k : Nat) (x : Store) (n : Int) : Option (Int × Store) := (laws_markEntryS.f k x.1 n).bind fun r1 => (laws_markEntryS.f k x.2.1 r1.1).bind fun r2 => some ((wrap64 (r2.1 + (1 : Int))), (r1.2, (r2.2, (r2.1, x.2.2.2))))
theorem ee_Store : Mk1 tStore WE_Store em_Store := by
  intro x n h1 h2
  unfold WE_Store at h2
  obtain ⟨n1, x1, a1, b1, c1⟩ := mk_EntryS.one x.1 n (by omega) (by omega)
  obtain ⟨n2, x2, a2, b2, c2⟩ := mk_EntryS.one x.2.1 n1 (by omega) (by omega)
  have w1 : wrap64 (n2 + (1 : Int)) = n2 + 1 := by rw [wrap64_id (by omega) (by omega)]
  refine ⟨(n2 + 1), (x1, (x2, (n2, x.2.2.2))), ?_, by omega, by unfold WE_Store; omega⟩
  · simp only [em_Store, w1]
    refine Ev.bind a1 ?_
    try simp only [w1]
    refine Ev.bind a2 ?_
    try simp only [w1]
    exact Ev.ret
noncomputable def W_StoreS (xs : List Store) : Nat := wsum WE_Store xs
theorem W_StoreS_le (xs : List Store) : W_StoreS xs ≤ 8 * cnt (.sl tStore) xs := wsum_le (t := tStore) WE_Store_le xs
theorem mk_StoreS : Mk1 (.sl tStore) W_StoreS laws_markStoreS.f := by
  refine mk1_row (t := tStore) (W := WE_Store) (p := laws_markStoreS.p5) (e := em_Store) (d := (([] : List Entry), (([] : List Entry), ((0 : Int), ())))) ?_ ?_ (fun _ _ _ => rfl) ee_Store (fun _ => by unfold WE_Store; omega)
  · intro k xs n i hl hi
    have e : wrap64 ((i : Int) + 1) = ((i + 1 : Nat) : Int) := wrap64_id (by omega) (by omega)
    have c1 : (i : Int) < ((xs.length : Nat) : Int) := by omega
    have c2 : (0 : Int) ≤ (i : Int) := by omega
    simp only [laws_markStoreS.p5, em_Store, Int.toNat_natCast, List.length_set, c1, c2, and_self, if_true, getD_set_self hi, List.set_set, e, Option.bind_assoc, Option.bind_some]
  · intro k xs n i hi
    have c1 : ¬ (i : Int) < ((xs.length : Nat) : Int) := by omega
    simp only [laws_markStoreS.p5, c1, if_false]
noncomputable def W_Store (x : Store) : Nat := W_EntryS x.1 + W_EntryS x.2.1
theorem W_Store_le (x : Store) : W_Store x ≤ 8 * cnt tStore x := by
  show _ ≤ 8 * (cnt (.sl tEntry) x.1 + (cnt (.sl tEntry) x.2.1 + (cnt (.int .i64) x.2.2.1 + cnt .unit x.2.2.2)))
  have w0 := W_EntryS_le x.1
  have w1 := W_EntryS_le x.2.1
  unfold W_Store; omega
theorem mk_Store : MkOk tStore W_Store laws_markStore.f laws_heldStore.f := by
  intro x n h1 h2
  unfold W_Store at h2
  obtain ⟨n0, x0, a0, b0, c0, d0⟩ := mk_EntryS x.1 n (by omega) (by omega)
  obtain ⟨n1, x1, a1, b1, c1, d1⟩ := mk_EntryS x.2.1 n0 (by omega) (by omega)
  refine ⟨n1, (x0, (x1, (x.2.2.1, x.2.2.2))), ?_, by omega, by unfold W_Store; omega, ?_⟩
  · simp only [laws_markStore.f]; exact Ev.bind a0 (Ev.bind a1 (Ev.ret))
  · simp only [laws_heldStore.f]; exact Ev.bind d0 (Ev.neg (by omega) (Ev.bind d1 (Ev.neg (by omega) (Ev.ret))))
end Go.Proofs.Ythgnikafeamidaa.OmFnExactFill
