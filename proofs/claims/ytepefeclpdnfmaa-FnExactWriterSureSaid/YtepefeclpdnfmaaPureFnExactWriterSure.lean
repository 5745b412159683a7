/- The program's WriterSure answers for each writer what the reference's answers, and leaves the writer as it was. No conditions. -/
import Derived.Test.YtepefeclpdnfmaaGFnExactWriterSure
namespace Go.Proofs.Ytepefeclpdnfmaa.Pure
open Go.RowKit Go.Proofs.Ytepefeclpdnfmaa.PFnExactWriterSure Go.Proofs.YtepefeclpdnfmaaW.PrintWords Go.Proofs.YtepefeclpdnfmaaW.PrintLast Go.Proofs.YtepefeclpdnfmaaW.Opn Go.Proofs.Ytepefeclpdnfmaa.GFnExactWriterSure
set_option linter.unusedVariables false
set_option linter.unusedSimpArgs false

theorem wrap_id {x : Int} (h0 : -9223372036854775808 ≤ x) (h1 : x ≤ 9223372036854775807) : wrap64 x = x := by
  unfold wrap64
  omega

theorem szIntS_ok (l : List Int) (hl : l.length ≤ 9223372036854775807) (n : Int) (h0 : 0 ≤ n) (hn : n ≤ 1048576) : ∃ r, laws_szIntS.f l n = some r ∧ r ≤ n ∧ (0 ≤ r → l.length ≤ 1048576) := by
  unfold laws_szIntS.f
  rw [wrap_id (by omega) (by omega)]
  split
  · exact ⟨-1, rfl, by omega, fun h => by omega⟩
  · exact ⟨n - l.length, rfl, by omega, fun _ => by omega⟩

theorem szWord_ok (a0 : ByteArray) (a1 : List Int) (a2 : Bool) (ha0 : a0.size ≤ 9223372036854775807) (ha1 : a1.length ≤ 9223372036854775807) (n : Int) (h0 : 0 ≤ n) (hn : n ≤ 1048576) : ∃ r, laws_szWord.f a0 a1 a2 n = some r ∧ r ≤ n ∧ (0 ≤ r → a0.size ≤ 1048576 ∧ a1.length ≤ 1048576) := by
  unfold laws_szWord.f
  rw [wrap_id (by omega) (by omega)]
  by_cases g0 : n - (a0.size : Int) < 0
  · rw [if_pos g0]
    exact ⟨-1, rfl, by omega, fun h => by omega⟩
  · rw [if_neg g0]
    obtain ⟨r1, e1, m1, z1⟩ := szIntS_ok a1 ha1 (n - (a0.size : Int)) (by omega) (by omega)
    rw [e1]
    simp only [Option.bind_some]
    by_cases g1 : r1 < 0
    · rw [if_pos g1]
      exact ⟨-1, rfl, by omega, fun h => by omega⟩
    · rw [if_neg g1]
      exact ⟨r1, rfl, by omega, fun _ => ⟨(by omega), (z1 (by omega))⟩⟩

theorem szWordS_l (l : List S129) (hl : (l.length ≤ 9223372036854775807 ∧ ∀ e0 ∈ l, (e0.f0.size ≤ 9223372036854775807 ∧ e0.f1.length ≤ 9223372036854775807))) (d : Nat) : ∀ (k : Nat) (n i : Int), 0 ≤ n → n ≤ 1048576 → 0 ≤ i → (l.length : Int) - i ≤ d → i ≤ l.length → d + 1048576 < k → (∀ j : Nat, (j : Int) < i → ∀ x, l[j]? = some x → (x.f0.size ≤ 1048576 ∧ x.f1.length ≤ 1048576)) →
    ∃ r, laws_szWordS.l0 k l n i = some r ∧ r ≤ n ∧ (0 ≤ r → ∀ x ∈ l, (x.f0.size ≤ 1048576 ∧ x.f1.length ≤ 1048576)) := by
  induction d with
  | zero =>
    intro k n i hn0 hn h0 h1 h2 hk hj
    obtain ⟨k, rfl⟩ : ∃ m, k = m + 1 := ⟨k - 1, by omega⟩
    refine ⟨n, by simp only [laws_szWordS.l0]; rw [if_neg (by omega)], by omega, fun _ x hx => ?_⟩
    obtain ⟨j, hjl, rfl⟩ := List.getElem_of_mem hx
    exact hj j (by omega) _ (List.getElem?_eq_getElem hjl)
  | succ d ih =>
    intro k n i hn0 hn h0 h1 h2 hk hj
    obtain ⟨k, rfl⟩ : ∃ m, k = m + 1 := ⟨k - 1, by omega⟩
    simp only [laws_szWordS.l0]
    by_cases h : i < (l.length : Int)
    · rw [if_pos h, if_pos h0]
      have hg : (rd_T129 l i) = l[i.toNat]'(by omega) := by simp [rd_T129, List.getD_eq_getElem?_getD, List.getElem?_eq_getElem (show i.toNat < l.length by omega)]
      have he := hl.2 (l[i.toNat]'(by omega)) (List.getElem_mem _)
      rw [← hg] at he
      obtain ⟨r, hr, hrn, hz⟩ := szWord_ok (rd_T129 l i).f0 (rd_T129 l i).f1 (rd_T129 l i).f2 he.1 he.2 n hn0 hn
      rw [hr]
      simp only [Option.bind_some]
      by_cases hneg : r < 0
      · rw [if_pos hneg]
        exact ⟨-1, rfl, by omega, fun h => by omega⟩
      · rw [if_neg hneg, wrap_id (by have := hl.1; omega) (by have := hl.1; omega)]
        obtain ⟨r', hr', hrn', hz'⟩ := ih k r (i + 1) (by omega) (by omega) (by omega) (by omega) (by omega) (by omega) (by
          intro j hji x hx
          by_cases e : (j : Int) < i
          · exact hj j e x hx
          · have ej : j = i.toNat := by omega
            subst ej
            rw [List.getElem?_eq_getElem (show i.toNat < l.length by omega)] at hx
            cases hx
            rw [← hg]
            exact hz (by omega))
        exact ⟨r', hr', by omega, hz'⟩
    · rw [if_neg h]
      refine ⟨n, rfl, by omega, fun _ x hx => ?_⟩
      obtain ⟨j, hjl, rfl⟩ := List.getElem_of_mem hx
      exact hj j (by omega) _ (List.getElem?_eq_getElem hjl)

theorem szWordS_ok (l : List S129) (hl : (l.length ≤ 9223372036854775807 ∧ ∀ e0 ∈ l, (e0.f0.size ≤ 9223372036854775807 ∧ e0.f1.length ≤ 9223372036854775807))) (n : Int) (h0 : 0 ≤ n) (hn : n ≤ 1048576) (k : Nat) (hk : 2097152 < k) : ∃ r, laws_szWordS.f k l n = some r ∧ r ≤ n ∧ (0 ≤ r → (l.length ≤ 1048576 ∧ ∀ e0 ∈ l, (e0.f0.size ≤ 1048576 ∧ e0.f1.length ≤ 1048576))) := by
  unfold laws_szWordS.f
  rw [wrap_id (by have := hl.1; omega) (by have := hl.1; omega)]
  by_cases h : n - (l.length : Int) < 0
  · rw [if_pos h]
    exact ⟨-1, rfl, by omega, fun h => by omega⟩
  · rw [if_neg h]
    obtain ⟨r, hr, hrn, hz⟩ := szWordS_l l hl l.length k (n - l.length) 0 (by omega) (by omega) (by omega) (by omega) (by omega) (by omega) (fun j hj => by omega)
    exact ⟨r, hr, by omega, fun h => ⟨by omega, hz h⟩⟩

theorem szWriter_ok (a0 : Int) (a1 : List S129) (ha1 : (a1.length ≤ 9223372036854775807 ∧ ∀ e0 ∈ a1, (e0.f0.size ≤ 9223372036854775807 ∧ e0.f1.length ≤ 9223372036854775807))) (n : Int) (h0 : 0 ≤ n) (hn : n ≤ 1048576) (k : Nat) (hk : 2097152 < k) : ∃ r, laws_szWriter.f k a0 a1 n = some r ∧ r ≤ n ∧ (0 ≤ r → (a1.length ≤ 1048576 ∧ ∀ e0 ∈ a1, (e0.f0.size ≤ 1048576 ∧ e0.f1.length ≤ 1048576))) := by
  unfold laws_szWriter.f
  obtain ⟨r0, e0, m0, z0⟩ := szWordS_ok a1 ha1 n (by omega) (by omega) k (by omega)
  rw [e0]
  simp only [Option.bind_some]
  by_cases g0 : r0 < 0
  · rw [if_pos g0]
    exact ⟨-1, rfl, by omega, fun h => by omega⟩
  · rw [if_neg g0]
    exact ⟨r0, rfl, by omega, fun _ => (z0 (by omega))⟩

/-- How many words from place i on are done, one behind the other. -/
def sureFrom (l : List S96) : Nat → Nat → Nat
  | 0, i => i
  | d + 1, i => if (rd_T96 l i).f2 = true then sureFrom l d (i + 1) else i

theorem spec_WriterSure_l (l : List S96) (e : Int) (hl : l.length ≤ 1048576) (d : Nat) : ∀ (k i : Nat), i + d = l.length → d < k → spec_WriterSure.l0 k (i : Int) e l = some (sureFrom l d i : Int) := by
  induction d with
  | zero =>
    intro k i h hk
    obtain ⟨k, rfl⟩ : ∃ m, k = m + 1 := ⟨k - 1, by omega⟩
    simp only [spec_WriterSure.l0]
    rw [if_neg (by omega)]
    rfl
  | succ d ih =>
    intro k i h hk
    obtain ⟨k, rfl⟩ : ∃ m, k = m + 1 := ⟨k - 1, by omega⟩
    simp only [spec_WriterSure.l0, sureFrom]
    rw [if_pos (by omega), if_pos (by omega)]
    split
    · rw [wrap_id (by omega) (by omega)]
      exact ih k (i + 1) (by omega) (by omega)
    · rfl

theorem spec_WriterSure_is (e : Int) (l : List S96) (hl : l.length ≤ 1048576) (k : Nat) (hk : 1048576 < k) : spec_WriterSure.f k e l = some (sureFrom l l.length 0 : Int) := by
  unfold spec_WriterSure.f
  exact spec_WriterSure_l l e hl l.length k 0 (by omega) (by omega)

theorem toIntS_l (l : List Int) (hz : l.length ≤ 1048576) (d : Nat) : ∀ (k : Nat) (ys : List Int) (i : Int), 0 ≤ i → (l.length : Int) - i ≤ d → i ≤ l.length → d + 0 < k → ys.length = l.length → (∀ j : Nat, (j : Int) < i → ys[j]? = (l)[j]?) →
    laws_toIntS.l0 k l ys i = some l := by
  have hlen : l.length ≤ 1048576 := hz
  induction d with
  | zero =>
    intro k ys i h0 h1 h2 hk hy hj
    obtain ⟨k, rfl⟩ : ∃ m, k = m + 1 := ⟨k - 1, by omega⟩
    simp only [laws_toIntS.l0]
    rw [if_neg (by omega)]
    congr 1
    apply List.ext_getElem?
    intro j
    by_cases h : j < l.length
    · exact hj j (by omega)
    · rw [List.getElem?_eq_none (by omega), List.getElem?_eq_none (by first | omega | (simp; omega))]
  | succ d ih =>
    intro k ys i h0 h1 h2 hk hy hj
    obtain ⟨k, rfl⟩ : ∃ m, k = m + 1 := ⟨k - 1, by omega⟩
    simp only [laws_toIntS.l0]
    by_cases h : i < (l.length : Int)
    · rw [if_pos h, if_pos h0, if_pos (by omega), wrap_id (by omega) (by omega)]
      refine ih k _ (i + 1) (by omega) (by omega) (by omega) (by omega) (by simp [hy]) ?_
      intro j hji
      rw [List.getElem?_set]
      by_cases e : i.toNat = j
      · subst e
        rw [if_pos rfl, if_pos (by omega)]
        simp [rd, List.getD_eq_getElem?_getD, List.getElem?_eq_getElem (show i.toNat < l.length by omega)]
      · rw [if_neg e]
        exact hj j (by omega)
    · rw [if_neg h]
      congr 1
      apply List.ext_getElem?
      intro j
      by_cases h : j < l.length
      · exact hj j (by omega)
      · rw [List.getElem?_eq_none (by omega), List.getElem?_eq_none (by first | omega | (simp; omega))]

theorem toIntS_is (l : List Int) (hz : l.length ≤ 1048576) (k : Nat) (hk : 1048576 < k) : laws_toIntS.f k l = some l := by
  have hlen : l.length ≤ 1048576 := hz
  unfold laws_toIntS.f
  rw [if_pos (by omega), if_pos (by omega), toIntS_l l hz l.length k _ 0 (by omega) (by omega) (by omega) (by omega) (by simp) (fun j h => by omega)]

def cWord (x : S129) : S96 := ⟨x.f0, x.f1, x.f2⟩

theorem toWord_is (a0 : ByteArray) (a1 : List Int) (a2 : Bool) (ha0 : a0.size ≤ 1048576) (ha1 : a1.length ≤ 1048576) (k : Nat) (hk : 1048576 < k) : laws_toWord.f k a0 a1 a2 = some (a0, a1, a2) := by
  unfold laws_toWord.f
  rw [toIntS_is a1 ha1 k (by omega)]
  simp only [Option.bind_some]

theorem toWordS_l (l : List S129) (hz : (l.length ≤ 1048576 ∧ ∀ e0 ∈ l, (e0.f0.size ≤ 1048576 ∧ e0.f1.length ≤ 1048576))) (d : Nat) : ∀ (k : Nat) (ys : List S96) (i : Int), 0 ≤ i → (l.length : Int) - i ≤ d → i ≤ l.length → d + 1048576 < k → ys.length = l.length → (∀ j : Nat, (j : Int) < i → ys[j]? = ((l.map cWord))[j]?) →
    laws_toWordS.l0 k l ys i = some (l.map cWord) := by
  have hlen : l.length ≤ 1048576 := hz.1
  induction d with
  | zero =>
    intro k ys i h0 h1 h2 hk hy hj
    obtain ⟨k, rfl⟩ : ∃ m, k = m + 1 := ⟨k - 1, by omega⟩
    simp only [laws_toWordS.l0]
    rw [if_neg (by omega)]
    congr 1
    apply List.ext_getElem?
    intro j
    by_cases h : j < l.length
    · exact hj j (by omega)
    · rw [List.getElem?_eq_none (by omega), List.getElem?_eq_none (by first | omega | (simp; omega))]
  | succ d ih =>
    intro k ys i h0 h1 h2 hk hy hj
    obtain ⟨k, rfl⟩ : ∃ m, k = m + 1 := ⟨k - 1, by omega⟩
    simp only [laws_toWordS.l0]
    by_cases h : i < (l.length : Int)
    · rw [if_pos h, if_pos h0]
      have hg0 : (rd_T129 l i) = l[i.toNat]'(by omega) := by simp [rd_T129, List.getD_eq_getElem?_getD, List.getElem?_eq_getElem (show i.toNat < l.length by omega)]
      have he := hz.2 (l[i.toNat]'(by omega)) (List.getElem_mem _)
      rw [← hg0] at he
      rw [toWord_is (rd_T129 l i).f0 (rd_T129 l i).f1 (rd_T129 l i).f2 he.1 he.2 k (by omega)]
      simp only [Option.bind_some]
      rw [if_pos (by omega), wrap_id (by omega) (by omega)]
      refine ih k _ (i + 1) (by omega) (by omega) (by omega) (by omega) (by simp [hy]) ?_
      intro j hji
      rw [List.getElem?_set]
      by_cases e : i.toNat = j
      · subst e
        rw [if_pos rfl, if_pos (by omega)]
        simp [rd_T129, cWord, List.getD_eq_getElem?_getD, List.getElem?_eq_getElem (show i.toNat < l.length by omega)]
      · rw [if_neg e]
        exact hj j (by omega)
    · rw [if_neg h]
      congr 1
      apply List.ext_getElem?
      intro j
      by_cases h : j < l.length
      · exact hj j (by omega)
      · rw [List.getElem?_eq_none (by omega), List.getElem?_eq_none (by first | omega | (simp; omega))]

theorem toWordS_is (l : List S129) (hz : (l.length ≤ 1048576 ∧ ∀ e0 ∈ l, (e0.f0.size ≤ 1048576 ∧ e0.f1.length ≤ 1048576))) (k : Nat) (hk : 2097152 < k) : laws_toWordS.f k l = some (l.map cWord) := by
  have hlen : l.length ≤ 1048576 := hz.1
  unfold laws_toWordS.f
  rw [if_pos (by omega), if_pos (by omega), toWordS_l l hz l.length k _ 0 (by omega) (by omega) (by omega) (by omega) (by simp) (fun j h => by omega)]

theorem toWriter_is (a0 : Int) (a1 : List S129) (ha1 : (a1.length ≤ 1048576 ∧ ∀ e0 ∈ a1, (e0.f0.size ≤ 1048576 ∧ e0.f1.length ≤ 1048576))) (k : Nat) (hk : 2097152 < k) : laws_toWriter.f k a0 a1 = some (a0, (a1.map cWord)) := by
  unfold laws_toWriter.f
  rw [toWordS_is a1 ha1 k (by omega)]
  simp only [Option.bind_some]

theorem impl_WriterSure_l (l : List S96) (e : Int) (hl : l.length ≤ 1048576) (d : Nat) : ∀ (k i : Nat), i + d = l.length → d < k → impl_WriterSure.l0 k l (l.length : Int) (i : Int) e l = some (sureFrom l d i : Int) := by
  induction d with
  | zero =>
    intro k i h hk
    obtain ⟨k, rfl⟩ : ∃ m, k = m + 1 := ⟨k - 1, by omega⟩
    simp only [impl_WriterSure.l0]
    rw [if_neg (by omega)]
    simp [sureFrom]
    omega
  | succ d ih =>
    intro k i h hk
    obtain ⟨k, rfl⟩ : ∃ m, k = m + 1 := ⟨k - 1, by omega⟩
    simp only [impl_WriterSure.l0, sureFrom]
    rw [if_pos (by omega), if_pos (by omega), if_pos (by omega)]
    split
    · rw [wrap_id (by omega) (by omega)]
      exact ih k (i + 1) (by omega) (by omega)
    · rfl

theorem impl_WriterSure_is (e : Int) (l : List S96) (hl : l.length ≤ 1048576) (k : Nat) (hk : 1048576 < k) : impl_WriterSure.f k e l = some (sureFrom l l.length 0 : Int) := by
  unfold impl_WriterSure.f
  exact impl_WriterSure_l l e hl l.length k 0 (by omega) (by omega)

theorem eqIntS_l (l : List Int) (hz : l.length ≤ 1048576) (d : Nat) : ∀ (k : Nat) (i : Int), 0 ≤ i → (l.length : Int) - i ≤ d → i ≤ l.length → d + 0 < k → laws_eqIntS.l0 k l l i = some true := by
  have hlen : l.length ≤ 1048576 := hz
  induction d with
  | zero =>
    intro k i h0 h1 h2 hk
    obtain ⟨k, rfl⟩ : ∃ m, k = m + 1 := ⟨k - 1, by omega⟩
    simp only [laws_eqIntS.l0]
    rw [if_neg (by omega)]
  | succ d ih =>
    intro k i h0 h1 h2 hk
    obtain ⟨k, rfl⟩ : ∃ m, k = m + 1 := ⟨k - 1, by omega⟩
    simp only [laws_eqIntS.l0]
    by_cases h : i < (l.length : Int)
    · rw [if_pos h, if_pos h0, if_pos h]
      (first | rw [if_pos rfl] | rw [if_pos trivial])
      rw [wrap_id (by omega) (by omega)]
      exact ih k (i + 1) (by omega) (by omega) (by omega) (by omega)
    · rw [if_neg h]

theorem eqIntS_self (l : List Int) (hz : l.length ≤ 1048576) (k : Nat) (hk : 1048576 < k) : laws_eqIntS.f k l l = some true := by
  have hlen : l.length ≤ 1048576 := hz
  unfold laws_eqIntS.f
  rw [if_pos rfl, eqIntS_l l hz l.length k 0 (by omega) (by omega) (by omega) (by omega)]

theorem eqWord_self (a0 : ByteArray) (a1 : List Int) (a2 : Bool) (ha0 : a0.size ≤ 1048576) (ha1 : a1.length ≤ 1048576) (k : Nat) (hk : 1048576 < k) : laws_eqWord.f k a0 a1 a2 a0 a1 a2 = some true := by
  unfold laws_eqWord.f
  simp [eqIntS_self a1 ha1 k (by omega)]

theorem eqWordS_l (l : List S96) (hz : (l.length ≤ 1048576 ∧ ∀ e0 ∈ l, (e0.f0.size ≤ 1048576 ∧ e0.f1.length ≤ 1048576))) (d : Nat) : ∀ (k : Nat) (i : Int), 0 ≤ i → (l.length : Int) - i ≤ d → i ≤ l.length → d + 1048576 < k → laws_eqWordS.l0 k l l i = some true := by
  have hlen : l.length ≤ 1048576 := hz.1
  induction d with
  | zero =>
    intro k i h0 h1 h2 hk
    obtain ⟨k, rfl⟩ : ∃ m, k = m + 1 := ⟨k - 1, by omega⟩
    simp only [laws_eqWordS.l0]
    rw [if_neg (by omega)]
  | succ d ih =>
    intro k i h0 h1 h2 hk
    obtain ⟨k, rfl⟩ : ∃ m, k = m + 1 := ⟨k - 1, by omega⟩
    simp only [laws_eqWordS.l0]
    by_cases h : i < (l.length : Int)
    · rw [if_pos h, if_pos h0, if_pos h]
      have hg0 : (rd_T96 l i) = l[i.toNat]'(by omega) := by simp [rd_T96, List.getD_eq_getElem?_getD, List.getElem?_eq_getElem (show i.toNat < l.length by omega)]
      have he := hz.2 (l[i.toNat]'(by omega)) (List.getElem_mem _)
      rw [← hg0] at he
      rw [eqWord_self (rd_T96 l i).f0 (rd_T96 l i).f1 (rd_T96 l i).f2 he.1 he.2 k (by omega)]
      simp only [Option.bind_some]
      (first | rw [if_pos rfl] | rw [if_pos trivial])
      rw [wrap_id (by omega) (by omega)]
      exact ih k (i + 1) (by omega) (by omega) (by omega) (by omega)
    · rw [if_neg h]

theorem eqWordS_self (l : List S96) (hz : (l.length ≤ 1048576 ∧ ∀ e0 ∈ l, (e0.f0.size ≤ 1048576 ∧ e0.f1.length ≤ 1048576))) (k : Nat) (hk : 2097152 < k) : laws_eqWordS.f k l l = some true := by
  have hlen : l.length ≤ 1048576 := hz.1
  unfold laws_eqWordS.f
  rw [if_pos rfl, eqWordS_l l hz l.length k 0 (by omega) (by omega) (by omega) (by omega)]

theorem eqWriter_self (a0 : Int) (a1 : List S96) (ha1 : (a1.length ≤ 1048576 ∧ ∀ e0 ∈ a1, (e0.f0.size ≤ 1048576 ∧ e0.f1.length ≤ 1048576))) (k : Nat) (hk : 2097152 < k) : laws_eqWriter.f k a0 a1 a0 a1 = some true := by
  unfold laws_eqWriter.f
  simp [eqWordS_self a1 ha1 k (by omega)]

theorem FnExactWriterSure : Goal := by
  intro a l _ hl
  refine ⟨9000000, ?_⟩
  unfold laws_FnExactWriterSure.f
  have hL : l.length ≤ 9223372036854775807 ∧ ∀ e ∈ l, e.f0.size ≤ 9223372036854775807 ∧ e.f1.length ≤ 9223372036854775807 := ⟨hl.1, fun e he => ⟨(hl.2 e he).1, (hl.2 e he).2.1.1⟩⟩
  obtain ⟨r, hr, _, hz⟩ := szWriter_ok a l hL 1048576 (by omega) (by omega) 9000000 (by omega)
  rw [hr]
  simp only [Option.bind_some]
  by_cases hneg : r < 0
  · rw [if_pos hneg]
  · have z := hz (by omega)
    rw [if_neg hneg, toWriter_is a l z _ (by omega)]
    simp only [Option.bind_some]
    have hlen : (l.map cWord).length ≤ 1048576 := by simpa using z.1
    rw [spec_WriterSure_is a _ hlen _ (by omega), impl_WriterSure_is a _ hlen _ (by omega)]
    simp only [Option.bind_some]
    rw [if_pos trivial, eqWriter_self a _ ⟨hlen, fun e he => by obtain ⟨x, hx, rfl⟩ := List.mem_map.1 he; exact z.2 x hx⟩ _ (by omega)]
    rfl

end Go.Proofs.Ytepefeclpdnfmaa.Pure
