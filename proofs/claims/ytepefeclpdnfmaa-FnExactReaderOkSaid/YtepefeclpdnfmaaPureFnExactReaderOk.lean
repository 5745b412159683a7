/- The program's ReaderOk answers for each reader what the reference's answers, and leaves the reader as it was. No conditions. -/
import Derived.Test.YtepefeclpdnfmaaGFnExactReaderOk
namespace Go.Proofs.Ytepefeclpdnfmaa.Pure
open Go.RowKit Go.Proofs.Ytepefeclpdnfmaa.PFnExactReaderOk Go.Proofs.YtepefeclpdnfmaaW.PrintWords Go.Proofs.YtepefeclpdnfmaaW.PrintLast Go.Proofs.YtepefeclpdnfmaaW.Opn Go.Proofs.Ytepefeclpdnfmaa.GFnExactReaderOk

theorem wrap_id {x : Int} (h0 : -9223372036854775808 ≤ x) (h1 : x ≤ 9223372036854775807) : wrap64 x = x := by
  unfold wrap64
  omega

theorem szEvent_some (a b : Int) (s : ByteArray) (n : Int) : ∃ r, laws_szEvent.f a b s n = some r := by
  unfold laws_szEvent.f
  split <;> exact ⟨_, rfl⟩

theorem szEventS_some (xs : List S126) (hl : xs.length ≤ 9223372036854775807) (d : Nat) : ∀ (k : Nat) (n i : Int), 0 ≤ i → (xs.length : Int) - i ≤ d → i ≤ xs.length → d < k → ∃ r, laws_szEventS.l0 k xs n i = some r := by
  induction d with
  | zero =>
    intro k n i h0 h1 h2 hk
    obtain ⟨k, rfl⟩ : ∃ m, k = m + 1 := ⟨k - 1, by omega⟩
    exact ⟨n, by simp only [laws_szEventS.l0]; rw [if_neg (by omega)]⟩
  | succ d ih =>
    intro k n i h0 h1 h2 hk
    obtain ⟨k, rfl⟩ : ∃ m, k = m + 1 := ⟨k - 1, by omega⟩
    simp only [laws_szEventS.l0]
    by_cases h : i < (xs.length : Int)
    · rw [if_pos h, if_pos h0]
      obtain ⟨r, hr⟩ := szEvent_some (rd_T126 xs i).f0 (rd_T126 xs i).f1 (rd_T126 xs i).f2 n
      rw [hr]
      simp only [Option.bind_some]
      split
      · exact ⟨_, rfl⟩
      · rw [wrap_id (by omega) (by omega)]
        exact ih k r (i + 1) (by omega) (by omega) (by omega) (by omega)
    · rw [if_neg h]
      exact ⟨_, rfl⟩

/-- How many rounds it takes; what is told of the size: nothing less than none left, if it is not below 0. -/
theorem szReader_some (a b : Int) (xs : List S126) (hl : xs.length ≤ 9223372036854775807) (k : Nat) (hk : xs.length < k) : ∃ r, laws_szReader.f k a b xs 1048576 = some r ∧ (0 ≤ r → xs.length ≤ 1048576) := by
  unfold laws_szReader.f laws_szEventS.f
  rw [wrap_id (by omega) (by omega)]
  split
  · exact ⟨-1, by simp, fun h => by omega⟩
  · obtain ⟨r, hr⟩ := szEventS_some xs hl xs.length k (1048576 - xs.length) 0 (by omega) (by omega) (by omega) hk
    rw [hr]
    simp only [Option.bind_some]
    split
    · exact ⟨-1, rfl, fun h => by omega⟩
    · exact ⟨r, rfl, fun _ => by omega⟩

def cEvent (x : S126) : S76 := ⟨x.f0, x.f1, x.f2⟩

theorem toEventS_is (xs : List S126) (hl : xs.length ≤ 1048576) (d : Nat) : ∀ (k : Nat) (ys : List S76) (i : Int), 0 ≤ i → (xs.length : Int) - i ≤ d → i ≤ xs.length → d < k → ys.length = xs.length →
    (∀ j : Nat, (j : Int) < i → ys[j]? = (xs.map cEvent)[j]?) → laws_toEventS.l0 k xs ys i = some (xs.map cEvent) := by
  induction d with
  | zero =>
    intro k ys i h0 h1 h2 hk hy hj
    obtain ⟨k, rfl⟩ : ∃ m, k = m + 1 := ⟨k - 1, by omega⟩
    simp only [laws_toEventS.l0]
    rw [if_neg (by omega)]
    congr 1
    apply List.ext_getElem?
    intro j
    by_cases h : j < xs.length
    · exact hj j (by omega)
    · rw [List.getElem?_eq_none (by omega), List.getElem?_eq_none (by simp; omega)]
  | succ d ih =>
    intro k ys i h0 h1 h2 hk hy hj
    obtain ⟨k, rfl⟩ : ∃ m, k = m + 1 := ⟨k - 1, by omega⟩
    simp only [laws_toEventS.l0]
    by_cases h : i < (xs.length : Int)
    · rw [if_pos h, if_pos h0]
      simp only [laws_toEvent.f, Option.bind_some]
      rw [if_pos (by omega), wrap_id (by omega) (by omega)]
      refine ih k _ (i + 1) (by omega) (by omega) (by omega) (by omega) (by simp [hy]) ?_
      intro j hji
      rw [List.getElem?_set]
      by_cases e : i.toNat = j
      · subst e
        rw [if_pos rfl, if_pos (by omega), List.getElem?_map, List.getElem?_eq_getElem (by omega)]
        simp [cEvent, rd_T126, List.getD_eq_getElem?_getD, List.getElem?_eq_getElem (show i.toNat < xs.length by omega)]
      · rw [if_neg e]
        exact hj j (by omega)
    · rw [if_neg h]
      congr 1
      apply List.ext_getElem?
      intro j
      by_cases h : j < xs.length
      · exact hj j (by omega)
      · rw [List.getElem?_eq_none (by omega), List.getElem?_eq_none (by simp; omega)]

theorem toReader_is (a b : Int) (xs : List S126) (hl : xs.length ≤ 1048576) (k : Nat) (hk : xs.length < k) : laws_toReader.f k a b xs = some (a, b, xs.map cEvent) := by
  unfold laws_toReader.f laws_toEventS.f
  rw [if_pos (by omega), if_pos (by omega), toEventS_is xs hl xs.length k _ 0 (by omega) (by omega) (by omega) hk (by simp) (fun j h => by omega)]
  rfl

theorem eqEventS_self (xs : List S76) (hl : xs.length ≤ 1048576) (d : Nat) : ∀ (k : Nat) (i : Int), 0 ≤ i → (xs.length : Int) - i ≤ d → i ≤ xs.length → d < k → laws_eqEventS.l0 k xs xs i = some true := by
  induction d with
  | zero =>
    intro k i h0 h1 h2 hk
    obtain ⟨k, rfl⟩ : ∃ m, k = m + 1 := ⟨k - 1, by omega⟩
    simp only [laws_eqEventS.l0]
    rw [if_neg (by omega)]
  | succ d ih =>
    intro k i h0 h1 h2 hk
    obtain ⟨k, rfl⟩ : ∃ m, k = m + 1 := ⟨k - 1, by omega⟩
    simp only [laws_eqEventS.l0]
    by_cases h : i < (xs.length : Int)
    · rw [if_pos h, if_pos h0, if_pos h]
      simp only [laws_eqEvent.f, if_true, Option.bind_some]
      rw [wrap_id (by omega) (by omega)]
      exact ih k (i + 1) (by omega) (by omega) (by omega) (by omega)
    · rw [if_neg h]

theorem eqReader_self (a b : Int) (xs : List S76) (hl : xs.length ≤ 1048576) (k : Nat) (hk : xs.length < k) : laws_eqReader.f k a b xs a b xs = some true := by
  unfold laws_eqReader.f laws_eqEventS.f
  rw [if_pos rfl, if_pos rfl, if_pos rfl, eqEventS_self xs hl xs.length k 0 (by omega) (by omega) (by omega) hk]
  rfl

theorem ReaderOk_same (a b : Int) (xs : List S76) : ∃ r, spec_ReaderOk.f a b xs = some r ∧ impl_ReaderOk.f a b xs = some r := by
  have e : ∀ x y z, spec_l1In.f x y z = impl_within.f x y z := fun _ _ _ => rfl
  unfold spec_ReaderOk.f impl_ReaderOk.f
  simp only [e]
  have h : ∀ x y z, ∃ r, impl_within.f x y z = some r := by
    intro x y z
    unfold impl_within.f
    split <;> exact ⟨_, rfl⟩
  obtain ⟨p, hp⟩ := h a 1 31
  obtain ⟨q, hq⟩ := h b 1 61
  rw [hp, hq]
  cases p <;> cases q <;> exact ⟨_, rfl, rfl⟩

theorem FnExactReaderOk : Goal := by
  intro a b xs _ _ hx
  refine ⟨xs.length + 1, ?_⟩
  unfold laws_FnExactReaderOk.f
  obtain ⟨r, hr, hb⟩ := szReader_some a b xs hx.1 (xs.length + 1) (by omega)
  rw [hr]
  simp only [Option.bind_some]
  split
  · rfl
  · have hl := hb (by omega)
    rw [toReader_is a b xs hl _ (by omega)]
    simp only [Option.bind_some]
    obtain ⟨t, h1, h2⟩ := ReaderOk_same a b (xs.map cEvent)
    rw [h1, h2]
    simp only [Option.bind_some]
    rw [if_neg (by simp), eqReader_self a b _ (by simpa using hl) _ (by simp)]
    rfl

end Go.Proofs.Ytepefeclpdnfmaa.Pure
