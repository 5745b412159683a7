/- The program's MendEntry answers for each mend and offset what the reference's answers, and leaves the mend as it was. No conditions. -/
import Derived.Test.YtdkdhciogedoiaaGFnExactMendEntry
namespace Go.Proofs.Ytdkdhciogedoiaa.Pure
open Go.RowKit Go.Proofs.Ytdkdhciogedoiaa.PFnExactMendEntry Go.Proofs.YtdkdhciogedoiaaW.PrintWords Go.Proofs.YtdkdhciogedoiaaW.PrintLast Go.Proofs.YtdkdhciogedoiaaW.Opn Go.Proofs.Ytdkdhciogedoiaa.GFnExactMendEntry
set_option linter.unusedVariables false
set_option linter.unusedSimpArgs false

theorem wrap_id {x : Int} (h0 : -9223372036854775808 ≤ x) (h1 : x ≤ 9223372036854775807) : wrap64 x = x := by
  unfold wrap64
  omega

/-- x lies between a and b. -/
def inB (x a b : Int) : Bool := decide (a ≤ x) && decide (x ≤ b)
theorem inB_true {x a b : Int} : inB x a b = true ↔ a ≤ x ∧ x ≤ b := by simp [inB]
/-- A config that is right: its domains, its copies. -/
def cfgOk (ds : List Int) (c : Int) : Bool := inB (ds.length : Int) 1 8 && inB c 1 4 && ds.all (fun d => inB d 0 7)
/-- Ascending numbers from lo to hi. -/
def Asc (l : List Int) (lo hi : Int) : Prop := ∀ i : Nat, i < l.length → (lo ≤ l.getD i 0 ∧ l.getD i 0 ≤ hi) ∧ (0 < i → l.getD (i - 1) 0 < l.getD i 0)
instance (l : List Int) (lo hi : Int) : Decidable (Asc l lo hi) := by unfold Asc; infer_instance
def nodesOk (ds : List Int) (c : Int) (l : List Int) : Bool := cfgOk ds c && decide (Asc l 0 ((ds.length : Int) - 1))
/-- The domains of nodes, each once, behind those that were met. -/
def domsOf (ds : List Int) : List Int → List Int → List Int
  | [], acc => acc
  | n :: l, acc => domsOf ds l (if acc.contains (rd ds n) then acc else acc ++ [rd ds n])
def spanOf (ds l : List Int) : Int := ((domsOf ds l []).length : Int)
def holdsB (ds : List Int) (c : Int) (l : List Int) : Bool := nodesOk ds c l && decide (c ≤ spanOf ds l)
theorem rd_nat (l : List Int) (i : Nat) : rd l (i : Int) = l.getD i 0 := by simp [rd]
theorem rd_drop (l : List Int) (i : Nat) (h : i < l.length) : l.drop i = rd l (i : Int) :: l.drop (i + 1) := by
  rw [List.drop_eq_getElem_cons h, rd_nat, List.getD_eq_getElem?_getD, List.getElem?_eq_getElem h]
  rfl
theorem cfgOk_len {ds : List Int} {c : Int} (h : cfgOk ds c = true) : 1 ≤ ds.length ∧ ds.length ≤ 8 ∧ 1 ≤ c ∧ c ≤ 4 ∧ ∀ d ∈ ds, 0 ≤ d ∧ d ≤ 7 := by
  simp only [cfgOk, Bool.and_eq_true, inB_true, List.all_eq_true] at h
  obtain ⟨⟨h1, h2⟩, h3⟩ := h
  exact ⟨by omega, by omega, h2.1, h2.2, h3⟩
theorem Asc_mem {l : List Int} {lo hi : Int} (h : Asc l lo hi) {x : Int} (hx : x ∈ l) : lo ≤ x ∧ x ≤ hi := by
  obtain ⟨i, hi', rfl⟩ := List.getElem_of_mem hx
  have := (h i hi').1
  rwa [List.getD_eq_getElem?_getD, List.getElem?_eq_getElem hi'] at this
/-- A whole number of 64 bits. -/
def InR (x : Int) : Prop := -9223372036854775808 ≤ x ∧ x ≤ 9223372036854775807
theorem InR_of {x : Int} (h : (Lit.int .i64 x).wf = true) : InR x := by
  simp [Lit.wf, IntKind.min, IntKind.max, IntKind.signed, IntKind.bits] at h
  exact ⟨by omega, by omega⟩
/-- A place: its epoch, its offset. -/
def placeOk (x : Int) : Bool := decide (0 < x) && (inB (x / 4294967296) 1 30 && inB (x % 4294967296) 1 60)
def epochOf (x : Int) : Int := if placeOk x = true then x / 4294967296 else 0
def offOf (x : Int) : Int := if placeOk x = true then x % 4294967296 else 0
def placeMake (e o : Int) : Int × Bool := if inB e 1 30 = true ∧ inB o 1 60 = true then (4294967296 * e + o, true) else (0, false)
theorem tdiv_pos {x : Int} (h : 0 ≤ x) : Int.tdiv x 4294967296 = x / 4294967296 := Int.tdiv_eq_ediv_of_nonneg h
theorem tmod_pos {x : Int} (h : 0 ≤ x) : Int.tmod x 4294967296 = x % 4294967296 := Int.tmod_eq_emod_of_nonneg h
theorem tdiv_neg' {x : Int} (h : x ≤ 0) : Int.tdiv x 4294967296 = -((-x) / 4294967296) := by
  have h1 : Int.tdiv (-x) 4294967296 = (-x) / 4294967296 := Int.tdiv_eq_ediv_of_nonneg (by omega)
  have h2 := Int.neg_tdiv (-x) 4294967296
  rw [Int.neg_neg] at h2
  rw [h2, h1]
theorem epochOf_pos {x : Int} (h : placeOk x = true) : epochOf x = x / 4294967296 ∧ 1 ≤ epochOf x ∧ epochOf x ≤ 30 := by
  have h' := h
  simp only [placeOk, Bool.and_eq_true, inB_true, decide_eq_true_eq] at h'
  unfold epochOf
  rw [if_pos h]
  omega

theorem eqIntS_l (l : List Int) (hz : l.length ≤ 1048576) (d : Nat) : ∀ (k : Nat) (i : Int), 0 ≤ i → (l.length : Int) - i ≤ d → i ≤ l.length → d + 0 < k → laws_eqIntS.l0 k l l i = some true := by
  have hlen : l.length ≤ 1048576 := hz
  induction d with
  | zero =>
    intro k i h0 h1 h2 hk
    obtain ⟨k, rfl⟩ : ∃ m, k = m + 1 := ⟨k - 1, by omega⟩
    simp only [laws_eqIntS.l0]
    rw [if_neg (by omega)]
  | succ d ih =>
    intro k i h0 h1 h2 hk
    obtain ⟨k, rfl⟩ : ∃ m, k = m + 1 := ⟨k - 1, by omega⟩
    simp only [laws_eqIntS.l0]
    by_cases h : i < (l.length : Int)
    · rw [if_pos h, if_pos h0, if_pos h]
      (first | rw [if_pos rfl] | rw [if_pos trivial])
      rw [wrap_id (by omega) (by omega)]
      exact ih k (i + 1) (by omega) (by omega) (by omega) (by omega)
    · rw [if_neg h]

theorem eqIntS_self (l : List Int) (hz : l.length ≤ 1048576) (k : Nat) (hk : 1048576 < k) : laws_eqIntS.f k l l = some true := by
  have hlen : l.length ≤ 1048576 := hz
  unfold laws_eqIntS.f
  rw [if_pos rfl, eqIntS_l l hz l.length k 0 (by omega) (by omega) (by omega) (by omega)]

theorem eqEntry_self (a0 : Int) (a1 : Int) (a2 : Bool) (a3 : ByteArray)  : laws_eqEntry.f a0 a1 a2 a3 a0 a1 a2 a3 = some true := by
  unfold laws_eqEntry.f
  simp

theorem eqEntryS_l (l : List S59) (hz : (l.length ≤ 1048576 ∧ ∀ e0 ∈ l, (e0.f3.size ≤ 1048576))) (d : Nat) : ∀ (k : Nat) (i : Int), 0 ≤ i → (l.length : Int) - i ≤ d → i ≤ l.length → d + 0 < k → laws_eqEntryS.l0 k l l i = some true := by
  have hlen : l.length ≤ 1048576 := hz.1
  induction d with
  | zero =>
    intro k i h0 h1 h2 hk
    obtain ⟨k, rfl⟩ : ∃ m, k = m + 1 := ⟨k - 1, by omega⟩
    simp only [laws_eqEntryS.l0]
    rw [if_neg (by omega)]
  | succ d ih =>
    intro k i h0 h1 h2 hk
    obtain ⟨k, rfl⟩ : ∃ m, k = m + 1 := ⟨k - 1, by omega⟩
    simp only [laws_eqEntryS.l0]
    by_cases h : i < (l.length : Int)
    · rw [if_pos h, if_pos h0, if_pos h]
      rw [eqEntry_self (rd_T59 l i).f0 (rd_T59 l i).f1 (rd_T59 l i).f2 (rd_T59 l i).f3]
      simp only [Option.bind_some]
      (first | rw [if_pos rfl] | rw [if_pos trivial])
      rw [wrap_id (by omega) (by omega)]
      exact ih k (i + 1) (by omega) (by omega) (by omega) (by omega)
    · rw [if_neg h]

theorem eqEntryS_self (l : List S59) (hz : (l.length ≤ 1048576 ∧ ∀ e0 ∈ l, (e0.f3.size ≤ 1048576))) (k : Nat) (hk : 1048576 < k) : laws_eqEntryS.f k l l = some true := by
  have hlen : l.length ≤ 1048576 := hz.1
  unfold laws_eqEntryS.f
  rw [if_pos rfl, eqEntryS_l l hz l.length k 0 (by omega) (by omega) (by omega) (by omega)]

theorem eqIntSS_l (l : List (List Int)) (hz : (l.length ≤ 1048576 ∧ ∀ e0 ∈ l, e0.length ≤ 1048576)) (d : Nat) : ∀ (k : Nat) (i : Int), 0 ≤ i → (l.length : Int) - i ≤ d → i ≤ l.length → d + 1048576 < k → laws_eqIntSS.l0 k l l i = some true := by
  have hlen : l.length ≤ 1048576 := hz.1
  induction d with
  | zero =>
    intro k i h0 h1 h2 hk
    obtain ⟨k, rfl⟩ : ∃ m, k = m + 1 := ⟨k - 1, by omega⟩
    simp only [laws_eqIntSS.l0]
    rw [if_neg (by omega)]
  | succ d ih =>
    intro k i h0 h1 h2 hk
    obtain ⟨k, rfl⟩ : ∃ m, k = m + 1 := ⟨k - 1, by omega⟩
    simp only [laws_eqIntSS.l0]
    by_cases h : i < (l.length : Int)
    · rw [if_pos h, if_pos h0, if_pos h]
      have hg0 : (rd_L4 l i) = l[i.toNat]'(by omega) := by simp [rd_L4, List.getD_eq_getElem?_getD, List.getElem?_eq_getElem (show i.toNat < l.length by omega)]
      have he := hz.2 (l[i.toNat]'(by omega)) (List.getElem_mem _)
      rw [← hg0] at he
      rw [eqIntS_self (rd_L4 l i) he k (by omega)]
      simp only [Option.bind_some]
      (first | rw [if_pos rfl] | rw [if_pos trivial])
      rw [wrap_id (by omega) (by omega)]
      exact ih k (i + 1) (by omega) (by omega) (by omega) (by omega)
    · rw [if_neg h]

theorem eqIntSS_self (l : List (List Int)) (hz : (l.length ≤ 1048576 ∧ ∀ e0 ∈ l, e0.length ≤ 1048576)) (k : Nat) (hk : 2097152 < k) : laws_eqIntSS.f k l l = some true := by
  have hlen : l.length ≤ 1048576 := hz.1
  unfold laws_eqIntSS.f
  rw [if_pos rfl, eqIntSS_l l hz l.length k 0 (by omega) (by omega) (by omega) (by omega)]

theorem eqMend_self (a0 : Int) (a1 : Int) (a2 : List Int) (a3 : List S59) (a4 : Bool) (a5 : List (List Int)) (ha2 : a2.length ≤ 1048576) (ha3 : (a3.length ≤ 1048576 ∧ ∀ e0 ∈ a3, (e0.f3.size ≤ 1048576))) (ha5 : (a5.length ≤ 1048576 ∧ ∀ e0 ∈ a5, e0.length ≤ 1048576)) (k : Nat) (hk : 2097152 < k) : laws_eqMend.f k a0 a1 a2 a3 a4 a5 a0 a1 a2 a3 a4 a5 = some true := by
  unfold laws_eqMend.f
  simp [eqIntS_self a2 ha2 k (by omega), eqEntryS_self a3 ha3 k (by omega), eqIntSS_self a5 ha5 k (by omega)]

theorem szIntS_ok (l : List Int) (hl : l.length ≤ 9223372036854775807) (n : Int) (h0 : 0 ≤ n) (hn : n ≤ 1048576) : ∃ r, laws_szIntS.f l n = some r ∧ r ≤ n ∧ (0 ≤ r → l.length ≤ 1048576) := by
  unfold laws_szIntS.f
  rw [wrap_id (by omega) (by omega)]
  split
  · exact ⟨-1, rfl, by omega, fun h => by omega⟩
  · exact ⟨n - l.length, rfl, by omega, fun _ => by omega⟩

theorem szEntry_ok (a0 : Int) (a1 : Int) (a2 : Bool) (a3 : ByteArray) (ha3 : a3.size ≤ 9223372036854775807) (n : Int) (h0 : 0 ≤ n) (hn : n ≤ 1048576) : ∃ r, laws_szEntry.f a0 a1 a2 a3 n = some r ∧ r ≤ n ∧ (0 ≤ r → a3.size ≤ 1048576) := by
  unfold laws_szEntry.f
  rw [wrap_id (by omega) (by omega)]
  by_cases g0 : n - (a3.size : Int) < 0
  · rw [if_pos g0]
    exact ⟨-1, rfl, by omega, fun h => by omega⟩
  · rw [if_neg g0]
    exact ⟨(n - (a3.size : Int)), rfl, by omega, fun _ => (by omega)⟩

theorem szEntryS_l (l : List S137) (hl : (l.length ≤ 9223372036854775807 ∧ ∀ e0 ∈ l, (e0.f3.size ≤ 9223372036854775807))) (d : Nat) : ∀ (k : Nat) (n i : Int), 0 ≤ n → n ≤ 1048576 → 0 ≤ i → (l.length : Int) - i ≤ d → i ≤ l.length → d + 0 < k → (∀ j : Nat, (j : Int) < i → ∀ x, l[j]? = some x → (x.f3.size ≤ 1048576)) →
    ∃ r, laws_szEntryS.l0 k l n i = some r ∧ r ≤ n ∧ (0 ≤ r → ∀ x ∈ l, (x.f3.size ≤ 1048576)) := by
  induction d with
  | zero =>
    intro k n i hn0 hn h0 h1 h2 hk hj
    obtain ⟨k, rfl⟩ : ∃ m, k = m + 1 := ⟨k - 1, by omega⟩
    refine ⟨n, by simp only [laws_szEntryS.l0]; rw [if_neg (by omega)], by omega, fun _ x hx => ?_⟩
    obtain ⟨j, hjl, rfl⟩ := List.getElem_of_mem hx
    exact hj j (by omega) _ (List.getElem?_eq_getElem hjl)
  | succ d ih =>
    intro k n i hn0 hn h0 h1 h2 hk hj
    obtain ⟨k, rfl⟩ : ∃ m, k = m + 1 := ⟨k - 1, by omega⟩
    simp only [laws_szEntryS.l0]
    by_cases h : i < (l.length : Int)
    · rw [if_pos h, if_pos h0]
      have hg : (rd_T137 l i) = l[i.toNat]'(by omega) := by simp [rd_T137, List.getD_eq_getElem?_getD, List.getElem?_eq_getElem (show i.toNat < l.length by omega)]
      have he := hl.2 (l[i.toNat]'(by omega)) (List.getElem_mem _)
      rw [← hg] at he
      obtain ⟨r, hr, hrn, hz⟩ := szEntry_ok (rd_T137 l i).f0 (rd_T137 l i).f1 (rd_T137 l i).f2 (rd_T137 l i).f3 he n hn0 hn
      rw [hr]
      simp only [Option.bind_some]
      by_cases hneg : r < 0
      · rw [if_pos hneg]
        exact ⟨-1, rfl, by omega, fun h => by omega⟩
      · rw [if_neg hneg, wrap_id (by have := hl.1; omega) (by have := hl.1; omega)]
        obtain ⟨r', hr', hrn', hz'⟩ := ih k r (i + 1) (by omega) (by omega) (by omega) (by omega) (by omega) (by omega) (by
          intro j hji x hx
          by_cases e : (j : Int) < i
          · exact hj j e x hx
          · have ej : j = i.toNat := by omega
            subst ej
            rw [List.getElem?_eq_getElem (show i.toNat < l.length by omega)] at hx
            cases hx
            rw [← hg]
            exact hz (by omega))
        exact ⟨r', hr', by omega, hz'⟩
    · rw [if_neg h]
      refine ⟨n, rfl, by omega, fun _ x hx => ?_⟩
      obtain ⟨j, hjl, rfl⟩ := List.getElem_of_mem hx
      exact hj j (by omega) _ (List.getElem?_eq_getElem hjl)

theorem szEntryS_ok (l : List S137) (hl : (l.length ≤ 9223372036854775807 ∧ ∀ e0 ∈ l, (e0.f3.size ≤ 9223372036854775807))) (n : Int) (h0 : 0 ≤ n) (hn : n ≤ 1048576) (k : Nat) (hk : 1048576 < k) : ∃ r, laws_szEntryS.f k l n = some r ∧ r ≤ n ∧ (0 ≤ r → (l.length ≤ 1048576 ∧ ∀ e0 ∈ l, (e0.f3.size ≤ 1048576))) := by
  unfold laws_szEntryS.f
  rw [wrap_id (by have := hl.1; omega) (by have := hl.1; omega)]
  by_cases h : n - (l.length : Int) < 0
  · rw [if_pos h]
    exact ⟨-1, rfl, by omega, fun h => by omega⟩
  · rw [if_neg h]
    obtain ⟨r, hr, hrn, hz⟩ := szEntryS_l l hl l.length k (n - l.length) 0 (by omega) (by omega) (by omega) (by omega) (by omega) (by omega) (fun j hj => by omega)
    exact ⟨r, hr, by omega, fun h => ⟨by omega, hz h⟩⟩

theorem szIntSS_l (l : List (List Int)) (hl : (l.length ≤ 9223372036854775807 ∧ ∀ e0 ∈ l, e0.length ≤ 9223372036854775807)) (d : Nat) : ∀ (k : Nat) (n i : Int), 0 ≤ n → n ≤ 1048576 → 0 ≤ i → (l.length : Int) - i ≤ d → i ≤ l.length → d + 1048576 < k → (∀ j : Nat, (j : Int) < i → ∀ x, l[j]? = some x → x.length ≤ 1048576) →
    ∃ r, laws_szIntSS.l0 k l n i = some r ∧ r ≤ n ∧ (0 ≤ r → ∀ x ∈ l, x.length ≤ 1048576) := by
  induction d with
  | zero =>
    intro k n i hn0 hn h0 h1 h2 hk hj
    obtain ⟨k, rfl⟩ : ∃ m, k = m + 1 := ⟨k - 1, by omega⟩
    refine ⟨n, by simp only [laws_szIntSS.l0]; rw [if_neg (by omega)], by omega, fun _ x hx => ?_⟩
    obtain ⟨j, hjl, rfl⟩ := List.getElem_of_mem hx
    exact hj j (by omega) _ (List.getElem?_eq_getElem hjl)
  | succ d ih =>
    intro k n i hn0 hn h0 h1 h2 hk hj
    obtain ⟨k, rfl⟩ : ∃ m, k = m + 1 := ⟨k - 1, by omega⟩
    simp only [laws_szIntSS.l0]
    by_cases h : i < (l.length : Int)
    · rw [if_pos h, if_pos h0]
      have hg : (rd_L4 l i) = l[i.toNat]'(by omega) := by simp [rd_L4, List.getD_eq_getElem?_getD, List.getElem?_eq_getElem (show i.toNat < l.length by omega)]
      have he := hl.2 (l[i.toNat]'(by omega)) (List.getElem_mem _)
      rw [← hg] at he
      obtain ⟨r, hr, hrn, hz⟩ := szIntS_ok (rd_L4 l i) he n hn0 hn
      rw [hr]
      simp only [Option.bind_some]
      by_cases hneg : r < 0
      · rw [if_pos hneg]
        exact ⟨-1, rfl, by omega, fun h => by omega⟩
      · rw [if_neg hneg, wrap_id (by have := hl.1; omega) (by have := hl.1; omega)]
        obtain ⟨r', hr', hrn', hz'⟩ := ih k r (i + 1) (by omega) (by omega) (by omega) (by omega) (by omega) (by omega) (by
          intro j hji x hx
          by_cases e : (j : Int) < i
          · exact hj j e x hx
          · have ej : j = i.toNat := by omega
            subst ej
            rw [List.getElem?_eq_getElem (show i.toNat < l.length by omega)] at hx
            cases hx
            rw [← hg]
            exact hz (by omega))
        exact ⟨r', hr', by omega, hz'⟩
    · rw [if_neg h]
      refine ⟨n, rfl, by omega, fun _ x hx => ?_⟩
      obtain ⟨j, hjl, rfl⟩ := List.getElem_of_mem hx
      exact hj j (by omega) _ (List.getElem?_eq_getElem hjl)

theorem szIntSS_ok (l : List (List Int)) (hl : (l.length ≤ 9223372036854775807 ∧ ∀ e0 ∈ l, e0.length ≤ 9223372036854775807)) (n : Int) (h0 : 0 ≤ n) (hn : n ≤ 1048576) (k : Nat) (hk : 2097152 < k) : ∃ r, laws_szIntSS.f k l n = some r ∧ r ≤ n ∧ (0 ≤ r → (l.length ≤ 1048576 ∧ ∀ e0 ∈ l, e0.length ≤ 1048576)) := by
  unfold laws_szIntSS.f
  rw [wrap_id (by have := hl.1; omega) (by have := hl.1; omega)]
  by_cases h : n - (l.length : Int) < 0
  · rw [if_pos h]
    exact ⟨-1, rfl, by omega, fun h => by omega⟩
  · rw [if_neg h]
    obtain ⟨r, hr, hrn, hz⟩ := szIntSS_l l hl l.length k (n - l.length) 0 (by omega) (by omega) (by omega) (by omega) (by omega) (by omega) (fun j hj => by omega)
    exact ⟨r, hr, by omega, fun h => ⟨by omega, hz h⟩⟩

theorem szMend_ok (a0 : Int) (a1 : Int) (a2 : List Int) (a3 : List S137) (a4 : Bool) (a5 : List (List Int)) (ha2 : a2.length ≤ 9223372036854775807) (ha3 : (a3.length ≤ 9223372036854775807 ∧ ∀ e0 ∈ a3, (e0.f3.size ≤ 9223372036854775807))) (ha5 : (a5.length ≤ 9223372036854775807 ∧ ∀ e0 ∈ a5, e0.length ≤ 9223372036854775807)) (n : Int) (h0 : 0 ≤ n) (hn : n ≤ 1048576) (k : Nat) (hk : 2097152 < k) : ∃ r, laws_szMend.f k a0 a1 a2 a3 a4 a5 n = some r ∧ r ≤ n ∧ (0 ≤ r → a2.length ≤ 1048576 ∧ (a3.length ≤ 1048576 ∧ ∀ e0 ∈ a3, (e0.f3.size ≤ 1048576)) ∧ (a5.length ≤ 1048576 ∧ ∀ e0 ∈ a5, e0.length ≤ 1048576)) := by
  unfold laws_szMend.f
  obtain ⟨r0, e0, m0, z0⟩ := szIntS_ok a2 ha2 n (by omega) (by omega)
  rw [e0]
  simp only [Option.bind_some]
  by_cases g0 : r0 < 0
  · rw [if_pos g0]
    exact ⟨-1, rfl, by omega, fun h => by omega⟩
  · rw [if_neg g0]
    obtain ⟨r1, e1, m1, z1⟩ := szEntryS_ok a3 ha3 r0 (by omega) (by omega) k (by omega)
    rw [e1]
    simp only [Option.bind_some]
    by_cases g1 : r1 < 0
    · rw [if_pos g1]
      exact ⟨-1, rfl, by omega, fun h => by omega⟩
    · rw [if_neg g1]
      obtain ⟨r2, e2, m2, z2⟩ := szIntSS_ok a5 ha5 r1 (by omega) (by omega) k (by omega)
      rw [e2]
      simp only [Option.bind_some]
      by_cases g2 : r2 < 0
      · rw [if_pos g2]
        exact ⟨-1, rfl, by omega, fun h => by omega⟩
      · rw [if_neg g2]
        exact ⟨r2, rfl, by omega, fun _ => ⟨(z0 (by omega)), (z1 (by omega)), (z2 (by omega))⟩⟩

theorem spec_l1In_is (x a b : Int) : spec_l1In.f x a b = some (inB x a b) := by
  unfold spec_l1In.f inB
  by_cases h : x ≥ a
  · rw [if_pos h]; simp [show a ≤ x from h]
  · rw [if_neg h]; simp [show ¬ a ≤ x from h]

theorem spec_PlaceMake_is (e o : Int) : spec_PlaceMake.f e o = some (placeMake e o) := by
  unfold spec_PlaceMake.f placeMake
  rw [spec_l1In_is, spec_l1In_is]
  cases h1 : inB e 1 30 <;> cases h2 : inB o 1 60 <;> simp
  rw [inB_true] at h1 h2
  rw [wrap_id (show -9223372036854775808 ≤ 4294967296 * e by omega) (by omega), wrap_id (show -9223372036854775808 ≤ 4294967296 * e + o by omega) (by omega)]

/-- What stands at a place, the first of it. -/
def getAt (l : List S59) (p : Int) : Int × Int × Bool × ByteArray × Bool :=
  match l with
  | [] => (0, 0, false, ⟨#[]⟩, false)
  | e :: l => if e.f0 = p then (e.f0, e.f1, e.f2, e.f3, true) else getAt l p
theorem drop_rdT_Entry (l : List S59) (i : Nat) (h : i < l.length) : l.drop i = rd_T59 l (i : Int) :: l.drop (i + 1) := by
  rw [List.drop_eq_getElem_cons h]
  simp [rd_T59, List.getD_eq_getElem?_getD, List.getElem?_eq_getElem h]
theorem spec_l6Get_l (l : List S59) (p : Int) (hl : l.length ≤ 1048576) (d : Nat) : ∀ (k i : Nat), i + d = l.length → d < k → spec_l6Get.l0 k l p (i : Int) = some (getAt (l.drop i) p) := by
  induction d with
  | zero =>
    intro k i h hk
    obtain ⟨k, rfl⟩ : ∃ m, k = m + 1 := ⟨k - 1, by omega⟩
    simp only [spec_l6Get.l0]
    rw [if_neg (by omega), List.drop_eq_nil_of_le (by omega)]
    rfl
  | succ d ih =>
    intro k i h hk
    obtain ⟨k, rfl⟩ : ∃ m, k = m + 1 := ⟨k - 1, by omega⟩
    simp only [spec_l6Get.l0]
    rw [if_pos (by omega), if_pos (by omega), drop_rdT_Entry l i (by omega)]
    simp only [getAt]
    split
    · rfl
    · rw [wrap_id (by omega) (by omega)]
      exact ih k (i + 1) (by omega) (by omega)
theorem spec_l6Get_is (l : List S59) (p : Int) (hl : l.length ≤ 1048576) (k : Nat) (hk : 1048576 < k) : spec_l6Get.f k l p = some (getAt l p) := by
  unfold spec_l6Get.f
  have := spec_l6Get_l l p hl l.length k 0 (by omega) (by omega)
  simpa using this

/-- What is to be written at an offset. -/
def mendEntry (b ep : Int) (seen : List S59) (pl : Bool) (n : Nat) (off : Int) : Int × Int × Bool × ByteArray × Bool :=
  if (placeMake ep off).2 = true ∧ pl = true ∧ off ≤ (n : Int) then
    (if (getAt seen (placeMake ep off).1).2.2.2.2 = true then ((placeMake ep off).1, b, (getAt seen (placeMake ep off).1).2.2.1, (getAt seen (placeMake ep off).1).2.2.2.1, true) else ((placeMake ep off).1, b, true, ⟨#[]⟩, true))
  else (0, 0, false, ⟨#[]⟩, false)
theorem spec_MendEntry_is (b ep : Int) (sl : List Int) (seen : List S59) (pl : Bool) (wr : List (List Int)) (off : Int) (hs : seen.length ≤ 1048576) (k : Nat) (hk : 1048577 < k) :
    spec_MendEntry.f k b ep sl seen pl wr off = some (mendEntry b ep seen pl wr.length off) := by
  obtain ⟨k, rfl⟩ : ∃ m, k = m + 1 := ⟨k - 1, by omega⟩
  unfold spec_MendEntry.f mendEntry
  rw [spec_PlaceMake_is]
  simp only [Option.bind_some, spec_MendEntry.j0]
  rw [spec_l6Get_is seen _ hs k (by omega)]
  simp only [Option.bind_some]
  generalize placeMake ep off = P
  obtain ⟨p, b1⟩ := P
  simp only
  generalize getAt seen p = G
  obtain ⟨g0, g1, g2, g3, g4⟩ := G
  by_cases ho : off > (wr.length : Int)
  · have h2 : ¬ off ≤ (wr.length : Int) := by omega
    cases pl <;> cases b1 <;> simp [ho, h2]
  · have h2 : off ≤ (wr.length : Int) := by omega
    cases pl <;> cases b1 <;> cases g4 <;> simp [ho, h2]

theorem toIntS_l (l : List Int) (hz : l.length ≤ 1048576) (d : Nat) : ∀ (k : Nat) (ys : List Int) (i : Int), 0 ≤ i → (l.length : Int) - i ≤ d → i ≤ l.length → d + 0 < k → ys.length = l.length → (∀ j : Nat, (j : Int) < i → ys[j]? = (l)[j]?) →
    laws_toIntS.l0 k l ys i = some l := by
  have hlen : l.length ≤ 1048576 := hz
  induction d with
  | zero =>
    intro k ys i h0 h1 h2 hk hy hj
    obtain ⟨k, rfl⟩ : ∃ m, k = m + 1 := ⟨k - 1, by omega⟩
    simp only [laws_toIntS.l0]
    rw [if_neg (by omega)]
    congr 1
    apply List.ext_getElem?
    intro j
    by_cases h : j < l.length
    · exact hj j (by omega)
    · rw [List.getElem?_eq_none (by omega), List.getElem?_eq_none (by first | omega | (simp; omega))]
  | succ d ih =>
    intro k ys i h0 h1 h2 hk hy hj
    obtain ⟨k, rfl⟩ : ∃ m, k = m + 1 := ⟨k - 1, by omega⟩
    simp only [laws_toIntS.l0]
    by_cases h : i < (l.length : Int)
    · rw [if_pos h, if_pos h0, if_pos (by omega), wrap_id (by omega) (by omega)]
      refine ih k _ (i + 1) (by omega) (by omega) (by omega) (by omega) (by simp [hy]) ?_
      intro j hji
      rw [List.getElem?_set]
      by_cases e : i.toNat = j
      · subst e
        rw [if_pos rfl, if_pos (by omega)]
        simp [rd, List.getD_eq_getElem?_getD, List.getElem?_eq_getElem (show i.toNat < l.length by omega)]
      · rw [if_neg e]
        exact hj j (by omega)
    · rw [if_neg h]
      congr 1
      apply List.ext_getElem?
      intro j
      by_cases h : j < l.length
      · exact hj j (by omega)
      · rw [List.getElem?_eq_none (by omega), List.getElem?_eq_none (by first | omega | (simp; omega))]

theorem toIntS_is (l : List Int) (hz : l.length ≤ 1048576) (k : Nat) (hk : 1048576 < k) : laws_toIntS.f k l = some l := by
  have hlen : l.length ≤ 1048576 := hz
  unfold laws_toIntS.f
  rw [if_pos (by omega), if_pos (by omega), toIntS_l l hz l.length k _ 0 (by omega) (by omega) (by omega) (by omega) (by simp) (fun j h => by omega)]

def cEntry (x : S137) : S59 := ⟨x.f0, x.f1, x.f2, x.f3⟩

theorem toEntry_is (a0 : Int) (a1 : Int) (a2 : Bool) (a3 : ByteArray) (ha3 : a3.size ≤ 1048576) : laws_toEntry.f a0 a1 a2 a3 = some (a0, a1, a2, a3) := by
  rfl

theorem toEntryS_l (l : List S137) (hz : (l.length ≤ 1048576 ∧ ∀ e0 ∈ l, (e0.f3.size ≤ 1048576))) (d : Nat) : ∀ (k : Nat) (ys : List S59) (i : Int), 0 ≤ i → (l.length : Int) - i ≤ d → i ≤ l.length → d + 0 < k → ys.length = l.length → (∀ j : Nat, (j : Int) < i → ys[j]? = ((l.map cEntry))[j]?) →
    laws_toEntryS.l0 k l ys i = some (l.map cEntry) := by
  have hlen : l.length ≤ 1048576 := hz.1
  induction d with
  | zero =>
    intro k ys i h0 h1 h2 hk hy hj
    obtain ⟨k, rfl⟩ : ∃ m, k = m + 1 := ⟨k - 1, by omega⟩
    simp only [laws_toEntryS.l0]
    rw [if_neg (by omega)]
    congr 1
    apply List.ext_getElem?
    intro j
    by_cases h : j < l.length
    · exact hj j (by omega)
    · rw [List.getElem?_eq_none (by omega), List.getElem?_eq_none (by first | omega | (simp; omega))]
  | succ d ih =>
    intro k ys i h0 h1 h2 hk hy hj
    obtain ⟨k, rfl⟩ : ∃ m, k = m + 1 := ⟨k - 1, by omega⟩
    simp only [laws_toEntryS.l0]
    by_cases h : i < (l.length : Int)
    · rw [if_pos h, if_pos h0]
      have hg0 : (rd_T137 l i) = l[i.toNat]'(by omega) := by simp [rd_T137, List.getD_eq_getElem?_getD, List.getElem?_eq_getElem (show i.toNat < l.length by omega)]
      have he := hz.2 (l[i.toNat]'(by omega)) (List.getElem_mem _)
      rw [← hg0] at he
      rw [toEntry_is (rd_T137 l i).f0 (rd_T137 l i).f1 (rd_T137 l i).f2 (rd_T137 l i).f3 he]
      simp only [Option.bind_some]
      rw [if_pos (by omega), wrap_id (by omega) (by omega)]
      refine ih k _ (i + 1) (by omega) (by omega) (by omega) (by omega) (by simp [hy]) ?_
      intro j hji
      rw [List.getElem?_set]
      by_cases e : i.toNat = j
      · subst e
        rw [if_pos rfl, if_pos (by omega)]
        simp [rd_T137, cEntry, List.getD_eq_getElem?_getD, List.getElem?_eq_getElem (show i.toNat < l.length by omega)]
      · rw [if_neg e]
        exact hj j (by omega)
    · rw [if_neg h]
      congr 1
      apply List.ext_getElem?
      intro j
      by_cases h : j < l.length
      · exact hj j (by omega)
      · rw [List.getElem?_eq_none (by omega), List.getElem?_eq_none (by first | omega | (simp; omega))]

theorem toEntryS_is (l : List S137) (hz : (l.length ≤ 1048576 ∧ ∀ e0 ∈ l, (e0.f3.size ≤ 1048576))) (k : Nat) (hk : 1048576 < k) : laws_toEntryS.f k l = some (l.map cEntry) := by
  have hlen : l.length ≤ 1048576 := hz.1
  unfold laws_toEntryS.f
  rw [if_pos (by omega), if_pos (by omega), toEntryS_l l hz l.length k _ 0 (by omega) (by omega) (by omega) (by omega) (by simp) (fun j h => by omega)]

theorem toIntSS_l (l : List (List Int)) (hz : (l.length ≤ 1048576 ∧ ∀ e0 ∈ l, e0.length ≤ 1048576)) (d : Nat) : ∀ (k : Nat) (ys : List (List Int)) (i : Int), 0 ≤ i → (l.length : Int) - i ≤ d → i ≤ l.length → d + 1048576 < k → ys.length = l.length → (∀ j : Nat, (j : Int) < i → ys[j]? = (l)[j]?) →
    laws_toIntSS.l0 k l ys i = some l := by
  have hlen : l.length ≤ 1048576 := hz.1
  induction d with
  | zero =>
    intro k ys i h0 h1 h2 hk hy hj
    obtain ⟨k, rfl⟩ : ∃ m, k = m + 1 := ⟨k - 1, by omega⟩
    simp only [laws_toIntSS.l0]
    rw [if_neg (by omega)]
    congr 1
    apply List.ext_getElem?
    intro j
    by_cases h : j < l.length
    · exact hj j (by omega)
    · rw [List.getElem?_eq_none (by omega), List.getElem?_eq_none (by first | omega | (simp; omega))]
  | succ d ih =>
    intro k ys i h0 h1 h2 hk hy hj
    obtain ⟨k, rfl⟩ : ∃ m, k = m + 1 := ⟨k - 1, by omega⟩
    simp only [laws_toIntSS.l0]
    by_cases h : i < (l.length : Int)
    · rw [if_pos h, if_pos h0]
      have hg0 : (rd_L4 l i) = l[i.toNat]'(by omega) := by simp [rd_L4, List.getD_eq_getElem?_getD, List.getElem?_eq_getElem (show i.toNat < l.length by omega)]
      have he := hz.2 (l[i.toNat]'(by omega)) (List.getElem_mem _)
      rw [← hg0] at he
      rw [toIntS_is (rd_L4 l i) he k (by omega)]
      simp only [Option.bind_some]
      rw [if_pos (by omega), wrap_id (by omega) (by omega)]
      refine ih k _ (i + 1) (by omega) (by omega) (by omega) (by omega) (by simp [hy]) ?_
      intro j hji
      rw [List.getElem?_set]
      by_cases e : i.toNat = j
      · subst e
        rw [if_pos rfl, if_pos (by omega)]
        simp [rd_L4, List.getD_eq_getElem?_getD, List.getElem?_eq_getElem (show i.toNat < l.length by omega)]
      · rw [if_neg e]
        exact hj j (by omega)
    · rw [if_neg h]
      congr 1
      apply List.ext_getElem?
      intro j
      by_cases h : j < l.length
      · exact hj j (by omega)
      · rw [List.getElem?_eq_none (by omega), List.getElem?_eq_none (by first | omega | (simp; omega))]

theorem toIntSS_is (l : List (List Int)) (hz : (l.length ≤ 1048576 ∧ ∀ e0 ∈ l, e0.length ≤ 1048576)) (k : Nat) (hk : 2097152 < k) : laws_toIntSS.f k l = some l := by
  have hlen : l.length ≤ 1048576 := hz.1
  unfold laws_toIntSS.f
  rw [if_pos (by omega), if_pos (by omega), toIntSS_l l hz l.length k _ 0 (by omega) (by omega) (by omega) (by omega) (by simp) (fun j h => by omega)]

theorem toMend_is (a0 : Int) (a1 : Int) (a2 : List Int) (a3 : List S137) (a4 : Bool) (a5 : List (List Int)) (ha2 : a2.length ≤ 1048576) (ha3 : (a3.length ≤ 1048576 ∧ ∀ e0 ∈ a3, (e0.f3.size ≤ 1048576))) (ha5 : (a5.length ≤ 1048576 ∧ ∀ e0 ∈ a5, e0.length ≤ 1048576)) (k : Nat) (hk : 2097152 < k) : laws_toMend.f k a0 a1 a2 a3 a4 a5 = some (a0, a1, a2, (a3.map cEntry), a4, a5) := by
  unfold laws_toMend.f
  rw [toIntS_is a2 ha2 k (by omega)]
  simp only [Option.bind_some]
  rw [toEntryS_is a3 ha3 k (by omega)]
  simp only [Option.bind_some]
  rw [toIntSS_is a5 ha5 k (by omega)]
  simp only [Option.bind_some]

theorem impl_within_is (x a b : Int) : impl_within.f x a b = some (inB x a b) := by
  unfold impl_within.f inB
  by_cases h : x ≥ a
  · rw [if_pos h]; simp [show a ≤ x from h]
  · rw [if_neg h]; simp [show ¬ a ≤ x from h]





theorem impl_PlaceMake_is (e o : Int) : impl_PlaceMake.f e o = some (placeMake e o) := by
  unfold impl_PlaceMake.f placeMake impl_isEpoch.f impl_isOff.f
  rw [impl_within_is, impl_within_is]
  cases h1 : inB e 1 30 <;> cases h2 : inB o 1 60 <;> simp
  rw [inB_true] at h1 h2
  rw [wrap_id (show -9223372036854775808 ≤ 4294967296 * e by omega) (by omega), wrap_id (show -9223372036854775808 ≤ 4294967296 * e + o by omega) (by omega)]

theorem impl_MendEntry_l (b ep : Int) (sl : List Int) (seen : List S59) (pl : Bool) (wr : List (List Int)) (p : Int) (hs : seen.length ≤ 1048576) (d : Nat) : ∀ (k i : Nat), i + d = seen.length → d < k →
    impl_MendEntry.l0 k p seen (seen.length : Int) (i : Int) b ep sl seen pl wr = some (if (getAt (seen.drop i) p).2.2.2.2 = true then (p, b, (getAt (seen.drop i) p).2.2.1, (getAt (seen.drop i) p).2.2.2.1, true) else (p, b, true, ⟨#[]⟩, true)) := by
  induction d with
  | zero =>
    intro k i h hk
    obtain ⟨k, rfl⟩ : ∃ m, k = m + 1 := ⟨k - 1, by omega⟩
    simp only [impl_MendEntry.l0]
    rw [if_neg (by omega), List.drop_eq_nil_of_le (by omega)]
    rfl
  | succ d ih =>
    intro k i h hk
    obtain ⟨k, rfl⟩ : ∃ m, k = m + 1 := ⟨k - 1, by omega⟩
    simp only [impl_MendEntry.l0]
    rw [if_pos (by omega), if_pos (by omega), if_pos (by omega), drop_rdT_Entry seen i (by omega)]
    simp only [getAt]
    by_cases he : (rd_T59 seen (i : Int)).f0 = p
    · simp [he]
    · simp only [if_neg he]
      rw [wrap_id (by omega) (by omega)]
      exact ih k (i + 1) (by omega) (by omega)
theorem impl_MendEntry_is (b ep : Int) (sl : List Int) (seen : List S59) (pl : Bool) (wr : List (List Int)) (off : Int) (hs : seen.length ≤ 1048576) (k : Nat) (hk : 1048577 < k) :
    impl_MendEntry.f k b ep sl seen pl wr off = some (mendEntry b ep seen pl wr.length off) := by
  obtain ⟨k, rfl⟩ : ∃ m, k = m + 1 := ⟨k - 1, by omega⟩
  unfold impl_MendEntry.f mendEntry
  rw [impl_PlaceMake_is]
  simp only [Option.bind_some, impl_MendEntry.j0]
  have hl := impl_MendEntry_l b ep sl seen pl wr (placeMake ep off).1 hs seen.length k 0 (by omega) (by omega)
  rw [List.drop_zero, show ((0 : Nat) : Int) = 0 from rfl] at hl
  rw [hl]
  generalize placeMake ep off = P
  obtain ⟨p, b1⟩ := P
  simp only
  generalize getAt seen p = G
  obtain ⟨g0, g1, g2, g3, g4⟩ := G
  by_cases ho : off > (wr.length : Int)
  · have h2 : ¬ off ≤ (wr.length : Int) := by omega
    cases pl <;> cases b1 <;> simp [ho, h2]
  · have h2 : off ≤ (wr.length : Int) := by omega
    cases pl <;> cases b1 <;> cases g4 <;> simp [ho, h2]

theorem FnExactMendEntry : Goal := by
  intro b ep sl seen pl wr off _ _ hsl hseen hwr _
  refine ⟨9000000, ?_⟩
  unfold laws_FnExactMendEntry.f
  obtain ⟨r, hr, _, hz⟩ := szMend_ok b ep sl seen pl wr hsl.1 ⟨hseen.1, fun e he => (hseen.2 e he).2.2.2⟩ ⟨hwr.1, fun e he => (hwr.2 e he).1⟩ 1048576 (by omega) (by omega) 9000000 (by omega)
  rw [hr]
  simp only [Option.bind_some]
  by_cases hneg : r < 0
  · rw [if_pos hneg]
  · obtain ⟨z1, z2, z3⟩ := hz (by omega)
    have hlen : (seen.map cEntry).length ≤ 1048576 := by simpa using z2.1
    rw [if_neg hneg, toMend_is b ep sl seen pl wr z1 z2 z3 _ (by omega)]
    simp only [Option.bind_some]
    rw [spec_MendEntry_is _ _ _ _ _ _ _ hlen _ (by omega), impl_MendEntry_is _ _ _ _ _ _ _ hlen _ (by omega)]
    simp only [Option.bind_some]
    rw [eqEntry_self]
    simp only [Option.bind_some, if_true, bne_self_eq_false]
    rw [show (9000000 : Nat) = 8999999 + 1 from rfl]
    simp only [laws_FnExactMendEntry.j0]
    rw [if_neg (by decide), toMend_is b ep sl seen pl wr z1 z2 z3 _ (by omega)]
    simp only [Option.bind_some]
    rw [eqMend_self b ep sl _ pl wr z1 ⟨hlen, fun e he => by obtain ⟨x, hx, rfl⟩ := List.mem_map.1 he; exact z2.2 x hx⟩ z3 _ (by omega)]
    rfl

end Go.Proofs.Ytdkdhciogedoiaa.Pure
