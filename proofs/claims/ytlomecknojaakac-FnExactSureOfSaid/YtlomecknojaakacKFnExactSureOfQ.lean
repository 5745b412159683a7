/- The program's SureOf answers for each world and epoch what the reference's answers, and leaves the world as it was. No conditions. -/
import Derived.Test.YtlomecknojaakacKFnExactSureOfG
import Derived.Test.YtlomecknojaakacKFnExactSureOfD
namespace Go.Proofs.Ytlomecknojaakac.Pure
open Go.RowKit Go.Proofs.Ytlomecknojaakac.PFnExactSureOf Go.Proofs.YtlomecknojaakacW.PrintWords Go.Proofs.YtlomecknojaakacW.PrintLast Go.Proofs.YtlomecknojaakacW.Opn Go.Proofs.Ytlomecknojaakac.GFnExactSureOf
set_option linter.unusedVariables false
set_option linter.unusedSimpArgs false
theorem wrap_id {x : Int} (h0 : -9223372036854775808 ≤ x) (h1 : x ≤ 9223372036854775807) : wrap64 x = x := by
  unfold wrap64
  omega
def inB (x a b : Int) : Bool := decide (a ≤ x) && decide (x ≤ b)
theorem inB_true {x a b : Int} : inB x a b = true ↔ a ≤ x ∧ x ≤ b := by simp [inB]
def cfgOk (ds : List Int) (c : Int) : Bool := inB (ds.length : Int) 1 8 && inB c 1 4 && ds.all (fun d => inB d 0 7)
def Asc (l : List Int) (lo hi : Int) : Prop := ∀ i : Nat, i < l.length → (lo ≤ l.getD i 0 ∧ l.getD i 0 ≤ hi) ∧ (0 < i → l.getD (i - 1) 0 < l.getD i 0)
instance (l : List Int) (lo hi : Int) : Decidable (Asc l lo hi) := by unfold Asc; infer_instance
def nodesOk (ds : List Int) (c : Int) (l : List Int) : Bool := cfgOk ds c && decide (Asc l 0 ((ds.length : Int) - 1))
def domsOf (ds : List Int) : List Int → List Int → List Int
  | [], acc => acc
  | n :: l, acc => domsOf ds l (if acc.contains (rd ds n) then acc else acc ++ [rd ds n])
def spanOf (ds l : List Int) : Int := ((domsOf ds l []).length : Int)
def holdsB (ds : List Int) (c : Int) (l : List Int) : Bool := nodesOk ds c l && decide (c ≤ spanOf ds l)
theorem rd_nat (l : List Int) (i : Nat) : rd l (i : Int) = l.getD i 0 := by simp [rd]
theorem rd_drop (l : List Int) (i : Nat) (h : i < l.length) : l.drop i = rd l (i : Int) :: l.drop (i + 1) := by
  rw [List.drop_eq_getElem_cons h, rd_nat, List.getD_eq_getElem?_getD, List.getElem?_eq_getElem h]
  rfl
theorem cfgOk_len {ds : List Int} {c : Int} (h : cfgOk ds c = true) : 1 ≤ ds.length ∧ ds.length ≤ 8 ∧ 1 ≤ c ∧ c ≤ 4 ∧ ∀ d ∈ ds, 0 ≤ d ∧ d ≤ 7 := by
  simp only [cfgOk, Bool.and_eq_true, inB_true, List.all_eq_true] at h
  obtain ⟨⟨h1, h2⟩, h3⟩ := h
  exact ⟨by omega, by omega, h2.1, h2.2, h3⟩
theorem Asc_mem {l : List Int} {lo hi : Int} (h : Asc l lo hi) {x : Int} (hx : x ∈ l) : lo ≤ x ∧ x ≤ hi := by
  obtain ⟨i, hi', rfl⟩ := List.getElem_of_mem hx
  have := (h i hi').1
  rwa [List.getD_eq_getElem?_getD, List.getElem?_eq_getElem hi'] at this
def InR (x : Int) : Prop := -9223372036854775808 ≤ x ∧ x ≤ 9223372036854775807
theorem InR_of {x : Int} (h : (Lit.int .i64 x).wf = true) : InR x := by
  simp [Lit.wf, IntKind.min, IntKind.max, IntKind.signed, IntKind.bits] at h
  exact ⟨by omega, by omega⟩
def placeOk (x : Int) : Bool := decide (0 < x) && (inB (x / 4294967296) 1 30 && inB (x % 4294967296) 1 60)
def epochOf (x : Int) : Int := if placeOk x = true then x / 4294967296 else 0
def offOf (x : Int) : Int := if placeOk x = true then x % 4294967296 else 0
def placeMake (e o : Int) : Int × Bool := if inB e 1 30 = true ∧ inB o 1 60 = true then (4294967296 * e + o, true) else (0, false)
theorem tdiv_pos {x : Int} (h : 0 ≤ x) : Int.tdiv x 4294967296 = x / 4294967296 := Int.tdiv_eq_ediv_of_nonneg h
theorem tmod_pos {x : Int} (h : 0 ≤ x) : Int.tmod x 4294967296 = x % 4294967296 := Int.tmod_eq_emod_of_nonneg h
theorem tdiv_neg' {x : Int} (h : x ≤ 0) : Int.tdiv x 4294967296 = -((-x) / 4294967296) := by
  have h1 : Int.tdiv (-x) 4294967296 = (-x) / 4294967296 := Int.tdiv_eq_ediv_of_nonneg (by omega)
  have h2 := Int.neg_tdiv (-x) 4294967296
  rw [Int.neg_neg] at h2
  rw [h2, h1]
theorem epochOf_pos {x : Int} (h : placeOk x = true) : epochOf x = x / 4294967296 ∧ 1 ≤ epochOf x ∧ epochOf x ≤ 30 := by
  have h' := h
  simp only [placeOk, Bool.and_eq_true, inB_true, decide_eq_true_eq] at h'
  unfold epochOf
  rw [if_pos h]
  omega
theorem szIntS_ok (l : List Int) (hl : l.length ≤ 9223372036854775807) (n : Int) (h0 : 0 ≤ n) (hn : n ≤ 1048576) : ∃ r, laws_szIntS.f l n = some r ∧ r ≤ n ∧ (0 ≤ r → l.length ≤ 1048576) := by
  unfold laws_szIntS.f
  rw [wrap_id (by omega) (by omega)]
  split
  · exact ⟨-1, rfl, by omega, fun h => by omega⟩
  · exact ⟨n - l.length, rfl, by omega, fun _ => by omega⟩
theorem szConfig_ok (a0 : List Int) (a1 : Int) (ha0 : a0.length ≤ 9223372036854775807) (n : Int) (h0 : 0 ≤ n) (hn : n ≤ 1048576) : ∃ r, laws_szConfig.f a0 a1 n = some r ∧ r ≤ n ∧ (0 ≤ r → a0.length ≤ 1048576) := by
  unfold laws_szConfig.f
  obtain ⟨r0, e0, m0, z0⟩ := szIntS_ok a0 ha0 n (by omega) (by omega)
  rw [e0]
  simp only [Option.bind_some]
  by_cases g0 : r0 < 0
  · rw [if_pos g0]
    exact ⟨-1, rfl, by omega, fun h => by omega⟩
  · rw [if_neg g0]
    exact ⟨r0, rfl, by omega, fun _ => (z0 (by omega))⟩
theorem szEntry_ok (a0 : Int) (a1 : Int) (a2 : Bool) (a3 : ByteArray) (ha3 : a3.size ≤ 9223372036854775807) (n : Int) (h0 : 0 ≤ n) (hn : n ≤ 1048576) : ∃ r, laws_szEntry.f a0 a1 a2 a3 n = some r ∧ r ≤ n ∧ (0 ≤ r → a3.size ≤ 1048576) := by
  unfold laws_szEntry.f
  rw [wrap_id (by omega) (by omega)]
  by_cases g0 : n - (a3.size : Int) < 0
  · rw [if_pos g0]
    exact ⟨-1, rfl, by omega, fun h => by omega⟩
  · rw [if_neg g0]
    exact ⟨(n - (a3.size : Int)), rfl, by omega, fun _ => (by omega)⟩
theorem szEntryS_l (l : List S167) (hl : (l.length ≤ 9223372036854775807 ∧ ∀ e0 ∈ l, (e0.f3.size ≤ 9223372036854775807))) (d : Nat) : ∀ (k : Nat) (n i : Int), 0 ≤ n → n ≤ 1048576 → 0 ≤ i → (l.length : Int) - i ≤ d → i ≤ l.length → d + 0 < k → (∀ j : Nat, (j : Int) < i → ∀ x, l[j]? = some x → (x.f3.size ≤ 1048576)) →
    ∃ r, laws_szEntryS.l0 k l n i = some r ∧ r ≤ n ∧ (0 ≤ r → ∀ x ∈ l, (x.f3.size ≤ 1048576)) := by
  induction d with
  | zero =>
    intro k n i hn0 hn h0 h1 h2 hk hj
    obtain ⟨k, rfl⟩ : ∃ m, k = m + 1 := ⟨k - 1, by omega⟩
    refine ⟨n, by simp only [laws_szEntryS.l0]; rw [if_neg (by omega)], by omega, fun _ x hx => ?_⟩
    obtain ⟨j, hjl, rfl⟩ := List.getElem_of_mem hx
    exact hj j (by omega) _ (List.getElem?_eq_getElem hjl)
  | succ d ih =>
    intro k n i hn0 hn h0 h1 h2 hk hj
    obtain ⟨k, rfl⟩ : ∃ m, k = m + 1 := ⟨k - 1, by omega⟩
    simp only [laws_szEntryS.l0]
    by_cases h : i < (l.length : Int)
    · rw [if_pos h, if_pos h0]
      have hg : (rd_T167 l i) = l[i.toNat]'(by omega) := by simp [rd_T167, List.getD_eq_getElem?_getD, List.getElem?_eq_getElem (show i.toNat < l.length by omega)]
      have he := hl.2 (l[i.toNat]'(by omega)) (List.getElem_mem _)
      rw [← hg] at he
      obtain ⟨r, hr, hrn, hz⟩ := szEntry_ok (rd_T167 l i).f0 (rd_T167 l i).f1 (rd_T167 l i).f2 (rd_T167 l i).f3 he n hn0 hn
      rw [hr]
      simp only [Option.bind_some]
      by_cases hneg : r < 0
      · rw [if_pos hneg]
        exact ⟨-1, rfl, by omega, fun h => by omega⟩
      · rw [if_neg hneg, wrap_id (by have := hl.1; omega) (by have := hl.1; omega)]
        obtain ⟨r', hr', hrn', hz'⟩ := ih k r (i + 1) (by omega) (by omega) (by omega) (by omega) (by omega) (by omega) (by
          intro j hji x hx
          by_cases e : (j : Int) < i
          · exact hj j e x hx
          · have ej : j = i.toNat := by omega
            subst ej
            rw [List.getElem?_eq_getElem (show i.toNat < l.length by omega)] at hx
            cases hx
            rw [← hg]
            exact hz (by omega))
        exact ⟨r', hr', by omega, hz'⟩
    · rw [if_neg h]
      refine ⟨n, rfl, by omega, fun _ x hx => ?_⟩
      obtain ⟨j, hjl, rfl⟩ := List.getElem_of_mem hx
      exact hj j (by omega) _ (List.getElem?_eq_getElem hjl)
theorem szEntryS_ok (l : List S167) (hl : (l.length ≤ 9223372036854775807 ∧ ∀ e0 ∈ l, (e0.f3.size ≤ 9223372036854775807))) (n : Int) (h0 : 0 ≤ n) (hn : n ≤ 1048576) (k : Nat) (hk : 1048576 < k) : ∃ r, laws_szEntryS.f k l n = some r ∧ r ≤ n ∧ (0 ≤ r → (l.length ≤ 1048576 ∧ ∀ e0 ∈ l, (e0.f3.size ≤ 1048576))) := by
  unfold laws_szEntryS.f
  rw [wrap_id (by have := hl.1; omega) (by have := hl.1; omega)]
  by_cases h : n - (l.length : Int) < 0
  · rw [if_pos h]
    exact ⟨-1, rfl, by omega, fun h => by omega⟩
  · rw [if_neg h]
    obtain ⟨r, hr, hrn, hz⟩ := szEntryS_l l hl l.length k (n - l.length) 0 (by omega) (by omega) (by omega) (by omega) (by omega) (by omega) (fun j hj => by omega)
    exact ⟨r, hr, by omega, fun h => ⟨by omega, hz h⟩⟩
theorem szStore_ok (a0 : List S167) (a1 : List S167) (a2 : Int) (ha0 : (a0.length ≤ 9223372036854775807 ∧ ∀ e0 ∈ a0, (e0.f3.size ≤ 9223372036854775807))) (ha1 : (a1.length ≤ 9223372036854775807 ∧ ∀ e0 ∈ a1, (e0.f3.size ≤ 9223372036854775807))) (n : Int) (h0 : 0 ≤ n) (hn : n ≤ 1048576) (k : Nat) (hk : 1048576 < k) : ∃ r, laws_szStore.f k a0 a1 a2 n = some r ∧ r ≤ n ∧ (0 ≤ r → (a0.length ≤ 1048576 ∧ ∀ e0 ∈ a0, (e0.f3.size ≤ 1048576)) ∧ (a1.length ≤ 1048576 ∧ ∀ e0 ∈ a1, (e0.f3.size ≤ 1048576))) := by
  unfold laws_szStore.f
  obtain ⟨r0, e0, m0, z0⟩ := szEntryS_ok a0 ha0 n (by omega) (by omega) k (by omega)
  rw [e0]
  simp only [Option.bind_some]
  by_cases g0 : r0 < 0
  · rw [if_pos g0]
    exact ⟨-1, rfl, by omega, fun h => by omega⟩
  · rw [if_neg g0]
    obtain ⟨r1, e1, m1, z1⟩ := szEntryS_ok a1 ha1 r0 (by omega) (by omega) k (by omega)
    rw [e1]
    simp only [Option.bind_some]
    by_cases g1 : r1 < 0
    · rw [if_pos g1]
      exact ⟨-1, rfl, by omega, fun h => by omega⟩
    · rw [if_neg g1]
      exact ⟨r1, rfl, by omega, fun _ => ⟨(z0 (by omega)), (z1 (by omega))⟩⟩
theorem szStoreS_l (l : List S160) (hl : (l.length ≤ 9223372036854775807 ∧ ∀ e0 ∈ l, ((e0.f0.length ≤ 9223372036854775807 ∧ ∀ e1 ∈ e0.f0, (e1.f3.size ≤ 9223372036854775807)) ∧ (e0.f1.length ≤ 9223372036854775807 ∧ ∀ e1 ∈ e0.f1, (e1.f3.size ≤ 9223372036854775807))))) (d : Nat) : ∀ (k : Nat) (n i : Int), 0 ≤ n → n ≤ 1048576 → 0 ≤ i → (l.length : Int) - i ≤ d → i ≤ l.length → d + 1048576 < k → (∀ j : Nat, (j : Int) < i → ∀ x, l[j]? = some x → ((x.f0.length ≤ 1048576 ∧ ∀ e0 ∈ x.f0, (e0.f3.size ≤ 1048576)) ∧ (x.f1.length ≤ 1048576 ∧ ∀ e0 ∈ x.f1, (e0.f3.size ≤ 1048576)))) →
    ∃ r, laws_szStoreS.l0 k l n i = some r ∧ r ≤ n ∧ (0 ≤ r → ∀ x ∈ l, ((x.f0.length ≤ 1048576 ∧ ∀ e0 ∈ x.f0, (e0.f3.size ≤ 1048576)) ∧ (x.f1.length ≤ 1048576 ∧ ∀ e0 ∈ x.f1, (e0.f3.size ≤ 1048576)))) := by
  induction d with
  | zero =>
    intro k n i hn0 hn h0 h1 h2 hk hj
    obtain ⟨k, rfl⟩ : ∃ m, k = m + 1 := ⟨k - 1, by omega⟩
    refine ⟨n, by simp only [laws_szStoreS.l0]; rw [if_neg (by omega)], by omega, fun _ x hx => ?_⟩
    obtain ⟨j, hjl, rfl⟩ := List.getElem_of_mem hx
    exact hj j (by omega) _ (List.getElem?_eq_getElem hjl)
  | succ d ih =>
    intro k n i hn0 hn h0 h1 h2 hk hj
    obtain ⟨k, rfl⟩ : ∃ m, k = m + 1 := ⟨k - 1, by omega⟩
    simp only [laws_szStoreS.l0]
    by_cases h : i < (l.length : Int)
    · rw [if_pos h, if_pos h0]
      have hg : (rd_T160 l i) = l[i.toNat]'(by omega) := by simp [rd_T160, List.getD_eq_getElem?_getD, List.getElem?_eq_getElem (show i.toNat < l.length by omega)]
      have he := hl.2 (l[i.toNat]'(by omega)) (List.getElem_mem _)
      rw [← hg] at he
      obtain ⟨r, hr, hrn, hz⟩ := szStore_ok (rd_T160 l i).f0 (rd_T160 l i).f1 (rd_T160 l i).f2 he.1 he.2 n hn0 hn k (by omega)
      rw [hr]
      simp only [Option.bind_some]
      by_cases hneg : r < 0
      · rw [if_pos hneg]
        exact ⟨-1, rfl, by omega, fun h => by omega⟩
      · rw [if_neg hneg, wrap_id (by have := hl.1; omega) (by have := hl.1; omega)]
        obtain ⟨r', hr', hrn', hz'⟩ := ih k r (i + 1) (by omega) (by omega) (by omega) (by omega) (by omega) (by omega) (by
          intro j hji x hx
          by_cases e : (j : Int) < i
          · exact hj j e x hx
          · have ej : j = i.toNat := by omega
            subst ej
            rw [List.getElem?_eq_getElem (show i.toNat < l.length by omega)] at hx
            cases hx
            rw [← hg]
            exact hz (by omega))
        exact ⟨r', hr', by omega, hz'⟩
    · rw [if_neg h]
      refine ⟨n, rfl, by omega, fun _ x hx => ?_⟩
      obtain ⟨j, hjl, rfl⟩ := List.getElem_of_mem hx
      exact hj j (by omega) _ (List.getElem?_eq_getElem hjl)
theorem szStoreS_ok (l : List S160) (hl : (l.length ≤ 9223372036854775807 ∧ ∀ e0 ∈ l, ((e0.f0.length ≤ 9223372036854775807 ∧ ∀ e1 ∈ e0.f0, (e1.f3.size ≤ 9223372036854775807)) ∧ (e0.f1.length ≤ 9223372036854775807 ∧ ∀ e1 ∈ e0.f1, (e1.f3.size ≤ 9223372036854775807))))) (n : Int) (h0 : 0 ≤ n) (hn : n ≤ 1048576) (k : Nat) (hk : 2097152 < k) : ∃ r, laws_szStoreS.f k l n = some r ∧ r ≤ n ∧ (0 ≤ r → (l.length ≤ 1048576 ∧ ∀ e0 ∈ l, ((e0.f0.length ≤ 1048576 ∧ ∀ e1 ∈ e0.f0, (e1.f3.size ≤ 1048576)) ∧ (e0.f1.length ≤ 1048576 ∧ ∀ e1 ∈ e0.f1, (e1.f3.size ≤ 1048576))))) := by
  unfold laws_szStoreS.f
  rw [wrap_id (by have := hl.1; omega) (by have := hl.1; omega)]
  by_cases h : n - (l.length : Int) < 0
  · rw [if_pos h]
    exact ⟨-1, rfl, by omega, fun h => by omega⟩
  · rw [if_neg h]
    obtain ⟨r, hr, hrn, hz⟩ := szStoreS_l l hl l.length k (n - l.length) 0 (by omega) (by omega) (by omega) (by omega) (by omega) (by omega) (fun j hj => by omega)
    exact ⟨r, hr, by omega, fun h => ⟨by omega, hz h⟩⟩
theorem szEra_ok (a0 : List Int) (a1 : Bool) (a2 : Int) (ha0 : a0.length ≤ 9223372036854775807) (n : Int) (h0 : 0 ≤ n) (hn : n ≤ 1048576) : ∃ r, laws_szEra.f a0 a1 a2 n = some r ∧ r ≤ n ∧ (0 ≤ r → a0.length ≤ 1048576) := by
  unfold laws_szEra.f
  obtain ⟨r0, e0, m0, z0⟩ := szIntS_ok a0 ha0 n (by omega) (by omega)
  rw [e0]
  simp only [Option.bind_some]
  by_cases g0 : r0 < 0
  · rw [if_pos g0]
    exact ⟨-1, rfl, by omega, fun h => by omega⟩
  · rw [if_neg g0]
    exact ⟨r0, rfl, by omega, fun _ => (z0 (by omega))⟩
theorem szEraS_l (l : List S240) (hl : (l.length ≤ 9223372036854775807 ∧ ∀ e0 ∈ l, (e0.f0.length ≤ 9223372036854775807))) (d : Nat) : ∀ (k : Nat) (n i : Int), 0 ≤ n → n ≤ 1048576 → 0 ≤ i → (l.length : Int) - i ≤ d → i ≤ l.length → d + 1048576 < k → (∀ j : Nat, (j : Int) < i → ∀ x, l[j]? = some x → (x.f0.length ≤ 1048576)) →
    ∃ r, laws_szEraS.l0 k l n i = some r ∧ r ≤ n ∧ (0 ≤ r → ∀ x ∈ l, (x.f0.length ≤ 1048576)) := by
  induction d with
  | zero =>
    intro k n i hn0 hn h0 h1 h2 hk hj
    obtain ⟨k, rfl⟩ : ∃ m, k = m + 1 := ⟨k - 1, by omega⟩
    refine ⟨n, by simp only [laws_szEraS.l0]; rw [if_neg (by omega)], by omega, fun _ x hx => ?_⟩
    obtain ⟨j, hjl, rfl⟩ := List.getElem_of_mem hx
    exact hj j (by omega) _ (List.getElem?_eq_getElem hjl)
  | succ d ih =>
    intro k n i hn0 hn h0 h1 h2 hk hj
    obtain ⟨k, rfl⟩ : ∃ m, k = m + 1 := ⟨k - 1, by omega⟩
    simp only [laws_szEraS.l0]
    by_cases h : i < (l.length : Int)
    · rw [if_pos h, if_pos h0]
      have hg : (rd_T240 l i) = l[i.toNat]'(by omega) := by simp [rd_T240, List.getD_eq_getElem?_getD, List.getElem?_eq_getElem (show i.toNat < l.length by omega)]
      have he := hl.2 (l[i.toNat]'(by omega)) (List.getElem_mem _)
      rw [← hg] at he
      obtain ⟨r, hr, hrn, hz⟩ := szEra_ok (rd_T240 l i).f0 (rd_T240 l i).f1 (rd_T240 l i).f2 he n hn0 hn
      rw [hr]
      simp only [Option.bind_some]
      by_cases hneg : r < 0
      · rw [if_pos hneg]
        exact ⟨-1, rfl, by omega, fun h => by omega⟩
      · rw [if_neg hneg, wrap_id (by have := hl.1; omega) (by have := hl.1; omega)]
        obtain ⟨r', hr', hrn', hz'⟩ := ih k r (i + 1) (by omega) (by omega) (by omega) (by omega) (by omega) (by omega) (by
          intro j hji x hx
          by_cases e : (j : Int) < i
          · exact hj j e x hx
          · have ej : j = i.toNat := by omega
            subst ej
            rw [List.getElem?_eq_getElem (show i.toNat < l.length by omega)] at hx
            cases hx
            rw [← hg]
            exact hz (by omega))
        exact ⟨r', hr', by omega, hz'⟩
    · rw [if_neg h]
      refine ⟨n, rfl, by omega, fun _ x hx => ?_⟩
      obtain ⟨j, hjl, rfl⟩ := List.getElem_of_mem hx
      exact hj j (by omega) _ (List.getElem?_eq_getElem hjl)
theorem szEraS_ok (l : List S240) (hl : (l.length ≤ 9223372036854775807 ∧ ∀ e0 ∈ l, (e0.f0.length ≤ 9223372036854775807))) (n : Int) (h0 : 0 ≤ n) (hn : n ≤ 1048576) (k : Nat) (hk : 2097152 < k) : ∃ r, laws_szEraS.f k l n = some r ∧ r ≤ n ∧ (0 ≤ r → (l.length ≤ 1048576 ∧ ∀ e0 ∈ l, (e0.f0.length ≤ 1048576))) := by
  unfold laws_szEraS.f
  rw [wrap_id (by have := hl.1; omega) (by have := hl.1; omega)]
  by_cases h : n - (l.length : Int) < 0
  · rw [if_pos h]
    exact ⟨-1, rfl, by omega, fun h => by omega⟩
  · rw [if_neg h]
    obtain ⟨r, hr, hrn, hz⟩ := szEraS_l l hl l.length k (n - l.length) 0 (by omega) (by omega) (by omega) (by omega) (by omega) (by omega) (fun j hj => by omega)
    exact ⟨r, hr, by omega, fun h => ⟨by omega, hz h⟩⟩
theorem szRegister_ok (a0 : List S240) (a1 : Int) (ha0 : (a0.length ≤ 9223372036854775807 ∧ ∀ e0 ∈ a0, (e0.f0.length ≤ 9223372036854775807))) (n : Int) (h0 : 0 ≤ n) (hn : n ≤ 1048576) (k : Nat) (hk : 2097152 < k) : ∃ r, laws_szRegister.f k a0 a1 n = some r ∧ r ≤ n ∧ (0 ≤ r → (a0.length ≤ 1048576 ∧ ∀ e0 ∈ a0, (e0.f0.length ≤ 1048576))) := by
  unfold laws_szRegister.f
  obtain ⟨r0, e0, m0, z0⟩ := szEraS_ok a0 ha0 n (by omega) (by omega) k (by omega)
  rw [e0]
  simp only [Option.bind_some]
  by_cases g0 : r0 < 0
  · rw [if_pos g0]
    exact ⟨-1, rfl, by omega, fun h => by omega⟩
  · rw [if_neg g0]
    exact ⟨r0, rfl, by omega, fun _ => (z0 (by omega))⟩
theorem szWord_ok (a0 : ByteArray) (a1 : List Int) (a2 : Bool) (ha0 : a0.size ≤ 9223372036854775807) (ha1 : a1.length ≤ 9223372036854775807) (n : Int) (h0 : 0 ≤ n) (hn : n ≤ 1048576) : ∃ r, laws_szWord.f a0 a1 a2 n = some r ∧ r ≤ n ∧ (0 ≤ r → a0.size ≤ 1048576 ∧ a1.length ≤ 1048576) := by
  unfold laws_szWord.f
  rw [wrap_id (by omega) (by omega)]
  by_cases g0 : n - (a0.size : Int) < 0
  · rw [if_pos g0]
    exact ⟨-1, rfl, by omega, fun h => by omega⟩
  · rw [if_neg g0]
    obtain ⟨r1, e1, m1, z1⟩ := szIntS_ok a1 ha1 (n - (a0.size : Int)) (by omega) (by omega)
    rw [e1]
    simp only [Option.bind_some]
    by_cases g1 : r1 < 0
    · rw [if_pos g1]
      exact ⟨-1, rfl, by omega, fun h => by omega⟩
    · rw [if_neg g1]
      exact ⟨r1, rfl, by omega, fun _ => ⟨(by omega), (z1 (by omega))⟩⟩
theorem szWordS_l (l : List S270) (hl : (l.length ≤ 9223372036854775807 ∧ ∀ e0 ∈ l, (e0.f0.size ≤ 9223372036854775807 ∧ e0.f1.length ≤ 9223372036854775807))) (d : Nat) : ∀ (k : Nat) (n i : Int), 0 ≤ n → n ≤ 1048576 → 0 ≤ i → (l.length : Int) - i ≤ d → i ≤ l.length → d + 1048576 < k → (∀ j : Nat, (j : Int) < i → ∀ x, l[j]? = some x → (x.f0.size ≤ 1048576 ∧ x.f1.length ≤ 1048576)) →
    ∃ r, laws_szWordS.l0 k l n i = some r ∧ r ≤ n ∧ (0 ≤ r → ∀ x ∈ l, (x.f0.size ≤ 1048576 ∧ x.f1.length ≤ 1048576)) := by
  induction d with
  | zero =>
    intro k n i hn0 hn h0 h1 h2 hk hj
    obtain ⟨k, rfl⟩ : ∃ m, k = m + 1 := ⟨k - 1, by omega⟩
    refine ⟨n, by simp only [laws_szWordS.l0]; rw [if_neg (by omega)], by omega, fun _ x hx => ?_⟩
    obtain ⟨j, hjl, rfl⟩ := List.getElem_of_mem hx
    exact hj j (by omega) _ (List.getElem?_eq_getElem hjl)
  | succ d ih =>
    intro k n i hn0 hn h0 h1 h2 hk hj
    obtain ⟨k, rfl⟩ : ∃ m, k = m + 1 := ⟨k - 1, by omega⟩
    simp only [laws_szWordS.l0]
    by_cases h : i < (l.length : Int)
    · rw [if_pos h, if_pos h0]
      have hg : (rd_T270 l i) = l[i.toNat]'(by omega) := by simp [rd_T270, List.getD_eq_getElem?_getD, List.getElem?_eq_getElem (show i.toNat < l.length by omega)]
      have he := hl.2 (l[i.toNat]'(by omega)) (List.getElem_mem _)
      rw [← hg] at he
      obtain ⟨r, hr, hrn, hz⟩ := szWord_ok (rd_T270 l i).f0 (rd_T270 l i).f1 (rd_T270 l i).f2 he.1 he.2 n hn0 hn
      rw [hr]
      simp only [Option.bind_some]
      by_cases hneg : r < 0
      · rw [if_pos hneg]
        exact ⟨-1, rfl, by omega, fun h => by omega⟩
      · rw [if_neg hneg, wrap_id (by have := hl.1; omega) (by have := hl.1; omega)]
        obtain ⟨r', hr', hrn', hz'⟩ := ih k r (i + 1) (by omega) (by omega) (by omega) (by omega) (by omega) (by omega) (by
          intro j hji x hx
          by_cases e : (j : Int) < i
          · exact hj j e x hx
          · have ej : j = i.toNat := by omega
            subst ej
            rw [List.getElem?_eq_getElem (show i.toNat < l.length by omega)] at hx
            cases hx
            rw [← hg]
            exact hz (by omega))
        exact ⟨r', hr', by omega, hz'⟩
    · rw [if_neg h]
      refine ⟨n, rfl, by omega, fun _ x hx => ?_⟩
      obtain ⟨j, hjl, rfl⟩ := List.getElem_of_mem hx
      exact hj j (by omega) _ (List.getElem?_eq_getElem hjl)
theorem szWordS_ok (l : List S270) (hl : (l.length ≤ 9223372036854775807 ∧ ∀ e0 ∈ l, (e0.f0.size ≤ 9223372036854775807 ∧ e0.f1.length ≤ 9223372036854775807))) (n : Int) (h0 : 0 ≤ n) (hn : n ≤ 1048576) (k : Nat) (hk : 2097152 < k) : ∃ r, laws_szWordS.f k l n = some r ∧ r ≤ n ∧ (0 ≤ r → (l.length ≤ 1048576 ∧ ∀ e0 ∈ l, (e0.f0.size ≤ 1048576 ∧ e0.f1.length ≤ 1048576))) := by
  unfold laws_szWordS.f
  rw [wrap_id (by have := hl.1; omega) (by have := hl.1; omega)]
  by_cases h : n - (l.length : Int) < 0
  · rw [if_pos h]
    exact ⟨-1, rfl, by omega, fun h => by omega⟩
  · rw [if_neg h]
    obtain ⟨r, hr, hrn, hz⟩ := szWordS_l l hl l.length k (n - l.length) 0 (by omega) (by omega) (by omega) (by omega) (by omega) (by omega) (fun j hj => by omega)
    exact ⟨r, hr, by omega, fun h => ⟨by omega, hz h⟩⟩
theorem szWriter_ok (a0 : Int) (a1 : List S270) (ha1 : (a1.length ≤ 9223372036854775807 ∧ ∀ e0 ∈ a1, (e0.f0.size ≤ 9223372036854775807 ∧ e0.f1.length ≤ 9223372036854775807))) (n : Int) (h0 : 0 ≤ n) (hn : n ≤ 1048576) (k : Nat) (hk : 2097152 < k) : ∃ r, laws_szWriter.f k a0 a1 n = some r ∧ r ≤ n ∧ (0 ≤ r → (a1.length ≤ 1048576 ∧ ∀ e0 ∈ a1, (e0.f0.size ≤ 1048576 ∧ e0.f1.length ≤ 1048576))) := by
  unfold laws_szWriter.f
  obtain ⟨r0, e0, m0, z0⟩ := szWordS_ok a1 ha1 n (by omega) (by omega) k (by omega)
  rw [e0]
  simp only [Option.bind_some]
  by_cases g0 : r0 < 0
  · rw [if_pos g0]
    exact ⟨-1, rfl, by omega, fun h => by omega⟩
  · rw [if_neg g0]
    exact ⟨r0, rfl, by omega, fun _ => (z0 (by omega))⟩
theorem szWriterS_l (l : List S228) (hl : (l.length ≤ 9223372036854775807 ∧ ∀ e0 ∈ l, ((e0.f1.length ≤ 9223372036854775807 ∧ ∀ e1 ∈ e0.f1, (e1.f0.size ≤ 9223372036854775807 ∧ e1.f1.length ≤ 9223372036854775807))))) (d : Nat) : ∀ (k : Nat) (n i : Int), 0 ≤ n → n ≤ 1048576 → 0 ≤ i → (l.length : Int) - i ≤ d → i ≤ l.length → d + 2097152 < k → (∀ j : Nat, (j : Int) < i → ∀ x, l[j]? = some x → ((x.f1.length ≤ 1048576 ∧ ∀ e0 ∈ x.f1, (e0.f0.size ≤ 1048576 ∧ e0.f1.length ≤ 1048576)))) →
    ∃ r, laws_szWriterS.l0 k l n i = some r ∧ r ≤ n ∧ (0 ≤ r → ∀ x ∈ l, ((x.f1.length ≤ 1048576 ∧ ∀ e0 ∈ x.f1, (e0.f0.size ≤ 1048576 ∧ e0.f1.length ≤ 1048576)))) := by
  induction d with
  | zero =>
    intro k n i hn0 hn h0 h1 h2 hk hj
    obtain ⟨k, rfl⟩ : ∃ m, k = m + 1 := ⟨k - 1, by omega⟩
    refine ⟨n, by simp only [laws_szWriterS.l0]; rw [if_neg (by omega)], by omega, fun _ x hx => ?_⟩
    obtain ⟨j, hjl, rfl⟩ := List.getElem_of_mem hx
    exact hj j (by omega) _ (List.getElem?_eq_getElem hjl)
  | succ d ih =>
    intro k n i hn0 hn h0 h1 h2 hk hj
    obtain ⟨k, rfl⟩ : ∃ m, k = m + 1 := ⟨k - 1, by omega⟩
    simp only [laws_szWriterS.l0]
    by_cases h : i < (l.length : Int)
    · rw [if_pos h, if_pos h0]
      have hg : (rd_T228 l i) = l[i.toNat]'(by omega) := by simp [rd_T228, List.getD_eq_getElem?_getD, List.getElem?_eq_getElem (show i.toNat < l.length by omega)]
      have he := hl.2 (l[i.toNat]'(by omega)) (List.getElem_mem _)
      rw [← hg] at he
      obtain ⟨r, hr, hrn, hz⟩ := szWriter_ok (rd_T228 l i).f0 (rd_T228 l i).f1 he n hn0 hn k (by omega)
      rw [hr]
      simp only [Option.bind_some]
      by_cases hneg : r < 0
      · rw [if_pos hneg]
        exact ⟨-1, rfl, by omega, fun h => by omega⟩
      · rw [if_neg hneg, wrap_id (by have := hl.1; omega) (by have := hl.1; omega)]
        obtain ⟨r', hr', hrn', hz'⟩ := ih k r (i + 1) (by omega) (by omega) (by omega) (by omega) (by omega) (by omega) (by
          intro j hji x hx
          by_cases e : (j : Int) < i
          · exact hj j e x hx
          · have ej : j = i.toNat := by omega
            subst ej
            rw [List.getElem?_eq_getElem (show i.toNat < l.length by omega)] at hx
            cases hx
            rw [← hg]
            exact hz (by omega))
        exact ⟨r', hr', by omega, hz'⟩
    · rw [if_neg h]
      refine ⟨n, rfl, by omega, fun _ x hx => ?_⟩
      obtain ⟨j, hjl, rfl⟩ := List.getElem_of_mem hx
      exact hj j (by omega) _ (List.getElem?_eq_getElem hjl)
theorem szWriterS_ok (l : List S228) (hl : (l.length ≤ 9223372036854775807 ∧ ∀ e0 ∈ l, ((e0.f1.length ≤ 9223372036854775807 ∧ ∀ e1 ∈ e0.f1, (e1.f0.size ≤ 9223372036854775807 ∧ e1.f1.length ≤ 9223372036854775807))))) (n : Int) (h0 : 0 ≤ n) (hn : n ≤ 1048576) (k : Nat) (hk : 3145728 < k) : ∃ r, laws_szWriterS.f k l n = some r ∧ r ≤ n ∧ (0 ≤ r → (l.length ≤ 1048576 ∧ ∀ e0 ∈ l, ((e0.f1.length ≤ 1048576 ∧ ∀ e1 ∈ e0.f1, (e1.f0.size ≤ 1048576 ∧ e1.f1.length ≤ 1048576))))) := by
  unfold laws_szWriterS.f
  rw [wrap_id (by have := hl.1; omega) (by have := hl.1; omega)]
  by_cases h : n - (l.length : Int) < 0
  · rw [if_pos h]
    exact ⟨-1, rfl, by omega, fun h => by omega⟩
  · rw [if_neg h]
    obtain ⟨r, hr, hrn, hz⟩ := szWriterS_l l hl l.length k (n - l.length) 0 (by omega) (by omega) (by omega) (by omega) (by omega) (by omega) (fun j hj => by omega)
    exact ⟨r, hr, by omega, fun h => ⟨by omega, hz h⟩⟩
theorem szIntSS_l (l : List (List Int)) (hl : (l.length ≤ 9223372036854775807 ∧ ∀ e0 ∈ l, e0.length ≤ 9223372036854775807)) (d : Nat) : ∀ (k : Nat) (n i : Int), 0 ≤ n → n ≤ 1048576 → 0 ≤ i → (l.length : Int) - i ≤ d → i ≤ l.length → d + 1048576 < k → (∀ j : Nat, (j : Int) < i → ∀ x, l[j]? = some x → x.length ≤ 1048576) →
    ∃ r, laws_szIntSS.l0 k l n i = some r ∧ r ≤ n ∧ (0 ≤ r → ∀ x ∈ l, x.length ≤ 1048576) := by
  induction d with
  | zero =>
    intro k n i hn0 hn h0 h1 h2 hk hj
    obtain ⟨k, rfl⟩ : ∃ m, k = m + 1 := ⟨k - 1, by omega⟩
    refine ⟨n, by simp only [laws_szIntSS.l0]; rw [if_neg (by omega)], by omega, fun _ x hx => ?_⟩
    obtain ⟨j, hjl, rfl⟩ := List.getElem_of_mem hx
    exact hj j (by omega) _ (List.getElem?_eq_getElem hjl)
  | succ d ih =>
    intro k n i hn0 hn h0 h1 h2 hk hj
    obtain ⟨k, rfl⟩ : ∃ m, k = m + 1 := ⟨k - 1, by omega⟩
    simp only [laws_szIntSS.l0]
    by_cases h : i < (l.length : Int)
    · rw [if_pos h, if_pos h0]
      have hg : (rd_L6 l i) = l[i.toNat]'(by omega) := by simp [rd_L6, List.getD_eq_getElem?_getD, List.getElem?_eq_getElem (show i.toNat < l.length by omega)]
      have he := hl.2 (l[i.toNat]'(by omega)) (List.getElem_mem _)
      rw [← hg] at he
      obtain ⟨r, hr, hrn, hz⟩ := szIntS_ok (rd_L6 l i) he n hn0 hn
      rw [hr]
      simp only [Option.bind_some]
      by_cases hneg : r < 0
      · rw [if_pos hneg]
        exact ⟨-1, rfl, by omega, fun h => by omega⟩
      · rw [if_neg hneg, wrap_id (by have := hl.1; omega) (by have := hl.1; omega)]
        obtain ⟨r', hr', hrn', hz'⟩ := ih k r (i + 1) (by omega) (by omega) (by omega) (by omega) (by omega) (by omega) (by
          intro j hji x hx
          by_cases e : (j : Int) < i
          · exact hj j e x hx
          · have ej : j = i.toNat := by omega
            subst ej
            rw [List.getElem?_eq_getElem (show i.toNat < l.length by omega)] at hx
            cases hx
            rw [← hg]
            exact hz (by omega))
        exact ⟨r', hr', by omega, hz'⟩
    · rw [if_neg h]
      refine ⟨n, rfl, by omega, fun _ x hx => ?_⟩
      obtain ⟨j, hjl, rfl⟩ := List.getElem_of_mem hx
      exact hj j (by omega) _ (List.getElem?_eq_getElem hjl)
theorem szIntSS_ok (l : List (List Int)) (hl : (l.length ≤ 9223372036854775807 ∧ ∀ e0 ∈ l, e0.length ≤ 9223372036854775807)) (n : Int) (h0 : 0 ≤ n) (hn : n ≤ 1048576) (k : Nat) (hk : 2097152 < k) : ∃ r, laws_szIntSS.f k l n = some r ∧ r ≤ n ∧ (0 ≤ r → (l.length ≤ 1048576 ∧ ∀ e0 ∈ l, e0.length ≤ 1048576)) := by
  unfold laws_szIntSS.f
  rw [wrap_id (by have := hl.1; omega) (by have := hl.1; omega)]
  by_cases h : n - (l.length : Int) < 0
  · rw [if_pos h]
    exact ⟨-1, rfl, by omega, fun h => by omega⟩
  · rw [if_neg h]
    obtain ⟨r, hr, hrn, hz⟩ := szIntSS_l l hl l.length k (n - l.length) 0 (by omega) (by omega) (by omega) (by omega) (by omega) (by omega) (fun j hj => by omega)
    exact ⟨r, hr, by omega, fun h => ⟨by omega, hz h⟩⟩
theorem szMend_ok (a0 : Int) (a1 : Int) (a2 : List Int) (a3 : List S167) (a4 : Bool) (a5 : List (List Int)) (ha2 : a2.length ≤ 9223372036854775807) (ha3 : (a3.length ≤ 9223372036854775807 ∧ ∀ e0 ∈ a3, (e0.f3.size ≤ 9223372036854775807))) (ha5 : (a5.length ≤ 9223372036854775807 ∧ ∀ e0 ∈ a5, e0.length ≤ 9223372036854775807)) (n : Int) (h0 : 0 ≤ n) (hn : n ≤ 1048576) (k : Nat) (hk : 2097152 < k) : ∃ r, laws_szMend.f k a0 a1 a2 a3 a4 a5 n = some r ∧ r ≤ n ∧ (0 ≤ r → a2.length ≤ 1048576 ∧ (a3.length ≤ 1048576 ∧ ∀ e0 ∈ a3, (e0.f3.size ≤ 1048576)) ∧ (a5.length ≤ 1048576 ∧ ∀ e0 ∈ a5, e0.length ≤ 1048576)) := by
  unfold laws_szMend.f
  obtain ⟨r0, e0, m0, z0⟩ := szIntS_ok a2 ha2 n (by omega) (by omega)
  rw [e0]
  simp only [Option.bind_some]
  by_cases g0 : r0 < 0
  · rw [if_pos g0]
    exact ⟨-1, rfl, by omega, fun h => by omega⟩
  · rw [if_neg g0]
    obtain ⟨r1, e1, m1, z1⟩ := szEntryS_ok a3 ha3 r0 (by omega) (by omega) k (by omega)
    rw [e1]
    simp only [Option.bind_some]
    by_cases g1 : r1 < 0
    · rw [if_pos g1]
      exact ⟨-1, rfl, by omega, fun h => by omega⟩
    · rw [if_neg g1]
      obtain ⟨r2, e2, m2, z2⟩ := szIntSS_ok a5 ha5 r1 (by omega) (by omega) k (by omega)
      rw [e2]
      simp only [Option.bind_some]
      by_cases g2 : r2 < 0
      · rw [if_pos g2]
        exact ⟨-1, rfl, by omega, fun h => by omega⟩
      · rw [if_neg g2]
        exact ⟨r2, rfl, by omega, fun _ => ⟨(z0 (by omega)), (z1 (by omega)), (z2 (by omega))⟩⟩
theorem szMendS_l (l : List S46) (hl : (l.length ≤ 9223372036854775807 ∧ ∀ e0 ∈ l, (e0.f2.length ≤ 9223372036854775807 ∧ (e0.f3.length ≤ 9223372036854775807 ∧ ∀ e1 ∈ e0.f3, (e1.f3.size ≤ 9223372036854775807)) ∧ (e0.f5.length ≤ 9223372036854775807 ∧ ∀ e1 ∈ e0.f5, e1.length ≤ 9223372036854775807)))) (d : Nat) : ∀ (k : Nat) (n i : Int), 0 ≤ n → n ≤ 1048576 → 0 ≤ i → (l.length : Int) - i ≤ d → i ≤ l.length → d + 2097152 < k → (∀ j : Nat, (j : Int) < i → ∀ x, l[j]? = some x → (x.f2.length ≤ 1048576 ∧ (x.f3.length ≤ 1048576 ∧ ∀ e0 ∈ x.f3, (e0.f3.size ≤ 1048576)) ∧ (x.f5.length ≤ 1048576 ∧ ∀ e0 ∈ x.f5, e0.length ≤ 1048576))) →
    ∃ r, laws_szMendS.l0 k l n i = some r ∧ r ≤ n ∧ (0 ≤ r → ∀ x ∈ l, (x.f2.length ≤ 1048576 ∧ (x.f3.length ≤ 1048576 ∧ ∀ e0 ∈ x.f3, (e0.f3.size ≤ 1048576)) ∧ (x.f5.length ≤ 1048576 ∧ ∀ e0 ∈ x.f5, e0.length ≤ 1048576))) := by
  induction d with
  | zero =>
    intro k n i hn0 hn h0 h1 h2 hk hj
    obtain ⟨k, rfl⟩ : ∃ m, k = m + 1 := ⟨k - 1, by omega⟩
    refine ⟨n, by simp only [laws_szMendS.l0]; rw [if_neg (by omega)], by omega, fun _ x hx => ?_⟩
    obtain ⟨j, hjl, rfl⟩ := List.getElem_of_mem hx
    exact hj j (by omega) _ (List.getElem?_eq_getElem hjl)
  | succ d ih =>
    intro k n i hn0 hn h0 h1 h2 hk hj
    obtain ⟨k, rfl⟩ : ∃ m, k = m + 1 := ⟨k - 1, by omega⟩
    simp only [laws_szMendS.l0]
    by_cases h : i < (l.length : Int)
    · rw [if_pos h, if_pos h0]
      have hg : (rd_T46 l i) = l[i.toNat]'(by omega) := by simp [rd_T46, List.getD_eq_getElem?_getD, List.getElem?_eq_getElem (show i.toNat < l.length by omega)]
      have he := hl.2 (l[i.toNat]'(by omega)) (List.getElem_mem _)
      rw [← hg] at he
      obtain ⟨r, hr, hrn, hz⟩ := szMend_ok (rd_T46 l i).f0 (rd_T46 l i).f1 (rd_T46 l i).f2 (rd_T46 l i).f3 (rd_T46 l i).f4 (rd_T46 l i).f5 he.1 he.2.1 he.2.2 n hn0 hn k (by omega)
      rw [hr]
      simp only [Option.bind_some]
      by_cases hneg : r < 0
      · rw [if_pos hneg]
        exact ⟨-1, rfl, by omega, fun h => by omega⟩
      · rw [if_neg hneg, wrap_id (by have := hl.1; omega) (by have := hl.1; omega)]
        obtain ⟨r', hr', hrn', hz'⟩ := ih k r (i + 1) (by omega) (by omega) (by omega) (by omega) (by omega) (by omega) (by
          intro j hji x hx
          by_cases e : (j : Int) < i
          · exact hj j e x hx
          · have ej : j = i.toNat := by omega
            subst ej
            rw [List.getElem?_eq_getElem (show i.toNat < l.length by omega)] at hx
            cases hx
            rw [← hg]
            exact hz (by omega))
        exact ⟨r', hr', by omega, hz'⟩
    · rw [if_neg h]
      refine ⟨n, rfl, by omega, fun _ x hx => ?_⟩
      obtain ⟨j, hjl, rfl⟩ := List.getElem_of_mem hx
      exact hj j (by omega) _ (List.getElem?_eq_getElem hjl)
theorem szMendS_ok (l : List S46) (hl : (l.length ≤ 9223372036854775807 ∧ ∀ e0 ∈ l, (e0.f2.length ≤ 9223372036854775807 ∧ (e0.f3.length ≤ 9223372036854775807 ∧ ∀ e1 ∈ e0.f3, (e1.f3.size ≤ 9223372036854775807)) ∧ (e0.f5.length ≤ 9223372036854775807 ∧ ∀ e1 ∈ e0.f5, e1.length ≤ 9223372036854775807)))) (n : Int) (h0 : 0 ≤ n) (hn : n ≤ 1048576) (k : Nat) (hk : 3145728 < k) : ∃ r, laws_szMendS.f k l n = some r ∧ r ≤ n ∧ (0 ≤ r → (l.length ≤ 1048576 ∧ ∀ e0 ∈ l, (e0.f2.length ≤ 1048576 ∧ (e0.f3.length ≤ 1048576 ∧ ∀ e1 ∈ e0.f3, (e1.f3.size ≤ 1048576)) ∧ (e0.f5.length ≤ 1048576 ∧ ∀ e1 ∈ e0.f5, e1.length ≤ 1048576)))) := by
  unfold laws_szMendS.f
  rw [wrap_id (by have := hl.1; omega) (by have := hl.1; omega)]
  by_cases h : n - (l.length : Int) < 0
  · rw [if_pos h]
    exact ⟨-1, rfl, by omega, fun h => by omega⟩
  · rw [if_neg h]
    obtain ⟨r, hr, hrn, hz⟩ := szMendS_l l hl l.length k (n - l.length) 0 (by omega) (by omega) (by omega) (by omega) (by omega) (by omega) (fun j hj => by omega)
    exact ⟨r, hr, by omega, fun h => ⟨by omega, hz h⟩⟩
theorem szEvent_ok (a0 : Int) (a1 : Int) (a2 : ByteArray) (ha2 : a2.size ≤ 9223372036854775807) (n : Int) (h0 : 0 ≤ n) (hn : n ≤ 1048576) : ∃ r, laws_szEvent.f a0 a1 a2 n = some r ∧ r ≤ n ∧ (0 ≤ r → a2.size ≤ 1048576) := by
  unfold laws_szEvent.f
  rw [wrap_id (by omega) (by omega)]
  by_cases g0 : n - (a2.size : Int) < 0
  · rw [if_pos g0]
    exact ⟨-1, rfl, by omega, fun h => by omega⟩
  · rw [if_neg g0]
    exact ⟨(n - (a2.size : Int)), rfl, by omega, fun _ => (by omega)⟩
theorem szEventS_l (l : List S242) (hl : (l.length ≤ 9223372036854775807 ∧ ∀ e0 ∈ l, (e0.f2.size ≤ 9223372036854775807))) (d : Nat) : ∀ (k : Nat) (n i : Int), 0 ≤ n → n ≤ 1048576 → 0 ≤ i → (l.length : Int) - i ≤ d → i ≤ l.length → d + 0 < k → (∀ j : Nat, (j : Int) < i → ∀ x, l[j]? = some x → (x.f2.size ≤ 1048576)) →
    ∃ r, laws_szEventS.l0 k l n i = some r ∧ r ≤ n ∧ (0 ≤ r → ∀ x ∈ l, (x.f2.size ≤ 1048576)) := by
  induction d with
  | zero =>
    intro k n i hn0 hn h0 h1 h2 hk hj
    obtain ⟨k, rfl⟩ : ∃ m, k = m + 1 := ⟨k - 1, by omega⟩
    refine ⟨n, by simp only [laws_szEventS.l0]; rw [if_neg (by omega)], by omega, fun _ x hx => ?_⟩
    obtain ⟨j, hjl, rfl⟩ := List.getElem_of_mem hx
    exact hj j (by omega) _ (List.getElem?_eq_getElem hjl)
  | succ d ih =>
    intro k n i hn0 hn h0 h1 h2 hk hj
    obtain ⟨k, rfl⟩ : ∃ m, k = m + 1 := ⟨k - 1, by omega⟩
    simp only [laws_szEventS.l0]
    by_cases h : i < (l.length : Int)
    · rw [if_pos h, if_pos h0]
      have hg : (rd_T242 l i) = l[i.toNat]'(by omega) := by simp [rd_T242, List.getD_eq_getElem?_getD, List.getElem?_eq_getElem (show i.toNat < l.length by omega)]
      have he := hl.2 (l[i.toNat]'(by omega)) (List.getElem_mem _)
      rw [← hg] at he
      obtain ⟨r, hr, hrn, hz⟩ := szEvent_ok (rd_T242 l i).f0 (rd_T242 l i).f1 (rd_T242 l i).f2 he n hn0 hn
      rw [hr]
      simp only [Option.bind_some]
      by_cases hneg : r < 0
      · rw [if_pos hneg]
        exact ⟨-1, rfl, by omega, fun h => by omega⟩
      · rw [if_neg hneg, wrap_id (by have := hl.1; omega) (by have := hl.1; omega)]
        obtain ⟨r', hr', hrn', hz'⟩ := ih k r (i + 1) (by omega) (by omega) (by omega) (by omega) (by omega) (by omega) (by
          intro j hji x hx
          by_cases e : (j : Int) < i
          · exact hj j e x hx
          · have ej : j = i.toNat := by omega
            subst ej
            rw [List.getElem?_eq_getElem (show i.toNat < l.length by omega)] at hx
            cases hx
            rw [← hg]
            exact hz (by omega))
        exact ⟨r', hr', by omega, hz'⟩
    · rw [if_neg h]
      refine ⟨n, rfl, by omega, fun _ x hx => ?_⟩
      obtain ⟨j, hjl, rfl⟩ := List.getElem_of_mem hx
      exact hj j (by omega) _ (List.getElem?_eq_getElem hjl)
theorem szEventS_ok (l : List S242) (hl : (l.length ≤ 9223372036854775807 ∧ ∀ e0 ∈ l, (e0.f2.size ≤ 9223372036854775807))) (n : Int) (h0 : 0 ≤ n) (hn : n ≤ 1048576) (k : Nat) (hk : 1048576 < k) : ∃ r, laws_szEventS.f k l n = some r ∧ r ≤ n ∧ (0 ≤ r → (l.length ≤ 1048576 ∧ ∀ e0 ∈ l, (e0.f2.size ≤ 1048576))) := by
  unfold laws_szEventS.f
  rw [wrap_id (by have := hl.1; omega) (by have := hl.1; omega)]
  by_cases h : n - (l.length : Int) < 0
  · rw [if_pos h]
    exact ⟨-1, rfl, by omega, fun h => by omega⟩
  · rw [if_neg h]
    obtain ⟨r, hr, hrn, hz⟩ := szEventS_l l hl l.length k (n - l.length) 0 (by omega) (by omega) (by omega) (by omega) (by omega) (by omega) (fun j hj => by omega)
    exact ⟨r, hr, by omega, fun h => ⟨by omega, hz h⟩⟩
theorem szReader_ok (a0 : Int) (a1 : Int) (a2 : List S242) (ha2 : (a2.length ≤ 9223372036854775807 ∧ ∀ e0 ∈ a2, (e0.f2.size ≤ 9223372036854775807))) (n : Int) (h0 : 0 ≤ n) (hn : n ≤ 1048576) (k : Nat) (hk : 1048576 < k) : ∃ r, laws_szReader.f k a0 a1 a2 n = some r ∧ r ≤ n ∧ (0 ≤ r → (a2.length ≤ 1048576 ∧ ∀ e0 ∈ a2, (e0.f2.size ≤ 1048576))) := by
  unfold laws_szReader.f
  obtain ⟨r0, e0, m0, z0⟩ := szEventS_ok a2 ha2 n (by omega) (by omega) k (by omega)
  rw [e0]
  simp only [Option.bind_some]
  by_cases g0 : r0 < 0
  · rw [if_pos g0]
    exact ⟨-1, rfl, by omega, fun h => by omega⟩
  · rw [if_neg g0]
    exact ⟨r0, rfl, by omega, fun _ => (z0 (by omega))⟩
theorem szReaderS_l (l : List S105) (hl : (l.length ≤ 9223372036854775807 ∧ ∀ e0 ∈ l, ((e0.f2.length ≤ 9223372036854775807 ∧ ∀ e1 ∈ e0.f2, (e1.f2.size ≤ 9223372036854775807))))) (d : Nat) : ∀ (k : Nat) (n i : Int), 0 ≤ n → n ≤ 1048576 → 0 ≤ i → (l.length : Int) - i ≤ d → i ≤ l.length → d + 1048576 < k → (∀ j : Nat, (j : Int) < i → ∀ x, l[j]? = some x → ((x.f2.length ≤ 1048576 ∧ ∀ e0 ∈ x.f2, (e0.f2.size ≤ 1048576)))) →
    ∃ r, laws_szReaderS.l0 k l n i = some r ∧ r ≤ n ∧ (0 ≤ r → ∀ x ∈ l, ((x.f2.length ≤ 1048576 ∧ ∀ e0 ∈ x.f2, (e0.f2.size ≤ 1048576)))) := by
  induction d with
  | zero =>
    intro k n i hn0 hn h0 h1 h2 hk hj
    obtain ⟨k, rfl⟩ : ∃ m, k = m + 1 := ⟨k - 1, by omega⟩
    refine ⟨n, by simp only [laws_szReaderS.l0]; rw [if_neg (by omega)], by omega, fun _ x hx => ?_⟩
    obtain ⟨j, hjl, rfl⟩ := List.getElem_of_mem hx
    exact hj j (by omega) _ (List.getElem?_eq_getElem hjl)
  | succ d ih =>
    intro k n i hn0 hn h0 h1 h2 hk hj
    obtain ⟨k, rfl⟩ : ∃ m, k = m + 1 := ⟨k - 1, by omega⟩
    simp only [laws_szReaderS.l0]
    by_cases h : i < (l.length : Int)
    · rw [if_pos h, if_pos h0]
      have hg : (rd_T105 l i) = l[i.toNat]'(by omega) := by simp [rd_T105, List.getD_eq_getElem?_getD, List.getElem?_eq_getElem (show i.toNat < l.length by omega)]
      have he := hl.2 (l[i.toNat]'(by omega)) (List.getElem_mem _)
      rw [← hg] at he
      obtain ⟨r, hr, hrn, hz⟩ := szReader_ok (rd_T105 l i).f0 (rd_T105 l i).f1 (rd_T105 l i).f2 he n hn0 hn k (by omega)
      rw [hr]
      simp only [Option.bind_some]
      by_cases hneg : r < 0
      · rw [if_pos hneg]
        exact ⟨-1, rfl, by omega, fun h => by omega⟩
      · rw [if_neg hneg, wrap_id (by have := hl.1; omega) (by have := hl.1; omega)]
        obtain ⟨r', hr', hrn', hz'⟩ := ih k r (i + 1) (by omega) (by omega) (by omega) (by omega) (by omega) (by omega) (by
          intro j hji x hx
          by_cases e : (j : Int) < i
          · exact hj j e x hx
          · have ej : j = i.toNat := by omega
            subst ej
            rw [List.getElem?_eq_getElem (show i.toNat < l.length by omega)] at hx
            cases hx
            rw [← hg]
            exact hz (by omega))
        exact ⟨r', hr', by omega, hz'⟩
    · rw [if_neg h]
      refine ⟨n, rfl, by omega, fun _ x hx => ?_⟩
      obtain ⟨j, hjl, rfl⟩ := List.getElem_of_mem hx
      exact hj j (by omega) _ (List.getElem?_eq_getElem hjl)
theorem szReaderS_ok (l : List S105) (hl : (l.length ≤ 9223372036854775807 ∧ ∀ e0 ∈ l, ((e0.f2.length ≤ 9223372036854775807 ∧ ∀ e1 ∈ e0.f2, (e1.f2.size ≤ 9223372036854775807))))) (n : Int) (h0 : 0 ≤ n) (hn : n ≤ 1048576) (k : Nat) (hk : 2097152 < k) : ∃ r, laws_szReaderS.f k l n = some r ∧ r ≤ n ∧ (0 ≤ r → (l.length ≤ 1048576 ∧ ∀ e0 ∈ l, ((e0.f2.length ≤ 1048576 ∧ ∀ e1 ∈ e0.f2, (e1.f2.size ≤ 1048576))))) := by
  unfold laws_szReaderS.f
  rw [wrap_id (by have := hl.1; omega) (by have := hl.1; omega)]
  by_cases h : n - (l.length : Int) < 0
  · rw [if_pos h]
    exact ⟨-1, rfl, by omega, fun h => by omega⟩
  · rw [if_neg h]
    obtain ⟨r, hr, hrn, hz⟩ := szReaderS_l l hl l.length k (n - l.length) 0 (by omega) (by omega) (by omega) (by omega) (by omega) (by omega) (fun j hj => by omega)
    exact ⟨r, hr, by omega, fun h => ⟨by omega, hz h⟩⟩
theorem szSent_ok (a0 : Int) (a1 : ByteArray) (a2 : Bool) (ha1 : a1.size ≤ 9223372036854775807) (n : Int) (h0 : 0 ≤ n) (hn : n ≤ 1048576) : ∃ r, laws_szSent.f a0 a1 a2 n = some r ∧ r ≤ n ∧ (0 ≤ r → a1.size ≤ 1048576) := by
  unfold laws_szSent.f
  rw [wrap_id (by omega) (by omega)]
  by_cases g0 : n - (a1.size : Int) < 0
  · rw [if_pos g0]
    exact ⟨-1, rfl, by omega, fun h => by omega⟩
  · rw [if_neg g0]
    exact ⟨(n - (a1.size : Int)), rfl, by omega, fun _ => (by omega)⟩
theorem szSentS_l (l : List S231) (hl : (l.length ≤ 9223372036854775807 ∧ ∀ e0 ∈ l, (e0.f1.size ≤ 9223372036854775807))) (d : Nat) : ∀ (k : Nat) (n i : Int), 0 ≤ n → n ≤ 1048576 → 0 ≤ i → (l.length : Int) - i ≤ d → i ≤ l.length → d + 0 < k → (∀ j : Nat, (j : Int) < i → ∀ x, l[j]? = some x → (x.f1.size ≤ 1048576)) →
    ∃ r, laws_szSentS.l0 k l n i = some r ∧ r ≤ n ∧ (0 ≤ r → ∀ x ∈ l, (x.f1.size ≤ 1048576)) := by
  induction d with
  | zero =>
    intro k n i hn0 hn h0 h1 h2 hk hj
    obtain ⟨k, rfl⟩ : ∃ m, k = m + 1 := ⟨k - 1, by omega⟩
    refine ⟨n, by simp only [laws_szSentS.l0]; rw [if_neg (by omega)], by omega, fun _ x hx => ?_⟩
    obtain ⟨j, hjl, rfl⟩ := List.getElem_of_mem hx
    exact hj j (by omega) _ (List.getElem?_eq_getElem hjl)
  | succ d ih =>
    intro k n i hn0 hn h0 h1 h2 hk hj
    obtain ⟨k, rfl⟩ : ∃ m, k = m + 1 := ⟨k - 1, by omega⟩
    simp only [laws_szSentS.l0]
    by_cases h : i < (l.length : Int)
    · rw [if_pos h, if_pos h0]
      have hg : (rd_T231 l i) = l[i.toNat]'(by omega) := by simp [rd_T231, List.getD_eq_getElem?_getD, List.getElem?_eq_getElem (show i.toNat < l.length by omega)]
      have he := hl.2 (l[i.toNat]'(by omega)) (List.getElem_mem _)
      rw [← hg] at he
      obtain ⟨r, hr, hrn, hz⟩ := szSent_ok (rd_T231 l i).f0 (rd_T231 l i).f1 (rd_T231 l i).f2 he n hn0 hn
      rw [hr]
      simp only [Option.bind_some]
      by_cases hneg : r < 0
      · rw [if_pos hneg]
        exact ⟨-1, rfl, by omega, fun h => by omega⟩
      · rw [if_neg hneg, wrap_id (by have := hl.1; omega) (by have := hl.1; omega)]
        obtain ⟨r', hr', hrn', hz'⟩ := ih k r (i + 1) (by omega) (by omega) (by omega) (by omega) (by omega) (by omega) (by
          intro j hji x hx
          by_cases e : (j : Int) < i
          · exact hj j e x hx
          · have ej : j = i.toNat := by omega
            subst ej
            rw [List.getElem?_eq_getElem (show i.toNat < l.length by omega)] at hx
            cases hx
            rw [← hg]
            exact hz (by omega))
        exact ⟨r', hr', by omega, hz'⟩
    · rw [if_neg h]
      refine ⟨n, rfl, by omega, fun _ x hx => ?_⟩
      obtain ⟨j, hjl, rfl⟩ := List.getElem_of_mem hx
      exact hj j (by omega) _ (List.getElem?_eq_getElem hjl)
theorem szSentS_ok (l : List S231) (hl : (l.length ≤ 9223372036854775807 ∧ ∀ e0 ∈ l, (e0.f1.size ≤ 9223372036854775807))) (n : Int) (h0 : 0 ≤ n) (hn : n ≤ 1048576) (k : Nat) (hk : 1048576 < k) : ∃ r, laws_szSentS.f k l n = some r ∧ r ≤ n ∧ (0 ≤ r → (l.length ≤ 1048576 ∧ ∀ e0 ∈ l, (e0.f1.size ≤ 1048576))) := by
  unfold laws_szSentS.f
  rw [wrap_id (by have := hl.1; omega) (by have := hl.1; omega)]
  by_cases h : n - (l.length : Int) < 0
  · rw [if_pos h]
    exact ⟨-1, rfl, by omega, fun h => by omega⟩
  · rw [if_neg h]
    obtain ⟨r, hr, hrn, hz⟩ := szSentS_l l hl l.length k (n - l.length) 0 (by omega) (by omega) (by omega) (by omega) (by omega) (by omega) (fun j hj => by omega)
    exact ⟨r, hr, by omega, fun h => ⟨by omega, hz h⟩⟩
theorem szWorld_ok (a0 : List Int) (a1 : Int) (a2 : List S160) (a3 : List Int) (a4 : List S240) (a5 : Int) (a6 : List S228) (a7 : List S46) (a8 : List S105) (a9 : List S231) (a10 : Bool) (ha0 : a0.length ≤ 9223372036854775807) (ha2 : (a2.length ≤ 9223372036854775807 ∧ ∀ e0 ∈ a2, ((e0.f0.length ≤ 9223372036854775807 ∧ ∀ e1 ∈ e0.f0, (e1.f3.size ≤ 9223372036854775807)) ∧ (e0.f1.length ≤ 9223372036854775807 ∧ ∀ e1 ∈ e0.f1, (e1.f3.size ≤ 9223372036854775807))))) (ha3 : a3.length ≤ 9223372036854775807) (ha4 : (a4.length ≤ 9223372036854775807 ∧ ∀ e0 ∈ a4, (e0.f0.length ≤ 9223372036854775807))) (ha6 : (a6.length ≤ 9223372036854775807 ∧ ∀ e0 ∈ a6, ((e0.f1.length ≤ 9223372036854775807 ∧ ∀ e1 ∈ e0.f1, (e1.f0.size ≤ 9223372036854775807 ∧ e1.f1.length ≤ 9223372036854775807))))) (ha7 : (a7.length ≤ 9223372036854775807 ∧ ∀ e0 ∈ a7, (e0.f2.length ≤ 9223372036854775807 ∧ (e0.f3.length ≤ 9223372036854775807 ∧ ∀ e1 ∈ e0.f3, (e1.f3.size ≤ 9223372036854775807)) ∧ (e0.f5.length ≤ 9223372036854775807 ∧ ∀ e1 ∈ e0.f5, e1.length ≤ 9223372036854775807)))) (ha8 : (a8.length ≤ 9223372036854775807 ∧ ∀ e0 ∈ a8, ((e0.f2.length ≤ 9223372036854775807 ∧ ∀ e1 ∈ e0.f2, (e1.f2.size ≤ 9223372036854775807))))) (ha9 : (a9.length ≤ 9223372036854775807 ∧ ∀ e0 ∈ a9, (e0.f1.size ≤ 9223372036854775807))) (n : Int) (h0 : 0 ≤ n) (hn : n ≤ 1048576) (k : Nat) (hk : 3145728 < k) : ∃ r, laws_szWorld.f k a0 a1 a2 a3 a4 a5 a6 a7 a8 a9 a10 n = some r ∧ r ≤ n ∧ (0 ≤ r → a0.length ≤ 1048576 ∧ (a2.length ≤ 1048576 ∧ ∀ e0 ∈ a2, ((e0.f0.length ≤ 1048576 ∧ ∀ e1 ∈ e0.f0, (e1.f3.size ≤ 1048576)) ∧ (e0.f1.length ≤ 1048576 ∧ ∀ e1 ∈ e0.f1, (e1.f3.size ≤ 1048576)))) ∧ a3.length ≤ 1048576 ∧ (a4.length ≤ 1048576 ∧ ∀ e0 ∈ a4, (e0.f0.length ≤ 1048576)) ∧ (a6.length ≤ 1048576 ∧ ∀ e0 ∈ a6, ((e0.f1.length ≤ 1048576 ∧ ∀ e1 ∈ e0.f1, (e1.f0.size ≤ 1048576 ∧ e1.f1.length ≤ 1048576)))) ∧ (a7.length ≤ 1048576 ∧ ∀ e0 ∈ a7, (e0.f2.length ≤ 1048576 ∧ (e0.f3.length ≤ 1048576 ∧ ∀ e1 ∈ e0.f3, (e1.f3.size ≤ 1048576)) ∧ (e0.f5.length ≤ 1048576 ∧ ∀ e1 ∈ e0.f5, e1.length ≤ 1048576))) ∧ (a8.length ≤ 1048576 ∧ ∀ e0 ∈ a8, ((e0.f2.length ≤ 1048576 ∧ ∀ e1 ∈ e0.f2, (e1.f2.size ≤ 1048576)))) ∧ (a9.length ≤ 1048576 ∧ ∀ e0 ∈ a9, (e0.f1.size ≤ 1048576))) := by
  unfold laws_szWorld.f
  obtain ⟨r0, e0, m0, z0⟩ := szConfig_ok a0 a1 ha0 n (by omega) (by omega)
  rw [e0]
  simp only [Option.bind_some]
  by_cases g0 : r0 < 0
  · rw [if_pos g0]
    exact ⟨-1, rfl, by omega, fun h => by omega⟩
  · rw [if_neg g0]
    obtain ⟨r1, e1, m1, z1⟩ := szStoreS_ok a2 ha2 r0 (by omega) (by omega) k (by omega)
    rw [e1]
    simp only [Option.bind_some]
    by_cases g1 : r1 < 0
    · rw [if_pos g1]
      exact ⟨-1, rfl, by omega, fun h => by omega⟩
    · rw [if_neg g1]
      obtain ⟨r2, e2, m2, z2⟩ := szIntS_ok a3 ha3 r1 (by omega) (by omega)
      rw [e2]
      simp only [Option.bind_some]
      by_cases g2 : r2 < 0
      · rw [if_pos g2]
        exact ⟨-1, rfl, by omega, fun h => by omega⟩
      · rw [if_neg g2]
        obtain ⟨r3, e3, m3, z3⟩ := szRegister_ok a4 a5 ha4 r2 (by omega) (by omega) k (by omega)
        rw [e3]
        simp only [Option.bind_some]
        by_cases g3 : r3 < 0
        · rw [if_pos g3]
          exact ⟨-1, rfl, by omega, fun h => by omega⟩
        · rw [if_neg g3]
          obtain ⟨r4, e4, m4, z4⟩ := szWriterS_ok a6 ha6 r3 (by omega) (by omega) k (by omega)
          rw [e4]
          simp only [Option.bind_some]
          by_cases g4 : r4 < 0
          · rw [if_pos g4]
            exact ⟨-1, rfl, by omega, fun h => by omega⟩
          · rw [if_neg g4]
            obtain ⟨r5, e5, m5, z5⟩ := szMendS_ok a7 ha7 r4 (by omega) (by omega) k (by omega)
            rw [e5]
            simp only [Option.bind_some]
            by_cases g5 : r5 < 0
            · rw [if_pos g5]
              exact ⟨-1, rfl, by omega, fun h => by omega⟩
            · rw [if_neg g5]
              obtain ⟨r6, e6, m6, z6⟩ := szReaderS_ok a8 ha8 r5 (by omega) (by omega) k (by omega)
              rw [e6]
              simp only [Option.bind_some]
              by_cases g6 : r6 < 0
              · rw [if_pos g6]
                exact ⟨-1, rfl, by omega, fun h => by omega⟩
              · rw [if_neg g6]
                obtain ⟨r7, e7, m7, z7⟩ := szSentS_ok a9 ha9 r6 (by omega) (by omega) k (by omega)
                rw [e7]
                simp only [Option.bind_some]
                by_cases g7 : r7 < 0
                · rw [if_pos g7]
                  exact ⟨-1, rfl, by omega, fun h => by omega⟩
                · rw [if_neg g7]
                  exact ⟨r7, rfl, by omega, fun _ => ⟨(z0 (by omega)), (z1 (by omega)), (z2 (by omega)), (z3 (by omega)), (z4 (by omega)), (z5 (by omega)), (z6 (by omega)), (z7 (by omega))⟩⟩
def sureFrom (l : List S233) : Nat → Nat → Nat
  | 0, i => i
  | d + 1, i => if (rd_T233 l i).f2 = true then sureFrom l d (i + 1) else i
theorem spec_WriterSure_l (l : List S233) (e : Int) (hl : l.length ≤ 1048576) (d : Nat) : ∀ (k i : Nat), i + d = l.length → d < k → spec_WriterSure.l0 k (i : Int) e l = some (sureFrom l d i : Int) := by
  induction d with
  | zero =>
    intro k i h hk
    obtain ⟨k, rfl⟩ : ∃ m, k = m + 1 := ⟨k - 1, by omega⟩
    simp only [spec_WriterSure.l0]
    rw [if_neg (by omega)]
    rfl
  | succ d ih =>
    intro k i h hk
    obtain ⟨k, rfl⟩ : ∃ m, k = m + 1 := ⟨k - 1, by omega⟩
    simp only [spec_WriterSure.l0, sureFrom]
    rw [if_pos (by omega), if_pos (by omega)]
    split
    · rw [wrap_id (by omega) (by omega)]
      exact ih k (i + 1) (by omega) (by omega)
    · rfl
theorem spec_WriterSure_is (e : Int) (l : List S233) (hl : l.length ≤ 1048576) (k : Nat) (hk : 1048576 < k) : spec_WriterSure.f k e l = some (sureFrom l l.length 0 : Int) := by
  unfold spec_WriterSure.f
  exact spec_WriterSure_l l e hl l.length k 0 (by omega) (by omega)
def sureOfL : List S178 → Int → Int
  | [], _ => 0
  | x :: l, ep => if x.f0 = ep then (sureFrom x.f1 x.f1.length 0 : Int) else sureOfL l ep
theorem drop_rdT_Writer (l : List S178) (i : Nat) (h : i < l.length) : l.drop i = rd_T178 l (i : Int) :: l.drop (i + 1) := by
  rw [List.drop_eq_getElem_cons h]
  simp [rd_T178, List.getD_eq_getElem?_getD, List.getElem?_eq_getElem h]
theorem rdT_Writer_mem (l : List S178) (i : Nat) (h : i < l.length) : rd_T178 l (i : Int) ∈ l := by
  simp [rd_T178, List.getD_eq_getElem?_getD, List.getElem?_eq_getElem h]
theorem spec_SureOf_l (ep : Int) (a0 : List Int) (a1 : Int) (a2 : List S64) (a3 : List Int) (a4 : List S142) (a5 : Int) (l : List S178) (a7 : List S51) (a8 : List S32) (a9 : List S235) (a10 : Bool) (hl : l.length ≤ 1048576 ∧ ∀ e ∈ l, e.f1.length ≤ 1048576) (d : Nat) : ∀ (k i : Nat), i + d = l.length → d + 1048577 < k →
    spec_SureOf.l0 k ep (i : Int) a0 a1 a2 a3 a4 a5 l a7 a8 a9 a10 = some (sureOfL (l.drop i) ep) := by
  induction d with
  | zero =>
    intro k i h hk
    obtain ⟨k, rfl⟩ : ∃ m, k = m + 1 := ⟨k - 1, by omega⟩
    simp only [spec_SureOf.l0]
    rw [if_neg (by omega), List.drop_eq_nil_of_le (by omega)]
    rfl
  | succ d ih =>
    intro k i h hk
    obtain ⟨k, rfl⟩ : ∃ m, k = m + 1 := ⟨k - 1, by omega⟩
    have hm := hl.2 _ (rdT_Writer_mem l i (by omega))
    simp only [spec_SureOf.l0]
    rw [if_pos (by omega), if_pos (by omega), spec_WriterSure_is _ _ hm _ (by omega), wrap_id (show -9223372036854775808 ≤ (i : Int) + 1 by omega) (by omega), show (i : Int) + 1 = ((i + 1 : Nat) : Int) from rfl, ih k (i + 1) (by omega) (by omega), drop_rdT_Writer l i (by omega)]
    simp only [Option.bind_some, sureOfL]
    by_cases he : (rd_T178 l (i : Int)).f0 = ep
    · rw [if_pos he, if_pos he]
    · rw [if_neg he, if_neg he]
theorem spec_SureOf_is (ep : Int) (a0 : List Int) (a1 : Int) (a2 : List S64) (a3 : List Int) (a4 : List S142) (a5 : Int) (l : List S178) (a7 : List S51) (a8 : List S32) (a9 : List S235) (a10 : Bool) (hl : l.length ≤ 1048576 ∧ ∀ e ∈ l, e.f1.length ≤ 1048576) (k : Nat) (hk : 2097153 < k) :
    spec_SureOf.f k a0 a1 a2 a3 a4 a5 l a7 a8 a9 a10 ep = some (sureOfL l ep) := by
  unfold spec_SureOf.f
  have h := spec_SureOf_l ep a0 a1 a2 a3 a4 a5 l a7 a8 a9 a10 hl l.length k 0 (by omega) (by omega)
  simpa using h
theorem toIntS_l (l : List Int) (hz : l.length ≤ 1048576) (d : Nat) : ∀ (k : Nat) (ys : List Int) (i : Int), 0 ≤ i → (l.length : Int) - i ≤ d → i ≤ l.length → d + 0 < k → ys.length = l.length → (∀ j : Nat, (j : Int) < i → ys[j]? = (l)[j]?) →
    laws_toIntS.l0 k l ys i = some l := by
  have hlen : l.length ≤ 1048576 := hz
  induction d with
  | zero =>
    intro k ys i h0 h1 h2 hk hy hj
    obtain ⟨k, rfl⟩ : ∃ m, k = m + 1 := ⟨k - 1, by omega⟩
    simp only [laws_toIntS.l0]
    rw [if_neg (by omega)]
    congr 1
    apply List.ext_getElem?
    intro j
    by_cases h : j < l.length
    · exact hj j (by omega)
    · rw [List.getElem?_eq_none (by omega), List.getElem?_eq_none (by first | omega | (simp; omega))]
  | succ d ih =>
    intro k ys i h0 h1 h2 hk hy hj
    obtain ⟨k, rfl⟩ : ∃ m, k = m + 1 := ⟨k - 1, by omega⟩
    simp only [laws_toIntS.l0]
    by_cases h : i < (l.length : Int)
    · rw [if_pos h, if_pos h0, if_pos (by omega), wrap_id (by omega) (by omega)]
      refine ih k _ (i + 1) (by omega) (by omega) (by omega) (by omega) (by simp [hy]) ?_
      intro j hji
      rw [List.getElem?_set]
      by_cases e : i.toNat = j
      · subst e
        rw [if_pos rfl, if_pos (by omega)]
        simp [rd, List.getD_eq_getElem?_getD, List.getElem?_eq_getElem (show i.toNat < l.length by omega)]
      · rw [if_neg e]
        exact hj j (by omega)
    · rw [if_neg h]
      congr 1
      apply List.ext_getElem?
      intro j
      by_cases h : j < l.length
      · exact hj j (by omega)
      · rw [List.getElem?_eq_none (by omega), List.getElem?_eq_none (by first | omega | (simp; omega))]
theorem toIntS_is (l : List Int) (hz : l.length ≤ 1048576) (k : Nat) (hk : 1048576 < k) : laws_toIntS.f k l = some l := by
  have hlen : l.length ≤ 1048576 := hz
  unfold laws_toIntS.f
  rw [if_pos (by omega), if_pos (by omega), toIntS_l l hz l.length k _ 0 (by omega) (by omega) (by omega) (by omega) (by simp) (fun j h => by omega)]
theorem toConfig_is (a0 : List Int) (a1 : Int) (ha0 : a0.length ≤ 1048576) (k : Nat) (hk : 1048576 < k) : laws_toConfig.f k a0 a1 = some (a0, a1) := by
  unfold laws_toConfig.f
  rw [toIntS_is a0 ha0 k (by omega)]
  simp only [Option.bind_some]
def cEntry (x : S167) : S128 := ⟨x.f0, x.f1, x.f2, x.f3⟩
theorem toEntry_is (a0 : Int) (a1 : Int) (a2 : Bool) (a3 : ByteArray) (ha3 : a3.size ≤ 1048576) : laws_toEntry.f a0 a1 a2 a3 = some (a0, a1, a2, a3) := by
  rfl
theorem toEntryS_l (l : List S167) (hz : (l.length ≤ 1048576 ∧ ∀ e0 ∈ l, (e0.f3.size ≤ 1048576))) (d : Nat) : ∀ (k : Nat) (ys : List S128) (i : Int), 0 ≤ i → (l.length : Int) - i ≤ d → i ≤ l.length → d + 0 < k → ys.length = l.length → (∀ j : Nat, (j : Int) < i → ys[j]? = ((l.map cEntry))[j]?) →
    laws_toEntryS.l0 k l ys i = some (l.map cEntry) := by
  have hlen : l.length ≤ 1048576 := hz.1
  induction d with
  | zero =>
    intro k ys i h0 h1 h2 hk hy hj
    obtain ⟨k, rfl⟩ : ∃ m, k = m + 1 := ⟨k - 1, by omega⟩
    simp only [laws_toEntryS.l0]
    rw [if_neg (by omega)]
    congr 1
    apply List.ext_getElem?
    intro j
    by_cases h : j < l.length
    · exact hj j (by omega)
    · rw [List.getElem?_eq_none (by omega), List.getElem?_eq_none (by first | omega | (simp; omega))]
  | succ d ih =>
    intro k ys i h0 h1 h2 hk hy hj
    obtain ⟨k, rfl⟩ : ∃ m, k = m + 1 := ⟨k - 1, by omega⟩
    simp only [laws_toEntryS.l0]
    by_cases h : i < (l.length : Int)
    · rw [if_pos h, if_pos h0]
      have hg0 : (rd_T167 l i) = l[i.toNat]'(by omega) := by simp [rd_T167, List.getD_eq_getElem?_getD, List.getElem?_eq_getElem (show i.toNat < l.length by omega)]
      have he := hz.2 (l[i.toNat]'(by omega)) (List.getElem_mem _)
      rw [← hg0] at he
      rw [toEntry_is (rd_T167 l i).f0 (rd_T167 l i).f1 (rd_T167 l i).f2 (rd_T167 l i).f3 he]
      simp only [Option.bind_some]
      rw [if_pos (by omega), wrap_id (by omega) (by omega)]
      refine ih k _ (i + 1) (by omega) (by omega) (by omega) (by omega) (by simp [hy]) ?_
      intro j hji
      rw [List.getElem?_set]
      by_cases e : i.toNat = j
      · subst e
        rw [if_pos rfl, if_pos (by omega)]
        simp [rd_T167, cEntry, List.getD_eq_getElem?_getD, List.getElem?_eq_getElem (show i.toNat < l.length by omega)]
      · rw [if_neg e]
        exact hj j (by omega)
    · rw [if_neg h]
      congr 1
      apply List.ext_getElem?
      intro j
      by_cases h : j < l.length
      · exact hj j (by omega)
      · rw [List.getElem?_eq_none (by omega), List.getElem?_eq_none (by first | omega | (simp; omega))]
theorem toEntryS_is (l : List S167) (hz : (l.length ≤ 1048576 ∧ ∀ e0 ∈ l, (e0.f3.size ≤ 1048576))) (k : Nat) (hk : 1048576 < k) : laws_toEntryS.f k l = some (l.map cEntry) := by
  have hlen : l.length ≤ 1048576 := hz.1
  unfold laws_toEntryS.f
  rw [if_pos (by omega), if_pos (by omega), toEntryS_l l hz l.length k _ 0 (by omega) (by omega) (by omega) (by omega) (by simp) (fun j h => by omega)]
def cStore (x : S160) : S64 := ⟨(x.f0.map cEntry), (x.f1.map cEntry), x.f2⟩
theorem toStore_is (a0 : List S167) (a1 : List S167) (a2 : Int) (ha0 : (a0.length ≤ 1048576 ∧ ∀ e0 ∈ a0, (e0.f3.size ≤ 1048576))) (ha1 : (a1.length ≤ 1048576 ∧ ∀ e0 ∈ a1, (e0.f3.size ≤ 1048576))) (k : Nat) (hk : 1048576 < k) : laws_toStore.f k a0 a1 a2 = some ((a0.map cEntry), (a1.map cEntry), a2) := by
  unfold laws_toStore.f
  rw [toEntryS_is a0 ha0 k (by omega)]
  simp only [Option.bind_some]
  rw [toEntryS_is a1 ha1 k (by omega)]
  simp only [Option.bind_some]
theorem toStoreS_l (l : List S160) (hz : (l.length ≤ 1048576 ∧ ∀ e0 ∈ l, ((e0.f0.length ≤ 1048576 ∧ ∀ e1 ∈ e0.f0, (e1.f3.size ≤ 1048576)) ∧ (e0.f1.length ≤ 1048576 ∧ ∀ e1 ∈ e0.f1, (e1.f3.size ≤ 1048576))))) (d : Nat) : ∀ (k : Nat) (ys : List S64) (i : Int), 0 ≤ i → (l.length : Int) - i ≤ d → i ≤ l.length → d + 1048576 < k → ys.length = l.length → (∀ j : Nat, (j : Int) < i → ys[j]? = ((l.map cStore))[j]?) →
    laws_toStoreS.l0 k l ys i = some (l.map cStore) := by
  have hlen : l.length ≤ 1048576 := hz.1
  induction d with
  | zero =>
    intro k ys i h0 h1 h2 hk hy hj
    obtain ⟨k, rfl⟩ : ∃ m, k = m + 1 := ⟨k - 1, by omega⟩
    simp only [laws_toStoreS.l0]
    rw [if_neg (by omega)]
    congr 1
    apply List.ext_getElem?
    intro j
    by_cases h : j < l.length
    · exact hj j (by omega)
    · rw [List.getElem?_eq_none (by omega), List.getElem?_eq_none (by first | omega | (simp; omega))]
  | succ d ih =>
    intro k ys i h0 h1 h2 hk hy hj
    obtain ⟨k, rfl⟩ : ∃ m, k = m + 1 := ⟨k - 1, by omega⟩
    simp only [laws_toStoreS.l0]
    by_cases h : i < (l.length : Int)
    · rw [if_pos h, if_pos h0]
      have hg0 : (rd_T160 l i) = l[i.toNat]'(by omega) := by simp [rd_T160, List.getD_eq_getElem?_getD, List.getElem?_eq_getElem (show i.toNat < l.length by omega)]
      have he := hz.2 (l[i.toNat]'(by omega)) (List.getElem_mem _)
      rw [← hg0] at he
      rw [toStore_is (rd_T160 l i).f0 (rd_T160 l i).f1 (rd_T160 l i).f2 he.1 he.2 k (by omega)]
      simp only [Option.bind_some]
      rw [if_pos (by omega), wrap_id (by omega) (by omega)]
      refine ih k _ (i + 1) (by omega) (by omega) (by omega) (by omega) (by simp [hy]) ?_
      intro j hji
      rw [List.getElem?_set]
      by_cases e : i.toNat = j
      · subst e
        rw [if_pos rfl, if_pos (by omega)]
        simp [rd_T160, cStore, cEntry, List.getD_eq_getElem?_getD, List.getElem?_eq_getElem (show i.toNat < l.length by omega)]
      · rw [if_neg e]
        exact hj j (by omega)
    · rw [if_neg h]
      congr 1
      apply List.ext_getElem?
      intro j
      by_cases h : j < l.length
      · exact hj j (by omega)
      · rw [List.getElem?_eq_none (by omega), List.getElem?_eq_none (by first | omega | (simp; omega))]
theorem toStoreS_is (l : List S160) (hz : (l.length ≤ 1048576 ∧ ∀ e0 ∈ l, ((e0.f0.length ≤ 1048576 ∧ ∀ e1 ∈ e0.f0, (e1.f3.size ≤ 1048576)) ∧ (e0.f1.length ≤ 1048576 ∧ ∀ e1 ∈ e0.f1, (e1.f3.size ≤ 1048576))))) (k : Nat) (hk : 2097152 < k) : laws_toStoreS.f k l = some (l.map cStore) := by
  have hlen : l.length ≤ 1048576 := hz.1
  unfold laws_toStoreS.f
  rw [if_pos (by omega), if_pos (by omega), toStoreS_l l hz l.length k _ 0 (by omega) (by omega) (by omega) (by omega) (by simp) (fun j h => by omega)]
def cEra (x : S240) : S142 := ⟨x.f0, x.f1, x.f2⟩
theorem toEra_is (a0 : List Int) (a1 : Bool) (a2 : Int) (ha0 : a0.length ≤ 1048576) (k : Nat) (hk : 1048576 < k) : laws_toEra.f k a0 a1 a2 = some (a0, a1, a2) := by
  unfold laws_toEra.f
  rw [toIntS_is a0 ha0 k (by omega)]
  simp only [Option.bind_some]
theorem toEraS_l (l : List S240) (hz : (l.length ≤ 1048576 ∧ ∀ e0 ∈ l, (e0.f0.length ≤ 1048576))) (d : Nat) : ∀ (k : Nat) (ys : List S142) (i : Int), 0 ≤ i → (l.length : Int) - i ≤ d → i ≤ l.length → d + 1048576 < k → ys.length = l.length → (∀ j : Nat, (j : Int) < i → ys[j]? = ((l.map cEra))[j]?) →
    laws_toEraS.l0 k l ys i = some (l.map cEra) := by
  have hlen : l.length ≤ 1048576 := hz.1
  induction d with
  | zero =>
    intro k ys i h0 h1 h2 hk hy hj
    obtain ⟨k, rfl⟩ : ∃ m, k = m + 1 := ⟨k - 1, by omega⟩
    simp only [laws_toEraS.l0]
    rw [if_neg (by omega)]
    congr 1
    apply List.ext_getElem?
    intro j
    by_cases h : j < l.length
    · exact hj j (by omega)
    · rw [List.getElem?_eq_none (by omega), List.getElem?_eq_none (by first | omega | (simp; omega))]
  | succ d ih =>
    intro k ys i h0 h1 h2 hk hy hj
    obtain ⟨k, rfl⟩ : ∃ m, k = m + 1 := ⟨k - 1, by omega⟩
    simp only [laws_toEraS.l0]
    by_cases h : i < (l.length : Int)
    · rw [if_pos h, if_pos h0]
      have hg0 : (rd_T240 l i) = l[i.toNat]'(by omega) := by simp [rd_T240, List.getD_eq_getElem?_getD, List.getElem?_eq_getElem (show i.toNat < l.length by omega)]
      have he := hz.2 (l[i.toNat]'(by omega)) (List.getElem_mem _)
      rw [← hg0] at he
      rw [toEra_is (rd_T240 l i).f0 (rd_T240 l i).f1 (rd_T240 l i).f2 he k (by omega)]
      simp only [Option.bind_some]
      rw [if_pos (by omega), wrap_id (by omega) (by omega)]
      refine ih k _ (i + 1) (by omega) (by omega) (by omega) (by omega) (by simp [hy]) ?_
      intro j hji
      rw [List.getElem?_set]
      by_cases e : i.toNat = j
      · subst e
        rw [if_pos rfl, if_pos (by omega)]
        simp [rd_T240, cEra, List.getD_eq_getElem?_getD, List.getElem?_eq_getElem (show i.toNat < l.length by omega)]
      · rw [if_neg e]
        exact hj j (by omega)
    · rw [if_neg h]
      congr 1
      apply List.ext_getElem?
      intro j
      by_cases h : j < l.length
      · exact hj j (by omega)
      · rw [List.getElem?_eq_none (by omega), List.getElem?_eq_none (by first | omega | (simp; omega))]
theorem toEraS_is (l : List S240) (hz : (l.length ≤ 1048576 ∧ ∀ e0 ∈ l, (e0.f0.length ≤ 1048576))) (k : Nat) (hk : 2097152 < k) : laws_toEraS.f k l = some (l.map cEra) := by
  have hlen : l.length ≤ 1048576 := hz.1
  unfold laws_toEraS.f
  rw [if_pos (by omega), if_pos (by omega), toEraS_l l hz l.length k _ 0 (by omega) (by omega) (by omega) (by omega) (by simp) (fun j h => by omega)]
theorem toRegister_is (a0 : List S240) (a1 : Int) (ha0 : (a0.length ≤ 1048576 ∧ ∀ e0 ∈ a0, (e0.f0.length ≤ 1048576))) (k : Nat) (hk : 2097152 < k) : laws_toRegister.f k a0 a1 = some ((a0.map cEra), a1) := by
  unfold laws_toRegister.f
  rw [toEraS_is a0 ha0 k (by omega)]
  simp only [Option.bind_some]
def cWord (x : S270) : S233 := ⟨x.f0, x.f1, x.f2⟩
theorem toWord_is (a0 : ByteArray) (a1 : List Int) (a2 : Bool) (ha0 : a0.size ≤ 1048576) (ha1 : a1.length ≤ 1048576) (k : Nat) (hk : 1048576 < k) : laws_toWord.f k a0 a1 a2 = some (a0, a1, a2) := by
  unfold laws_toWord.f
  rw [toIntS_is a1 ha1 k (by omega)]
  simp only [Option.bind_some]
theorem toWordS_l (l : List S270) (hz : (l.length ≤ 1048576 ∧ ∀ e0 ∈ l, (e0.f0.size ≤ 1048576 ∧ e0.f1.length ≤ 1048576))) (d : Nat) : ∀ (k : Nat) (ys : List S233) (i : Int), 0 ≤ i → (l.length : Int) - i ≤ d → i ≤ l.length → d + 1048576 < k → ys.length = l.length → (∀ j : Nat, (j : Int) < i → ys[j]? = ((l.map cWord))[j]?) →
    laws_toWordS.l0 k l ys i = some (l.map cWord) := by
  have hlen : l.length ≤ 1048576 := hz.1
  induction d with
  | zero =>
    intro k ys i h0 h1 h2 hk hy hj
    obtain ⟨k, rfl⟩ : ∃ m, k = m + 1 := ⟨k - 1, by omega⟩
    simp only [laws_toWordS.l0]
    rw [if_neg (by omega)]
    congr 1
    apply List.ext_getElem?
    intro j
    by_cases h : j < l.length
    · exact hj j (by omega)
    · rw [List.getElem?_eq_none (by omega), List.getElem?_eq_none (by first | omega | (simp; omega))]
  | succ d ih =>
    intro k ys i h0 h1 h2 hk hy hj
    obtain ⟨k, rfl⟩ : ∃ m, k = m + 1 := ⟨k - 1, by omega⟩
    simp only [laws_toWordS.l0]
    by_cases h : i < (l.length : Int)
    · rw [if_pos h, if_pos h0]
      have hg0 : (rd_T270 l i) = l[i.toNat]'(by omega) := by simp [rd_T270, List.getD_eq_getElem?_getD, List.getElem?_eq_getElem (show i.toNat < l.length by omega)]
      have he := hz.2 (l[i.toNat]'(by omega)) (List.getElem_mem _)
      rw [← hg0] at he
      rw [toWord_is (rd_T270 l i).f0 (rd_T270 l i).f1 (rd_T270 l i).f2 he.1 he.2 k (by omega)]
      simp only [Option.bind_some]
      rw [if_pos (by omega), wrap_id (by omega) (by omega)]
      refine ih k _ (i + 1) (by omega) (by omega) (by omega) (by omega) (by simp [hy]) ?_
      intro j hji
      rw [List.getElem?_set]
      by_cases e : i.toNat = j
      · subst e
        rw [if_pos rfl, if_pos (by omega)]
        simp [rd_T270, cWord, List.getD_eq_getElem?_getD, List.getElem?_eq_getElem (show i.toNat < l.length by omega)]
      · rw [if_neg e]
        exact hj j (by omega)
    · rw [if_neg h]
      congr 1
      apply List.ext_getElem?
      intro j
      by_cases h : j < l.length
      · exact hj j (by omega)
      · rw [List.getElem?_eq_none (by omega), List.getElem?_eq_none (by first | omega | (simp; omega))]
theorem toWordS_is (l : List S270) (hz : (l.length ≤ 1048576 ∧ ∀ e0 ∈ l, (e0.f0.size ≤ 1048576 ∧ e0.f1.length ≤ 1048576))) (k : Nat) (hk : 2097152 < k) : laws_toWordS.f k l = some (l.map cWord) := by
  have hlen : l.length ≤ 1048576 := hz.1
  unfold laws_toWordS.f
  rw [if_pos (by omega), if_pos (by omega), toWordS_l l hz l.length k _ 0 (by omega) (by omega) (by omega) (by omega) (by simp) (fun j h => by omega)]
def cWriter (x : S228) : S178 := ⟨x.f0, (x.f1.map cWord)⟩
theorem toWriter_is (a0 : Int) (a1 : List S270) (ha1 : (a1.length ≤ 1048576 ∧ ∀ e0 ∈ a1, (e0.f0.size ≤ 1048576 ∧ e0.f1.length ≤ 1048576))) (k : Nat) (hk : 2097152 < k) : laws_toWriter.f k a0 a1 = some (a0, (a1.map cWord)) := by
  unfold laws_toWriter.f
  rw [toWordS_is a1 ha1 k (by omega)]
  simp only [Option.bind_some]
theorem toWriterS_l (l : List S228) (hz : (l.length ≤ 1048576 ∧ ∀ e0 ∈ l, ((e0.f1.length ≤ 1048576 ∧ ∀ e1 ∈ e0.f1, (e1.f0.size ≤ 1048576 ∧ e1.f1.length ≤ 1048576))))) (d : Nat) : ∀ (k : Nat) (ys : List S178) (i : Int), 0 ≤ i → (l.length : Int) - i ≤ d → i ≤ l.length → d + 2097152 < k → ys.length = l.length → (∀ j : Nat, (j : Int) < i → ys[j]? = ((l.map cWriter))[j]?) →
    laws_toWriterS.l0 k l ys i = some (l.map cWriter) := by
  have hlen : l.length ≤ 1048576 := hz.1
  induction d with
  | zero =>
    intro k ys i h0 h1 h2 hk hy hj
    obtain ⟨k, rfl⟩ : ∃ m, k = m + 1 := ⟨k - 1, by omega⟩
    simp only [laws_toWriterS.l0]
    rw [if_neg (by omega)]
    congr 1
    apply List.ext_getElem?
    intro j
    by_cases h : j < l.length
    · exact hj j (by omega)
    · rw [List.getElem?_eq_none (by omega), List.getElem?_eq_none (by first | omega | (simp; omega))]
  | succ d ih =>
    intro k ys i h0 h1 h2 hk hy hj
    obtain ⟨k, rfl⟩ : ∃ m, k = m + 1 := ⟨k - 1, by omega⟩
    simp only [laws_toWriterS.l0]
    by_cases h : i < (l.length : Int)
    · rw [if_pos h, if_pos h0]
      have hg0 : (rd_T228 l i) = l[i.toNat]'(by omega) := by simp [rd_T228, List.getD_eq_getElem?_getD, List.getElem?_eq_getElem (show i.toNat < l.length by omega)]
      have he := hz.2 (l[i.toNat]'(by omega)) (List.getElem_mem _)
      rw [← hg0] at he
      rw [toWriter_is (rd_T228 l i).f0 (rd_T228 l i).f1 he k (by omega)]
      simp only [Option.bind_some]
      rw [if_pos (by omega), wrap_id (by omega) (by omega)]
      refine ih k _ (i + 1) (by omega) (by omega) (by omega) (by omega) (by simp [hy]) ?_
      intro j hji
      rw [List.getElem?_set]
      by_cases e : i.toNat = j
      · subst e
        rw [if_pos rfl, if_pos (by omega)]
        simp [rd_T228, cWriter, cWord, List.getD_eq_getElem?_getD, List.getElem?_eq_getElem (show i.toNat < l.length by omega)]
      · rw [if_neg e]
        exact hj j (by omega)
    · rw [if_neg h]
      congr 1
      apply List.ext_getElem?
      intro j
      by_cases h : j < l.length
      · exact hj j (by omega)
      · rw [List.getElem?_eq_none (by omega), List.getElem?_eq_none (by first | omega | (simp; omega))]
theorem toWriterS_is (l : List S228) (hz : (l.length ≤ 1048576 ∧ ∀ e0 ∈ l, ((e0.f1.length ≤ 1048576 ∧ ∀ e1 ∈ e0.f1, (e1.f0.size ≤ 1048576 ∧ e1.f1.length ≤ 1048576))))) (k : Nat) (hk : 3145728 < k) : laws_toWriterS.f k l = some (l.map cWriter) := by
  have hlen : l.length ≤ 1048576 := hz.1
  unfold laws_toWriterS.f
  rw [if_pos (by omega), if_pos (by omega), toWriterS_l l hz l.length k _ 0 (by omega) (by omega) (by omega) (by omega) (by simp) (fun j h => by omega)]
theorem toIntSS_l (l : List (List Int)) (hz : (l.length ≤ 1048576 ∧ ∀ e0 ∈ l, e0.length ≤ 1048576)) (d : Nat) : ∀ (k : Nat) (ys : List (List Int)) (i : Int), 0 ≤ i → (l.length : Int) - i ≤ d → i ≤ l.length → d + 1048576 < k → ys.length = l.length → (∀ j : Nat, (j : Int) < i → ys[j]? = (l)[j]?) →
    laws_toIntSS.l0 k l ys i = some l := by
  have hlen : l.length ≤ 1048576 := hz.1
  induction d with
  | zero =>
    intro k ys i h0 h1 h2 hk hy hj
    obtain ⟨k, rfl⟩ : ∃ m, k = m + 1 := ⟨k - 1, by omega⟩
    simp only [laws_toIntSS.l0]
    rw [if_neg (by omega)]
    congr 1
    apply List.ext_getElem?
    intro j
    by_cases h : j < l.length
    · exact hj j (by omega)
    · rw [List.getElem?_eq_none (by omega), List.getElem?_eq_none (by first | omega | (simp; omega))]
  | succ d ih =>
    intro k ys i h0 h1 h2 hk hy hj
    obtain ⟨k, rfl⟩ : ∃ m, k = m + 1 := ⟨k - 1, by omega⟩
    simp only [laws_toIntSS.l0]
    by_cases h : i < (l.length : Int)
    · rw [if_pos h, if_pos h0]
      have hg0 : (rd_L6 l i) = l[i.toNat]'(by omega) := by simp [rd_L6, List.getD_eq_getElem?_getD, List.getElem?_eq_getElem (show i.toNat < l.length by omega)]
      have he := hz.2 (l[i.toNat]'(by omega)) (List.getElem_mem _)
      rw [← hg0] at he
      rw [toIntS_is (rd_L6 l i) he k (by omega)]
      simp only [Option.bind_some]
      rw [if_pos (by omega), wrap_id (by omega) (by omega)]
      refine ih k _ (i + 1) (by omega) (by omega) (by omega) (by omega) (by simp [hy]) ?_
      intro j hji
      rw [List.getElem?_set]
      by_cases e : i.toNat = j
      · subst e
        rw [if_pos rfl, if_pos (by omega)]
        simp [rd_L6, List.getD_eq_getElem?_getD, List.getElem?_eq_getElem (show i.toNat < l.length by omega)]
      · rw [if_neg e]
        exact hj j (by omega)
    · rw [if_neg h]
      congr 1
      apply List.ext_getElem?
      intro j
      by_cases h : j < l.length
      · exact hj j (by omega)
      · rw [List.getElem?_eq_none (by omega), List.getElem?_eq_none (by first | omega | (simp; omega))]
theorem toIntSS_is (l : List (List Int)) (hz : (l.length ≤ 1048576 ∧ ∀ e0 ∈ l, e0.length ≤ 1048576)) (k : Nat) (hk : 2097152 < k) : laws_toIntSS.f k l = some l := by
  have hlen : l.length ≤ 1048576 := hz.1
  unfold laws_toIntSS.f
  rw [if_pos (by omega), if_pos (by omega), toIntSS_l l hz l.length k _ 0 (by omega) (by omega) (by omega) (by omega) (by simp) (fun j h => by omega)]
def cMend (x : S46) : S51 := ⟨x.f0, x.f1, x.f2, (x.f3.map cEntry), x.f4, x.f5⟩
theorem toMend_is (a0 : Int) (a1 : Int) (a2 : List Int) (a3 : List S167) (a4 : Bool) (a5 : List (List Int)) (ha2 : a2.length ≤ 1048576) (ha3 : (a3.length ≤ 1048576 ∧ ∀ e0 ∈ a3, (e0.f3.size ≤ 1048576))) (ha5 : (a5.length ≤ 1048576 ∧ ∀ e0 ∈ a5, e0.length ≤ 1048576)) (k : Nat) (hk : 2097152 < k) : laws_toMend.f k a0 a1 a2 a3 a4 a5 = some (a0, a1, a2, (a3.map cEntry), a4, a5) := by
  unfold laws_toMend.f
  rw [toIntS_is a2 ha2 k (by omega)]
  simp only [Option.bind_some]
  rw [toEntryS_is a3 ha3 k (by omega)]
  simp only [Option.bind_some]
  rw [toIntSS_is a5 ha5 k (by omega)]
  simp only [Option.bind_some]
theorem toMendS_l (l : List S46) (hz : (l.length ≤ 1048576 ∧ ∀ e0 ∈ l, (e0.f2.length ≤ 1048576 ∧ (e0.f3.length ≤ 1048576 ∧ ∀ e1 ∈ e0.f3, (e1.f3.size ≤ 1048576)) ∧ (e0.f5.length ≤ 1048576 ∧ ∀ e1 ∈ e0.f5, e1.length ≤ 1048576)))) (d : Nat) : ∀ (k : Nat) (ys : List S51) (i : Int), 0 ≤ i → (l.length : Int) - i ≤ d → i ≤ l.length → d + 2097152 < k → ys.length = l.length → (∀ j : Nat, (j : Int) < i → ys[j]? = ((l.map cMend))[j]?) →
    laws_toMendS.l0 k l ys i = some (l.map cMend) := by
  have hlen : l.length ≤ 1048576 := hz.1
  induction d with
  | zero =>
    intro k ys i h0 h1 h2 hk hy hj
    obtain ⟨k, rfl⟩ : ∃ m, k = m + 1 := ⟨k - 1, by omega⟩
    simp only [laws_toMendS.l0]
    rw [if_neg (by omega)]
    congr 1
    apply List.ext_getElem?
    intro j
    by_cases h : j < l.length
    · exact hj j (by omega)
    · rw [List.getElem?_eq_none (by omega), List.getElem?_eq_none (by first | omega | (simp; omega))]
  | succ d ih =>
    intro k ys i h0 h1 h2 hk hy hj
    obtain ⟨k, rfl⟩ : ∃ m, k = m + 1 := ⟨k - 1, by omega⟩
    simp only [laws_toMendS.l0]
    by_cases h : i < (l.length : Int)
    · rw [if_pos h, if_pos h0]
      have hg0 : (rd_T46 l i) = l[i.toNat]'(by omega) := by simp [rd_T46, List.getD_eq_getElem?_getD, List.getElem?_eq_getElem (show i.toNat < l.length by omega)]
      have he := hz.2 (l[i.toNat]'(by omega)) (List.getElem_mem _)
      rw [← hg0] at he
      rw [toMend_is (rd_T46 l i).f0 (rd_T46 l i).f1 (rd_T46 l i).f2 (rd_T46 l i).f3 (rd_T46 l i).f4 (rd_T46 l i).f5 he.1 he.2.1 he.2.2 k (by omega)]
      simp only [Option.bind_some]
      rw [if_pos (by omega), wrap_id (by omega) (by omega)]
      refine ih k _ (i + 1) (by omega) (by omega) (by omega) (by omega) (by simp [hy]) ?_
      intro j hji
      rw [List.getElem?_set]
      by_cases e : i.toNat = j
      · subst e
        rw [if_pos rfl, if_pos (by omega)]
        simp [rd_T46, cMend, cEntry, List.getD_eq_getElem?_getD, List.getElem?_eq_getElem (show i.toNat < l.length by omega)]
      · rw [if_neg e]
        exact hj j (by omega)
    · rw [if_neg h]
      congr 1
      apply List.ext_getElem?
      intro j
      by_cases h : j < l.length
      · exact hj j (by omega)
      · rw [List.getElem?_eq_none (by omega), List.getElem?_eq_none (by first | omega | (simp; omega))]
theorem toMendS_is (l : List S46) (hz : (l.length ≤ 1048576 ∧ ∀ e0 ∈ l, (e0.f2.length ≤ 1048576 ∧ (e0.f3.length ≤ 1048576 ∧ ∀ e1 ∈ e0.f3, (e1.f3.size ≤ 1048576)) ∧ (e0.f5.length ≤ 1048576 ∧ ∀ e1 ∈ e0.f5, e1.length ≤ 1048576)))) (k : Nat) (hk : 3145728 < k) : laws_toMendS.f k l = some (l.map cMend) := by
  have hlen : l.length ≤ 1048576 := hz.1
  unfold laws_toMendS.f
  rw [if_pos (by omega), if_pos (by omega), toMendS_l l hz l.length k _ 0 (by omega) (by omega) (by omega) (by omega) (by simp) (fun j h => by omega)]
def cEvent (x : S242) : S40 := ⟨x.f0, x.f1, x.f2⟩
theorem toEvent_is (a0 : Int) (a1 : Int) (a2 : ByteArray) (ha2 : a2.size ≤ 1048576) : laws_toEvent.f a0 a1 a2 = some (a0, a1, a2) := by
  rfl
theorem toEventS_l (l : List S242) (hz : (l.length ≤ 1048576 ∧ ∀ e0 ∈ l, (e0.f2.size ≤ 1048576))) (d : Nat) : ∀ (k : Nat) (ys : List S40) (i : Int), 0 ≤ i → (l.length : Int) - i ≤ d → i ≤ l.length → d + 0 < k → ys.length = l.length → (∀ j : Nat, (j : Int) < i → ys[j]? = ((l.map cEvent))[j]?) →
    laws_toEventS.l0 k l ys i = some (l.map cEvent) := by
  have hlen : l.length ≤ 1048576 := hz.1
  induction d with
  | zero =>
    intro k ys i h0 h1 h2 hk hy hj
    obtain ⟨k, rfl⟩ : ∃ m, k = m + 1 := ⟨k - 1, by omega⟩
    simp only [laws_toEventS.l0]
    rw [if_neg (by omega)]
    congr 1
    apply List.ext_getElem?
    intro j
    by_cases h : j < l.length
    · exact hj j (by omega)
    · rw [List.getElem?_eq_none (by omega), List.getElem?_eq_none (by first | omega | (simp; omega))]
  | succ d ih =>
    intro k ys i h0 h1 h2 hk hy hj
    obtain ⟨k, rfl⟩ : ∃ m, k = m + 1 := ⟨k - 1, by omega⟩
    simp only [laws_toEventS.l0]
    by_cases h : i < (l.length : Int)
    · rw [if_pos h, if_pos h0]
      have hg0 : (rd_T242 l i) = l[i.toNat]'(by omega) := by simp [rd_T242, List.getD_eq_getElem?_getD, List.getElem?_eq_getElem (show i.toNat < l.length by omega)]
      have he := hz.2 (l[i.toNat]'(by omega)) (List.getElem_mem _)
      rw [← hg0] at he
      rw [toEvent_is (rd_T242 l i).f0 (rd_T242 l i).f1 (rd_T242 l i).f2 he]
      simp only [Option.bind_some]
      rw [if_pos (by omega), wrap_id (by omega) (by omega)]
      refine ih k _ (i + 1) (by omega) (by omega) (by omega) (by omega) (by simp [hy]) ?_
      intro j hji
      rw [List.getElem?_set]
      by_cases e : i.toNat = j
      · subst e
        rw [if_pos rfl, if_pos (by omega)]
        simp [rd_T242, cEvent, List.getD_eq_getElem?_getD, List.getElem?_eq_getElem (show i.toNat < l.length by omega)]
      · rw [if_neg e]
        exact hj j (by omega)
    · rw [if_neg h]
      congr 1
      apply List.ext_getElem?
      intro j
      by_cases h : j < l.length
      · exact hj j (by omega)
      · rw [List.getElem?_eq_none (by omega), List.getElem?_eq_none (by first | omega | (simp; omega))]
theorem toEventS_is (l : List S242) (hz : (l.length ≤ 1048576 ∧ ∀ e0 ∈ l, (e0.f2.size ≤ 1048576))) (k : Nat) (hk : 1048576 < k) : laws_toEventS.f k l = some (l.map cEvent) := by
  have hlen : l.length ≤ 1048576 := hz.1
  unfold laws_toEventS.f
  rw [if_pos (by omega), if_pos (by omega), toEventS_l l hz l.length k _ 0 (by omega) (by omega) (by omega) (by omega) (by simp) (fun j h => by omega)]
def cReader (x : S105) : S32 := ⟨x.f0, x.f1, (x.f2.map cEvent)⟩
theorem toReader_is (a0 : Int) (a1 : Int) (a2 : List S242) (ha2 : (a2.length ≤ 1048576 ∧ ∀ e0 ∈ a2, (e0.f2.size ≤ 1048576))) (k : Nat) (hk : 1048576 < k) : laws_toReader.f k a0 a1 a2 = some (a0, a1, (a2.map cEvent)) := by
  unfold laws_toReader.f
  rw [toEventS_is a2 ha2 k (by omega)]
  simp only [Option.bind_some]
theorem toReaderS_l (l : List S105) (hz : (l.length ≤ 1048576 ∧ ∀ e0 ∈ l, ((e0.f2.length ≤ 1048576 ∧ ∀ e1 ∈ e0.f2, (e1.f2.size ≤ 1048576))))) (d : Nat) : ∀ (k : Nat) (ys : List S32) (i : Int), 0 ≤ i → (l.length : Int) - i ≤ d → i ≤ l.length → d + 1048576 < k → ys.length = l.length → (∀ j : Nat, (j : Int) < i → ys[j]? = ((l.map cReader))[j]?) →
    laws_toReaderS.l0 k l ys i = some (l.map cReader) := by
  have hlen : l.length ≤ 1048576 := hz.1
  induction d with
  | zero =>
    intro k ys i h0 h1 h2 hk hy hj
    obtain ⟨k, rfl⟩ : ∃ m, k = m + 1 := ⟨k - 1, by omega⟩
    simp only [laws_toReaderS.l0]
    rw [if_neg (by omega)]
    congr 1
    apply List.ext_getElem?
    intro j
    by_cases h : j < l.length
    · exact hj j (by omega)
    · rw [List.getElem?_eq_none (by omega), List.getElem?_eq_none (by first | omega | (simp; omega))]
  | succ d ih =>
    intro k ys i h0 h1 h2 hk hy hj
    obtain ⟨k, rfl⟩ : ∃ m, k = m + 1 := ⟨k - 1, by omega⟩
    simp only [laws_toReaderS.l0]
    by_cases h : i < (l.length : Int)
    · rw [if_pos h, if_pos h0]
      have hg0 : (rd_T105 l i) = l[i.toNat]'(by omega) := by simp [rd_T105, List.getD_eq_getElem?_getD, List.getElem?_eq_getElem (show i.toNat < l.length by omega)]
      have he := hz.2 (l[i.toNat]'(by omega)) (List.getElem_mem _)
      rw [← hg0] at he
      rw [toReader_is (rd_T105 l i).f0 (rd_T105 l i).f1 (rd_T105 l i).f2 he k (by omega)]
      simp only [Option.bind_some]
      rw [if_pos (by omega), wrap_id (by omega) (by omega)]
      refine ih k _ (i + 1) (by omega) (by omega) (by omega) (by omega) (by simp [hy]) ?_
      intro j hji
      rw [List.getElem?_set]
      by_cases e : i.toNat = j
      · subst e
        rw [if_pos rfl, if_pos (by omega)]
        simp [rd_T105, cReader, cEvent, List.getD_eq_getElem?_getD, List.getElem?_eq_getElem (show i.toNat < l.length by omega)]
      · rw [if_neg e]
        exact hj j (by omega)
    · rw [if_neg h]
      congr 1
      apply List.ext_getElem?
      intro j
      by_cases h : j < l.length
      · exact hj j (by omega)
      · rw [List.getElem?_eq_none (by omega), List.getElem?_eq_none (by first | omega | (simp; omega))]
theorem toReaderS_is (l : List S105) (hz : (l.length ≤ 1048576 ∧ ∀ e0 ∈ l, ((e0.f2.length ≤ 1048576 ∧ ∀ e1 ∈ e0.f2, (e1.f2.size ≤ 1048576))))) (k : Nat) (hk : 2097152 < k) : laws_toReaderS.f k l = some (l.map cReader) := by
  have hlen : l.length ≤ 1048576 := hz.1
  unfold laws_toReaderS.f
  rw [if_pos (by omega), if_pos (by omega), toReaderS_l l hz l.length k _ 0 (by omega) (by omega) (by omega) (by omega) (by simp) (fun j h => by omega)]
def cSent (x : S231) : S235 := ⟨x.f0, x.f1, x.f2⟩
theorem toSent_is (a0 : Int) (a1 : ByteArray) (a2 : Bool) (ha1 : a1.size ≤ 1048576) : laws_toSent.f a0 a1 a2 = some (a0, a1, a2) := by
  rfl
theorem toSentS_l (l : List S231) (hz : (l.length ≤ 1048576 ∧ ∀ e0 ∈ l, (e0.f1.size ≤ 1048576))) (d : Nat) : ∀ (k : Nat) (ys : List S235) (i : Int), 0 ≤ i → (l.length : Int) - i ≤ d → i ≤ l.length → d + 0 < k → ys.length = l.length → (∀ j : Nat, (j : Int) < i → ys[j]? = ((l.map cSent))[j]?) →
    laws_toSentS.l0 k l ys i = some (l.map cSent) := by
  have hlen : l.length ≤ 1048576 := hz.1
  induction d with
  | zero =>
    intro k ys i h0 h1 h2 hk hy hj
    obtain ⟨k, rfl⟩ : ∃ m, k = m + 1 := ⟨k - 1, by omega⟩
    simp only [laws_toSentS.l0]
    rw [if_neg (by omega)]
    congr 1
    apply List.ext_getElem?
    intro j
    by_cases h : j < l.length
    · exact hj j (by omega)
    · rw [List.getElem?_eq_none (by omega), List.getElem?_eq_none (by first | omega | (simp; omega))]
  | succ d ih =>
    intro k ys i h0 h1 h2 hk hy hj
    obtain ⟨k, rfl⟩ : ∃ m, k = m + 1 := ⟨k - 1, by omega⟩
    simp only [laws_toSentS.l0]
    by_cases h : i < (l.length : Int)
    · rw [if_pos h, if_pos h0]
      have hg0 : (rd_T231 l i) = l[i.toNat]'(by omega) := by simp [rd_T231, List.getD_eq_getElem?_getD, List.getElem?_eq_getElem (show i.toNat < l.length by omega)]
      have he := hz.2 (l[i.toNat]'(by omega)) (List.getElem_mem _)
      rw [← hg0] at he
      rw [toSent_is (rd_T231 l i).f0 (rd_T231 l i).f1 (rd_T231 l i).f2 he]
      simp only [Option.bind_some]
      rw [if_pos (by omega), wrap_id (by omega) (by omega)]
      refine ih k _ (i + 1) (by omega) (by omega) (by omega) (by omega) (by simp [hy]) ?_
      intro j hji
      rw [List.getElem?_set]
      by_cases e : i.toNat = j
      · subst e
        rw [if_pos rfl, if_pos (by omega)]
        simp [rd_T231, cSent, List.getD_eq_getElem?_getD, List.getElem?_eq_getElem (show i.toNat < l.length by omega)]
      · rw [if_neg e]
        exact hj j (by omega)
    · rw [if_neg h]
      congr 1
      apply List.ext_getElem?
      intro j
      by_cases h : j < l.length
      · exact hj j (by omega)
      · rw [List.getElem?_eq_none (by omega), List.getElem?_eq_none (by first | omega | (simp; omega))]
theorem toSentS_is (l : List S231) (hz : (l.length ≤ 1048576 ∧ ∀ e0 ∈ l, (e0.f1.size ≤ 1048576))) (k : Nat) (hk : 1048576 < k) : laws_toSentS.f k l = some (l.map cSent) := by
  have hlen : l.length ≤ 1048576 := hz.1
  unfold laws_toSentS.f
  rw [if_pos (by omega), if_pos (by omega), toSentS_l l hz l.length k _ 0 (by omega) (by omega) (by omega) (by omega) (by simp) (fun j h => by omega)]
theorem toWorld_is (a0 : List Int) (a1 : Int) (a2 : List S160) (a3 : List Int) (a4 : List S240) (a5 : Int) (a6 : List S228) (a7 : List S46) (a8 : List S105) (a9 : List S231) (a10 : Bool) (ha0 : a0.length ≤ 1048576) (ha2 : (a2.length ≤ 1048576 ∧ ∀ e0 ∈ a2, ((e0.f0.length ≤ 1048576 ∧ ∀ e1 ∈ e0.f0, (e1.f3.size ≤ 1048576)) ∧ (e0.f1.length ≤ 1048576 ∧ ∀ e1 ∈ e0.f1, (e1.f3.size ≤ 1048576))))) (ha3 : a3.length ≤ 1048576) (ha4 : (a4.length ≤ 1048576 ∧ ∀ e0 ∈ a4, (e0.f0.length ≤ 1048576))) (ha6 : (a6.length ≤ 1048576 ∧ ∀ e0 ∈ a6, ((e0.f1.length ≤ 1048576 ∧ ∀ e1 ∈ e0.f1, (e1.f0.size ≤ 1048576 ∧ e1.f1.length ≤ 1048576))))) (ha7 : (a7.length ≤ 1048576 ∧ ∀ e0 ∈ a7, (e0.f2.length ≤ 1048576 ∧ (e0.f3.length ≤ 1048576 ∧ ∀ e1 ∈ e0.f3, (e1.f3.size ≤ 1048576)) ∧ (e0.f5.length ≤ 1048576 ∧ ∀ e1 ∈ e0.f5, e1.length ≤ 1048576)))) (ha8 : (a8.length ≤ 1048576 ∧ ∀ e0 ∈ a8, ((e0.f2.length ≤ 1048576 ∧ ∀ e1 ∈ e0.f2, (e1.f2.size ≤ 1048576))))) (ha9 : (a9.length ≤ 1048576 ∧ ∀ e0 ∈ a9, (e0.f1.size ≤ 1048576))) (k : Nat) (hk : 3145728 < k) : laws_toWorld.f k a0 a1 a2 a3 a4 a5 a6 a7 a8 a9 a10 = some (a0, a1, (a2.map cStore), a3, (a4.map cEra), a5, (a6.map cWriter), (a7.map cMend), (a8.map cReader), (a9.map cSent), a10) := by
  unfold laws_toWorld.f
  rw [toConfig_is a0 a1 ha0 k (by omega)]
  simp only [Option.bind_some]
  rw [toStoreS_is a2 ha2 k (by omega)]
  simp only [Option.bind_some]
  rw [toIntS_is a3 ha3 k (by omega)]
  simp only [Option.bind_some]
  rw [toRegister_is a4 a5 ha4 k (by omega)]
  simp only [Option.bind_some]
  rw [toWriterS_is a6 ha6 k (by omega)]
  simp only [Option.bind_some]
  rw [toMendS_is a7 ha7 k (by omega)]
  simp only [Option.bind_some]
  rw [toReaderS_is a8 ha8 k (by omega)]
  simp only [Option.bind_some]
  rw [toSentS_is a9 ha9 k (by omega)]
  simp only [Option.bind_some]
theorem impl_WriterSure_l (l : List S233) (e : Int) (hl : l.length ≤ 1048576) (d : Nat) : ∀ (k i : Nat), i + d = l.length → d < k → impl_WriterSure.l0 k l (l.length : Int) (i : Int) e l = some (sureFrom l d i : Int) := by
  induction d with
  | zero =>
    intro k i h hk
    obtain ⟨k, rfl⟩ : ∃ m, k = m + 1 := ⟨k - 1, by omega⟩
    simp only [impl_WriterSure.l0]
    rw [if_neg (by omega)]
    simp [sureFrom]
    omega
  | succ d ih =>
    intro k i h hk
    obtain ⟨k, rfl⟩ : ∃ m, k = m + 1 := ⟨k - 1, by omega⟩
    simp only [impl_WriterSure.l0, sureFrom]
    rw [if_pos (by omega), if_pos (by omega), if_pos (by omega)]
    split
    · rw [wrap_id (by omega) (by omega)]
      exact ih k (i + 1) (by omega) (by omega)
    · rfl
theorem impl_WriterSure_is (e : Int) (l : List S233) (hl : l.length ≤ 1048576) (k : Nat) (hk : 1048576 < k) : impl_WriterSure.f k e l = some (sureFrom l l.length 0 : Int) := by
  unfold impl_WriterSure.f
  exact impl_WriterSure_l l e hl l.length k 0 (by omega) (by omega)
theorem impl_SureOf_l (ep : Int) (l : List S178) (hl : l.length ≤ 1048576 ∧ ∀ e ∈ l, e.f1.length ≤ 1048576) (d : Nat) : ∀ (k i : Nat), i + d = l.length → d + 1048577 < k →
    impl_SureOf.l0 k ep l (l.length : Int) (i : Int) = some (sureOfL (l.drop i) ep) := by
  induction d with
  | zero =>
    intro k i h hk
    obtain ⟨k, rfl⟩ : ∃ m, k = m + 1 := ⟨k - 1, by omega⟩
    simp only [impl_SureOf.l0]
    rw [if_neg (by omega), List.drop_eq_nil_of_le (by omega)]
    rfl
  | succ d ih =>
    intro k i h hk
    obtain ⟨k, rfl⟩ : ∃ m, k = m + 1 := ⟨k - 1, by omega⟩
    have hm := hl.2 _ (rdT_Writer_mem l i (by omega))
    simp only [impl_SureOf.l0]
    rw [if_pos (by omega), if_pos (by omega), if_pos (by omega), impl_WriterSure_is _ _ hm _ (by omega), wrap_id (show -9223372036854775808 ≤ (i : Int) + 1 by omega) (by omega), show (i : Int) + 1 = ((i + 1 : Nat) : Int) from rfl, ih k (i + 1) (by omega) (by omega), drop_rdT_Writer l i (by omega)]
    simp only [Option.bind_some, sureOfL]
    by_cases he : (rd_T178 l (i : Int)).f0 = ep
    · rw [if_pos he, if_pos he]
    · rw [if_neg he, if_neg he]
theorem impl_SureOf_is (ep : Int) (a0 : List Int) (a1 : Int) (a2 : List S64) (a3 : List Int) (a4 : List S142) (a5 : Int) (l : List S178) (a7 : List S51) (a8 : List S32) (a9 : List S235) (a10 : Bool) (hl : l.length ≤ 1048576 ∧ ∀ e ∈ l, e.f1.length ≤ 1048576) (k : Nat) (hk : 2097153 < k) :
    impl_SureOf.f k a0 a1 a2 a3 a4 a5 l a7 a8 a9 a10 ep = some (sureOfL l ep) := by
  unfold impl_SureOf.f
  have h := impl_SureOf_l ep l hl l.length k 0 (by omega) (by omega)
  simpa using h
theorem eqIntS_l (l : List Int) (hz : l.length ≤ 1048576) (d : Nat) : ∀ (k : Nat) (i : Int), 0 ≤ i → (l.length : Int) - i ≤ d → i ≤ l.length → d + 0 < k → laws_eqIntS.l0 k l l i = some true := by
  have hlen : l.length ≤ 1048576 := hz
  induction d with
  | zero =>
    intro k i h0 h1 h2 hk
    obtain ⟨k, rfl⟩ : ∃ m, k = m + 1 := ⟨k - 1, by omega⟩
    simp only [laws_eqIntS.l0]
    rw [if_neg (by omega)]
  | succ d ih =>
    intro k i h0 h1 h2 hk
    obtain ⟨k, rfl⟩ : ∃ m, k = m + 1 := ⟨k - 1, by omega⟩
    simp only [laws_eqIntS.l0]
    by_cases h : i < (l.length : Int)
    · rw [if_pos h, if_pos h0, if_pos h]
      (first | rw [if_pos rfl] | rw [if_pos trivial])
      rw [wrap_id (by omega) (by omega)]
      exact ih k (i + 1) (by omega) (by omega) (by omega) (by omega)
    · rw [if_neg h]
theorem eqIntS_self (l : List Int) (hz : l.length ≤ 1048576) (k : Nat) (hk : 1048576 < k) : laws_eqIntS.f k l l = some true := by
  have hlen : l.length ≤ 1048576 := hz
  unfold laws_eqIntS.f
  rw [if_pos rfl, eqIntS_l l hz l.length k 0 (by omega) (by omega) (by omega) (by omega)]
theorem eqConfig_self (a0 : List Int) (a1 : Int) (ha0 : a0.length ≤ 1048576) (k : Nat) (hk : 1048576 < k) : laws_eqConfig.f k a0 a1 a0 a1 = some true := by
  unfold laws_eqConfig.f
  simp [eqIntS_self a0 ha0 k (by omega)]
theorem eqEntry_self (a0 : Int) (a1 : Int) (a2 : Bool) (a3 : ByteArray)  : laws_eqEntry.f a0 a1 a2 a3 a0 a1 a2 a3 = some true := by
  unfold laws_eqEntry.f
  simp
theorem eqEntryS_l (l : List S128) (hz : (l.length ≤ 1048576 ∧ ∀ e0 ∈ l, (e0.f3.size ≤ 1048576))) (d : Nat) : ∀ (k : Nat) (i : Int), 0 ≤ i → (l.length : Int) - i ≤ d → i ≤ l.length → d + 0 < k → laws_eqEntryS.l0 k l l i = some true := by
  have hlen : l.length ≤ 1048576 := hz.1
  induction d with
  | zero =>
    intro k i h0 h1 h2 hk
    obtain ⟨k, rfl⟩ : ∃ m, k = m + 1 := ⟨k - 1, by omega⟩
    simp only [laws_eqEntryS.l0]
    rw [if_neg (by omega)]
  | succ d ih =>
    intro k i h0 h1 h2 hk
    obtain ⟨k, rfl⟩ : ∃ m, k = m + 1 := ⟨k - 1, by omega⟩
    simp only [laws_eqEntryS.l0]
    by_cases h : i < (l.length : Int)
    · rw [if_pos h, if_pos h0, if_pos h]
      rw [eqEntry_self (rd_T128 l i).f0 (rd_T128 l i).f1 (rd_T128 l i).f2 (rd_T128 l i).f3]
      simp only [Option.bind_some]
      (first | rw [if_pos rfl] | rw [if_pos trivial])
      rw [wrap_id (by omega) (by omega)]
      exact ih k (i + 1) (by omega) (by omega) (by omega) (by omega)
    · rw [if_neg h]
theorem eqEntryS_self (l : List S128) (hz : (l.length ≤ 1048576 ∧ ∀ e0 ∈ l, (e0.f3.size ≤ 1048576))) (k : Nat) (hk : 1048576 < k) : laws_eqEntryS.f k l l = some true := by
  have hlen : l.length ≤ 1048576 := hz.1
  unfold laws_eqEntryS.f
  rw [if_pos rfl, eqEntryS_l l hz l.length k 0 (by omega) (by omega) (by omega) (by omega)]
theorem eqStore_self (a0 : List S128) (a1 : List S128) (a2 : Int) (ha0 : (a0.length ≤ 1048576 ∧ ∀ e0 ∈ a0, (e0.f3.size ≤ 1048576))) (ha1 : (a1.length ≤ 1048576 ∧ ∀ e0 ∈ a1, (e0.f3.size ≤ 1048576))) (k : Nat) (hk : 1048576 < k) : laws_eqStore.f k a0 a1 a2 a0 a1 a2 = some true := by
  unfold laws_eqStore.f
  simp [eqEntryS_self a0 ha0 k (by omega), eqEntryS_self a1 ha1 k (by omega)]
theorem eqStoreS_l (l : List S64) (hz : (l.length ≤ 1048576 ∧ ∀ e0 ∈ l, ((e0.f0.length ≤ 1048576 ∧ ∀ e1 ∈ e0.f0, (e1.f3.size ≤ 1048576)) ∧ (e0.f1.length ≤ 1048576 ∧ ∀ e1 ∈ e0.f1, (e1.f3.size ≤ 1048576))))) (d : Nat) : ∀ (k : Nat) (i : Int), 0 ≤ i → (l.length : Int) - i ≤ d → i ≤ l.length → d + 1048576 < k → laws_eqStoreS.l0 k l l i = some true := by
  have hlen : l.length ≤ 1048576 := hz.1
  induction d with
  | zero =>
    intro k i h0 h1 h2 hk
    obtain ⟨k, rfl⟩ : ∃ m, k = m + 1 := ⟨k - 1, by omega⟩
    simp only [laws_eqStoreS.l0]
    rw [if_neg (by omega)]
  | succ d ih =>
    intro k i h0 h1 h2 hk
    obtain ⟨k, rfl⟩ : ∃ m, k = m + 1 := ⟨k - 1, by omega⟩
    simp only [laws_eqStoreS.l0]
    by_cases h : i < (l.length : Int)
    · rw [if_pos h, if_pos h0, if_pos h]
      have hg0 : (rd_T64 l i) = l[i.toNat]'(by omega) := by simp [rd_T64, List.getD_eq_getElem?_getD, List.getElem?_eq_getElem (show i.toNat < l.length by omega)]
      have he := hz.2 (l[i.toNat]'(by omega)) (List.getElem_mem _)
      rw [← hg0] at he
      rw [eqStore_self (rd_T64 l i).f0 (rd_T64 l i).f1 (rd_T64 l i).f2 he.1 he.2 k (by omega)]
      simp only [Option.bind_some]
      (first | rw [if_pos rfl] | rw [if_pos trivial])
      rw [wrap_id (by omega) (by omega)]
      exact ih k (i + 1) (by omega) (by omega) (by omega) (by omega)
    · rw [if_neg h]
theorem eqStoreS_self (l : List S64) (hz : (l.length ≤ 1048576 ∧ ∀ e0 ∈ l, ((e0.f0.length ≤ 1048576 ∧ ∀ e1 ∈ e0.f0, (e1.f3.size ≤ 1048576)) ∧ (e0.f1.length ≤ 1048576 ∧ ∀ e1 ∈ e0.f1, (e1.f3.size ≤ 1048576))))) (k : Nat) (hk : 2097152 < k) : laws_eqStoreS.f k l l = some true := by
  have hlen : l.length ≤ 1048576 := hz.1
  unfold laws_eqStoreS.f
  rw [if_pos rfl, eqStoreS_l l hz l.length k 0 (by omega) (by omega) (by omega) (by omega)]
theorem eqEra_self (a0 : List Int) (a1 : Bool) (a2 : Int) (ha0 : a0.length ≤ 1048576) (k : Nat) (hk : 1048576 < k) : laws_eqEra.f k a0 a1 a2 a0 a1 a2 = some true := by
  unfold laws_eqEra.f
  simp [eqIntS_self a0 ha0 k (by omega)]
theorem eqEraS_l (l : List S142) (hz : (l.length ≤ 1048576 ∧ ∀ e0 ∈ l, (e0.f0.length ≤ 1048576))) (d : Nat) : ∀ (k : Nat) (i : Int), 0 ≤ i → (l.length : Int) - i ≤ d → i ≤ l.length → d + 1048576 < k → laws_eqEraS.l0 k l l i = some true := by
  have hlen : l.length ≤ 1048576 := hz.1
  induction d with
  | zero =>
    intro k i h0 h1 h2 hk
    obtain ⟨k, rfl⟩ : ∃ m, k = m + 1 := ⟨k - 1, by omega⟩
    simp only [laws_eqEraS.l0]
    rw [if_neg (by omega)]
  | succ d ih =>
    intro k i h0 h1 h2 hk
    obtain ⟨k, rfl⟩ : ∃ m, k = m + 1 := ⟨k - 1, by omega⟩
    simp only [laws_eqEraS.l0]
    by_cases h : i < (l.length : Int)
    · rw [if_pos h, if_pos h0, if_pos h]
      have hg0 : (rd_T142 l i) = l[i.toNat]'(by omega) := by simp [rd_T142, List.getD_eq_getElem?_getD, List.getElem?_eq_getElem (show i.toNat < l.length by omega)]
      have he := hz.2 (l[i.toNat]'(by omega)) (List.getElem_mem _)
      rw [← hg0] at he
      rw [eqEra_self (rd_T142 l i).f0 (rd_T142 l i).f1 (rd_T142 l i).f2 he k (by omega)]
      simp only [Option.bind_some]
      (first | rw [if_pos rfl] | rw [if_pos trivial])
      rw [wrap_id (by omega) (by omega)]
      exact ih k (i + 1) (by omega) (by omega) (by omega) (by omega)
    · rw [if_neg h]
theorem eqEraS_self (l : List S142) (hz : (l.length ≤ 1048576 ∧ ∀ e0 ∈ l, (e0.f0.length ≤ 1048576))) (k : Nat) (hk : 2097152 < k) : laws_eqEraS.f k l l = some true := by
  have hlen : l.length ≤ 1048576 := hz.1
  unfold laws_eqEraS.f
  rw [if_pos rfl, eqEraS_l l hz l.length k 0 (by omega) (by omega) (by omega) (by omega)]
theorem eqRegister_self (a0 : List S142) (a1 : Int) (ha0 : (a0.length ≤ 1048576 ∧ ∀ e0 ∈ a0, (e0.f0.length ≤ 1048576))) (k : Nat) (hk : 2097152 < k) : laws_eqRegister.f k a0 a1 a0 a1 = some true := by
  unfold laws_eqRegister.f
  simp [eqEraS_self a0 ha0 k (by omega)]
theorem eqWord_self (a0 : ByteArray) (a1 : List Int) (a2 : Bool) (ha0 : a0.size ≤ 1048576) (ha1 : a1.length ≤ 1048576) (k : Nat) (hk : 1048576 < k) : laws_eqWord.f k a0 a1 a2 a0 a1 a2 = some true := by
  unfold laws_eqWord.f
  simp [eqIntS_self a1 ha1 k (by omega)]
theorem eqWordS_l (l : List S233) (hz : (l.length ≤ 1048576 ∧ ∀ e0 ∈ l, (e0.f0.size ≤ 1048576 ∧ e0.f1.length ≤ 1048576))) (d : Nat) : ∀ (k : Nat) (i : Int), 0 ≤ i → (l.length : Int) - i ≤ d → i ≤ l.length → d + 1048576 < k → laws_eqWordS.l0 k l l i = some true := by
  have hlen : l.length ≤ 1048576 := hz.1
  induction d with
  | zero =>
    intro k i h0 h1 h2 hk
    obtain ⟨k, rfl⟩ : ∃ m, k = m + 1 := ⟨k - 1, by omega⟩
    simp only [laws_eqWordS.l0]
    rw [if_neg (by omega)]
  | succ d ih =>
    intro k i h0 h1 h2 hk
    obtain ⟨k, rfl⟩ : ∃ m, k = m + 1 := ⟨k - 1, by omega⟩
    simp only [laws_eqWordS.l0]
    by_cases h : i < (l.length : Int)
    · rw [if_pos h, if_pos h0, if_pos h]
      have hg0 : (rd_T233 l i) = l[i.toNat]'(by omega) := by simp [rd_T233, List.getD_eq_getElem?_getD, List.getElem?_eq_getElem (show i.toNat < l.length by omega)]
      have he := hz.2 (l[i.toNat]'(by omega)) (List.getElem_mem _)
      rw [← hg0] at he
      rw [eqWord_self (rd_T233 l i).f0 (rd_T233 l i).f1 (rd_T233 l i).f2 he.1 he.2 k (by omega)]
      simp only [Option.bind_some]
      (first | rw [if_pos rfl] | rw [if_pos trivial])
      rw [wrap_id (by omega) (by omega)]
      exact ih k (i + 1) (by omega) (by omega) (by omega) (by omega)
    · rw [if_neg h]
theorem eqWordS_self (l : List S233) (hz : (l.length ≤ 1048576 ∧ ∀ e0 ∈ l, (e0.f0.size ≤ 1048576 ∧ e0.f1.length ≤ 1048576))) (k : Nat) (hk : 2097152 < k) : laws_eqWordS.f k l l = some true := by
  have hlen : l.length ≤ 1048576 := hz.1
  unfold laws_eqWordS.f
  rw [if_pos rfl, eqWordS_l l hz l.length k 0 (by omega) (by omega) (by omega) (by omega)]
theorem eqWriter_self (a0 : Int) (a1 : List S233) (ha1 : (a1.length ≤ 1048576 ∧ ∀ e0 ∈ a1, (e0.f0.size ≤ 1048576 ∧ e0.f1.length ≤ 1048576))) (k : Nat) (hk : 2097152 < k) : laws_eqWriter.f k a0 a1 a0 a1 = some true := by
  unfold laws_eqWriter.f
  simp [eqWordS_self a1 ha1 k (by omega)]
theorem eqWriterS_l (l : List S178) (hz : (l.length ≤ 1048576 ∧ ∀ e0 ∈ l, ((e0.f1.length ≤ 1048576 ∧ ∀ e1 ∈ e0.f1, (e1.f0.size ≤ 1048576 ∧ e1.f1.length ≤ 1048576))))) (d : Nat) : ∀ (k : Nat) (i : Int), 0 ≤ i → (l.length : Int) - i ≤ d → i ≤ l.length → d + 2097152 < k → laws_eqWriterS.l0 k l l i = some true := by
  have hlen : l.length ≤ 1048576 := hz.1
  induction d with
  | zero =>
    intro k i h0 h1 h2 hk
    obtain ⟨k, rfl⟩ : ∃ m, k = m + 1 := ⟨k - 1, by omega⟩
    simp only [laws_eqWriterS.l0]
    rw [if_neg (by omega)]
  | succ d ih =>
    intro k i h0 h1 h2 hk
    obtain ⟨k, rfl⟩ : ∃ m, k = m + 1 := ⟨k - 1, by omega⟩
    simp only [laws_eqWriterS.l0]
    by_cases h : i < (l.length : Int)
    · rw [if_pos h, if_pos h0, if_pos h]
      have hg0 : (rd_T178 l i) = l[i.toNat]'(by omega) := by simp [rd_T178, List.getD_eq_getElem?_getD, List.getElem?_eq_getElem (show i.toNat < l.length by omega)]
      have he := hz.2 (l[i.toNat]'(by omega)) (List.getElem_mem _)
      rw [← hg0] at he
      rw [eqWriter_self (rd_T178 l i).f0 (rd_T178 l i).f1 he k (by omega)]
      simp only [Option.bind_some]
      (first | rw [if_pos rfl] | rw [if_pos trivial])
      rw [wrap_id (by omega) (by omega)]
      exact ih k (i + 1) (by omega) (by omega) (by omega) (by omega)
    · rw [if_neg h]
theorem eqWriterS_self (l : List S178) (hz : (l.length ≤ 1048576 ∧ ∀ e0 ∈ l, ((e0.f1.length ≤ 1048576 ∧ ∀ e1 ∈ e0.f1, (e1.f0.size ≤ 1048576 ∧ e1.f1.length ≤ 1048576))))) (k : Nat) (hk : 3145728 < k) : laws_eqWriterS.f k l l = some true := by
  have hlen : l.length ≤ 1048576 := hz.1
  unfold laws_eqWriterS.f
  rw [if_pos rfl, eqWriterS_l l hz l.length k 0 (by omega) (by omega) (by omega) (by omega)]
theorem eqIntSS_l (l : List (List Int)) (hz : (l.length ≤ 1048576 ∧ ∀ e0 ∈ l, e0.length ≤ 1048576)) (d : Nat) : ∀ (k : Nat) (i : Int), 0 ≤ i → (l.length : Int) - i ≤ d → i ≤ l.length → d + 1048576 < k → laws_eqIntSS.l0 k l l i = some true := by
  have hlen : l.length ≤ 1048576 := hz.1
  induction d with
  | zero =>
    intro k i h0 h1 h2 hk
    obtain ⟨k, rfl⟩ : ∃ m, k = m + 1 := ⟨k - 1, by omega⟩
    simp only [laws_eqIntSS.l0]
    rw [if_neg (by omega)]
  | succ d ih =>
    intro k i h0 h1 h2 hk
    obtain ⟨k, rfl⟩ : ∃ m, k = m + 1 := ⟨k - 1, by omega⟩
    simp only [laws_eqIntSS.l0]
    by_cases h : i < (l.length : Int)
    · rw [if_pos h, if_pos h0, if_pos h]
      have hg0 : (rd_L6 l i) = l[i.toNat]'(by omega) := by simp [rd_L6, List.getD_eq_getElem?_getD, List.getElem?_eq_getElem (show i.toNat < l.length by omega)]
      have he := hz.2 (l[i.toNat]'(by omega)) (List.getElem_mem _)
      rw [← hg0] at he
      rw [eqIntS_self (rd_L6 l i) he k (by omega)]
      simp only [Option.bind_some]
      (first | rw [if_pos rfl] | rw [if_pos trivial])
      rw [wrap_id (by omega) (by omega)]
      exact ih k (i + 1) (by omega) (by omega) (by omega) (by omega)
    · rw [if_neg h]
theorem eqIntSS_self (l : List (List Int)) (hz : (l.length ≤ 1048576 ∧ ∀ e0 ∈ l, e0.length ≤ 1048576)) (k : Nat) (hk : 2097152 < k) : laws_eqIntSS.f k l l = some true := by
  have hlen : l.length ≤ 1048576 := hz.1
  unfold laws_eqIntSS.f
  rw [if_pos rfl, eqIntSS_l l hz l.length k 0 (by omega) (by omega) (by omega) (by omega)]
theorem eqMend_self (a0 : Int) (a1 : Int) (a2 : List Int) (a3 : List S128) (a4 : Bool) (a5 : List (List Int)) (ha2 : a2.length ≤ 1048576) (ha3 : (a3.length ≤ 1048576 ∧ ∀ e0 ∈ a3, (e0.f3.size ≤ 1048576))) (ha5 : (a5.length ≤ 1048576 ∧ ∀ e0 ∈ a5, e0.length ≤ 1048576)) (k : Nat) (hk : 2097152 < k) : laws_eqMend.f k a0 a1 a2 a3 a4 a5 a0 a1 a2 a3 a4 a5 = some true := by
  unfold laws_eqMend.f
  simp [eqIntS_self a2 ha2 k (by omega), eqEntryS_self a3 ha3 k (by omega), eqIntSS_self a5 ha5 k (by omega)]
theorem eqMendS_l (l : List S51) (hz : (l.length ≤ 1048576 ∧ ∀ e0 ∈ l, (e0.f2.length ≤ 1048576 ∧ (e0.f3.length ≤ 1048576 ∧ ∀ e1 ∈ e0.f3, (e1.f3.size ≤ 1048576)) ∧ (e0.f5.length ≤ 1048576 ∧ ∀ e1 ∈ e0.f5, e1.length ≤ 1048576)))) (d : Nat) : ∀ (k : Nat) (i : Int), 0 ≤ i → (l.length : Int) - i ≤ d → i ≤ l.length → d + 2097152 < k → laws_eqMendS.l0 k l l i = some true := by
  have hlen : l.length ≤ 1048576 := hz.1
  induction d with
  | zero =>
    intro k i h0 h1 h2 hk
    obtain ⟨k, rfl⟩ : ∃ m, k = m + 1 := ⟨k - 1, by omega⟩
    simp only [laws_eqMendS.l0]
    rw [if_neg (by omega)]
  | succ d ih =>
    intro k i h0 h1 h2 hk
    obtain ⟨k, rfl⟩ : ∃ m, k = m + 1 := ⟨k - 1, by omega⟩
    simp only [laws_eqMendS.l0]
    by_cases h : i < (l.length : Int)
    · rw [if_pos h, if_pos h0, if_pos h]
      have hg0 : (rd_T51 l i) = l[i.toNat]'(by omega) := by simp [rd_T51, List.getD_eq_getElem?_getD, List.getElem?_eq_getElem (show i.toNat < l.length by omega)]
      have he := hz.2 (l[i.toNat]'(by omega)) (List.getElem_mem _)
      rw [← hg0] at he
      rw [eqMend_self (rd_T51 l i).f0 (rd_T51 l i).f1 (rd_T51 l i).f2 (rd_T51 l i).f3 (rd_T51 l i).f4 (rd_T51 l i).f5 he.1 he.2.1 he.2.2 k (by omega)]
      simp only [Option.bind_some]
      (first | rw [if_pos rfl] | rw [if_pos trivial])
      rw [wrap_id (by omega) (by omega)]
      exact ih k (i + 1) (by omega) (by omega) (by omega) (by omega)
    · rw [if_neg h]
theorem eqMendS_self (l : List S51) (hz : (l.length ≤ 1048576 ∧ ∀ e0 ∈ l, (e0.f2.length ≤ 1048576 ∧ (e0.f3.length ≤ 1048576 ∧ ∀ e1 ∈ e0.f3, (e1.f3.size ≤ 1048576)) ∧ (e0.f5.length ≤ 1048576 ∧ ∀ e1 ∈ e0.f5, e1.length ≤ 1048576)))) (k : Nat) (hk : 3145728 < k) : laws_eqMendS.f k l l = some true := by
  have hlen : l.length ≤ 1048576 := hz.1
  unfold laws_eqMendS.f
  rw [if_pos rfl, eqMendS_l l hz l.length k 0 (by omega) (by omega) (by omega) (by omega)]
theorem eqEvent_self (a0 : Int) (a1 : Int) (a2 : ByteArray)  : laws_eqEvent.f a0 a1 a2 a0 a1 a2 = some true := by
  unfold laws_eqEvent.f
  simp
theorem eqEventS_l (l : List S40) (hz : (l.length ≤ 1048576 ∧ ∀ e0 ∈ l, (e0.f2.size ≤ 1048576))) (d : Nat) : ∀ (k : Nat) (i : Int), 0 ≤ i → (l.length : Int) - i ≤ d → i ≤ l.length → d + 0 < k → laws_eqEventS.l0 k l l i = some true := by
  have hlen : l.length ≤ 1048576 := hz.1
  induction d with
  | zero =>
    intro k i h0 h1 h2 hk
    obtain ⟨k, rfl⟩ : ∃ m, k = m + 1 := ⟨k - 1, by omega⟩
    simp only [laws_eqEventS.l0]
    rw [if_neg (by omega)]
  | succ d ih =>
    intro k i h0 h1 h2 hk
    obtain ⟨k, rfl⟩ : ∃ m, k = m + 1 := ⟨k - 1, by omega⟩
    simp only [laws_eqEventS.l0]
    by_cases h : i < (l.length : Int)
    · rw [if_pos h, if_pos h0, if_pos h]
      rw [eqEvent_self (rd_T40 l i).f0 (rd_T40 l i).f1 (rd_T40 l i).f2]
      simp only [Option.bind_some]
      (first | rw [if_pos rfl] | rw [if_pos trivial])
      rw [wrap_id (by omega) (by omega)]
      exact ih k (i + 1) (by omega) (by omega) (by omega) (by omega)
    · rw [if_neg h]
theorem eqEventS_self (l : List S40) (hz : (l.length ≤ 1048576 ∧ ∀ e0 ∈ l, (e0.f2.size ≤ 1048576))) (k : Nat) (hk : 1048576 < k) : laws_eqEventS.f k l l = some true := by
  have hlen : l.length ≤ 1048576 := hz.1
  unfold laws_eqEventS.f
  rw [if_pos rfl, eqEventS_l l hz l.length k 0 (by omega) (by omega) (by omega) (by omega)]
theorem eqReader_self (a0 : Int) (a1 : Int) (a2 : List S40) (ha2 : (a2.length ≤ 1048576 ∧ ∀ e0 ∈ a2, (e0.f2.size ≤ 1048576))) (k : Nat) (hk : 1048576 < k) : laws_eqReader.f k a0 a1 a2 a0 a1 a2 = some true := by
  unfold laws_eqReader.f
  simp [eqEventS_self a2 ha2 k (by omega)]
theorem eqReaderS_l (l : List S32) (hz : (l.length ≤ 1048576 ∧ ∀ e0 ∈ l, ((e0.f2.length ≤ 1048576 ∧ ∀ e1 ∈ e0.f2, (e1.f2.size ≤ 1048576))))) (d : Nat) : ∀ (k : Nat) (i : Int), 0 ≤ i → (l.length : Int) - i ≤ d → i ≤ l.length → d + 1048576 < k → laws_eqReaderS.l0 k l l i = some true := by
  have hlen : l.length ≤ 1048576 := hz.1
  induction d with
  | zero =>
    intro k i h0 h1 h2 hk
    obtain ⟨k, rfl⟩ : ∃ m, k = m + 1 := ⟨k - 1, by omega⟩
    simp only [laws_eqReaderS.l0]
    rw [if_neg (by omega)]
  | succ d ih =>
    intro k i h0 h1 h2 hk
    obtain ⟨k, rfl⟩ : ∃ m, k = m + 1 := ⟨k - 1, by omega⟩
    simp only [laws_eqReaderS.l0]
    by_cases h : i < (l.length : Int)
    · rw [if_pos h, if_pos h0, if_pos h]
      have hg0 : (rd_T32 l i) = l[i.toNat]'(by omega) := by simp [rd_T32, List.getD_eq_getElem?_getD, List.getElem?_eq_getElem (show i.toNat < l.length by omega)]
      have he := hz.2 (l[i.toNat]'(by omega)) (List.getElem_mem _)
      rw [← hg0] at he
      rw [eqReader_self (rd_T32 l i).f0 (rd_T32 l i).f1 (rd_T32 l i).f2 he k (by omega)]
      simp only [Option.bind_some]
      (first | rw [if_pos rfl] | rw [if_pos trivial])
      rw [wrap_id (by omega) (by omega)]
      exact ih k (i + 1) (by omega) (by omega) (by omega) (by omega)
    · rw [if_neg h]
theorem eqReaderS_self (l : List S32) (hz : (l.length ≤ 1048576 ∧ ∀ e0 ∈ l, ((e0.f2.length ≤ 1048576 ∧ ∀ e1 ∈ e0.f2, (e1.f2.size ≤ 1048576))))) (k : Nat) (hk : 2097152 < k) : laws_eqReaderS.f k l l = some true := by
  have hlen : l.length ≤ 1048576 := hz.1
  unfold laws_eqReaderS.f
  rw [if_pos rfl, eqReaderS_l l hz l.length k 0 (by omega) (by omega) (by omega) (by omega)]
theorem eqSent_self (a0 : Int) (a1 : ByteArray) (a2 : Bool)  : laws_eqSent.f a0 a1 a2 a0 a1 a2 = some true := by
  unfold laws_eqSent.f
  simp
theorem eqSentS_l (l : List S235) (hz : (l.length ≤ 1048576 ∧ ∀ e0 ∈ l, (e0.f1.size ≤ 1048576))) (d : Nat) : ∀ (k : Nat) (i : Int), 0 ≤ i → (l.length : Int) - i ≤ d → i ≤ l.length → d + 0 < k → laws_eqSentS.l0 k l l i = some true := by
  have hlen : l.length ≤ 1048576 := hz.1
  induction d with
  | zero =>
    intro k i h0 h1 h2 hk
    obtain ⟨k, rfl⟩ : ∃ m, k = m + 1 := ⟨k - 1, by omega⟩
    simp only [laws_eqSentS.l0]
    rw [if_neg (by omega)]
  | succ d ih =>
    intro k i h0 h1 h2 hk
    obtain ⟨k, rfl⟩ : ∃ m, k = m + 1 := ⟨k - 1, by omega⟩
    simp only [laws_eqSentS.l0]
    by_cases h : i < (l.length : Int)
    · rw [if_pos h, if_pos h0, if_pos h]
      rw [eqSent_self (rd_T235 l i).f0 (rd_T235 l i).f1 (rd_T235 l i).f2]
      simp only [Option.bind_some]
      (first | rw [if_pos rfl] | rw [if_pos trivial])
      rw [wrap_id (by omega) (by omega)]
      exact ih k (i + 1) (by omega) (by omega) (by omega) (by omega)
    · rw [if_neg h]
theorem eqSentS_self (l : List S235) (hz : (l.length ≤ 1048576 ∧ ∀ e0 ∈ l, (e0.f1.size ≤ 1048576))) (k : Nat) (hk : 1048576 < k) : laws_eqSentS.f k l l = some true := by
  have hlen : l.length ≤ 1048576 := hz.1
  unfold laws_eqSentS.f
  rw [if_pos rfl, eqSentS_l l hz l.length k 0 (by omega) (by omega) (by omega) (by omega)]
theorem eqWorld_self (a0 : List Int) (a1 : Int) (a2 : List S64) (a3 : List Int) (a4 : List S142) (a5 : Int) (a6 : List S178) (a7 : List S51) (a8 : List S32) (a9 : List S235) (a10 : Bool) (ha0 : a0.length ≤ 1048576) (ha2 : (a2.length ≤ 1048576 ∧ ∀ e0 ∈ a2, ((e0.f0.length ≤ 1048576 ∧ ∀ e1 ∈ e0.f0, (e1.f3.size ≤ 1048576)) ∧ (e0.f1.length ≤ 1048576 ∧ ∀ e1 ∈ e0.f1, (e1.f3.size ≤ 1048576))))) (ha3 : a3.length ≤ 1048576) (ha4 : (a4.length ≤ 1048576 ∧ ∀ e0 ∈ a4, (e0.f0.length ≤ 1048576))) (ha6 : (a6.length ≤ 1048576 ∧ ∀ e0 ∈ a6, ((e0.f1.length ≤ 1048576 ∧ ∀ e1 ∈ e0.f1, (e1.f0.size ≤ 1048576 ∧ e1.f1.length ≤ 1048576))))) (ha7 : (a7.length ≤ 1048576 ∧ ∀ e0 ∈ a7, (e0.f2.length ≤ 1048576 ∧ (e0.f3.length ≤ 1048576 ∧ ∀ e1 ∈ e0.f3, (e1.f3.size ≤ 1048576)) ∧ (e0.f5.length ≤ 1048576 ∧ ∀ e1 ∈ e0.f5, e1.length ≤ 1048576)))) (ha8 : (a8.length ≤ 1048576 ∧ ∀ e0 ∈ a8, ((e0.f2.length ≤ 1048576 ∧ ∀ e1 ∈ e0.f2, (e1.f2.size ≤ 1048576))))) (ha9 : (a9.length ≤ 1048576 ∧ ∀ e0 ∈ a9, (e0.f1.size ≤ 1048576))) (k : Nat) (hk : 3145728 < k) : laws_eqWorld.f k a0 a1 a2 a3 a4 a5 a6 a7 a8 a9 a10 a0 a1 a2 a3 a4 a5 a6 a7 a8 a9 a10 = some true := by
  unfold laws_eqWorld.f
  simp [eqConfig_self a0 a1 ha0 k (by omega), eqStoreS_self a2 ha2 k (by omega), eqIntS_self a3 ha3 k (by omega), eqRegister_self a4 a5 ha4 k (by omega), eqWriterS_self a6 ha6 k (by omega), eqMendS_self a7 ha7 k (by omega), eqReaderS_self a8 ha8 k (by omega), eqSentS_self a9 ha9 k (by omega)]
theorem FnExactSureOf : Goal := by
  intro a0 a1 a2 a3 a4 a5 a6 a7 a8 a9 a10 ep h0 _ h2 h3 h4 _ h6 h7 h8 h9 _
  refine ⟨9000000, ?_⟩
  unfold laws_FnExactSureOf.f
  obtain ⟨r, hr, _, hz⟩ := szWorld_ok a0 a1 a2 a3 a4 a5 a6 a7 a8 a9 a10 h0.1 ⟨h2.1, fun e he => ⟨⟨(h2.2 e he).1.1, fun x hx => ((h2.2 e he).1.2 x hx).2.2.2⟩, ⟨(h2.2 e he).2.1.1, fun x hx => ((h2.2 e he).2.1.2 x hx).2.2.2⟩⟩⟩ h3.1 ⟨h4.1, fun e he => (h4.2 e he).1.1⟩ ⟨h6.1, fun e he => ⟨(h6.2 e he).2.1, fun x hx => ⟨((h6.2 e he).2.2 x hx).1, ((h6.2 e he).2.2 x hx).2.1.1⟩⟩⟩ ⟨h7.1, fun e he => ⟨(h7.2 e he).2.2.1.1, ⟨(h7.2 e he).2.2.2.1.1, fun x hx => ((h7.2 e he).2.2.2.1.2 x hx).2.2.2⟩, ⟨(h7.2 e he).2.2.2.2.2.1, fun x hx => ((h7.2 e he).2.2.2.2.2.2 x hx).1⟩⟩⟩ ⟨h8.1, fun e he => ⟨(h8.2 e he).2.2.1, fun x hx => ((h8.2 e he).2.2.2 x hx).2.2⟩⟩ ⟨h9.1, fun e he => (h9.2 e he).2.1⟩ 1048576 (by omega) (by omega) 9000000 (by omega)
  rw [hr]
  simp only [Option.bind_some]
  by_cases hneg : r < 0
  · rw [if_pos hneg]
  obtain ⟨z0, z2, z3, z4, z6, z7, z8, z9⟩ := hz (by omega)
  rw [if_neg hneg, toWorld_is a0 a1 a2 a3 a4 a5 a6 a7 a8 a9 a10 z0 z2 z3 z4 z6 z7 z8 z9 _ (by omega)]
  simp only [Option.bind_some]
  have m6 : (a6.map cWriter).length ≤ 1048576 ∧ ∀ e ∈ a6.map cWriter, e.f1.length ≤ 1048576 := by
    refine ⟨by simpa using z6.1, fun e he => ?_⟩
    obtain ⟨x, hx, rfl⟩ := List.mem_map.1 he
    have := (z6.2 x hx).1
    simpa [cWriter] using this
  rw [spec_SureOf_is _ _ _ _ _ _ _ _ _ _ _ _ m6 _ (by omega), impl_SureOf_is _ _ _ _ _ _ _ _ _ _ _ _ m6 _ (by omega)]
  simp only [Option.bind_some, if_true]
  rw [eqWorld_self]
  · rfl
  · exact z0
  · refine ⟨by simpa using z2.1, fun e he => ?_⟩
    obtain ⟨x, hx, rfl⟩ := List.mem_map.1 he
    simpa [cStore, cEntry] using z2.2 x hx
  · exact z3
  · refine ⟨by simpa using z4.1, fun e he => ?_⟩
    obtain ⟨x, hx, rfl⟩ := List.mem_map.1 he
    simpa [cEra] using z4.2 x hx
  · refine ⟨by simpa using z6.1, fun e he => ?_⟩
    obtain ⟨x, hx, rfl⟩ := List.mem_map.1 he
    simpa [cWriter, cWord] using z6.2 x hx
  · refine ⟨by simpa using z7.1, fun e he => ?_⟩
    obtain ⟨x, hx, rfl⟩ := List.mem_map.1 he
    simpa [cMend, cEntry] using z7.2 x hx
  · refine ⟨by simpa using z8.1, fun e he => ?_⟩
    obtain ⟨x, hx, rfl⟩ := List.mem_map.1 he
    simpa [cReader, cEvent] using z8.2 x hx
  · refine ⟨by simpa using z9.1, fun e he => ?_⟩
    obtain ⟨x, hx, rfl⟩ := List.mem_map.1 he
    simpa [cSent] using z9.2 x hx
  · omega
end Go.Proofs.Ytlomecknojaakac.Pure
