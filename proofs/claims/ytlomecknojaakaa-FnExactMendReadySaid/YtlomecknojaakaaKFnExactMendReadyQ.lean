/- The program's MendReady answers for each config and mend what the reference's answers, and leaves both as they were. No conditions. -/
import Derived.Test.YtlomecknojaakaaKFnExactMendReadyG
import Derived.Test.YtlomecknojaakaaKFnExactMendReadyD
namespace Go.Proofs.Ytlomecknojaakaa.Pure
open Go.RowKit Go.Proofs.Ytlomecknojaakaa.PFnExactMendReady Go.Proofs.YtlomecknojaakaaW.PrintWords Go.Proofs.YtlomecknojaakaaW.PrintLast Go.Proofs.YtlomecknojaakaaW.Opn Go.Proofs.Ytlomecknojaakaa.GFnExactMendReady
set_option linter.unusedVariables false
set_option linter.unusedSimpArgs false
theorem wrap_id {x : Int} (h0 : -9223372036854775808 ≤ x) (h1 : x ≤ 9223372036854775807) : wrap64 x = x := by
  unfold wrap64
  omega
def inB (x a b : Int) : Bool := decide (a ≤ x) && decide (x ≤ b)
theorem inB_true {x a b : Int} : inB x a b = true ↔ a ≤ x ∧ x ≤ b := by simp [inB]
def cfgOk (ds : List Int) (c : Int) : Bool := inB (ds.length : Int) 1 8 && inB c 1 4 && ds.all (fun d => inB d 0 7)
def Asc (l : List Int) (lo hi : Int) : Prop := ∀ i : Nat, i < l.length → (lo ≤ l.getD i 0 ∧ l.getD i 0 ≤ hi) ∧ (0 < i → l.getD (i - 1) 0 < l.getD i 0)
instance (l : List Int) (lo hi : Int) : Decidable (Asc l lo hi) := by unfold Asc; infer_instance
def nodesOk (ds : List Int) (c : Int) (l : List Int) : Bool := cfgOk ds c && decide (Asc l 0 ((ds.length : Int) - 1))
def domsOf (ds : List Int) : List Int → List Int → List Int
  | [], acc => acc
  | n :: l, acc => domsOf ds l (if acc.contains (rd ds n) then acc else acc ++ [rd ds n])
def spanOf (ds l : List Int) : Int := ((domsOf ds l []).length : Int)
def holdsB (ds : List Int) (c : Int) (l : List Int) : Bool := nodesOk ds c l && decide (c ≤ spanOf ds l)
theorem rd_nat (l : List Int) (i : Nat) : rd l (i : Int) = l.getD i 0 := by simp [rd]
theorem rd_drop (l : List Int) (i : Nat) (h : i < l.length) : l.drop i = rd l (i : Int) :: l.drop (i + 1) := by
  rw [List.drop_eq_getElem_cons h, rd_nat, List.getD_eq_getElem?_getD, List.getElem?_eq_getElem h]
  rfl
theorem cfgOk_len {ds : List Int} {c : Int} (h : cfgOk ds c = true) : 1 ≤ ds.length ∧ ds.length ≤ 8 ∧ 1 ≤ c ∧ c ≤ 4 ∧ ∀ d ∈ ds, 0 ≤ d ∧ d ≤ 7 := by
  simp only [cfgOk, Bool.and_eq_true, inB_true, List.all_eq_true] at h
  obtain ⟨⟨h1, h2⟩, h3⟩ := h
  exact ⟨by omega, by omega, h2.1, h2.2, h3⟩
theorem Asc_mem {l : List Int} {lo hi : Int} (h : Asc l lo hi) {x : Int} (hx : x ∈ l) : lo ≤ x ∧ x ≤ hi := by
  obtain ⟨i, hi', rfl⟩ := List.getElem_of_mem hx
  have := (h i hi').1
  rwa [List.getD_eq_getElem?_getD, List.getElem?_eq_getElem hi'] at this
def InR (x : Int) : Prop := -9223372036854775808 ≤ x ∧ x ≤ 9223372036854775807
theorem InR_of {x : Int} (h : (Lit.int .i64 x).wf = true) : InR x := by
  simp [Lit.wf, IntKind.min, IntKind.max, IntKind.signed, IntKind.bits] at h
  exact ⟨by omega, by omega⟩
def placeOk (x : Int) : Bool := decide (0 < x) && (inB (x / 4294967296) 1 30 && inB (x % 4294967296) 1 60)
def epochOf (x : Int) : Int := if placeOk x = true then x / 4294967296 else 0
def offOf (x : Int) : Int := if placeOk x = true then x % 4294967296 else 0
def placeMake (e o : Int) : Int × Bool := if inB e 1 30 = true ∧ inB o 1 60 = true then (4294967296 * e + o, true) else (0, false)
theorem tdiv_pos {x : Int} (h : 0 ≤ x) : Int.tdiv x 4294967296 = x / 4294967296 := Int.tdiv_eq_ediv_of_nonneg h
theorem tmod_pos {x : Int} (h : 0 ≤ x) : Int.tmod x 4294967296 = x % 4294967296 := Int.tmod_eq_emod_of_nonneg h
theorem tdiv_neg' {x : Int} (h : x ≤ 0) : Int.tdiv x 4294967296 = -((-x) / 4294967296) := by
  have h1 : Int.tdiv (-x) 4294967296 = (-x) / 4294967296 := Int.tdiv_eq_ediv_of_nonneg (by omega)
  have h2 := Int.neg_tdiv (-x) 4294967296
  rw [Int.neg_neg] at h2
  rw [h2, h1]
theorem epochOf_pos {x : Int} (h : placeOk x = true) : epochOf x = x / 4294967296 ∧ 1 ≤ epochOf x ∧ epochOf x ≤ 30 := by
  have h' := h
  simp only [placeOk, Bool.and_eq_true, inB_true, decide_eq_true_eq] at h'
  unfold epochOf
  rw [if_pos h]
  omega
theorem szIntS_ok (l : List Int) (hl : l.length ≤ 9223372036854775807) (n : Int) (h0 : 0 ≤ n) (hn : n ≤ 1048576) : ∃ r, laws_szIntS.f l n = some r ∧ r ≤ n ∧ (0 ≤ r → l.length ≤ 1048576) := by
  unfold laws_szIntS.f
  rw [wrap_id (by omega) (by omega)]
  split
  · exact ⟨-1, rfl, by omega, fun h => by omega⟩
  · exact ⟨n - l.length, rfl, by omega, fun _ => by omega⟩
theorem szConfig_ok (a0 : List Int) (a1 : Int) (ha0 : a0.length ≤ 9223372036854775807) (n : Int) (h0 : 0 ≤ n) (hn : n ≤ 1048576) : ∃ r, laws_szConfig.f a0 a1 n = some r ∧ r ≤ n ∧ (0 ≤ r → a0.length ≤ 1048576) := by
  unfold laws_szConfig.f
  obtain ⟨r0, e0, m0, z0⟩ := szIntS_ok a0 ha0 n (by omega) (by omega)
  rw [e0]
  simp only [Option.bind_some]
  by_cases g0 : r0 < 0
  · rw [if_pos g0]
    exact ⟨-1, rfl, by omega, fun h => by omega⟩
  · rw [if_neg g0]
    exact ⟨r0, rfl, by omega, fun _ => (z0 (by omega))⟩
theorem szEntry_ok (a0 : Int) (a1 : Int) (a2 : Bool) (a3 : ByteArray) (ha3 : a3.size ≤ 9223372036854775807) (n : Int) (h0 : 0 ≤ n) (hn : n ≤ 1048576) : ∃ r, laws_szEntry.f a0 a1 a2 a3 n = some r ∧ r ≤ n ∧ (0 ≤ r → a3.size ≤ 1048576) := by
  unfold laws_szEntry.f
  rw [wrap_id (by omega) (by omega)]
  by_cases g0 : n - (a3.size : Int) < 0
  · rw [if_pos g0]
    exact ⟨-1, rfl, by omega, fun h => by omega⟩
  · rw [if_neg g0]
    exact ⟨(n - (a3.size : Int)), rfl, by omega, fun _ => (by omega)⟩
theorem szEntryS_l (l : List S131) (hl : (l.length ≤ 9223372036854775807 ∧ ∀ e0 ∈ l, (e0.f3.size ≤ 9223372036854775807))) (d : Nat) : ∀ (k : Nat) (n i : Int), 0 ≤ n → n ≤ 1048576 → 0 ≤ i → (l.length : Int) - i ≤ d → i ≤ l.length → d + 0 < k → (∀ j : Nat, (j : Int) < i → ∀ x, l[j]? = some x → (x.f3.size ≤ 1048576)) →
    ∃ r, laws_szEntryS.l0 k l n i = some r ∧ r ≤ n ∧ (0 ≤ r → ∀ x ∈ l, (x.f3.size ≤ 1048576)) := by
  induction d with
  | zero =>
    intro k n i hn0 hn h0 h1 h2 hk hj
    obtain ⟨k, rfl⟩ : ∃ m, k = m + 1 := ⟨k - 1, by omega⟩
    refine ⟨n, by simp only [laws_szEntryS.l0]; rw [if_neg (by omega)], by omega, fun _ x hx => ?_⟩
    obtain ⟨j, hjl, rfl⟩ := List.getElem_of_mem hx
    exact hj j (by omega) _ (List.getElem?_eq_getElem hjl)
  | succ d ih =>
    intro k n i hn0 hn h0 h1 h2 hk hj
    obtain ⟨k, rfl⟩ : ∃ m, k = m + 1 := ⟨k - 1, by omega⟩
    simp only [laws_szEntryS.l0]
    by_cases h : i < (l.length : Int)
    · rw [if_pos h, if_pos h0]
      have hg : (rd_T131 l i) = l[i.toNat]'(by omega) := by simp [rd_T131, List.getD_eq_getElem?_getD, List.getElem?_eq_getElem (show i.toNat < l.length by omega)]
      have he := hl.2 (l[i.toNat]'(by omega)) (List.getElem_mem _)
      rw [← hg] at he
      obtain ⟨r, hr, hrn, hz⟩ := szEntry_ok (rd_T131 l i).f0 (rd_T131 l i).f1 (rd_T131 l i).f2 (rd_T131 l i).f3 he n hn0 hn
      rw [hr]
      simp only [Option.bind_some]
      by_cases hneg : r < 0
      · rw [if_pos hneg]
        exact ⟨-1, rfl, by omega, fun h => by omega⟩
      · rw [if_neg hneg, wrap_id (by have := hl.1; omega) (by have := hl.1; omega)]
        obtain ⟨r', hr', hrn', hz'⟩ := ih k r (i + 1) (by omega) (by omega) (by omega) (by omega) (by omega) (by omega) (by
          intro j hji x hx
          by_cases e : (j : Int) < i
          · exact hj j e x hx
          · have ej : j = i.toNat := by omega
            subst ej
            rw [List.getElem?_eq_getElem (show i.toNat < l.length by omega)] at hx
            cases hx
            rw [← hg]
            exact hz (by omega))
        exact ⟨r', hr', by omega, hz'⟩
    · rw [if_neg h]
      refine ⟨n, rfl, by omega, fun _ x hx => ?_⟩
      obtain ⟨j, hjl, rfl⟩ := List.getElem_of_mem hx
      exact hj j (by omega) _ (List.getElem?_eq_getElem hjl)
theorem szEntryS_ok (l : List S131) (hl : (l.length ≤ 9223372036854775807 ∧ ∀ e0 ∈ l, (e0.f3.size ≤ 9223372036854775807))) (n : Int) (h0 : 0 ≤ n) (hn : n ≤ 1048576) (k : Nat) (hk : 1048576 < k) : ∃ r, laws_szEntryS.f k l n = some r ∧ r ≤ n ∧ (0 ≤ r → (l.length ≤ 1048576 ∧ ∀ e0 ∈ l, (e0.f3.size ≤ 1048576))) := by
  unfold laws_szEntryS.f
  rw [wrap_id (by have := hl.1; omega) (by have := hl.1; omega)]
  by_cases h : n - (l.length : Int) < 0
  · rw [if_pos h]
    exact ⟨-1, rfl, by omega, fun h => by omega⟩
  · rw [if_neg h]
    obtain ⟨r, hr, hrn, hz⟩ := szEntryS_l l hl l.length k (n - l.length) 0 (by omega) (by omega) (by omega) (by omega) (by omega) (by omega) (fun j hj => by omega)
    exact ⟨r, hr, by omega, fun h => ⟨by omega, hz h⟩⟩
theorem szIntSS_l (l : List (List Int)) (hl : (l.length ≤ 9223372036854775807 ∧ ∀ e0 ∈ l, e0.length ≤ 9223372036854775807)) (d : Nat) : ∀ (k : Nat) (n i : Int), 0 ≤ n → n ≤ 1048576 → 0 ≤ i → (l.length : Int) - i ≤ d → i ≤ l.length → d + 1048576 < k → (∀ j : Nat, (j : Int) < i → ∀ x, l[j]? = some x → x.length ≤ 1048576) →
    ∃ r, laws_szIntSS.l0 k l n i = some r ∧ r ≤ n ∧ (0 ≤ r → ∀ x ∈ l, x.length ≤ 1048576) := by
  induction d with
  | zero =>
    intro k n i hn0 hn h0 h1 h2 hk hj
    obtain ⟨k, rfl⟩ : ∃ m, k = m + 1 := ⟨k - 1, by omega⟩
    refine ⟨n, by simp only [laws_szIntSS.l0]; rw [if_neg (by omega)], by omega, fun _ x hx => ?_⟩
    obtain ⟨j, hjl, rfl⟩ := List.getElem_of_mem hx
    exact hj j (by omega) _ (List.getElem?_eq_getElem hjl)
  | succ d ih =>
    intro k n i hn0 hn h0 h1 h2 hk hj
    obtain ⟨k, rfl⟩ : ∃ m, k = m + 1 := ⟨k - 1, by omega⟩
    simp only [laws_szIntSS.l0]
    by_cases h : i < (l.length : Int)
    · rw [if_pos h, if_pos h0]
      have hg : (rd_L4 l i) = l[i.toNat]'(by omega) := by simp [rd_L4, List.getD_eq_getElem?_getD, List.getElem?_eq_getElem (show i.toNat < l.length by omega)]
      have he := hl.2 (l[i.toNat]'(by omega)) (List.getElem_mem _)
      rw [← hg] at he
      obtain ⟨r, hr, hrn, hz⟩ := szIntS_ok (rd_L4 l i) he n hn0 hn
      rw [hr]
      simp only [Option.bind_some]
      by_cases hneg : r < 0
      · rw [if_pos hneg]
        exact ⟨-1, rfl, by omega, fun h => by omega⟩
      · rw [if_neg hneg, wrap_id (by have := hl.1; omega) (by have := hl.1; omega)]
        obtain ⟨r', hr', hrn', hz'⟩ := ih k r (i + 1) (by omega) (by omega) (by omega) (by omega) (by omega) (by omega) (by
          intro j hji x hx
          by_cases e : (j : Int) < i
          · exact hj j e x hx
          · have ej : j = i.toNat := by omega
            subst ej
            rw [List.getElem?_eq_getElem (show i.toNat < l.length by omega)] at hx
            cases hx
            rw [← hg]
            exact hz (by omega))
        exact ⟨r', hr', by omega, hz'⟩
    · rw [if_neg h]
      refine ⟨n, rfl, by omega, fun _ x hx => ?_⟩
      obtain ⟨j, hjl, rfl⟩ := List.getElem_of_mem hx
      exact hj j (by omega) _ (List.getElem?_eq_getElem hjl)
theorem szIntSS_ok (l : List (List Int)) (hl : (l.length ≤ 9223372036854775807 ∧ ∀ e0 ∈ l, e0.length ≤ 9223372036854775807)) (n : Int) (h0 : 0 ≤ n) (hn : n ≤ 1048576) (k : Nat) (hk : 2097152 < k) : ∃ r, laws_szIntSS.f k l n = some r ∧ r ≤ n ∧ (0 ≤ r → (l.length ≤ 1048576 ∧ ∀ e0 ∈ l, e0.length ≤ 1048576)) := by
  unfold laws_szIntSS.f
  rw [wrap_id (by have := hl.1; omega) (by have := hl.1; omega)]
  by_cases h : n - (l.length : Int) < 0
  · rw [if_pos h]
    exact ⟨-1, rfl, by omega, fun h => by omega⟩
  · rw [if_neg h]
    obtain ⟨r, hr, hrn, hz⟩ := szIntSS_l l hl l.length k (n - l.length) 0 (by omega) (by omega) (by omega) (by omega) (by omega) (by omega) (fun j hj => by omega)
    exact ⟨r, hr, by omega, fun h => ⟨by omega, hz h⟩⟩
theorem szMend_ok (a0 : Int) (a1 : Int) (a2 : List Int) (a3 : List S131) (a4 : Bool) (a5 : List (List Int)) (ha2 : a2.length ≤ 9223372036854775807) (ha3 : (a3.length ≤ 9223372036854775807 ∧ ∀ e0 ∈ a3, (e0.f3.size ≤ 9223372036854775807))) (ha5 : (a5.length ≤ 9223372036854775807 ∧ ∀ e0 ∈ a5, e0.length ≤ 9223372036854775807)) (n : Int) (h0 : 0 ≤ n) (hn : n ≤ 1048576) (k : Nat) (hk : 2097152 < k) : ∃ r, laws_szMend.f k a0 a1 a2 a3 a4 a5 n = some r ∧ r ≤ n ∧ (0 ≤ r → a2.length ≤ 1048576 ∧ (a3.length ≤ 1048576 ∧ ∀ e0 ∈ a3, (e0.f3.size ≤ 1048576)) ∧ (a5.length ≤ 1048576 ∧ ∀ e0 ∈ a5, e0.length ≤ 1048576)) := by
  unfold laws_szMend.f
  obtain ⟨r0, e0, m0, z0⟩ := szIntS_ok a2 ha2 n (by omega) (by omega)
  rw [e0]
  simp only [Option.bind_some]
  by_cases g0 : r0 < 0
  · rw [if_pos g0]
    exact ⟨-1, rfl, by omega, fun h => by omega⟩
  · rw [if_neg g0]
    obtain ⟨r1, e1, m1, z1⟩ := szEntryS_ok a3 ha3 r0 (by omega) (by omega) k (by omega)
    rw [e1]
    simp only [Option.bind_some]
    by_cases g1 : r1 < 0
    · rw [if_pos g1]
      exact ⟨-1, rfl, by omega, fun h => by omega⟩
    · rw [if_neg g1]
      obtain ⟨r2, e2, m2, z2⟩ := szIntSS_ok a5 ha5 r1 (by omega) (by omega) k (by omega)
      rw [e2]
      simp only [Option.bind_some]
      by_cases g2 : r2 < 0
      · rw [if_pos g2]
        exact ⟨-1, rfl, by omega, fun h => by omega⟩
      · rw [if_neg g2]
        exact ⟨r2, rfl, by omega, fun _ => ⟨(z0 (by omega)), (z1 (by omega)), (z2 (by omega))⟩⟩
theorem spec_l1In_is (x a b : Int) : spec_l1In.f x a b = some (inB x a b) := by
  unfold spec_l1In.f inB
  by_cases h : x ≥ a
  · rw [if_pos h]; simp [show a ≤ x from h]
  · rw [if_neg h]; simp [show ¬ a ≤ x from h]
def ascFrom (l : List S81) : Nat → Nat → Bool
  | 0, _ => true
  | d + 1, i => (decide (i = 0) || !decide ((rd_T81 l ((i : Int) - 1)).f0 ≥ (rd_T81 l (i : Int)).f0)) && ascFrom l d (i + 1)
def ascE (l : List S81) : Bool := ascFrom l l.length 0
theorem spec_l6Asc_l (l : List S81) (hl : l.length ≤ 1048576) (d : Nat) : ∀ (k i : Nat), i + d = l.length → 1 ≤ i → d < k → spec_l6Asc.l0 k l (i : Int) = some (ascFrom l d i) := by
  induction d with
  | zero =>
    intro k i h h1 hk
    obtain ⟨k, rfl⟩ : ∃ m, k = m + 1 := ⟨k - 1, by omega⟩
    simp only [spec_l6Asc.l0, ascFrom]
    rw [if_neg (by omega)]
  | succ d ih =>
    intro k i h h1 hk
    obtain ⟨k, rfl⟩ : ∃ m, k = m + 1 := ⟨k - 1, by omega⟩
    simp only [spec_l6Asc.l0, ascFrom]
    rw [if_pos (by omega), wrap_id (show -9223372036854775808 ≤ (i : Int) - 1 by omega) (by omega), if_pos (by omega), if_pos (by omega), if_pos (by omega), wrap_id (show -9223372036854775808 ≤ (i : Int) + 1 by omega) (by omega), show (i : Int) + 1 = ((i + 1 : Nat) : Int) from rfl, ih k (i + 1) (by omega) (by omega) (by omega)]
    have h0 : ¬ i = 0 := by omega
    by_cases hq : (rd_T81 l ((i : Int) - 1)).f0 ≥ (rd_T81 l (i : Int)).f0 <;> simp [hq, h0]
theorem spec_l6Asc_is (l : List S81) (hl : l.length ≤ 1048576) (k : Nat) (hk : 1048576 < k) : spec_l6Asc.f k l = some (ascE l) := by
  unfold spec_l6Asc.f ascE
  by_cases h0 : l.length = 0
  · obtain ⟨k, rfl⟩ : ∃ m, k = m + 1 := ⟨k - 1, by omega⟩
    rw [h0]
    simp [spec_l6Asc.l0, ascFrom, h0]
  · obtain ⟨n, hn⟩ : ∃ n, l.length = n + 1 := ⟨l.length - 1, by omega⟩
    have := spec_l6Asc_l l hl n k 1 (by omega) (by omega) (by omega)
    rw [show ((1 : Nat) : Int) = 1 from rfl] at this
    rw [this, hn]
    simp [ascFrom]
theorem spec_ConfigOk_l (ds : List Int) (c : Int) (hl : ds.length ≤ 1048576) (d : Nat) : ∀ (k i : Nat), i + d = ds.length → d < k → spec_ConfigOk.l0 k (i : Int) ds c = some ((ds.drop i).all (fun d => inB d 0 7)) := by
  induction d with
  | zero =>
    intro k i h hk
    obtain ⟨k, rfl⟩ : ∃ m, k = m + 1 := ⟨k - 1, by omega⟩
    simp only [spec_ConfigOk.l0]
    rw [if_neg (by omega), List.drop_eq_nil_of_le (by omega)]
    rfl
  | succ d ih =>
    intro k i h hk
    obtain ⟨k, rfl⟩ : ∃ m, k = m + 1 := ⟨k - 1, by omega⟩
    simp only [spec_ConfigOk.l0]
    rw [if_pos (by omega), if_pos (by omega), spec_l1In_is, rd_drop ds i (by omega), List.all_cons]
    simp only [Option.bind_some]
    cases inB (rd ds i) 0 7 with
    | false => rfl
    | true =>
      simp only [if_true, Bool.true_and]
      rw [wrap_id (by omega) (by omega)]
      exact ih k (i + 1) (by omega) (by omega)
theorem spec_ConfigOk_is (ds : List Int) (c : Int) (hl : ds.length ≤ 1048576) (k : Nat) (hk : 1048577 < k) : spec_ConfigOk.f k ds c = some (cfgOk ds c) := by
  obtain ⟨k, rfl⟩ : ∃ m, k = m + 1 := ⟨k - 1, by omega⟩
  have hl0 := spec_ConfigOk_l ds c hl ds.length k 0 (by omega) (by omega)
  rw [List.drop_zero] at hl0
  unfold spec_ConfigOk.f cfgOk
  rw [spec_l1In_is, spec_l1In_is]
  simp only [Option.bind_some, spec_ConfigOk.j0]
  have hl0' : spec_ConfigOk.l0 k 0 ds c = some (ds.all fun d => inB d 0 7) := hl0
  rw [hl0']
  cases inB (ds.length : Int) 1 8 <;> cases inB c 1 4 <;> simp
theorem spec_l4Asc_l (l : List Int) (lo hi : Int) (hl : l.length ≤ 1048576) (d : Nat) : ∀ (k i : Nat), i + d = l.length → d < k → (∀ j, j < i → (lo ≤ l.getD j 0 ∧ l.getD j 0 ≤ hi) ∧ (0 < j → l.getD (j - 1) 0 < l.getD j 0)) → spec_l4Asc.l0 k l lo hi (i : Int) = some (decide (Asc l lo hi)) := by
  induction d with
  | zero =>
    intro k i h hk hj
    obtain ⟨k, rfl⟩ : ∃ m, k = m + 1 := ⟨k - 1, by omega⟩
    simp only [spec_l4Asc.l0]
    rw [if_neg (by omega), decide_eq_true (show Asc l lo hi from fun j hjl => hj j (by omega))]
  | succ d ih =>
    intro k i h hk hj
    obtain ⟨k, rfl⟩ : ∃ m, k = m + 1 := ⟨k - 1, by omega⟩
    simp only [spec_l4Asc.l0]
    rw [if_pos (by omega), if_pos (by omega), spec_l1In_is, rd_nat]
    simp only [Option.bind_some]
    by_cases hb : inB (l.getD i 0) lo hi = true
    · rw [if_pos hb]
      rw [inB_true] at hb
      by_cases h0 : (i : Int) > 0
      · rw [if_pos h0, wrap_id (by omega) (by omega), if_pos (by omega), if_pos (by omega), show ((i : Int) - 1) = ((i - 1 : Nat) : Int) by omega, rd_nat]
        by_cases hg : l.getD (i - 1) 0 ≥ l.getD i 0
        · rw [if_pos hg, decide_eq_false (fun ha : Asc l lo hi => by have := (ha i (by omega)).2 (by omega); omega)]
        · rw [if_neg hg, wrap_id (by omega) (by omega)]
          refine ih k (i + 1) (by omega) (by omega) (fun j hji => ?_)
          by_cases e : j = i
          · subst e; exact ⟨hb, fun _ => by omega⟩
          · exact hj j (by omega)
      · rw [if_neg h0, wrap_id (by omega) (by omega)]
        refine ih k (i + 1) (by omega) (by omega) (fun j hji => ?_)
        by_cases e : j = i
        · subst e; exact ⟨hb, fun _ => by omega⟩
        · exact hj j (by omega)
    · rw [if_neg hb, decide_eq_false (fun ha : Asc l lo hi => hb (inB_true.2 (ha i (by omega)).1))]
theorem spec_l4Asc_is (l : List Int) (lo hi : Int) (hl : l.length ≤ 1048576) (k : Nat) (hk : 1048576 < k) : spec_l4Asc.f k l lo hi = some (decide (Asc l lo hi)) := by
  unfold spec_l4Asc.f
  exact spec_l4Asc_l l lo hi hl l.length k 0 (by omega) (by omega) (fun j h => by omega)
theorem spec_NodesOk_is (ds : List Int) (c : Int) (l : List Int) (hd : ds.length ≤ 1048576) (hl : l.length ≤ 1048576) (k : Nat) (hk : 1048577 < k) : spec_NodesOk.f k ds c l = some (nodesOk ds c l) := by
  unfold spec_NodesOk.f nodesOk
  rw [spec_ConfigOk_is ds c hd k hk, wrap_id (by omega) (by omega), spec_l4Asc_is l _ _ hl k (by omega)]
  cases cfgOk ds c <;> simp
theorem spec_PlaceOk_is (x : Int) (hx : InR x) : spec_PlaceOk.f x = some (placeOk x) := by
  unfold spec_PlaceOk.f placeOk
  by_cases h : x > 0
  · rw [if_pos h, tdiv_pos (by omega), tmod_pos (by omega), wrap_id (by have := hx.2; omega) (by have := hx.2; omega), spec_l1In_is, spec_l1In_is]
    cases inB (x / 4294967296) 1 30 <;> simp [show 0 < x from h]
  · rw [if_neg h]
    simp [show ¬ 0 < x from h]
theorem spec_EpochOf_is (x : Int) (hx : InR x) : spec_EpochOf.f x = some (epochOf x) := by
  unfold spec_EpochOf.f epochOf
  rw [spec_PlaceOk_is x hx]
  simp only [Option.bind_some]
  by_cases h : placeOk x = true
  · have h' := h
    simp only [placeOk, Bool.and_eq_true, inB_true, decide_eq_true_eq] at h'
    rw [if_pos h, if_pos h, tdiv_pos (by omega), wrap_id (by omega) (by omega)]
  · rw [if_neg h, if_neg h]
def entryOkF (at_ wave : Int) (hole : Bool) (data : ByteArray) : Bool := placeOk at_ && (inB wave 0 30 && ((!decide (wave > 0) || !decide (wave ≤ epochOf at_)) && (decide ((data.size : Int) ≤ 40) && (!hole || (decide (wave > 0) && data.toList == ([] : List UInt8))))))
theorem nil_size {s : ByteArray} (h : s.toList = ([] : List UInt8)) : (s.size : Int) ≤ 40 := by
  have h2 := data_length s
  rw [ByteArray.toList_eq] at h
  rw [h] at h2
  simp at h2
  omega
theorem spec_EntryOk_is (a w : Int) (b : Bool) (s : ByteArray) (ha : InR a) : spec_EntryOk.f a w b s = some (entryOkF a w b s) := by
  unfold spec_EntryOk.f entryOkF
  rw [spec_PlaceOk_is a ha, spec_l1In_is, spec_EpochOf_is a ha]
  simp only [Option.bind_some]
  generalize epochOf a = E
  generalize s.toList = L
  cases placeOk a <;> cases inB w 0 30 <;> simp
  by_cases h0 : w > 0
  · by_cases h1 : w ≤ E
    · simp [h0, h1]
    · by_cases h2 : (s.size : Int) > 40
      · have h3 : ¬ (s.size : Int) ≤ 40 := by omega
        simp [h0, h1, h2, h3]
      · have h3 : (s.size : Int) ≤ 40 := by omega
        cases b <;> simp [h0, h1, h2, h3]
  · by_cases h2 : (s.size : Int) > 40
    · have h3 : ¬ (s.size : Int) ≤ 40 := by omega
      simp [h0, h2, h3]
    · have h3 : (s.size : Int) ≤ 40 := by omega
      cases b <;> simp [h0, h2, h3]
theorem spec_OffOf_is (x : Int) (hx : InR x) : spec_OffOf.f x = some (offOf x) := by
  unfold spec_OffOf.f offOf
  rw [spec_PlaceOk_is x hx]
  simp only [Option.bind_some]
  by_cases h : placeOk x = true
  · have h' := h
    simp only [placeOk, Bool.and_eq_true, inB_true, decide_eq_true_eq] at h'
    rw [if_pos h, if_pos h, tmod_pos (by omega)]
  · rw [if_neg h, if_neg h]
theorem drop_rdE (l : List S81) (i : Nat) (h : i < l.length) : l.drop i = rd_T81 l (i : Int) :: l.drop (i + 1) := by
  rw [List.drop_eq_getElem_cons h]
  simp [rd_T81, List.getD_eq_getElem?_getD, List.getElem?_eq_getElem h]
theorem rdT_Entry_mem (l : List S81) (i : Nat) (h : i < l.length) : rd_T81 l (i : Int) ∈ l := by
  simp [rd_T81, List.getD_eq_getElem?_getD, List.getElem?_eq_getElem h]
def lastOf (l : List S81) : Int := if l.length = 0 then 0 else offOf (rd_T81 l ((l.length : Int) - 1)).f0
theorem spec_l9Last_is (b ep : Int) (sl : List Int) (l : List S81) (pl : Bool) (wr : List (List Int)) (hl : l.length ≤ 1048576) (hr : ∀ e ∈ l, InR e.f0) : spec_l9Last.f b ep sl l pl wr = some (lastOf l) := by
  unfold spec_l9Last.f lastOf
  by_cases h0 : l.length = 0
  · rw [if_pos (by omega), if_pos h0]
  · rw [if_neg (by omega), if_neg h0, wrap_id (by omega) (by omega), if_pos (by omega), if_pos (by omega)]
    have hm := hr _ (rdT_Entry_mem l (l.length - 1) (by omega))
    rw [show ((l.length - 1 : Nat) : Int) = (l.length : Int) - 1 by omega] at hm
    rw [spec_OffOf_is _ hm]
    rfl
def seenB (ep by_ : Int) (x : S81) : Bool := entryOkF x.f0 x.f1 x.f2 x.f3 && (epochOf x.f0 == ep && !decide (x.f1 ≥ by_))
def mendOk (ds : List Int) (c by_ ep : Int) (sl : List Int) (seen : List S81) (pl : Bool) (wr : List (List Int)) : Bool :=
  cfgOk ds c && (inB ep 1 30 && (inB by_ (ep + 1) 30 && (nodesOk ds c sl && (ascE seen && (seen.all (seenB ep by_) && (wr.all (nodesOk ds c) && ((wr.length : Int) == if pl = true then lastOf seen else 0)))))))
theorem drop_rdL_int (l : List (List Int)) (i : Nat) (h : i < l.length) : l.drop i = rd_L4 l (i : Int) :: l.drop (i + 1) := by
  rw [List.drop_eq_getElem_cons h]
  simp [rd_L4, List.getD_eq_getElem?_getD, List.getElem?_eq_getElem h]
theorem rdL_int_mem (l : List (List Int)) (i : Nat) (h : i < l.length) : rd_L4 l (i : Int) ∈ l := by
  simp [rd_L4, List.getD_eq_getElem?_getD, List.getElem?_eq_getElem h]
theorem spec_MendOk_l1 (ds : List Int) (c b ep : Int) (sl : List Int) (seen : List S81) (pl : Bool) (wr : List (List Int)) (hd : ds.length ≤ 1048576) (hs : seen.length ≤ 1048576) (hr : ∀ e ∈ seen, InR e.f0) (hw : wr.length ≤ 1048576 ∧ ∀ e ∈ wr, e.length ≤ 1048576) (d : Nat) : ∀ (k i : Nat), i + d = wr.length → d + 1048577 < k →
    spec_MendOk.l1 k (i : Int) ds c b ep sl seen pl wr = some ((wr.drop i).all (nodesOk ds c) && ((wr.length : Int) == if pl = true then lastOf seen else 0)) := by
  induction d with
  | zero =>
    intro k i h hk
    obtain ⟨k, rfl⟩ : ∃ m, k = m + 1 := ⟨k - 1, by omega⟩
    simp only [spec_MendOk.l1]
    rw [if_neg (by omega), List.drop_eq_nil_of_le (by omega), spec_l9Last_is b ep sl seen pl wr hs hr]
    cases pl <;> simp
  | succ d ih =>
    intro k i h hk
    obtain ⟨k, rfl⟩ : ∃ m, k = m + 1 := ⟨k - 1, by omega⟩
    simp only [spec_MendOk.l1]
    rw [if_pos (by omega), if_pos (by omega), spec_NodesOk_is ds c _ hd (hw.2 _ (rdL_int_mem wr i (by omega))) _ (by omega), wrap_id (show -9223372036854775808 ≤ (i : Int) + 1 by omega) (by omega), show (i : Int) + 1 = ((i + 1 : Nat) : Int) from rfl, ih k (i + 1) (by omega) (by omega), drop_rdL_int wr i (by omega), List.all_cons]
    simp only [Option.bind_some]
    cases nodesOk ds c (rd_L4 wr (i : Int)) <;> simp
theorem spec_MendOk_l0 (ds : List Int) (c b ep : Int) (sl : List Int) (seen : List S81) (pl : Bool) (wr : List (List Int)) (hd : ds.length ≤ 1048576) (hs : seen.length ≤ 1048576) (hr : ∀ e ∈ seen, InR e.f0) (hw : wr.length ≤ 1048576 ∧ ∀ e ∈ wr, e.length ≤ 1048576) (d : Nat) : ∀ (k i : Nat), i + d = seen.length → d + 3145729 < k →
    spec_MendOk.l0 k (i : Int) ds c b ep sl seen pl wr = some ((seen.drop i).all (seenB ep b) && (wr.all (nodesOk ds c) && ((wr.length : Int) == if pl = true then lastOf seen else 0))) := by
  induction d with
  | zero =>
    intro k i h hk
    obtain ⟨k, rfl⟩ : ∃ m, k = m + 1 := ⟨k - 1, by omega⟩
    have h1 := spec_MendOk_l1 ds c b ep sl seen pl wr hd hs hr hw wr.length k 0 (by omega) (by omega)
    rw [List.drop_zero, show ((0 : Nat) : Int) = 0 from rfl] at h1
    simp only [spec_MendOk.l0]
    rw [if_neg (by omega), List.drop_eq_nil_of_le (by omega), h1]
    simp
  | succ d ih =>
    intro k i h hk
    obtain ⟨k, rfl⟩ : ∃ m, k = m + 1 := ⟨k - 1, by omega⟩
    have hx := hr _ (rdT_Entry_mem seen i (by omega))
    simp only [spec_MendOk.l0]
    rw [if_pos (by omega), if_pos (by omega), spec_EntryOk_is _ _ _ _ hx, spec_EpochOf_is _ hx, wrap_id (show -9223372036854775808 ≤ (i : Int) + 1 by omega) (by omega), show (i : Int) + 1 = ((i + 1 : Nat) : Int) from rfl, ih k (i + 1) (by omega) (by omega), drop_rdE seen i (by omega), List.all_cons]
    simp only [Option.bind_some, seenB]
    generalize rd_T81 seen (i : Int) = x
    cases entryOkF x.f0 x.f1 x.f2 x.f3 <;> simp
    by_cases h1 : epochOf x.f0 = ep <;> by_cases h2 : x.f1 ≥ b <;> simp [h1, h2]
theorem spec_MendOk_is (ds : List Int) (c b ep : Int) (sl : List Int) (seen : List S81) (pl : Bool) (wr : List (List Int)) (hd : ds.length ≤ 1048576) (hsl : sl.length ≤ 1048576) (hs : seen.length ≤ 1048576) (hr : ∀ e ∈ seen, InR e.f0) (hw : wr.length ≤ 1048576 ∧ ∀ e ∈ wr, e.length ≤ 1048576) (k : Nat) (hk : 4194307 < k) :
    spec_MendOk.f k ds c b ep sl seen pl wr = some (mendOk ds c b ep sl seen pl wr) := by
  obtain ⟨k, rfl⟩ : ∃ m, k = m + 1 := ⟨k - 1, by omega⟩
  have h1 := spec_MendOk_l0 ds c b ep sl seen pl wr hd hs hr hw seen.length k 0 (by omega) (by omega)
  rw [List.drop_zero, show ((0 : Nat) : Int) = 0 from rfl] at h1
  unfold spec_MendOk.f mendOk
  rw [spec_ConfigOk_is ds c hd _ (by omega), spec_l1In_is]
  simp only [Option.bind_some, spec_MendOk.j0]
  cases cfgOk ds c <;> simp
  cases hi : inB ep 1 30 <;> simp
  have he : 1 ≤ ep ∧ ep ≤ 30 := by rw [inB_true] at hi; omega
  rw [wrap_id (by omega) (by omega), spec_l1In_is, spec_NodesOk_is ds c sl hd hsl _ (by omega), spec_l6Asc_is seen hs _ (by omega)]
  simp only [Option.bind_some]
  rw [h1]
  cases inB b (ep + 1) 30 <;> cases nodesOk ds c sl <;> cases ascE seen <;> simp
theorem spec_l4Span_l (ds : List Int) (c : Int) (l : List Int) (hd8 : ds.length ≤ 8) (hdom : ∀ d ∈ ds, 0 ≤ d ∧ d ≤ 7) (hl : l.length ≤ 1048576) (hmem : ∀ n ∈ l, 0 ≤ n ∧ n < (ds.length : Int)) (d : Nat) :
    ∀ (k i : Nat) (seen : List Bool) (acc : List Int), i + d = l.length → d < k → seen.length = 8 → (acc.length : Int) ≤ i → (∀ x : Int, 0 ≤ x → x ≤ 7 → (rdOf false seen x = acc.contains x)) →
    spec_l4Span.l0 k l seen (acc.length : Int) (i : Int) ds c = some ((domsOf ds (l.drop i) acc).length : Int) := by
  induction d with
  | zero =>
    intro k i seen acc h hk hs ha hx
    obtain ⟨k, rfl⟩ : ∃ m, k = m + 1 := ⟨k - 1, by omega⟩
    simp only [spec_l4Span.l0]
    rw [if_neg (by omega), List.drop_eq_nil_of_le (by omega)]
    rfl
  | succ d ih =>
    intro k i seen acc h hk hs ha hx
    obtain ⟨k, rfl⟩ : ∃ m, k = m + 1 := ⟨k - 1, by omega⟩
    have hi : i < l.length := by omega
    have hin : rd l (i : Int) ∈ l := by
      rw [rd_nat, List.getD_eq_getElem?_getD, List.getElem?_eq_getElem hi]
      exact List.getElem_mem _
    have hn := hmem _ hin
    have hdn : rd ds (rd l (i : Int)) ∈ ds := by
      have hlt : (rd l (i : Int)).toNat < ds.length := by omega
      unfold rd
      unfold rd at hlt
      rw [List.getD_eq_getElem?_getD, List.getElem?_eq_getElem hlt]
      exact List.getElem_mem _
    have hv := hdom _ hdn
    simp only [spec_l4Span.l0]
    rw [if_pos (by omega), if_pos (by omega), if_pos hn.1, if_pos hn.2, if_pos hv.1, if_pos (by omega), hx _ hv.1 hv.2, rd_drop l i hi]
    simp only [domsOf]
    rw [wrap_id (show -9223372036854775808 ≤ (i : Int) + 1 by omega) (by omega)]
    by_cases hc : acc.contains (rd ds (rd l (i : Int))) = true
    · rw [if_pos hc, if_pos hc]
      exact ih k (i + 1) seen acc (by omega) (by omega) hs (by omega) hx
    · rw [if_neg hc, if_neg hc, wrap_id (by omega) (by omega)]
      have := ih k (i + 1) (seen.set (rd ds (rd l (i : Int))).toNat true) (acc ++ [rd ds (rd l (i : Int))]) (by omega) (by omega) (by simp [hs]) (by simp; omega) (by
        intro x h0 h7
        by_cases e : x = rd ds (rd l (i : Int))
        · subst e
          simp [rdOf, List.getD_eq_getElem?_getD, List.getElem?_set, hs, show (rd ds (rd l (i : Int))).toNat < 8 by omega]
        · have he : (rd ds (rd l (i : Int))).toNat ≠ x.toNat := by omega
          have := hx x h0 h7
          simp only [rdOf] at this ⊢
          rw [List.getD_eq_getElem?_getD, List.getElem?_set, if_neg he, ← List.getD_eq_getElem?_getD, this]
          simp [e])
      simpa using this
theorem spec_l4Span_is (ds : List Int) (c : Int) (l : List Int) (hok : nodesOk ds c l = true) (hl : l.length ≤ 1048576) (k : Nat) (hk : 1048577 < k) : spec_l4Span.f k ds c l = some (spanOf ds l) := by
  simp only [nodesOk, Bool.and_eq_true, decide_eq_true_eq] at hok
  obtain ⟨h1, h2, _, _, h5⟩ := cfgOk_len hok.1
  unfold spec_l4Span.f
  rw [if_pos (by decide)]
  have := spec_l4Span_l ds c l h2 h5 hl (fun n hn => by have := Asc_mem hok.2 hn; omega) l.length k 0 (List.replicate 8 false) [] (by omega) (by omega) (by simp) (by simp) (by
    intro x h0 h7
    unfold rdOf
    rw [List.getD_eq_getElem?_getD, List.getElem?_replicate, if_pos (by omega)]
    rfl)
  simpa [spanOf] using this
theorem spec_Holds_is (ds : List Int) (c : Int) (l : List Int) (hd : ds.length ≤ 1048576) (hl : l.length ≤ 1048576) (k : Nat) (hk : 1048577 < k) : spec_Holds.f k ds c l = some (holdsB ds c l) := by
  unfold spec_Holds.f holdsB
  rw [spec_NodesOk_is ds c l hd hl k hk]
  simp only [Option.bind_some]
  by_cases h : nodesOk ds c l = true
  · rw [if_pos h, spec_l4Span_is ds c l h hl k hk, h]
    simp
  · rw [if_neg h]
    simp [h]
def mendReady (ds : List Int) (c by_ ep : Int) (sl : List Int) (seen : List S81) (pl : Bool) (wr : List (List Int)) : Bool := mendOk ds c by_ ep sl seen pl wr && (pl && wr.all (holdsB ds c))
theorem spec_MendReady_l (ds : List Int) (c b ep : Int) (sl : List Int) (seen : List S81) (pl : Bool) (wr : List (List Int)) (hd : ds.length ≤ 1048576) (hw : wr.length ≤ 1048576 ∧ ∀ e ∈ wr, e.length ≤ 1048576) (d : Nat) : ∀ (k i : Nat), i + d = wr.length → d + 1048577 < k →
    spec_MendReady.l0 k (i : Int) ds c b ep sl seen pl wr = some ((wr.drop i).all (holdsB ds c)) := by
  induction d with
  | zero =>
    intro k i h hk
    obtain ⟨k, rfl⟩ : ∃ m, k = m + 1 := ⟨k - 1, by omega⟩
    simp only [spec_MendReady.l0]
    rw [if_neg (by omega), List.drop_eq_nil_of_le (by omega)]
    rfl
  | succ d ih =>
    intro k i h hk
    obtain ⟨k, rfl⟩ : ∃ m, k = m + 1 := ⟨k - 1, by omega⟩
    simp only [spec_MendReady.l0]
    rw [if_pos (by omega), if_pos (by omega), spec_Holds_is ds c _ hd (hw.2 _ (rdL_int_mem wr i (by omega))) _ (by omega), wrap_id (show -9223372036854775808 ≤ (i : Int) + 1 by omega) (by omega), show (i : Int) + 1 = ((i + 1 : Nat) : Int) from rfl, ih k (i + 1) (by omega) (by omega), drop_rdL_int wr i (by omega), List.all_cons]
    simp only [Option.bind_some]
    cases holdsB ds c (rd_L4 wr (i : Int)) <;> simp
theorem spec_MendReady_is (ds : List Int) (c b ep : Int) (sl : List Int) (seen : List S81) (pl : Bool) (wr : List (List Int)) (hd : ds.length ≤ 1048576) (hsl : sl.length ≤ 1048576) (hs : seen.length ≤ 1048576) (hr : ∀ e ∈ seen, InR e.f0) (hw : wr.length ≤ 1048576 ∧ ∀ e ∈ wr, e.length ≤ 1048576) (k : Nat) (hk : 4194308 < k) :
    spec_MendReady.f k ds c b ep sl seen pl wr = some (mendReady ds c b ep sl seen pl wr) := by
  obtain ⟨k, rfl⟩ : ∃ m, k = m + 1 := ⟨k - 1, by omega⟩
  have h1 := spec_MendReady_l ds c b ep sl seen pl wr hd hw wr.length k 0 (by omega) (by omega)
  rw [List.drop_zero, show ((0 : Nat) : Int) = 0 from rfl] at h1
  unfold spec_MendReady.f mendReady
  rw [spec_MendOk_is ds c b ep sl seen pl wr hd hsl hs hr hw _ (by omega)]
  simp only [Option.bind_some, spec_MendReady.j0]
  rw [h1]
  cases mendOk ds c b ep sl seen pl wr <;> cases pl <;> simp
theorem toIntS_l (l : List Int) (hz : l.length ≤ 1048576) (d : Nat) : ∀ (k : Nat) (ys : List Int) (i : Int), 0 ≤ i → (l.length : Int) - i ≤ d → i ≤ l.length → d + 0 < k → ys.length = l.length → (∀ j : Nat, (j : Int) < i → ys[j]? = (l)[j]?) →
    laws_toIntS.l0 k l ys i = some l := by
  have hlen : l.length ≤ 1048576 := hz
  induction d with
  | zero =>
    intro k ys i h0 h1 h2 hk hy hj
    obtain ⟨k, rfl⟩ : ∃ m, k = m + 1 := ⟨k - 1, by omega⟩
    simp only [laws_toIntS.l0]
    rw [if_neg (by omega)]
    congr 1
    apply List.ext_getElem?
    intro j
    by_cases h : j < l.length
    · exact hj j (by omega)
    · rw [List.getElem?_eq_none (by omega), List.getElem?_eq_none (by first | omega | (simp; omega))]
  | succ d ih =>
    intro k ys i h0 h1 h2 hk hy hj
    obtain ⟨k, rfl⟩ : ∃ m, k = m + 1 := ⟨k - 1, by omega⟩
    simp only [laws_toIntS.l0]
    by_cases h : i < (l.length : Int)
    · rw [if_pos h, if_pos h0, if_pos (by omega), wrap_id (by omega) (by omega)]
      refine ih k _ (i + 1) (by omega) (by omega) (by omega) (by omega) (by simp [hy]) ?_
      intro j hji
      rw [List.getElem?_set]
      by_cases e : i.toNat = j
      · subst e
        rw [if_pos rfl, if_pos (by omega)]
        simp [rd, List.getD_eq_getElem?_getD, List.getElem?_eq_getElem (show i.toNat < l.length by omega)]
      · rw [if_neg e]
        exact hj j (by omega)
    · rw [if_neg h]
      congr 1
      apply List.ext_getElem?
      intro j
      by_cases h : j < l.length
      · exact hj j (by omega)
      · rw [List.getElem?_eq_none (by omega), List.getElem?_eq_none (by first | omega | (simp; omega))]
theorem toIntS_is (l : List Int) (hz : l.length ≤ 1048576) (k : Nat) (hk : 1048576 < k) : laws_toIntS.f k l = some l := by
  have hlen : l.length ≤ 1048576 := hz
  unfold laws_toIntS.f
  rw [if_pos (by omega), if_pos (by omega), toIntS_l l hz l.length k _ 0 (by omega) (by omega) (by omega) (by omega) (by simp) (fun j h => by omega)]
theorem toConfig_is (a0 : List Int) (a1 : Int) (ha0 : a0.length ≤ 1048576) (k : Nat) (hk : 1048576 < k) : laws_toConfig.f k a0 a1 = some (a0, a1) := by
  unfold laws_toConfig.f
  rw [toIntS_is a0 ha0 k (by omega)]
  simp only [Option.bind_some]
def cEntry (x : S131) : S81 := ⟨x.f0, x.f1, x.f2, x.f3⟩
theorem toEntry_is (a0 : Int) (a1 : Int) (a2 : Bool) (a3 : ByteArray) (ha3 : a3.size ≤ 1048576) : laws_toEntry.f a0 a1 a2 a3 = some (a0, a1, a2, a3) := by
  rfl
theorem toEntryS_l (l : List S131) (hz : (l.length ≤ 1048576 ∧ ∀ e0 ∈ l, (e0.f3.size ≤ 1048576))) (d : Nat) : ∀ (k : Nat) (ys : List S81) (i : Int), 0 ≤ i → (l.length : Int) - i ≤ d → i ≤ l.length → d + 0 < k → ys.length = l.length → (∀ j : Nat, (j : Int) < i → ys[j]? = ((l.map cEntry))[j]?) →
    laws_toEntryS.l0 k l ys i = some (l.map cEntry) := by
  have hlen : l.length ≤ 1048576 := hz.1
  induction d with
  | zero =>
    intro k ys i h0 h1 h2 hk hy hj
    obtain ⟨k, rfl⟩ : ∃ m, k = m + 1 := ⟨k - 1, by omega⟩
    simp only [laws_toEntryS.l0]
    rw [if_neg (by omega)]
    congr 1
    apply List.ext_getElem?
    intro j
    by_cases h : j < l.length
    · exact hj j (by omega)
    · rw [List.getElem?_eq_none (by omega), List.getElem?_eq_none (by first | omega | (simp; omega))]
  | succ d ih =>
    intro k ys i h0 h1 h2 hk hy hj
    obtain ⟨k, rfl⟩ : ∃ m, k = m + 1 := ⟨k - 1, by omega⟩
    simp only [laws_toEntryS.l0]
    by_cases h : i < (l.length : Int)
    · rw [if_pos h, if_pos h0]
      have hg0 : (rd_T131 l i) = l[i.toNat]'(by omega) := by simp [rd_T131, List.getD_eq_getElem?_getD, List.getElem?_eq_getElem (show i.toNat < l.length by omega)]
      have he := hz.2 (l[i.toNat]'(by omega)) (List.getElem_mem _)
      rw [← hg0] at he
      rw [toEntry_is (rd_T131 l i).f0 (rd_T131 l i).f1 (rd_T131 l i).f2 (rd_T131 l i).f3 he]
      simp only [Option.bind_some]
      rw [if_pos (by omega), wrap_id (by omega) (by omega)]
      refine ih k _ (i + 1) (by omega) (by omega) (by omega) (by omega) (by simp [hy]) ?_
      intro j hji
      rw [List.getElem?_set]
      by_cases e : i.toNat = j
      · subst e
        rw [if_pos rfl, if_pos (by omega)]
        simp [rd_T131, cEntry, List.getD_eq_getElem?_getD, List.getElem?_eq_getElem (show i.toNat < l.length by omega)]
      · rw [if_neg e]
        exact hj j (by omega)
    · rw [if_neg h]
      congr 1
      apply List.ext_getElem?
      intro j
      by_cases h : j < l.length
      · exact hj j (by omega)
      · rw [List.getElem?_eq_none (by omega), List.getElem?_eq_none (by first | omega | (simp; omega))]
theorem toEntryS_is (l : List S131) (hz : (l.length ≤ 1048576 ∧ ∀ e0 ∈ l, (e0.f3.size ≤ 1048576))) (k : Nat) (hk : 1048576 < k) : laws_toEntryS.f k l = some (l.map cEntry) := by
  have hlen : l.length ≤ 1048576 := hz.1
  unfold laws_toEntryS.f
  rw [if_pos (by omega), if_pos (by omega), toEntryS_l l hz l.length k _ 0 (by omega) (by omega) (by omega) (by omega) (by simp) (fun j h => by omega)]
theorem toIntSS_l (l : List (List Int)) (hz : (l.length ≤ 1048576 ∧ ∀ e0 ∈ l, e0.length ≤ 1048576)) (d : Nat) : ∀ (k : Nat) (ys : List (List Int)) (i : Int), 0 ≤ i → (l.length : Int) - i ≤ d → i ≤ l.length → d + 1048576 < k → ys.length = l.length → (∀ j : Nat, (j : Int) < i → ys[j]? = (l)[j]?) →
    laws_toIntSS.l0 k l ys i = some l := by
  have hlen : l.length ≤ 1048576 := hz.1
  induction d with
  | zero =>
    intro k ys i h0 h1 h2 hk hy hj
    obtain ⟨k, rfl⟩ : ∃ m, k = m + 1 := ⟨k - 1, by omega⟩
    simp only [laws_toIntSS.l0]
    rw [if_neg (by omega)]
    congr 1
    apply List.ext_getElem?
    intro j
    by_cases h : j < l.length
    · exact hj j (by omega)
    · rw [List.getElem?_eq_none (by omega), List.getElem?_eq_none (by first | omega | (simp; omega))]
  | succ d ih =>
    intro k ys i h0 h1 h2 hk hy hj
    obtain ⟨k, rfl⟩ : ∃ m, k = m + 1 := ⟨k - 1, by omega⟩
    simp only [laws_toIntSS.l0]
    by_cases h : i < (l.length : Int)
    · rw [if_pos h, if_pos h0]
      have hg0 : (rd_L4 l i) = l[i.toNat]'(by omega) := by simp [rd_L4, List.getD_eq_getElem?_getD, List.getElem?_eq_getElem (show i.toNat < l.length by omega)]
      have he := hz.2 (l[i.toNat]'(by omega)) (List.getElem_mem _)
      rw [← hg0] at he
      rw [toIntS_is (rd_L4 l i) he k (by omega)]
      simp only [Option.bind_some]
      rw [if_pos (by omega), wrap_id (by omega) (by omega)]
      refine ih k _ (i + 1) (by omega) (by omega) (by omega) (by omega) (by simp [hy]) ?_
      intro j hji
      rw [List.getElem?_set]
      by_cases e : i.toNat = j
      · subst e
        rw [if_pos rfl, if_pos (by omega)]
        simp [rd_L4, List.getD_eq_getElem?_getD, List.getElem?_eq_getElem (show i.toNat < l.length by omega)]
      · rw [if_neg e]
        exact hj j (by omega)
    · rw [if_neg h]
      congr 1
      apply List.ext_getElem?
      intro j
      by_cases h : j < l.length
      · exact hj j (by omega)
      · rw [List.getElem?_eq_none (by omega), List.getElem?_eq_none (by first | omega | (simp; omega))]
theorem toIntSS_is (l : List (List Int)) (hz : (l.length ≤ 1048576 ∧ ∀ e0 ∈ l, e0.length ≤ 1048576)) (k : Nat) (hk : 2097152 < k) : laws_toIntSS.f k l = some l := by
  have hlen : l.length ≤ 1048576 := hz.1
  unfold laws_toIntSS.f
  rw [if_pos (by omega), if_pos (by omega), toIntSS_l l hz l.length k _ 0 (by omega) (by omega) (by omega) (by omega) (by simp) (fun j h => by omega)]
theorem toMend_is (a0 : Int) (a1 : Int) (a2 : List Int) (a3 : List S131) (a4 : Bool) (a5 : List (List Int)) (ha2 : a2.length ≤ 1048576) (ha3 : (a3.length ≤ 1048576 ∧ ∀ e0 ∈ a3, (e0.f3.size ≤ 1048576))) (ha5 : (a5.length ≤ 1048576 ∧ ∀ e0 ∈ a5, e0.length ≤ 1048576)) (k : Nat) (hk : 2097152 < k) : laws_toMend.f k a0 a1 a2 a3 a4 a5 = some (a0, a1, a2, (a3.map cEntry), a4, a5) := by
  unfold laws_toMend.f
  rw [toIntS_is a2 ha2 k (by omega)]
  simp only [Option.bind_some]
  rw [toEntryS_is a3 ha3 k (by omega)]
  simp only [Option.bind_some]
  rw [toIntSS_is a5 ha5 k (by omega)]
  simp only [Option.bind_some]
theorem impl_within_is (x a b : Int) : impl_within.f x a b = some (inB x a b) := by
  unfold impl_within.f inB
  by_cases h : x ≥ a
  · rw [if_pos h]; simp [show a ≤ x from h]
  · rw [if_neg h]; simp [show ¬ a ≤ x from h]
theorem impl_ConfigOk_l (ds : List Int) (c : Int) (hl : ds.length ≤ 1048576) (d : Nat) : ∀ (k i : Nat), i + d = ds.length → d < k → impl_ConfigOk.l0 k ds (ds.length : Int) (i : Int) ds c = some ((ds.drop i).all (fun d => inB d 0 7) && inB (ds.length : Int) 1 8 && inB c 1 4) := by
  induction d with
  | zero =>
    intro k i h hk
    obtain ⟨k, rfl⟩ : ∃ m, k = m + 1 := ⟨k - 1, by omega⟩
    simp only [impl_ConfigOk.l0]
    rw [if_neg (by omega), List.drop_eq_nil_of_le (by omega), impl_within_is, impl_within_is]
    cases inB (ds.length : Int) 1 8 <;> simp
  | succ d ih =>
    intro k i h hk
    obtain ⟨k, rfl⟩ : ∃ m, k = m + 1 := ⟨k - 1, by omega⟩
    simp only [impl_ConfigOk.l0]
    rw [if_pos (by omega), if_pos (by omega), if_pos (by omega), impl_within_is, rd_drop ds i (by omega), List.all_cons]
    simp only [Option.bind_some]
    cases inB (rd ds i) 0 7 with
    | false => rfl
    | true =>
      simp only [if_true, Bool.true_and]
      rw [wrap_id (by omega) (by omega)]
      exact ih k (i + 1) (by omega) (by omega)
theorem impl_ConfigOk_is (ds : List Int) (c : Int) (hl : ds.length ≤ 1048576) (k : Nat) (hk : 1048577 < k) : impl_ConfigOk.f k ds c = some (cfgOk ds c) := by
  unfold impl_ConfigOk.f
  have h := impl_ConfigOk_l ds c hl ds.length k 0 (by omega) (by omega)
  rw [List.drop_zero] at h
  rw [show (0 : Int) = ((0 : Nat) : Int) from rfl, h]
  unfold cfgOk
  cases inB (ds.length : Int) 1 8 <;> cases inB c 1 4 <;> simp
theorem impl_ascends_l (l : List Int) (hi : Int) (hl : l.length ≤ 1048576) (d : Nat) : ∀ (k i : Nat), i + d = l.length → d < k → (∀ j, j < i → (0 ≤ l.getD j 0 ∧ l.getD j 0 ≤ hi) ∧ (0 < j → l.getD (j - 1) 0 < l.getD j 0)) → impl_ascends.l0 k l hi l (l.length : Int) (i : Int) = some (decide (Asc l 0 hi)) := by
  induction d with
  | zero =>
    intro k i h hk hj
    obtain ⟨k, rfl⟩ : ∃ m, k = m + 1 := ⟨k - 1, by omega⟩
    simp only [impl_ascends.l0]
    rw [if_neg (by omega), decide_eq_true (show Asc l 0 hi from fun j hjl => hj j (by omega))]
  | succ d ih =>
    intro k i h hk hj
    obtain ⟨k, rfl⟩ : ∃ m, k = m + 1 := ⟨k - 1, by omega⟩
    simp only [impl_ascends.l0]
    rw [if_pos (by omega), if_pos (by omega), if_pos (by omega), impl_within_is, rd_nat]
    simp only [Option.bind_some]
    by_cases hb : inB (l.getD i 0) 0 hi = true
    · rw [if_pos hb]
      rw [inB_true] at hb
      by_cases h0 : (i : Int) > 0
      · rw [if_pos h0, wrap_id (by omega) (by omega), if_pos (by omega), if_pos (by omega), show ((i : Int) - 1) = ((i - 1 : Nat) : Int) by omega, rd_nat]
        by_cases hg : l.getD (i - 1) 0 ≥ l.getD i 0
        · rw [if_pos hg, decide_eq_false (fun ha : Asc l 0 hi => by have := (ha i (by omega)).2 (by omega); omega)]
        · rw [if_neg hg, wrap_id (by omega) (by omega)]
          refine ih k (i + 1) (by omega) (by omega) (fun j hji => ?_)
          by_cases e : j = i
          · subst e; exact ⟨hb, fun _ => by omega⟩
          · exact hj j (by omega)
      · rw [if_neg h0, wrap_id (by omega) (by omega)]
        refine ih k (i + 1) (by omega) (by omega) (fun j hji => ?_)
        by_cases e : j = i
        · subst e; exact ⟨hb, fun _ => by omega⟩
        · exact hj j (by omega)
    · rw [if_neg hb, decide_eq_false (fun ha : Asc l 0 hi => hb (inB_true.2 (ha i (by omega)).1))]
theorem impl_ascends_is (l : List Int) (hi : Int) (hl : l.length ≤ 1048576) (k : Nat) (hk : 1048576 < k) : impl_ascends.f k l hi = some (decide (Asc l 0 hi)) := by
  unfold impl_ascends.f
  exact impl_ascends_l l hi hl l.length k 0 (by omega) (by omega) (fun j h => by omega)
theorem impl_NodesOk_is (ds : List Int) (c : Int) (l : List Int) (hd : ds.length ≤ 1048576) (hl : l.length ≤ 1048576) (k : Nat) (hk : 1048577 < k) : impl_NodesOk.f k ds c l = some (nodesOk ds c l) := by
  unfold impl_NodesOk.f nodesOk
  rw [impl_ConfigOk_is ds c hd k hk, wrap_id (by omega) (by omega), impl_ascends_is l _ hl k (by omega)]
  cases cfgOk ds c <;> simp
theorem slices_Index_l (l : List Int) (x : Int) (hl : l.length ≤ 1048576) (d : Nat) : ∀ (k i : Nat), i + d = l.length → d < k → ∃ r : Int, slices_Index_int_int.l0 k l x (l.length : Int) (i : Int) = some r ∧ (decide (r ≥ 0) = (l.drop i).contains x) := by
  induction d with
  | zero =>
    intro k i h hk
    obtain ⟨k, rfl⟩ : ∃ m, k = m + 1 := ⟨k - 1, by omega⟩
    simp only [slices_Index_int_int.l0]
    rw [if_neg (by omega), List.drop_eq_nil_of_le (by omega)]
    exact ⟨-1, rfl, rfl⟩
  | succ d ih =>
    intro k i h hk
    obtain ⟨k, rfl⟩ : ∃ m, k = m + 1 := ⟨k - 1, by omega⟩
    simp only [slices_Index_int_int.l0]
    rw [if_pos (by omega), if_pos (by omega), if_pos (by omega), rd_drop l i (by omega)]
    by_cases hx : x = rd l (i : Int)
    · rw [if_pos hx]
      exact ⟨i, rfl, by simp [hx]⟩
    · rw [if_neg hx, wrap_id (by omega) (by omega)]
      obtain ⟨r, hr, hd⟩ := ih k (i + 1) (by omega) (by omega)
      exact ⟨r, hr, by rw [hd]; simp [hx]⟩
theorem slices_Contains_is (l : List Int) (x : Int) (hl : l.length ≤ 1048576) (k : Nat) (hk : 1048576 < k) : slices_Contains_int_int.f k l x = some (l.contains x) := by
  unfold slices_Contains_int_int.f slices_Index_int_int.f
  obtain ⟨r, hr, hd⟩ := slices_Index_l l x hl l.length k 0 (by omega) (by omega)
  rw [show (0 : Int) = ((0 : Nat) : Int) from rfl, hr]
  simp only [Option.bind_some]
  rw [show ((0 : Nat) : Int) = 0 from rfl, hd, List.drop_zero]
theorem impl_SpanOf_l (ds : List Int) (c : Int) (l : List Int) (hl : l.length ≤ 1048576) (hmem : ∀ n ∈ l, 0 ≤ n ∧ n < (ds.length : Int)) (d : Nat) :
    ∀ (k i : Nat) (acc : List Int), i + d = l.length → d + 1048576 < k → acc.length ≤ i → impl_SpanOf.l0 k acc l (l.length : Int) (i : Int) ds c = some ((domsOf ds (l.drop i) acc).length : Int) := by
  induction d with
  | zero =>
    intro k i acc h hk ha
    obtain ⟨k, rfl⟩ : ∃ m, k = m + 1 := ⟨k - 1, by omega⟩
    simp only [impl_SpanOf.l0]
    rw [if_neg (by omega), List.drop_eq_nil_of_le (by omega)]
    rfl
  | succ d ih =>
    intro k i acc h hk ha
    obtain ⟨k, rfl⟩ : ∃ m, k = m + 1 := ⟨k - 1, by omega⟩
    have hi : i < l.length := by omega
    have hin : rd l (i : Int) ∈ l := by
      rw [rd_nat, List.getD_eq_getElem?_getD, List.getElem?_eq_getElem hi]
      exact List.getElem_mem _
    have hn := hmem _ hin
    simp only [impl_SpanOf.l0]
    rw [if_pos (by omega), if_pos (by omega), if_pos (by omega), if_pos hn.1, if_pos hn.2, slices_Contains_is acc _ (by omega) k (by omega), rd_drop l i hi]
    simp only [Option.bind_some, domsOf]
    rw [wrap_id (show -9223372036854775808 ≤ (i : Int) + 1 by omega) (by omega)]
    by_cases hc : acc.contains (rd ds (rd l (i : Int))) = true
    · rw [if_pos hc, if_pos hc]
      exact ih k (i + 1) acc (by omega) (by omega) (by omega)
    · rw [if_neg hc, if_neg hc, if_pos (by omega)]
      exact ih k (i + 1) _ (by omega) (by omega) (by simp; omega)
theorem impl_SpanOf_is (ds : List Int) (c : Int) (l : List Int) (hd : ds.length ≤ 1048576) (hl : l.length ≤ 1048576) (k : Nat) (hk : 2097153 < k) : impl_SpanOf.f k ds c l = some (if nodesOk ds c l = true then spanOf ds l else -1) := by
  unfold impl_SpanOf.f
  rw [impl_NodesOk_is ds c l hd hl k (by omega)]
  simp only [Option.bind_some]
  by_cases h : nodesOk ds c l = true
  · rw [if_pos h, if_pos h]
    have h' := h
    simp only [nodesOk, Bool.and_eq_true, decide_eq_true_eq] at h'
    have := impl_SpanOf_l ds c l hl (fun n hn => by have := Asc_mem h'.2 hn; omega) l.length k 0 [] (by omega) (by omega) (by simp)
    simpa [spanOf] using this
  · rw [if_neg h, if_neg h]
theorem impl_Holds_is (ds : List Int) (c : Int) (l : List Int) (hd : ds.length ≤ 1048576) (hl : l.length ≤ 1048576) (k : Nat) (hk : 2097153 < k) : impl_Holds.f k ds c l = some (holdsB ds c l) := by
  unfold impl_Holds.f holdsB
  rw [impl_NodesOk_is ds c l hd hl k (by omega)]
  simp only [Option.bind_some]
  by_cases h : nodesOk ds c l = true
  · rw [if_pos h, impl_SpanOf_is ds c l hd hl k hk, if_pos h, h]
    simp
  · rw [if_neg h]
    simp [h]
theorem impl_PlaceOk_is (x : Int) (hx : InR x) : impl_PlaceOk.f x = some (placeOk x) := by
  unfold impl_PlaceOk.f placeOk impl_isEpoch.f impl_isOff.f
  by_cases h : x > 0
  · rw [tdiv_pos (by omega), tmod_pos (by omega), wrap_id (by have := hx.2; omega) (by have := hx.2; omega), impl_within_is, impl_within_is]
    cases inB (x / 4294967296) 1 30 <;> simp [show 0 < x from h]
  · rw [tdiv_neg' (by omega), wrap_id (by have := hx.1; omega) (by have := hx.1; omega), impl_within_is, show inB (-(-x / 4294967296)) 1 30 = false by
      rw [Bool.eq_false_iff]
      intro he
      rw [inB_true] at he
      omega]
    simp [show ¬ 0 < x from h]
theorem impl_OffOf_is (x : Int) (hx : InR x) : impl_OffOf.f x = some (offOf x) := by
  unfold impl_OffOf.f offOf
  rw [impl_PlaceOk_is x hx]
  simp only [Option.bind_some]
  by_cases h : placeOk x = true
  · have h' := h
    simp only [placeOk, Bool.and_eq_true, inB_true, decide_eq_true_eq] at h'
    rw [if_pos h, if_pos h, tmod_pos (by omega)]
  · rw [if_neg h, if_neg h]
theorem impl_lastOff_is (b ep : Int) (sl : List Int) (l : List S81) (pl : Bool) (wr : List (List Int)) (hl : l.length ≤ 1048576) (hr : ∀ e ∈ l, InR e.f0) : impl_lastOff.f b ep sl l pl wr = some (lastOf l) := by
  unfold impl_lastOff.f lastOf
  by_cases h0 : l.length = 0
  · rw [if_pos (by omega), if_pos h0]
  · rw [if_neg (by omega), if_neg h0, wrap_id (by omega) (by omega), if_pos (by omega), if_pos (by omega)]
    have hm := hr _ (rdT_Entry_mem l (l.length - 1) (by omega))
    rw [show ((l.length - 1 : Nat) : Int) = (l.length : Int) - 1 by omega] at hm
    rw [impl_OffOf_is _ hm]
    rfl
theorem impl_placesAscend_l (l : List S81) (hl : l.length ≤ 1048576) (d : Nat) : ∀ (k i : Nat), i + d = l.length → d < k → impl_placesAscend.l0 k l l (l.length : Int) (i : Int) = some (ascFrom l d i) := by
  induction d with
  | zero =>
    intro k i h hk
    obtain ⟨k, rfl⟩ : ∃ m, k = m + 1 := ⟨k - 1, by omega⟩
    simp only [impl_placesAscend.l0, ascFrom]
    rw [if_neg (by omega)]
  | succ d ih =>
    intro k i h hk
    obtain ⟨k, rfl⟩ : ∃ m, k = m + 1 := ⟨k - 1, by omega⟩
    simp only [impl_placesAscend.l0, ascFrom]
    rw [if_pos (by omega), if_pos (by omega), if_pos (by omega), wrap_id (show -9223372036854775808 ≤ (i : Int) - 1 by omega) (by omega), wrap_id (show -9223372036854775808 ≤ (i : Int) + 1 by omega) (by omega), show (i : Int) + 1 = ((i + 1 : Nat) : Int) from rfl, ih k (i + 1) (by omega) (by omega)]
    by_cases h0 : i = 0
    · subst h0
      simp
    · rw [if_pos (by omega), if_pos (by omega), if_pos (by omega)]
      by_cases hq : (rd_T81 l ((i : Int) - 1)).f0 ≥ (rd_T81 l (i : Int)).f0 <;> simp [hq, h0]
theorem impl_placesAscend_is (l : List S81) (hl : l.length ≤ 1048576) (k : Nat) (hk : 1048576 < k) : impl_placesAscend.f k l = some (ascE l) := by
  unfold impl_placesAscend.f ascE
  have := impl_placesAscend_l l hl l.length k 0 (by omega) (by omega)
  simpa using this
theorem impl_dataOk_is (s : ByteArray) : impl_dataOk.f s = some (decide ((s.size : Int) ≤ 40)) := rfl
theorem impl_EpochOf_is (x : Int) (hx : InR x) : impl_EpochOf.f x = some (epochOf x) := by
  unfold impl_EpochOf.f epochOf
  rw [impl_PlaceOk_is x hx]
  simp only [Option.bind_some]
  by_cases h : placeOk x = true
  · have h' := h
    simp only [placeOk, Bool.and_eq_true, inB_true, decide_eq_true_eq] at h'
    rw [if_pos h, if_pos h, tdiv_pos (by omega), wrap_id (by omega) (by omega)]
  · rw [if_neg h, if_neg h]
theorem impl_EntryOk_is (a w : Int) (b : Bool) (s : ByteArray) (ha : InR a) : impl_EntryOk.f a w b s = some (entryOkF a w b s) := by
  unfold impl_EntryOk.f entryOkF
  rw [impl_PlaceOk_is a ha, impl_within_is, impl_EpochOf_is a ha, impl_dataOk_is]
  simp only [Option.bind_some]
  have hn := @nil_size s
  generalize epochOf a = E
  generalize s.toList = L at hn
  generalize (s.size : Int) = z at hn
  have hw : inB w 0 30 = true → 0 ≤ w := fun h => by rw [inB_true] at h; omega
  cases placeOk a <;> cases hi : inB w 0 30 <;> simp
  all_goals (have h00 := hw hi)
  all_goals (by_cases h0 : w = 0)
  all_goals (first | (subst h0; cases b <;> simp; done) | skip)
  have h1 : w > 0 := by omega
  by_cases h2 : w > E
  · have h3 : ¬ w ≤ E := by omega
    cases b with
    | false => simp [h0, h1, h2, h3]
    | true =>
      by_cases hL : L = []
      · have := hn hL
        simp [h0, h1, h2, h3, hL, this]
      · simp [h0, h1, h2, h3, hL]
  · have h3 : w ≤ E := by omega
    cases b <;> simp [h0, h1, h2, h3]
theorem impl_seenOk_l (b ep : Int) (sl : List Int) (seen : List S81) (pl : Bool) (wr : List (List Int)) (hs : seen.length ≤ 1048576) (hr : ∀ e ∈ seen, InR e.f0) (d : Nat) : ∀ (k i : Nat), i + d = seen.length → d + 1048577 < k →
    impl_seenOk.l0 k seen (seen.length : Int) (i : Int) b ep sl seen pl wr = some ((seen.drop i).all (seenB ep b) && ascE seen) := by
  induction d with
  | zero =>
    intro k i h hk
    obtain ⟨k, rfl⟩ : ∃ m, k = m + 1 := ⟨k - 1, by omega⟩
    simp only [impl_seenOk.l0]
    rw [if_neg (by omega), List.drop_eq_nil_of_le (by omega), impl_placesAscend_is seen hs _ (by omega)]
    simp
  | succ d ih =>
    intro k i h hk
    obtain ⟨k, rfl⟩ : ∃ m, k = m + 1 := ⟨k - 1, by omega⟩
    have hx := hr _ (rdT_Entry_mem seen i (by omega))
    simp only [impl_seenOk.l0]
    rw [if_pos (by omega), if_pos (by omega), if_pos (by omega), impl_EntryOk_is _ _ _ _ hx, impl_EpochOf_is _ hx, wrap_id (show -9223372036854775808 ≤ (i : Int) + 1 by omega) (by omega), show (i : Int) + 1 = ((i + 1 : Nat) : Int) from rfl, ih k (i + 1) (by omega) (by omega), drop_rdE seen i (by omega), List.all_cons]
    simp only [Option.bind_some, seenB]
    generalize rd_T81 seen (i : Int) = x
    cases entryOkF x.f0 x.f1 x.f2 x.f3 <;> simp
    by_cases h1 : epochOf x.f0 = ep <;> by_cases h2 : x.f1 ≥ b <;> simp [h1, h2]
theorem impl_seenOk_is (b ep : Int) (sl : List Int) (seen : List S81) (pl : Bool) (wr : List (List Int)) (hs : seen.length ≤ 1048576) (hr : ∀ e ∈ seen, InR e.f0) (k : Nat) (hk : 2097153 < k) : impl_seenOk.f k b ep sl seen pl wr = some (seen.all (seenB ep b) && ascE seen) := by
  unfold impl_seenOk.f
  have := impl_seenOk_l b ep sl seen pl wr hs hr seen.length k 0 (by omega) (by omega)
  simpa using this
theorem impl_MendOk_l (ds : List Int) (c b ep : Int) (sl : List Int) (seen : List S81) (pl : Bool) (wr : List (List Int)) (hep : InR ep) (hd : ds.length ≤ 1048576) (hsl : sl.length ≤ 1048576) (hs : seen.length ≤ 1048576) (hr : ∀ e ∈ seen, InR e.f0) (hw : wr.length ≤ 1048576 ∧ ∀ e ∈ wr, e.length ≤ 1048576) (d : Nat) : ∀ (k i : Nat), i + d = wr.length → d + 3145730 < k →
    impl_MendOk.l0 k wr (wr.length : Int) (i : Int) ds c b ep sl seen pl wr = some ((wr.drop i).all (nodesOk ds c) && (cfgOk ds c && (inB ep 1 30 && (inB b (ep + 1) 30 && (nodesOk ds c sl && (ascE seen && (seen.all (seenB ep b) && ((wr.length : Int) == if pl = true then lastOf seen else 0)))))))) := by
  induction d with
  | zero =>
    intro k i h hk
    obtain ⟨k, rfl⟩ : ∃ m, k = m + 2 := ⟨k - 2, by omega⟩
    simp only [impl_MendOk.l0, impl_MendOk.j1, impl_isEpoch.f]
    rw [if_neg (by omega), List.drop_eq_nil_of_le (by omega), impl_lastOff_is b ep sl seen pl wr hs hr, impl_within_is, impl_ConfigOk_is ds c hd _ (by omega), impl_NodesOk_is ds c sl hd hsl _ (by omega), impl_seenOk_is b ep sl seen pl wr hs hr _ (by omega)]
    simp only [Option.bind_some, impl_within_is]
    cases hi : inB ep 1 30
    · cases pl <;> cases cfgOk ds c <;> simp
    · have he : 1 ≤ ep ∧ ep ≤ 30 := by rw [inB_true] at hi; omega
      rw [wrap_id (by omega) (by omega)]
      cases pl <;> cases cfgOk ds c <;> cases inB b (ep + 1) 30 <;> cases nodesOk ds c sl <;> cases ascE seen <;> cases seen.all (seenB ep b) <;> simp
  | succ d ih =>
    intro k i h hk
    obtain ⟨k, rfl⟩ : ∃ m, k = m + 1 := ⟨k - 1, by omega⟩
    simp only [impl_MendOk.l0]
    rw [if_pos (by omega), if_pos (by omega), if_pos (by omega), impl_NodesOk_is ds c _ hd (hw.2 _ (rdL_int_mem wr i (by omega))) _ (by omega), wrap_id (show -9223372036854775808 ≤ (i : Int) + 1 by omega) (by omega), show (i : Int) + 1 = ((i + 1 : Nat) : Int) from rfl, ih k (i + 1) (by omega) (by omega), drop_rdL_int wr i (by omega), List.all_cons]
    simp only [Option.bind_some]
    cases nodesOk ds c (rd_L4 wr (i : Int)) <;> simp
theorem impl_MendOk_is (ds : List Int) (c b ep : Int) (sl : List Int) (seen : List S81) (pl : Bool) (wr : List (List Int)) (hep : InR ep) (hd : ds.length ≤ 1048576) (hsl : sl.length ≤ 1048576) (hs : seen.length ≤ 1048576) (hr : ∀ e ∈ seen, InR e.f0) (hw : wr.length ≤ 1048576 ∧ ∀ e ∈ wr, e.length ≤ 1048576) (k : Nat) (hk : 4194307 < k) :
    impl_MendOk.f k ds c b ep sl seen pl wr = some (mendOk ds c b ep sl seen pl wr) := by
  unfold impl_MendOk.f mendOk
  have h := impl_MendOk_l ds c b ep sl seen pl wr hep hd hsl hs hr hw wr.length k 0 (by omega) (by omega)
  rw [List.drop_zero, show ((0 : Nat) : Int) = 0 from rfl] at h
  rw [h]
  congr 1
  cases wr.all (nodesOk ds c) <;> cases cfgOk ds c <;> cases inB ep 1 30 <;> cases inB b (ep + 1) 30 <;> cases nodesOk ds c sl <;> cases ascE seen <;> cases seen.all (seenB ep b) <;> rfl
theorem impl_MendReady_l (ds : List Int) (c : Int) (wr : List (List Int)) (hd : ds.length ≤ 1048576) (hw : wr.length ≤ 1048576 ∧ ∀ e ∈ wr, e.length ≤ 1048576) (d : Nat) : ∀ (k i : Nat), i + d = wr.length → d + 2097155 < k →
    impl_MendReady.l0 k wr (wr.length : Int) (i : Int) ds c = some ((wr.drop i).all (holdsB ds c)) := by
  induction d with
  | zero =>
    intro k i h hk
    obtain ⟨k, rfl⟩ : ∃ m, k = m + 1 := ⟨k - 1, by omega⟩
    simp only [impl_MendReady.l0]
    rw [if_neg (by omega), List.drop_eq_nil_of_le (by omega)]
    rfl
  | succ d ih =>
    intro k i h hk
    obtain ⟨k, rfl⟩ : ∃ m, k = m + 1 := ⟨k - 1, by omega⟩
    simp only [impl_MendReady.l0]
    rw [if_pos (by omega), if_pos (by omega), if_pos (by omega), impl_Holds_is ds c _ hd (hw.2 _ (rdL_int_mem wr i (by omega))) _ (by omega), wrap_id (show -9223372036854775808 ≤ (i : Int) + 1 by omega) (by omega), show (i : Int) + 1 = ((i + 1 : Nat) : Int) from rfl, ih k (i + 1) (by omega) (by omega), drop_rdL_int wr i (by omega), List.all_cons]
    simp only [Option.bind_some]
    cases holdsB ds c (rd_L4 wr (i : Int)) <;> simp
theorem impl_MendReady_is (ds : List Int) (c b ep : Int) (sl : List Int) (seen : List S81) (pl : Bool) (wr : List (List Int)) (hep : InR ep) (hd : ds.length ≤ 1048576) (hsl : sl.length ≤ 1048576) (hs : seen.length ≤ 1048576) (hr : ∀ e ∈ seen, InR e.f0) (hw : wr.length ≤ 1048576 ∧ ∀ e ∈ wr, e.length ≤ 1048576) (k : Nat) (hk : 4194308 < k) :
    impl_MendReady.f k ds c b ep sl seen pl wr = some (mendReady ds c b ep sl seen pl wr) := by
  obtain ⟨k, rfl⟩ : ∃ m, k = m + 1 := ⟨k - 1, by omega⟩
  have h1 := impl_MendReady_l ds c wr hd hw wr.length k 0 (by omega) (by omega)
  rw [List.drop_zero, show ((0 : Nat) : Int) = 0 from rfl] at h1
  unfold impl_MendReady.f mendReady
  rw [impl_MendOk_is ds c b ep sl seen pl wr hep hd hsl hs hr hw _ (by omega)]
  simp only [Option.bind_some, impl_MendReady.j0]
  rw [h1]
  cases mendOk ds c b ep sl seen pl wr <;> cases pl <;> simp
theorem eqIntS_l (l : List Int) (hz : l.length ≤ 1048576) (d : Nat) : ∀ (k : Nat) (i : Int), 0 ≤ i → (l.length : Int) - i ≤ d → i ≤ l.length → d + 0 < k → laws_eqIntS.l0 k l l i = some true := by
  have hlen : l.length ≤ 1048576 := hz
  induction d with
  | zero =>
    intro k i h0 h1 h2 hk
    obtain ⟨k, rfl⟩ : ∃ m, k = m + 1 := ⟨k - 1, by omega⟩
    simp only [laws_eqIntS.l0]
    rw [if_neg (by omega)]
  | succ d ih =>
    intro k i h0 h1 h2 hk
    obtain ⟨k, rfl⟩ : ∃ m, k = m + 1 := ⟨k - 1, by omega⟩
    simp only [laws_eqIntS.l0]
    by_cases h : i < (l.length : Int)
    · rw [if_pos h, if_pos h0, if_pos h]
      (first | rw [if_pos rfl] | rw [if_pos trivial])
      rw [wrap_id (by omega) (by omega)]
      exact ih k (i + 1) (by omega) (by omega) (by omega) (by omega)
    · rw [if_neg h]
theorem eqIntS_self (l : List Int) (hz : l.length ≤ 1048576) (k : Nat) (hk : 1048576 < k) : laws_eqIntS.f k l l = some true := by
  have hlen : l.length ≤ 1048576 := hz
  unfold laws_eqIntS.f
  rw [if_pos rfl, eqIntS_l l hz l.length k 0 (by omega) (by omega) (by omega) (by omega)]
theorem eqConfig_self (a0 : List Int) (a1 : Int) (ha0 : a0.length ≤ 1048576) (k : Nat) (hk : 1048576 < k) : laws_eqConfig.f k a0 a1 a0 a1 = some true := by
  unfold laws_eqConfig.f
  simp [eqIntS_self a0 ha0 k (by omega)]
theorem eqEntry_self (a0 : Int) (a1 : Int) (a2 : Bool) (a3 : ByteArray)  : laws_eqEntry.f a0 a1 a2 a3 a0 a1 a2 a3 = some true := by
  unfold laws_eqEntry.f
  simp
theorem eqEntryS_l (l : List S81) (hz : (l.length ≤ 1048576 ∧ ∀ e0 ∈ l, (e0.f3.size ≤ 1048576))) (d : Nat) : ∀ (k : Nat) (i : Int), 0 ≤ i → (l.length : Int) - i ≤ d → i ≤ l.length → d + 0 < k → laws_eqEntryS.l0 k l l i = some true := by
  have hlen : l.length ≤ 1048576 := hz.1
  induction d with
  | zero =>
    intro k i h0 h1 h2 hk
    obtain ⟨k, rfl⟩ : ∃ m, k = m + 1 := ⟨k - 1, by omega⟩
    simp only [laws_eqEntryS.l0]
    rw [if_neg (by omega)]
  | succ d ih =>
    intro k i h0 h1 h2 hk
    obtain ⟨k, rfl⟩ : ∃ m, k = m + 1 := ⟨k - 1, by omega⟩
    simp only [laws_eqEntryS.l0]
    by_cases h : i < (l.length : Int)
    · rw [if_pos h, if_pos h0, if_pos h]
      rw [eqEntry_self (rd_T81 l i).f0 (rd_T81 l i).f1 (rd_T81 l i).f2 (rd_T81 l i).f3]
      simp only [Option.bind_some]
      (first | rw [if_pos rfl] | rw [if_pos trivial])
      rw [wrap_id (by omega) (by omega)]
      exact ih k (i + 1) (by omega) (by omega) (by omega) (by omega)
    · rw [if_neg h]
theorem eqEntryS_self (l : List S81) (hz : (l.length ≤ 1048576 ∧ ∀ e0 ∈ l, (e0.f3.size ≤ 1048576))) (k : Nat) (hk : 1048576 < k) : laws_eqEntryS.f k l l = some true := by
  have hlen : l.length ≤ 1048576 := hz.1
  unfold laws_eqEntryS.f
  rw [if_pos rfl, eqEntryS_l l hz l.length k 0 (by omega) (by omega) (by omega) (by omega)]
theorem eqIntSS_l (l : List (List Int)) (hz : (l.length ≤ 1048576 ∧ ∀ e0 ∈ l, e0.length ≤ 1048576)) (d : Nat) : ∀ (k : Nat) (i : Int), 0 ≤ i → (l.length : Int) - i ≤ d → i ≤ l.length → d + 1048576 < k → laws_eqIntSS.l0 k l l i = some true := by
  have hlen : l.length ≤ 1048576 := hz.1
  induction d with
  | zero =>
    intro k i h0 h1 h2 hk
    obtain ⟨k, rfl⟩ : ∃ m, k = m + 1 := ⟨k - 1, by omega⟩
    simp only [laws_eqIntSS.l0]
    rw [if_neg (by omega)]
  | succ d ih =>
    intro k i h0 h1 h2 hk
    obtain ⟨k, rfl⟩ : ∃ m, k = m + 1 := ⟨k - 1, by omega⟩
    simp only [laws_eqIntSS.l0]
    by_cases h : i < (l.length : Int)
    · rw [if_pos h, if_pos h0, if_pos h]
      have hg0 : (rd_L4 l i) = l[i.toNat]'(by omega) := by simp [rd_L4, List.getD_eq_getElem?_getD, List.getElem?_eq_getElem (show i.toNat < l.length by omega)]
      have he := hz.2 (l[i.toNat]'(by omega)) (List.getElem_mem _)
      rw [← hg0] at he
      rw [eqIntS_self (rd_L4 l i) he k (by omega)]
      simp only [Option.bind_some]
      (first | rw [if_pos rfl] | rw [if_pos trivial])
      rw [wrap_id (by omega) (by omega)]
      exact ih k (i + 1) (by omega) (by omega) (by omega) (by omega)
    · rw [if_neg h]
theorem eqIntSS_self (l : List (List Int)) (hz : (l.length ≤ 1048576 ∧ ∀ e0 ∈ l, e0.length ≤ 1048576)) (k : Nat) (hk : 2097152 < k) : laws_eqIntSS.f k l l = some true := by
  have hlen : l.length ≤ 1048576 := hz.1
  unfold laws_eqIntSS.f
  rw [if_pos rfl, eqIntSS_l l hz l.length k 0 (by omega) (by omega) (by omega) (by omega)]
theorem eqMend_self (a0 : Int) (a1 : Int) (a2 : List Int) (a3 : List S81) (a4 : Bool) (a5 : List (List Int)) (ha2 : a2.length ≤ 1048576) (ha3 : (a3.length ≤ 1048576 ∧ ∀ e0 ∈ a3, (e0.f3.size ≤ 1048576))) (ha5 : (a5.length ≤ 1048576 ∧ ∀ e0 ∈ a5, e0.length ≤ 1048576)) (k : Nat) (hk : 2097152 < k) : laws_eqMend.f k a0 a1 a2 a3 a4 a5 a0 a1 a2 a3 a4 a5 = some true := by
  unfold laws_eqMend.f
  simp [eqIntS_self a2 ha2 k (by omega), eqEntryS_self a3 ha3 k (by omega), eqIntSS_self a5 ha5 k (by omega)]
theorem FnExactMendReady : Goal := by
  intro ds c b ep sl seen pl wr hds _ _ hep hsl hseen hwr
  refine ⟨9000000, ?_⟩
  unfold laws_FnExactMendReady.f
  obtain ⟨r, hr, _, hz⟩ := szConfig_ok ds c hds.1 1048576 (by omega) (by omega)
  rw [hr]
  simp only [Option.bind_some]
  by_cases hneg : r < 0
  · rw [if_pos hneg]
  have z := hz (by omega)
  rw [if_neg hneg]
  obtain ⟨r', hr', _, hz'⟩ := szMend_ok b ep sl seen pl wr hsl.1 ⟨hseen.1, fun e he => (hseen.2 e he).2.2.2⟩ ⟨hwr.1, fun e he => (hwr.2 e he).1⟩ r (by omega) (by omega) 9000000 (by omega)
  rw [hr']
  simp only [Option.bind_some]
  by_cases hneg' : r' < 0
  · rw [if_pos hneg']
  obtain ⟨z1, z2, z3⟩ := hz' (by omega)
  have hlen : (seen.map cEntry).length ≤ 1048576 := by simpa using z2.1
  have hin : ∀ e ∈ seen.map cEntry, InR e.f0 := fun e he => by obtain ⟨x, hx, rfl⟩ := List.mem_map.1 he; exact InR_of (hseen.2 x hx).1
  rw [if_neg hneg', toConfig_is ds c z _ (by omega), toMend_is b ep sl seen pl wr z1 z2 z3 _ (by omega)]
  simp only [Option.bind_some]
  rw [spec_MendReady_is ds c b ep sl _ pl wr z z1 hlen hin z3 _ (by omega), impl_MendReady_is ds c b ep sl _ pl wr (InR_of hep) z z1 hlen hin z3 _ (by omega)]
  simp only [Option.bind_some]
  rw [if_neg (by simp), eqConfig_self ds c z _ (by omega)]
  simp only [Option.bind_some, if_true]
  rw [eqMend_self b ep sl _ pl wr z1 ⟨hlen, fun e he => by obtain ⟨x, hx, rfl⟩ := List.mem_map.1 he; exact z2.2 x hx⟩ z3 _ (by omega)]
  rfl
end Go.Proofs.Ytlomecknojaakaa.Pure
