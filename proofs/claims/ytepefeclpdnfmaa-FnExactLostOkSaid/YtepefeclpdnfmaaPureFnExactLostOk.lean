/- The program's LostOk answers for each config and list what the reference's answers, and leaves both as they were. No conditions. -/
import Derived.Test.YtepefeclpdnfmaaGFnExactLostOk
namespace Go.Proofs.Ytepefeclpdnfmaa.Pure
open Go.RowKit Go.Proofs.Ytepefeclpdnfmaa.PFnExactLostOk Go.Proofs.YtepefeclpdnfmaaW.PrintWords Go.Proofs.YtepefeclpdnfmaaW.PrintLast Go.Proofs.YtepefeclpdnfmaaW.Opn Go.Proofs.Ytepefeclpdnfmaa.GFnExactLostOk
set_option linter.unusedVariables false
set_option linter.unusedSimpArgs false

theorem wrap_id {x : Int} (h0 : -9223372036854775808 ≤ x) (h1 : x ≤ 9223372036854775807) : wrap64 x = x := by
  unfold wrap64
  omega

/-- x lies between a and b. -/
def inB (x a b : Int) : Bool := decide (a ≤ x) && decide (x ≤ b)
theorem inB_true {x a b : Int} : inB x a b = true ↔ a ≤ x ∧ x ≤ b := by simp [inB]
/-- A config that is right: its domains, its copies. -/
def cfgOk (ds : List Int) (c : Int) : Bool := inB (ds.length : Int) 1 8 && inB c 1 4 && ds.all (fun d => inB d 0 7)
/-- Ascending numbers from lo to hi. -/
def Asc (l : List Int) (lo hi : Int) : Prop := ∀ i : Nat, i < l.length → (lo ≤ l.getD i 0 ∧ l.getD i 0 ≤ hi) ∧ (0 < i → l.getD (i - 1) 0 < l.getD i 0)
instance (l : List Int) (lo hi : Int) : Decidable (Asc l lo hi) := by unfold Asc; infer_instance
def nodesOk (ds : List Int) (c : Int) (l : List Int) : Bool := cfgOk ds c && decide (Asc l 0 ((ds.length : Int) - 1))
/-- The domains of nodes, each once, behind those that were met. -/
def domsOf (ds : List Int) : List Int → List Int → List Int
  | [], acc => acc
  | n :: l, acc => domsOf ds l (if acc.contains (rd ds n) then acc else acc ++ [rd ds n])
def spanOf (ds l : List Int) : Int := ((domsOf ds l []).length : Int)
def holdsB (ds : List Int) (c : Int) (l : List Int) : Bool := nodesOk ds c l && decide (c ≤ spanOf ds l)
theorem rd_nat (l : List Int) (i : Nat) : rd l (i : Int) = l.getD i 0 := by simp [rd]
theorem rd_drop (l : List Int) (i : Nat) (h : i < l.length) : l.drop i = rd l (i : Int) :: l.drop (i + 1) := by
  rw [List.drop_eq_getElem_cons h, rd_nat, List.getD_eq_getElem?_getD, List.getElem?_eq_getElem h]
  rfl
theorem cfgOk_len {ds : List Int} {c : Int} (h : cfgOk ds c = true) : 1 ≤ ds.length ∧ ds.length ≤ 8 ∧ 1 ≤ c ∧ c ≤ 4 ∧ ∀ d ∈ ds, 0 ≤ d ∧ d ≤ 7 := by
  simp only [cfgOk, Bool.and_eq_true, inB_true, List.all_eq_true] at h
  obtain ⟨⟨h1, h2⟩, h3⟩ := h
  exact ⟨by omega, by omega, h2.1, h2.2, h3⟩
theorem Asc_mem {l : List Int} {lo hi : Int} (h : Asc l lo hi) {x : Int} (hx : x ∈ l) : lo ≤ x ∧ x ≤ hi := by
  obtain ⟨i, hi', rfl⟩ := List.getElem_of_mem hx
  have := (h i hi').1
  rwa [List.getD_eq_getElem?_getD, List.getElem?_eq_getElem hi'] at this

theorem szIntS_ok (l : List Int) (hl : l.length ≤ 9223372036854775807) (n : Int) (h0 : 0 ≤ n) (hn : n ≤ 1048576) : ∃ r, laws_szIntS.f l n = some r ∧ r ≤ n ∧ (0 ≤ r → l.length ≤ 1048576) := by
  unfold laws_szIntS.f
  rw [wrap_id (by omega) (by omega)]
  split
  · exact ⟨-1, rfl, by omega, fun h => by omega⟩
  · exact ⟨n - l.length, rfl, by omega, fun _ => by omega⟩

theorem szConfig_ok (a0 : List Int) (a1 : Int) (ha0 : a0.length ≤ 9223372036854775807) (n : Int) (h0 : 0 ≤ n) (hn : n ≤ 1048576) : ∃ r, laws_szConfig.f a0 a1 n = some r ∧ r ≤ n ∧ (0 ≤ r → a0.length ≤ 1048576) := by
  unfold laws_szConfig.f
  obtain ⟨r0, e0, m0, z0⟩ := szIntS_ok a0 ha0 n (by omega) (by omega)
  rw [e0]
  simp only [Option.bind_some]
  by_cases g0 : r0 < 0
  · rw [if_pos g0]
    exact ⟨-1, rfl, by omega, fun h => by omega⟩
  · rw [if_neg g0]
    exact ⟨r0, rfl, by omega, fun _ => (z0 (by omega))⟩

theorem spec_l1In_is (x a b : Int) : spec_l1In.f x a b = some (inB x a b) := by
  unfold spec_l1In.f inB
  by_cases h : x ≥ a
  · rw [if_pos h]; simp [show a ≤ x from h]
  · rw [if_neg h]; simp [show ¬ a ≤ x from h]

theorem spec_ConfigOk_l (ds : List Int) (c : Int) (hl : ds.length ≤ 1048576) (d : Nat) : ∀ (k i : Nat), i + d = ds.length → d < k → spec_ConfigOk.l0 k (i : Int) ds c = some ((ds.drop i).all (fun d => inB d 0 7)) := by
  induction d with
  | zero =>
    intro k i h hk
    obtain ⟨k, rfl⟩ : ∃ m, k = m + 1 := ⟨k - 1, by omega⟩
    simp only [spec_ConfigOk.l0]
    rw [if_neg (by omega), List.drop_eq_nil_of_le (by omega)]
    rfl
  | succ d ih =>
    intro k i h hk
    obtain ⟨k, rfl⟩ : ∃ m, k = m + 1 := ⟨k - 1, by omega⟩
    simp only [spec_ConfigOk.l0]
    rw [if_pos (by omega), if_pos (by omega), spec_l1In_is, rd_drop ds i (by omega), List.all_cons]
    simp only [Option.bind_some]
    cases inB (rd ds i) 0 7 with
    | false => rfl
    | true =>
      simp only [if_true, Bool.true_and]
      rw [wrap_id (by omega) (by omega)]
      exact ih k (i + 1) (by omega) (by omega)

theorem spec_ConfigOk_is (ds : List Int) (c : Int) (hl : ds.length ≤ 1048576) (k : Nat) (hk : 1048577 < k) : spec_ConfigOk.f k ds c = some (cfgOk ds c) := by
  obtain ⟨k, rfl⟩ : ∃ m, k = m + 1 := ⟨k - 1, by omega⟩
  have hl0 := spec_ConfigOk_l ds c hl ds.length k 0 (by omega) (by omega)
  rw [List.drop_zero] at hl0
  unfold spec_ConfigOk.f cfgOk
  rw [spec_l1In_is, spec_l1In_is]
  simp only [Option.bind_some, spec_ConfigOk.j0]
  have hl0' : spec_ConfigOk.l0 k 0 ds c = some (ds.all fun d => inB d 0 7) := hl0
  rw [hl0']
  cases inB (ds.length : Int) 1 8 <;> cases inB c 1 4 <;> simp

theorem spec_l4Asc_l (l : List Int) (lo hi : Int) (hl : l.length ≤ 1048576) (d : Nat) : ∀ (k i : Nat), i + d = l.length → d < k → (∀ j, j < i → (lo ≤ l.getD j 0 ∧ l.getD j 0 ≤ hi) ∧ (0 < j → l.getD (j - 1) 0 < l.getD j 0)) → spec_l4Asc.l0 k l lo hi (i : Int) = some (decide (Asc l lo hi)) := by
  induction d with
  | zero =>
    intro k i h hk hj
    obtain ⟨k, rfl⟩ : ∃ m, k = m + 1 := ⟨k - 1, by omega⟩
    simp only [spec_l4Asc.l0]
    rw [if_neg (by omega), decide_eq_true (show Asc l lo hi from fun j hjl => hj j (by omega))]
  | succ d ih =>
    intro k i h hk hj
    obtain ⟨k, rfl⟩ : ∃ m, k = m + 1 := ⟨k - 1, by omega⟩
    simp only [spec_l4Asc.l0]
    rw [if_pos (by omega), if_pos (by omega), spec_l1In_is, rd_nat]
    simp only [Option.bind_some]
    by_cases hb : inB (l.getD i 0) lo hi = true
    · rw [if_pos hb]
      rw [inB_true] at hb
      by_cases h0 : (i : Int) > 0
      · rw [if_pos h0, wrap_id (by omega) (by omega), if_pos (by omega), if_pos (by omega), show ((i : Int) - 1) = ((i - 1 : Nat) : Int) by omega, rd_nat]
        by_cases hg : l.getD (i - 1) 0 ≥ l.getD i 0
        · rw [if_pos hg, decide_eq_false (fun ha : Asc l lo hi => by have := (ha i (by omega)).2 (by omega); omega)]
        · rw [if_neg hg, wrap_id (by omega) (by omega)]
          refine ih k (i + 1) (by omega) (by omega) (fun j hji => ?_)
          by_cases e : j = i
          · subst e; exact ⟨hb, fun _ => by omega⟩
          · exact hj j (by omega)
      · rw [if_neg h0, wrap_id (by omega) (by omega)]
        refine ih k (i + 1) (by omega) (by omega) (fun j hji => ?_)
        by_cases e : j = i
        · subst e; exact ⟨hb, fun _ => by omega⟩
        · exact hj j (by omega)
    · rw [if_neg hb, decide_eq_false (fun ha : Asc l lo hi => hb (inB_true.2 (ha i (by omega)).1))]

theorem spec_l4Asc_is (l : List Int) (lo hi : Int) (hl : l.length ≤ 1048576) (k : Nat) (hk : 1048576 < k) : spec_l4Asc.f k l lo hi = some (decide (Asc l lo hi)) := by
  unfold spec_l4Asc.f
  exact spec_l4Asc_l l lo hi hl l.length k 0 (by omega) (by omega) (fun j h => by omega)

theorem spec_NodesOk_is (ds : List Int) (c : Int) (l : List Int) (hd : ds.length ≤ 1048576) (hl : l.length ≤ 1048576) (k : Nat) (hk : 1048577 < k) : spec_NodesOk.f k ds c l = some (nodesOk ds c l) := by
  unfold spec_NodesOk.f nodesOk
  rw [spec_ConfigOk_is ds c hd k hk, wrap_id (by omega) (by omega), spec_l4Asc_is l _ _ hl k (by omega)]
  cases cfgOk ds c <;> simp

/-- What the marks of domains tell: just those that were met. -/
theorem spec_l4Span_l (ds : List Int) (c : Int) (l : List Int) (hd8 : ds.length ≤ 8) (hdom : ∀ d ∈ ds, 0 ≤ d ∧ d ≤ 7) (hl : l.length ≤ 1048576) (hmem : ∀ n ∈ l, 0 ≤ n ∧ n < (ds.length : Int)) (d : Nat) :
    ∀ (k i : Nat) (seen : List Bool) (acc : List Int), i + d = l.length → d < k → seen.length = 8 → (acc.length : Int) ≤ i → (∀ x : Int, 0 ≤ x → x ≤ 7 → (rdOf false seen x = acc.contains x)) →
    spec_l4Span.l0 k l seen (acc.length : Int) (i : Int) ds c = some ((domsOf ds (l.drop i) acc).length : Int) := by
  induction d with
  | zero =>
    intro k i seen acc h hk hs ha hx
    obtain ⟨k, rfl⟩ : ∃ m, k = m + 1 := ⟨k - 1, by omega⟩
    simp only [spec_l4Span.l0]
    rw [if_neg (by omega), List.drop_eq_nil_of_le (by omega)]
    rfl
  | succ d ih =>
    intro k i seen acc h hk hs ha hx
    obtain ⟨k, rfl⟩ : ∃ m, k = m + 1 := ⟨k - 1, by omega⟩
    have hi : i < l.length := by omega
    have hin : rd l (i : Int) ∈ l := by
      rw [rd_nat, List.getD_eq_getElem?_getD, List.getElem?_eq_getElem hi]
      exact List.getElem_mem _
    have hn := hmem _ hin
    have hdn : rd ds (rd l (i : Int)) ∈ ds := by
      have hlt : (rd l (i : Int)).toNat < ds.length := by omega
      unfold rd
      unfold rd at hlt
      rw [List.getD_eq_getElem?_getD, List.getElem?_eq_getElem hlt]
      exact List.getElem_mem _
    have hv := hdom _ hdn
    simp only [spec_l4Span.l0]
    rw [if_pos (by omega), if_pos (by omega), if_pos hn.1, if_pos hn.2, if_pos hv.1, if_pos (by omega), hx _ hv.1 hv.2, rd_drop l i hi]
    simp only [domsOf]
    rw [wrap_id (show -9223372036854775808 ≤ (i : Int) + 1 by omega) (by omega)]
    by_cases hc : acc.contains (rd ds (rd l (i : Int))) = true
    · rw [if_pos hc, if_pos hc]
      exact ih k (i + 1) seen acc (by omega) (by omega) hs (by omega) hx
    · rw [if_neg hc, if_neg hc, wrap_id (by omega) (by omega)]
      have := ih k (i + 1) (seen.set (rd ds (rd l (i : Int))).toNat true) (acc ++ [rd ds (rd l (i : Int))]) (by omega) (by omega) (by simp [hs]) (by simp; omega) (by
        intro x h0 h7
        by_cases e : x = rd ds (rd l (i : Int))
        · subst e
          simp [rdOf, List.getD_eq_getElem?_getD, List.getElem?_set, hs, show (rd ds (rd l (i : Int))).toNat < 8 by omega]
        · have he : (rd ds (rd l (i : Int))).toNat ≠ x.toNat := by omega
          have := hx x h0 h7
          simp only [rdOf] at this ⊢
          rw [List.getD_eq_getElem?_getD, List.getElem?_set, if_neg he, ← List.getD_eq_getElem?_getD, this]
          simp [e])
      simpa using this

theorem spec_l4Span_is (ds : List Int) (c : Int) (l : List Int) (hok : nodesOk ds c l = true) (hl : l.length ≤ 1048576) (k : Nat) (hk : 1048577 < k) : spec_l4Span.f k ds c l = some (spanOf ds l) := by
  simp only [nodesOk, Bool.and_eq_true, decide_eq_true_eq] at hok
  obtain ⟨h1, h2, _, _, h5⟩ := cfgOk_len hok.1
  unfold spec_l4Span.f
  rw [if_pos (by decide)]
  have := spec_l4Span_l ds c l h2 h5 hl (fun n hn => by have := Asc_mem hok.2 hn; omega) l.length k 0 (List.replicate 8 false) [] (by omega) (by omega) (by simp) (by simp) (by
    intro x h0 h7
    unfold rdOf
    rw [List.getD_eq_getElem?_getD, List.getElem?_replicate, if_pos (by omega)]
    rfl)
  simpa [spanOf] using this

theorem spec_Holds_is (ds : List Int) (c : Int) (l : List Int) (hd : ds.length ≤ 1048576) (hl : l.length ≤ 1048576) (k : Nat) (hk : 1048577 < k) : spec_Holds.f k ds c l = some (holdsB ds c l) := by
  unfold spec_Holds.f holdsB
  rw [spec_NodesOk_is ds c l hd hl k hk]
  simp only [Option.bind_some]
  by_cases h : nodesOk ds c l = true
  · rw [if_pos h, spec_l4Span_is ds c l h hl k hk, h]
    simp
  · rw [if_neg h]
    simp [h]

theorem spec_LostOk_is (ds : List Int) (c : Int) (l : List Int) (hd : ds.length ≤ 1048576) (hl : l.length ≤ 1048576) (k : Nat) (hk : 1048577 < k) : spec_LostOk.f k ds c l = some (nodesOk ds c l && !holdsB ds c l) := by
  unfold spec_LostOk.f
  rw [spec_NodesOk_is ds c l hd hl k hk, spec_Holds_is ds c l hd hl k hk]
  cases nodesOk ds c l <;> simp

theorem toIntS_l (l : List Int) (hz : l.length ≤ 1048576) (d : Nat) : ∀ (k : Nat) (ys : List Int) (i : Int), 0 ≤ i → (l.length : Int) - i ≤ d → i ≤ l.length → d + 0 < k → ys.length = l.length → (∀ j : Nat, (j : Int) < i → ys[j]? = (l)[j]?) →
    laws_toIntS.l0 k l ys i = some l := by
  have hlen : l.length ≤ 1048576 := hz
  induction d with
  | zero =>
    intro k ys i h0 h1 h2 hk hy hj
    obtain ⟨k, rfl⟩ : ∃ m, k = m + 1 := ⟨k - 1, by omega⟩
    simp only [laws_toIntS.l0]
    rw [if_neg (by omega)]
    congr 1
    apply List.ext_getElem?
    intro j
    by_cases h : j < l.length
    · exact hj j (by omega)
    · rw [List.getElem?_eq_none (by omega), List.getElem?_eq_none (by first | omega | (simp; omega))]
  | succ d ih =>
    intro k ys i h0 h1 h2 hk hy hj
    obtain ⟨k, rfl⟩ : ∃ m, k = m + 1 := ⟨k - 1, by omega⟩
    simp only [laws_toIntS.l0]
    by_cases h : i < (l.length : Int)
    · rw [if_pos h, if_pos h0, if_pos (by omega), wrap_id (by omega) (by omega)]
      refine ih k _ (i + 1) (by omega) (by omega) (by omega) (by omega) (by simp [hy]) ?_
      intro j hji
      rw [List.getElem?_set]
      by_cases e : i.toNat = j
      · subst e
        rw [if_pos rfl, if_pos (by omega)]
        simp [rd, List.getD_eq_getElem?_getD, List.getElem?_eq_getElem (show i.toNat < l.length by omega)]
      · rw [if_neg e]
        exact hj j (by omega)
    · rw [if_neg h]
      congr 1
      apply List.ext_getElem?
      intro j
      by_cases h : j < l.length
      · exact hj j (by omega)
      · rw [List.getElem?_eq_none (by omega), List.getElem?_eq_none (by first | omega | (simp; omega))]

theorem toIntS_is (l : List Int) (hz : l.length ≤ 1048576) (k : Nat) (hk : 1048576 < k) : laws_toIntS.f k l = some l := by
  have hlen : l.length ≤ 1048576 := hz
  unfold laws_toIntS.f
  rw [if_pos (by omega), if_pos (by omega), toIntS_l l hz l.length k _ 0 (by omega) (by omega) (by omega) (by omega) (by simp) (fun j h => by omega)]

theorem toConfig_is (a0 : List Int) (a1 : Int) (ha0 : a0.length ≤ 1048576) (k : Nat) (hk : 1048576 < k) : laws_toConfig.f k a0 a1 = some (a0, a1) := by
  unfold laws_toConfig.f
  rw [toIntS_is a0 ha0 k (by omega)]
  simp only [Option.bind_some]

theorem impl_within_is (x a b : Int) : impl_within.f x a b = some (inB x a b) := by
  unfold impl_within.f inB
  by_cases h : x ≥ a
  · rw [if_pos h]; simp [show a ≤ x from h]
  · rw [if_neg h]; simp [show ¬ a ≤ x from h]

theorem impl_ConfigOk_l (ds : List Int) (c : Int) (hl : ds.length ≤ 1048576) (d : Nat) : ∀ (k i : Nat), i + d = ds.length → d < k → impl_ConfigOk.l0 k ds (ds.length : Int) (i : Int) ds c = some ((ds.drop i).all (fun d => inB d 0 7) && inB (ds.length : Int) 1 8 && inB c 1 4) := by
  induction d with
  | zero =>
    intro k i h hk
    obtain ⟨k, rfl⟩ : ∃ m, k = m + 1 := ⟨k - 1, by omega⟩
    simp only [impl_ConfigOk.l0]
    rw [if_neg (by omega), List.drop_eq_nil_of_le (by omega), impl_within_is, impl_within_is]
    cases inB (ds.length : Int) 1 8 <;> simp
  | succ d ih =>
    intro k i h hk
    obtain ⟨k, rfl⟩ : ∃ m, k = m + 1 := ⟨k - 1, by omega⟩
    simp only [impl_ConfigOk.l0]
    rw [if_pos (by omega), if_pos (by omega), if_pos (by omega), impl_within_is, rd_drop ds i (by omega), List.all_cons]
    simp only [Option.bind_some]
    cases inB (rd ds i) 0 7 with
    | false => rfl
    | true =>
      simp only [if_true, Bool.true_and]
      rw [wrap_id (by omega) (by omega)]
      exact ih k (i + 1) (by omega) (by omega)

theorem impl_ConfigOk_is (ds : List Int) (c : Int) (hl : ds.length ≤ 1048576) (k : Nat) (hk : 1048577 < k) : impl_ConfigOk.f k ds c = some (cfgOk ds c) := by
  unfold impl_ConfigOk.f
  have h := impl_ConfigOk_l ds c hl ds.length k 0 (by omega) (by omega)
  rw [List.drop_zero] at h
  rw [show (0 : Int) = ((0 : Nat) : Int) from rfl, h]
  unfold cfgOk
  cases inB (ds.length : Int) 1 8 <;> cases inB c 1 4 <;> simp

theorem impl_ascends_l (l : List Int) (hi : Int) (hl : l.length ≤ 1048576) (d : Nat) : ∀ (k i : Nat), i + d = l.length → d < k → (∀ j, j < i → (0 ≤ l.getD j 0 ∧ l.getD j 0 ≤ hi) ∧ (0 < j → l.getD (j - 1) 0 < l.getD j 0)) → impl_ascends.l0 k l hi l (l.length : Int) (i : Int) = some (decide (Asc l 0 hi)) := by
  induction d with
  | zero =>
    intro k i h hk hj
    obtain ⟨k, rfl⟩ : ∃ m, k = m + 1 := ⟨k - 1, by omega⟩
    simp only [impl_ascends.l0]
    rw [if_neg (by omega), decide_eq_true (show Asc l 0 hi from fun j hjl => hj j (by omega))]
  | succ d ih =>
    intro k i h hk hj
    obtain ⟨k, rfl⟩ : ∃ m, k = m + 1 := ⟨k - 1, by omega⟩
    simp only [impl_ascends.l0]
    rw [if_pos (by omega), if_pos (by omega), if_pos (by omega), impl_within_is, rd_nat]
    simp only [Option.bind_some]
    by_cases hb : inB (l.getD i 0) 0 hi = true
    · rw [if_pos hb]
      rw [inB_true] at hb
      by_cases h0 : (i : Int) > 0
      · rw [if_pos h0, wrap_id (by omega) (by omega), if_pos (by omega), if_pos (by omega), show ((i : Int) - 1) = ((i - 1 : Nat) : Int) by omega, rd_nat]
        by_cases hg : l.getD (i - 1) 0 ≥ l.getD i 0
        · rw [if_pos hg, decide_eq_false (fun ha : Asc l 0 hi => by have := (ha i (by omega)).2 (by omega); omega)]
        · rw [if_neg hg, wrap_id (by omega) (by omega)]
          refine ih k (i + 1) (by omega) (by omega) (fun j hji => ?_)
          by_cases e : j = i
          · subst e; exact ⟨hb, fun _ => by omega⟩
          · exact hj j (by omega)
      · rw [if_neg h0, wrap_id (by omega) (by omega)]
        refine ih k (i + 1) (by omega) (by omega) (fun j hji => ?_)
        by_cases e : j = i
        · subst e; exact ⟨hb, fun _ => by omega⟩
        · exact hj j (by omega)
    · rw [if_neg hb, decide_eq_false (fun ha : Asc l 0 hi => hb (inB_true.2 (ha i (by omega)).1))]

theorem impl_ascends_is (l : List Int) (hi : Int) (hl : l.length ≤ 1048576) (k : Nat) (hk : 1048576 < k) : impl_ascends.f k l hi = some (decide (Asc l 0 hi)) := by
  unfold impl_ascends.f
  exact impl_ascends_l l hi hl l.length k 0 (by omega) (by omega) (fun j h => by omega)

theorem impl_NodesOk_is (ds : List Int) (c : Int) (l : List Int) (hd : ds.length ≤ 1048576) (hl : l.length ≤ 1048576) (k : Nat) (hk : 1048577 < k) : impl_NodesOk.f k ds c l = some (nodesOk ds c l) := by
  unfold impl_NodesOk.f nodesOk
  rw [impl_ConfigOk_is ds c hd k hk, wrap_id (by omega) (by omega), impl_ascends_is l _ hl k (by omega)]
  cases cfgOk ds c <;> simp

theorem slices_Index_l (l : List Int) (x : Int) (hl : l.length ≤ 1048576) (d : Nat) : ∀ (k i : Nat), i + d = l.length → d < k → ∃ r : Int, slices_Index_int_int.l0 k l x (l.length : Int) (i : Int) = some r ∧ (decide (r ≥ 0) = (l.drop i).contains x) := by
  induction d with
  | zero =>
    intro k i h hk
    obtain ⟨k, rfl⟩ : ∃ m, k = m + 1 := ⟨k - 1, by omega⟩
    simp only [slices_Index_int_int.l0]
    rw [if_neg (by omega), List.drop_eq_nil_of_le (by omega)]
    exact ⟨-1, rfl, rfl⟩
  | succ d ih =>
    intro k i h hk
    obtain ⟨k, rfl⟩ : ∃ m, k = m + 1 := ⟨k - 1, by omega⟩
    simp only [slices_Index_int_int.l0]
    rw [if_pos (by omega), if_pos (by omega), if_pos (by omega), rd_drop l i (by omega)]
    by_cases hx : x = rd l (i : Int)
    · rw [if_pos hx]
      exact ⟨i, rfl, by simp [hx]⟩
    · rw [if_neg hx, wrap_id (by omega) (by omega)]
      obtain ⟨r, hr, hd⟩ := ih k (i + 1) (by omega) (by omega)
      exact ⟨r, hr, by rw [hd]; simp [hx]⟩

theorem slices_Contains_is (l : List Int) (x : Int) (hl : l.length ≤ 1048576) (k : Nat) (hk : 1048576 < k) : slices_Contains_int_int.f k l x = some (l.contains x) := by
  unfold slices_Contains_int_int.f slices_Index_int_int.f
  obtain ⟨r, hr, hd⟩ := slices_Index_l l x hl l.length k 0 (by omega) (by omega)
  rw [show (0 : Int) = ((0 : Nat) : Int) from rfl, hr]
  simp only [Option.bind_some]
  rw [show ((0 : Nat) : Int) = 0 from rfl, hd, List.drop_zero]

theorem impl_SpanOf_l (ds : List Int) (c : Int) (l : List Int) (hl : l.length ≤ 1048576) (hmem : ∀ n ∈ l, 0 ≤ n ∧ n < (ds.length : Int)) (d : Nat) :
    ∀ (k i : Nat) (acc : List Int), i + d = l.length → d + 1048576 < k → acc.length ≤ i → impl_SpanOf.l0 k acc l (l.length : Int) (i : Int) ds c = some ((domsOf ds (l.drop i) acc).length : Int) := by
  induction d with
  | zero =>
    intro k i acc h hk ha
    obtain ⟨k, rfl⟩ : ∃ m, k = m + 1 := ⟨k - 1, by omega⟩
    simp only [impl_SpanOf.l0]
    rw [if_neg (by omega), List.drop_eq_nil_of_le (by omega)]
    rfl
  | succ d ih =>
    intro k i acc h hk ha
    obtain ⟨k, rfl⟩ : ∃ m, k = m + 1 := ⟨k - 1, by omega⟩
    have hi : i < l.length := by omega
    have hin : rd l (i : Int) ∈ l := by
      rw [rd_nat, List.getD_eq_getElem?_getD, List.getElem?_eq_getElem hi]
      exact List.getElem_mem _
    have hn := hmem _ hin
    simp only [impl_SpanOf.l0]
    rw [if_pos (by omega), if_pos (by omega), if_pos (by omega), if_pos hn.1, if_pos hn.2, slices_Contains_is acc _ (by omega) k (by omega), rd_drop l i hi]
    simp only [Option.bind_some, domsOf]
    rw [wrap_id (show -9223372036854775808 ≤ (i : Int) + 1 by omega) (by omega)]
    by_cases hc : acc.contains (rd ds (rd l (i : Int))) = true
    · rw [if_pos hc, if_pos hc]
      exact ih k (i + 1) acc (by omega) (by omega) (by omega)
    · rw [if_neg hc, if_neg hc, if_pos (by omega)]
      exact ih k (i + 1) _ (by omega) (by omega) (by simp; omega)

theorem impl_SpanOf_is (ds : List Int) (c : Int) (l : List Int) (hd : ds.length ≤ 1048576) (hl : l.length ≤ 1048576) (k : Nat) (hk : 2097153 < k) : impl_SpanOf.f k ds c l = some (if nodesOk ds c l = true then spanOf ds l else -1) := by
  unfold impl_SpanOf.f
  rw [impl_NodesOk_is ds c l hd hl k (by omega)]
  simp only [Option.bind_some]
  by_cases h : nodesOk ds c l = true
  · rw [if_pos h, if_pos h]
    have h' := h
    simp only [nodesOk, Bool.and_eq_true, decide_eq_true_eq] at h'
    have := impl_SpanOf_l ds c l hl (fun n hn => by have := Asc_mem h'.2 hn; omega) l.length k 0 [] (by omega) (by omega) (by simp)
    simpa [spanOf] using this
  · rw [if_neg h, if_neg h]

theorem impl_Holds_is (ds : List Int) (c : Int) (l : List Int) (hd : ds.length ≤ 1048576) (hl : l.length ≤ 1048576) (k : Nat) (hk : 2097153 < k) : impl_Holds.f k ds c l = some (holdsB ds c l) := by
  unfold impl_Holds.f holdsB
  rw [impl_NodesOk_is ds c l hd hl k (by omega)]
  simp only [Option.bind_some]
  by_cases h : nodesOk ds c l = true
  · rw [if_pos h, impl_SpanOf_is ds c l hd hl k hk, if_pos h, h]
    simp
  · rw [if_neg h]
    simp [h]

theorem impl_LostOk_is (ds : List Int) (c : Int) (l : List Int) (hd : ds.length ≤ 1048576) (hl : l.length ≤ 1048576) (k : Nat) (hk : 2097153 < k) : impl_LostOk.f k ds c l = some (nodesOk ds c l && !holdsB ds c l) := by
  unfold impl_LostOk.f
  rw [impl_NodesOk_is ds c l hd hl k (by omega), impl_Holds_is ds c l hd hl k hk]
  cases nodesOk ds c l <;> simp

theorem eqIntS_l (l : List Int) (hz : l.length ≤ 1048576) (d : Nat) : ∀ (k : Nat) (i : Int), 0 ≤ i → (l.length : Int) - i ≤ d → i ≤ l.length → d + 0 < k → laws_eqIntS.l0 k l l i = some true := by
  have hlen : l.length ≤ 1048576 := hz
  induction d with
  | zero =>
    intro k i h0 h1 h2 hk
    obtain ⟨k, rfl⟩ : ∃ m, k = m + 1 := ⟨k - 1, by omega⟩
    simp only [laws_eqIntS.l0]
    rw [if_neg (by omega)]
  | succ d ih =>
    intro k i h0 h1 h2 hk
    obtain ⟨k, rfl⟩ : ∃ m, k = m + 1 := ⟨k - 1, by omega⟩
    simp only [laws_eqIntS.l0]
    by_cases h : i < (l.length : Int)
    · rw [if_pos h, if_pos h0, if_pos h]
      (first | rw [if_pos rfl] | rw [if_pos trivial])
      rw [wrap_id (by omega) (by omega)]
      exact ih k (i + 1) (by omega) (by omega) (by omega) (by omega)
    · rw [if_neg h]

theorem eqIntS_self (l : List Int) (hz : l.length ≤ 1048576) (k : Nat) (hk : 1048576 < k) : laws_eqIntS.f k l l = some true := by
  have hlen : l.length ≤ 1048576 := hz
  unfold laws_eqIntS.f
  rw [if_pos rfl, eqIntS_l l hz l.length k 0 (by omega) (by omega) (by omega) (by omega)]

theorem eqConfig_self (a0 : List Int) (a1 : Int) (ha0 : a0.length ≤ 1048576) (k : Nat) (hk : 1048576 < k) : laws_eqConfig.f k a0 a1 a0 a1 = some true := by
  unfold laws_eqConfig.f
  simp [eqIntS_self a0 ha0 k (by omega)]

theorem FnExactLostOk : Goal := by
  intro ds c l hds _ hl
  refine ⟨9000000, ?_⟩
  unfold laws_FnExactLostOk.f
  by_cases hbig : (l.length : Int) > 1048576
  · rw [if_pos hbig]
  rw [if_neg hbig]
  have hl' : l.length ≤ 1048576 := by omega
  obtain ⟨r, hr, _, hz⟩ := szConfig_ok ds c hds.1 1048576 (by omega) (by omega)
  rw [hr]
  simp only [Option.bind_some]
  by_cases hneg : r < 0
  · rw [if_pos hneg]
  · have z := hz (by omega)
    rw [if_neg hneg, toConfig_is ds c z _ (by omega), toIntS_is l hl' _ (by omega)]
    simp only [Option.bind_some]
    rw [spec_LostOk_is ds c l z hl' _ (by omega), impl_LostOk_is ds c l z hl' _ (by omega)]
    simp only [Option.bind_some]
    rw [if_neg (by simp), eqConfig_self ds c z _ (by omega), eqIntS_self l hl' _ (by omega)]
    rfl

end Go.Proofs.Ytepefeclpdnfmaa.Pure
