/- The program's RegOk answers for each config and register what the reference's answers, and leaves both as they were. No conditions. -/
import Derived.Test.YtdkdhciogedoiabGFnExactRegOk
namespace Go.Proofs.Ytdkdhciogedoiab.Pure
open Go.RowKit Go.Proofs.Ytdkdhciogedoiab.PFnExactRegOk Go.Proofs.YtdkdhciogedoiabW.PrintWords Go.Proofs.YtdkdhciogedoiabW.PrintLast Go.Proofs.YtdkdhciogedoiabW.Opn Go.Proofs.Ytdkdhciogedoiab.GFnExactRegOk
set_option linter.unusedVariables false
set_option linter.unusedSimpArgs false

theorem wrap_id {x : Int} (h0 : -9223372036854775808 ≤ x) (h1 : x ≤ 9223372036854775807) : wrap64 x = x := by
  unfold wrap64
  omega

/-- x lies between a and b. -/
def inB (x a b : Int) : Bool := decide (a ≤ x) && decide (x ≤ b)
theorem inB_true {x a b : Int} : inB x a b = true ↔ a ≤ x ∧ x ≤ b := by simp [inB]
/-- A config that is right: its domains, its copies. -/
def cfgOk (ds : List Int) (c : Int) : Bool := inB (ds.length : Int) 1 8 && inB c 1 4 && ds.all (fun d => inB d 0 7)
/-- Ascending numbers from lo to hi. -/
def Asc (l : List Int) (lo hi : Int) : Prop := ∀ i : Nat, i < l.length → (lo ≤ l.getD i 0 ∧ l.getD i 0 ≤ hi) ∧ (0 < i → l.getD (i - 1) 0 < l.getD i 0)
instance (l : List Int) (lo hi : Int) : Decidable (Asc l lo hi) := by unfold Asc; infer_instance
def nodesOk (ds : List Int) (c : Int) (l : List Int) : Bool := cfgOk ds c && decide (Asc l 0 ((ds.length : Int) - 1))
/-- The domains of nodes, each once, behind those that were met. -/
def domsOf (ds : List Int) : List Int → List Int → List Int
  | [], acc => acc
  | n :: l, acc => domsOf ds l (if acc.contains (rd ds n) then acc else acc ++ [rd ds n])
def spanOf (ds l : List Int) : Int := ((domsOf ds l []).length : Int)
def holdsB (ds : List Int) (c : Int) (l : List Int) : Bool := nodesOk ds c l && decide (c ≤ spanOf ds l)
theorem rd_nat (l : List Int) (i : Nat) : rd l (i : Int) = l.getD i 0 := by simp [rd]
theorem rd_drop (l : List Int) (i : Nat) (h : i < l.length) : l.drop i = rd l (i : Int) :: l.drop (i + 1) := by
  rw [List.drop_eq_getElem_cons h, rd_nat, List.getD_eq_getElem?_getD, List.getElem?_eq_getElem h]
  rfl
theorem cfgOk_len {ds : List Int} {c : Int} (h : cfgOk ds c = true) : 1 ≤ ds.length ∧ ds.length ≤ 8 ∧ 1 ≤ c ∧ c ≤ 4 ∧ ∀ d ∈ ds, 0 ≤ d ∧ d ≤ 7 := by
  simp only [cfgOk, Bool.and_eq_true, inB_true, List.all_eq_true] at h
  obtain ⟨⟨h1, h2⟩, h3⟩ := h
  exact ⟨by omega, by omega, h2.1, h2.2, h3⟩
theorem Asc_mem {l : List Int} {lo hi : Int} (h : Asc l lo hi) {x : Int} (hx : x ∈ l) : lo ≤ x ∧ x ≤ hi := by
  obtain ⟨i, hi', rfl⟩ := List.getElem_of_mem hx
  have := (h i hi').1
  rwa [List.getD_eq_getElem?_getD, List.getElem?_eq_getElem hi'] at this
/-- A whole number of 64 bits. -/
def InR (x : Int) : Prop := -9223372036854775808 ≤ x ∧ x ≤ 9223372036854775807
theorem InR_of {x : Int} (h : (Lit.int .i64 x).wf = true) : InR x := by
  simp [Lit.wf, IntKind.min, IntKind.max, IntKind.signed, IntKind.bits] at h
  exact ⟨by omega, by omega⟩
/-- A place: its epoch, its offset. -/
def placeOk (x : Int) : Bool := decide (0 < x) && (inB (x / 4294967296) 1 30 && inB (x % 4294967296) 1 60)
def epochOf (x : Int) : Int := if placeOk x = true then x / 4294967296 else 0
def offOf (x : Int) : Int := if placeOk x = true then x % 4294967296 else 0
def placeMake (e o : Int) : Int × Bool := if inB e 1 30 = true ∧ inB o 1 60 = true then (4294967296 * e + o, true) else (0, false)
theorem tdiv_pos {x : Int} (h : 0 ≤ x) : Int.tdiv x 4294967296 = x / 4294967296 := Int.tdiv_eq_ediv_of_nonneg h
theorem tmod_pos {x : Int} (h : 0 ≤ x) : Int.tmod x 4294967296 = x % 4294967296 := Int.tmod_eq_emod_of_nonneg h
theorem tdiv_neg' {x : Int} (h : x ≤ 0) : Int.tdiv x 4294967296 = -((-x) / 4294967296) := by
  have h1 : Int.tdiv (-x) 4294967296 = (-x) / 4294967296 := Int.tdiv_eq_ediv_of_nonneg (by omega)
  have h2 := Int.neg_tdiv (-x) 4294967296
  rw [Int.neg_neg] at h2
  rw [h2, h1]
theorem epochOf_pos {x : Int} (h : placeOk x = true) : epochOf x = x / 4294967296 ∧ 1 ≤ epochOf x ∧ epochOf x ≤ 30 := by
  have h' := h
  simp only [placeOk, Bool.and_eq_true, inB_true, decide_eq_true_eq] at h'
  unfold epochOf
  rw [if_pos h]
  omega

theorem szIntS_ok (l : List Int) (hl : l.length ≤ 9223372036854775807) (n : Int) (h0 : 0 ≤ n) (hn : n ≤ 1048576) : ∃ r, laws_szIntS.f l n = some r ∧ r ≤ n ∧ (0 ≤ r → l.length ≤ 1048576) := by
  unfold laws_szIntS.f
  rw [wrap_id (by omega) (by omega)]
  split
  · exact ⟨-1, rfl, by omega, fun h => by omega⟩
  · exact ⟨n - l.length, rfl, by omega, fun _ => by omega⟩

theorem szConfig_ok (a0 : List Int) (a1 : Int) (ha0 : a0.length ≤ 9223372036854775807) (n : Int) (h0 : 0 ≤ n) (hn : n ≤ 1048576) : ∃ r, laws_szConfig.f a0 a1 n = some r ∧ r ≤ n ∧ (0 ≤ r → a0.length ≤ 1048576) := by
  unfold laws_szConfig.f
  obtain ⟨r0, e0, m0, z0⟩ := szIntS_ok a0 ha0 n (by omega) (by omega)
  rw [e0]
  simp only [Option.bind_some]
  by_cases g0 : r0 < 0
  · rw [if_pos g0]
    exact ⟨-1, rfl, by omega, fun h => by omega⟩
  · rw [if_neg g0]
    exact ⟨r0, rfl, by omega, fun _ => (z0 (by omega))⟩

theorem szEra_ok (a0 : List Int) (a1 : Bool) (a2 : Int) (ha0 : a0.length ≤ 9223372036854775807) (n : Int) (h0 : 0 ≤ n) (hn : n ≤ 1048576) : ∃ r, laws_szEra.f a0 a1 a2 n = some r ∧ r ≤ n ∧ (0 ≤ r → a0.length ≤ 1048576) := by
  unfold laws_szEra.f
  obtain ⟨r0, e0, m0, z0⟩ := szIntS_ok a0 ha0 n (by omega) (by omega)
  rw [e0]
  simp only [Option.bind_some]
  by_cases g0 : r0 < 0
  · rw [if_pos g0]
    exact ⟨-1, rfl, by omega, fun h => by omega⟩
  · rw [if_neg g0]
    exact ⟨r0, rfl, by omega, fun _ => (z0 (by omega))⟩

theorem szEraS_l (l : List S145) (hl : (l.length ≤ 9223372036854775807 ∧ ∀ e0 ∈ l, (e0.f0.length ≤ 9223372036854775807))) (d : Nat) : ∀ (k : Nat) (n i : Int), 0 ≤ n → n ≤ 1048576 → 0 ≤ i → (l.length : Int) - i ≤ d → i ≤ l.length → d + 1048576 < k → (∀ j : Nat, (j : Int) < i → ∀ x, l[j]? = some x → (x.f0.length ≤ 1048576)) →
    ∃ r, laws_szEraS.l0 k l n i = some r ∧ r ≤ n ∧ (0 ≤ r → ∀ x ∈ l, (x.f0.length ≤ 1048576)) := by
  induction d with
  | zero =>
    intro k n i hn0 hn h0 h1 h2 hk hj
    obtain ⟨k, rfl⟩ : ∃ m, k = m + 1 := ⟨k - 1, by omega⟩
    refine ⟨n, by simp only [laws_szEraS.l0]; rw [if_neg (by omega)], by omega, fun _ x hx => ?_⟩
    obtain ⟨j, hjl, rfl⟩ := List.getElem_of_mem hx
    exact hj j (by omega) _ (List.getElem?_eq_getElem hjl)
  | succ d ih =>
    intro k n i hn0 hn h0 h1 h2 hk hj
    obtain ⟨k, rfl⟩ : ∃ m, k = m + 1 := ⟨k - 1, by omega⟩
    simp only [laws_szEraS.l0]
    by_cases h : i < (l.length : Int)
    · rw [if_pos h, if_pos h0]
      have hg : (rd_T145 l i) = l[i.toNat]'(by omega) := by simp [rd_T145, List.getD_eq_getElem?_getD, List.getElem?_eq_getElem (show i.toNat < l.length by omega)]
      have he := hl.2 (l[i.toNat]'(by omega)) (List.getElem_mem _)
      rw [← hg] at he
      obtain ⟨r, hr, hrn, hz⟩ := szEra_ok (rd_T145 l i).f0 (rd_T145 l i).f1 (rd_T145 l i).f2 he n hn0 hn
      rw [hr]
      simp only [Option.bind_some]
      by_cases hneg : r < 0
      · rw [if_pos hneg]
        exact ⟨-1, rfl, by omega, fun h => by omega⟩
      · rw [if_neg hneg, wrap_id (by have := hl.1; omega) (by have := hl.1; omega)]
        obtain ⟨r', hr', hrn', hz'⟩ := ih k r (i + 1) (by omega) (by omega) (by omega) (by omega) (by omega) (by omega) (by
          intro j hji x hx
          by_cases e : (j : Int) < i
          · exact hj j e x hx
          · have ej : j = i.toNat := by omega
            subst ej
            rw [List.getElem?_eq_getElem (show i.toNat < l.length by omega)] at hx
            cases hx
            rw [← hg]
            exact hz (by omega))
        exact ⟨r', hr', by omega, hz'⟩
    · rw [if_neg h]
      refine ⟨n, rfl, by omega, fun _ x hx => ?_⟩
      obtain ⟨j, hjl, rfl⟩ := List.getElem_of_mem hx
      exact hj j (by omega) _ (List.getElem?_eq_getElem hjl)

theorem szEraS_ok (l : List S145) (hl : (l.length ≤ 9223372036854775807 ∧ ∀ e0 ∈ l, (e0.f0.length ≤ 9223372036854775807))) (n : Int) (h0 : 0 ≤ n) (hn : n ≤ 1048576) (k : Nat) (hk : 2097152 < k) : ∃ r, laws_szEraS.f k l n = some r ∧ r ≤ n ∧ (0 ≤ r → (l.length ≤ 1048576 ∧ ∀ e0 ∈ l, (e0.f0.length ≤ 1048576))) := by
  unfold laws_szEraS.f
  rw [wrap_id (by have := hl.1; omega) (by have := hl.1; omega)]
  by_cases h : n - (l.length : Int) < 0
  · rw [if_pos h]
    exact ⟨-1, rfl, by omega, fun h => by omega⟩
  · rw [if_neg h]
    obtain ⟨r, hr, hrn, hz⟩ := szEraS_l l hl l.length k (n - l.length) 0 (by omega) (by omega) (by omega) (by omega) (by omega) (by omega) (fun j hj => by omega)
    exact ⟨r, hr, by omega, fun h => ⟨by omega, hz h⟩⟩

theorem szRegister_ok (a0 : List S145) (a1 : Int) (ha0 : (a0.length ≤ 9223372036854775807 ∧ ∀ e0 ∈ a0, (e0.f0.length ≤ 9223372036854775807))) (n : Int) (h0 : 0 ≤ n) (hn : n ≤ 1048576) (k : Nat) (hk : 2097152 < k) : ∃ r, laws_szRegister.f k a0 a1 n = some r ∧ r ≤ n ∧ (0 ≤ r → (a0.length ≤ 1048576 ∧ ∀ e0 ∈ a0, (e0.f0.length ≤ 1048576))) := by
  unfold laws_szRegister.f
  obtain ⟨r0, e0, m0, z0⟩ := szEraS_ok a0 ha0 n (by omega) (by omega) k (by omega)
  rw [e0]
  simp only [Option.bind_some]
  by_cases g0 : r0 < 0
  · rw [if_pos g0]
    exact ⟨-1, rfl, by omega, fun h => by omega⟩
  · rw [if_neg g0]
    exact ⟨r0, rfl, by omega, fun _ => (z0 (by omega))⟩

theorem spec_l1In_is (x a b : Int) : spec_l1In.f x a b = some (inB x a b) := by
  unfold spec_l1In.f inB
  by_cases h : x ≥ a
  · rw [if_pos h]; simp [show a ≤ x from h]
  · rw [if_neg h]; simp [show ¬ a ≤ x from h]

theorem spec_ConfigOk_l (ds : List Int) (c : Int) (hl : ds.length ≤ 1048576) (d : Nat) : ∀ (k i : Nat), i + d = ds.length → d < k → spec_ConfigOk.l0 k (i : Int) ds c = some ((ds.drop i).all (fun d => inB d 0 7)) := by
  induction d with
  | zero =>
    intro k i h hk
    obtain ⟨k, rfl⟩ : ∃ m, k = m + 1 := ⟨k - 1, by omega⟩
    simp only [spec_ConfigOk.l0]
    rw [if_neg (by omega), List.drop_eq_nil_of_le (by omega)]
    rfl
  | succ d ih =>
    intro k i h hk
    obtain ⟨k, rfl⟩ : ∃ m, k = m + 1 := ⟨k - 1, by omega⟩
    simp only [spec_ConfigOk.l0]
    rw [if_pos (by omega), if_pos (by omega), spec_l1In_is, rd_drop ds i (by omega), List.all_cons]
    simp only [Option.bind_some]
    cases inB (rd ds i) 0 7 with
    | false => rfl
    | true =>
      simp only [if_true, Bool.true_and]
      rw [wrap_id (by omega) (by omega)]
      exact ih k (i + 1) (by omega) (by omega)

theorem spec_ConfigOk_is (ds : List Int) (c : Int) (hl : ds.length ≤ 1048576) (k : Nat) (hk : 1048577 < k) : spec_ConfigOk.f k ds c = some (cfgOk ds c) := by
  obtain ⟨k, rfl⟩ : ∃ m, k = m + 1 := ⟨k - 1, by omega⟩
  have hl0 := spec_ConfigOk_l ds c hl ds.length k 0 (by omega) (by omega)
  rw [List.drop_zero] at hl0
  unfold spec_ConfigOk.f cfgOk
  rw [spec_l1In_is, spec_l1In_is]
  simp only [Option.bind_some, spec_ConfigOk.j0]
  have hl0' : spec_ConfigOk.l0 k 0 ds c = some (ds.all fun d => inB d 0 7) := hl0
  rw [hl0']
  cases inB (ds.length : Int) 1 8 <;> cases inB c 1 4 <;> simp

theorem spec_PlaceOk_is (x : Int) (hx : InR x) : spec_PlaceOk.f x = some (placeOk x) := by
  unfold spec_PlaceOk.f placeOk
  by_cases h : x > 0
  · rw [if_pos h, tdiv_pos (by omega), tmod_pos (by omega), wrap_id (by have := hx.2; omega) (by have := hx.2; omega), spec_l1In_is, spec_l1In_is]
    cases inB (x / 4294967296) 1 30 <;> simp [show 0 < x from h]
  · rw [if_neg h]
    simp [show ¬ 0 < x from h]

theorem spec_EpochOf_is (x : Int) (hx : InR x) : spec_EpochOf.f x = some (epochOf x) := by
  unfold spec_EpochOf.f epochOf
  rw [spec_PlaceOk_is x hx]
  simp only [Option.bind_some]
  by_cases h : placeOk x = true
  · have h' := h
    simp only [placeOk, Bool.and_eq_true, inB_true, decide_eq_true_eq] at h'
    rw [if_pos h, if_pos h, tdiv_pos (by omega), wrap_id (by omega) (by omega)]
  · rw [if_neg h, if_neg h]

theorem spec_l4Asc_l (l : List Int) (lo hi : Int) (hl : l.length ≤ 1048576) (d : Nat) : ∀ (k i : Nat), i + d = l.length → d < k → (∀ j, j < i → (lo ≤ l.getD j 0 ∧ l.getD j 0 ≤ hi) ∧ (0 < j → l.getD (j - 1) 0 < l.getD j 0)) → spec_l4Asc.l0 k l lo hi (i : Int) = some (decide (Asc l lo hi)) := by
  induction d with
  | zero =>
    intro k i h hk hj
    obtain ⟨k, rfl⟩ : ∃ m, k = m + 1 := ⟨k - 1, by omega⟩
    simp only [spec_l4Asc.l0]
    rw [if_neg (by omega), decide_eq_true (show Asc l lo hi from fun j hjl => hj j (by omega))]
  | succ d ih =>
    intro k i h hk hj
    obtain ⟨k, rfl⟩ : ∃ m, k = m + 1 := ⟨k - 1, by omega⟩
    simp only [spec_l4Asc.l0]
    rw [if_pos (by omega), if_pos (by omega), spec_l1In_is, rd_nat]
    simp only [Option.bind_some]
    by_cases hb : inB (l.getD i 0) lo hi = true
    · rw [if_pos hb]
      rw [inB_true] at hb
      by_cases h0 : (i : Int) > 0
      · rw [if_pos h0, wrap_id (by omega) (by omega), if_pos (by omega), if_pos (by omega), show ((i : Int) - 1) = ((i - 1 : Nat) : Int) by omega, rd_nat]
        by_cases hg : l.getD (i - 1) 0 ≥ l.getD i 0
        · rw [if_pos hg, decide_eq_false (fun ha : Asc l lo hi => by have := (ha i (by omega)).2 (by omega); omega)]
        · rw [if_neg hg, wrap_id (by omega) (by omega)]
          refine ih k (i + 1) (by omega) (by omega) (fun j hji => ?_)
          by_cases e : j = i
          · subst e; exact ⟨hb, fun _ => by omega⟩
          · exact hj j (by omega)
      · rw [if_neg h0, wrap_id (by omega) (by omega)]
        refine ih k (i + 1) (by omega) (by omega) (fun j hji => ?_)
        by_cases e : j = i
        · subst e; exact ⟨hb, fun _ => by omega⟩
        · exact hj j (by omega)
    · rw [if_neg hb, decide_eq_false (fun ha : Asc l lo hi => hb (inB_true.2 (ha i (by omega)).1))]

theorem spec_l4Asc_is (l : List Int) (lo hi : Int) (hl : l.length ≤ 1048576) (k : Nat) (hk : 1048576 < k) : spec_l4Asc.f k l lo hi = some (decide (Asc l lo hi)) := by
  unfold spec_l4Asc.f
  exact spec_l4Asc_l l lo hi hl l.length k 0 (by omega) (by omega) (fun j h => by omega)

theorem spec_NodesOk_is (ds : List Int) (c : Int) (l : List Int) (hd : ds.length ≤ 1048576) (hl : l.length ≤ 1048576) (k : Nat) (hk : 1048577 < k) : spec_NodesOk.f k ds c l = some (nodesOk ds c l) := by
  unfold spec_NodesOk.f nodesOk
  rw [spec_ConfigOk_is ds c hd k hk, wrap_id (by omega) (by omega), spec_l4Asc_is l _ _ hl k (by omega)]
  cases cfgOk ds c <;> simp

/-- What the marks of domains tell: just those that were met. -/
theorem spec_l4Span_l (ds : List Int) (c : Int) (l : List Int) (hd8 : ds.length ≤ 8) (hdom : ∀ d ∈ ds, 0 ≤ d ∧ d ≤ 7) (hl : l.length ≤ 1048576) (hmem : ∀ n ∈ l, 0 ≤ n ∧ n < (ds.length : Int)) (d : Nat) :
    ∀ (k i : Nat) (seen : List Bool) (acc : List Int), i + d = l.length → d < k → seen.length = 8 → (acc.length : Int) ≤ i → (∀ x : Int, 0 ≤ x → x ≤ 7 → (rdOf false seen x = acc.contains x)) →
    spec_l4Span.l0 k l seen (acc.length : Int) (i : Int) ds c = some ((domsOf ds (l.drop i) acc).length : Int) := by
  induction d with
  | zero =>
    intro k i seen acc h hk hs ha hx
    obtain ⟨k, rfl⟩ : ∃ m, k = m + 1 := ⟨k - 1, by omega⟩
    simp only [spec_l4Span.l0]
    rw [if_neg (by omega), List.drop_eq_nil_of_le (by omega)]
    rfl
  | succ d ih =>
    intro k i seen acc h hk hs ha hx
    obtain ⟨k, rfl⟩ : ∃ m, k = m + 1 := ⟨k - 1, by omega⟩
    have hi : i < l.length := by omega
    have hin : rd l (i : Int) ∈ l := by
      rw [rd_nat, List.getD_eq_getElem?_getD, List.getElem?_eq_getElem hi]
      exact List.getElem_mem _
    have hn := hmem _ hin
    have hdn : rd ds (rd l (i : Int)) ∈ ds := by
      have hlt : (rd l (i : Int)).toNat < ds.length := by omega
      unfold rd
      unfold rd at hlt
      rw [List.getD_eq_getElem?_getD, List.getElem?_eq_getElem hlt]
      exact List.getElem_mem _
    have hv := hdom _ hdn
    simp only [spec_l4Span.l0]
    rw [if_pos (by omega), if_pos (by omega), if_pos hn.1, if_pos hn.2, if_pos hv.1, if_pos (by omega), hx _ hv.1 hv.2, rd_drop l i hi]
    simp only [domsOf]
    rw [wrap_id (show -9223372036854775808 ≤ (i : Int) + 1 by omega) (by omega)]
    by_cases hc : acc.contains (rd ds (rd l (i : Int))) = true
    · rw [if_pos hc, if_pos hc]
      exact ih k (i + 1) seen acc (by omega) (by omega) hs (by omega) hx
    · rw [if_neg hc, if_neg hc, wrap_id (by omega) (by omega)]
      have := ih k (i + 1) (seen.set (rd ds (rd l (i : Int))).toNat true) (acc ++ [rd ds (rd l (i : Int))]) (by omega) (by omega) (by simp [hs]) (by simp; omega) (by
        intro x h0 h7
        by_cases e : x = rd ds (rd l (i : Int))
        · subst e
          simp [rdOf, List.getD_eq_getElem?_getD, List.getElem?_set, hs, show (rd ds (rd l (i : Int))).toNat < 8 by omega]
        · have he : (rd ds (rd l (i : Int))).toNat ≠ x.toNat := by omega
          have := hx x h0 h7
          simp only [rdOf] at this ⊢
          rw [List.getD_eq_getElem?_getD, List.getElem?_set, if_neg he, ← List.getD_eq_getElem?_getD, this]
          simp [e])
      simpa using this

theorem spec_l4Span_is (ds : List Int) (c : Int) (l : List Int) (hok : nodesOk ds c l = true) (hl : l.length ≤ 1048576) (k : Nat) (hk : 1048577 < k) : spec_l4Span.f k ds c l = some (spanOf ds l) := by
  simp only [nodesOk, Bool.and_eq_true, decide_eq_true_eq] at hok
  obtain ⟨h1, h2, _, _, h5⟩ := cfgOk_len hok.1
  unfold spec_l4Span.f
  rw [if_pos (by decide)]
  have := spec_l4Span_l ds c l h2 h5 hl (fun n hn => by have := Asc_mem hok.2 hn; omega) l.length k 0 (List.replicate 8 false) [] (by omega) (by omega) (by simp) (by simp) (by
    intro x h0 h7
    unfold rdOf
    rw [List.getD_eq_getElem?_getD, List.getElem?_replicate, if_pos (by omega)]
    rfl)
  simpa [spanOf] using this

theorem spec_Holds_is (ds : List Int) (c : Int) (l : List Int) (hd : ds.length ≤ 1048576) (hl : l.length ≤ 1048576) (k : Nat) (hk : 1048577 < k) : spec_Holds.f k ds c l = some (holdsB ds c l) := by
  unfold spec_Holds.f holdsB
  rw [spec_NodesOk_is ds c l hd hl k hk]
  simp only [Option.bind_some]
  by_cases h : nodesOk ds c l = true
  · rw [if_pos h, spec_l4Span_is ds c l h hl k hk, h]
    simp
  · rw [if_neg h]
    simp [h]

/-- An era that is right by itself; one of a register; what is given up. -/
def eraOkB (ds : List Int) (c : Int) (e : S95) : Bool := holdsB ds c e.f0 && (inB e.f2 0 60 && (e.f1 || e.f2 == 0))
def eraAt (ds : List Int) (c : Int) (l : List S95) (i : Nat) : Bool :=
  eraOkB ds c (rd_T95 l (i : Int)) && (!(rd_T95 l (i : Int)).f1 || (decide (¬ (i : Int) = (l.length : Int) - 1) && (decide (i = 0) || (rd_T95 l ((i : Int) - 1)).f1)))
def erasFrom (ds : List Int) (c : Int) (l : List S95) : Nat → Nat → Bool
  | 0, _ => true
  | d + 1, i => eraAt ds c l i && erasFrom ds c l d (i + 1)
def trimOk (n : Nat) (t : Int) : Bool := t == 0 || inB (epochOf t) 1 n
def regOk (ds : List Int) (c : Int) (l : List S95) (t : Int) : Bool := cfgOk ds c && (decide ((l.length : Int) ≤ 30) && (trimOk l.length t && erasFrom ds c l l.length 0))
theorem rdT_Era_mem (l : List S95) (i : Nat) (h : i < l.length) : rd_T95 l (i : Int) ∈ l := by
  simp [rd_T95, List.getD_eq_getElem?_getD, List.getElem?_eq_getElem h]
theorem trimOk_is (n : Nat) (t : Int) : trimOk n t = (t == 0 || (placeOk t && !decide (epochOf t > (n : Int)))) := by
  unfold trimOk
  by_cases h : placeOk t = true
  · obtain ⟨_, h1, h2⟩ := epochOf_pos h
    rw [h]
    by_cases h3 : epochOf t > (n : Int)
    · rw [decide_eq_true h3, show inB (epochOf t) 1 n = false by rw [Bool.eq_false_iff]; intro he; rw [inB_true] at he; omega]
      simp
    · rw [decide_eq_false h3, show inB (epochOf t) 1 n = true by rw [inB_true]; omega]
      simp
  · have h0 : epochOf t = 0 := by unfold epochOf; rw [if_neg h]
    rw [h0, show inB 0 1 n = false by rw [Bool.eq_false_iff]; intro he; rw [inB_true] at he; omega]
    cases hp : placeOk t
    · simp
    · exact absurd hp h
theorem spec_RegOk_l (ds : List Int) (c : Int) (l : List S95) (t : Int) (hd : ds.length ≤ 1048576) (hl : l.length ≤ 1048576 ∧ ∀ e ∈ l, e.f0.length ≤ 1048576) (d : Nat) : ∀ (k i : Nat), i + d = l.length → 2 * d + 1048577 < k →
    spec_RegOk.l0 k (l.length : Int) (i : Int) ds c l t = some (erasFrom ds c l d i) := by
  induction d with
  | zero =>
    intro k i h hk
    obtain ⟨k, rfl⟩ : ∃ m, k = m + 1 := ⟨k - 1, by omega⟩
    simp only [spec_RegOk.l0]
    rw [if_neg (by omega)]
    rfl
  | succ d ih =>
    intro k i h hk
    obtain ⟨k, rfl⟩ : ∃ m, k = m + 2 := ⟨k - 2, by omega⟩
    have hz := hl.2 _ (rdT_Era_mem l i (by omega))
    simp only [spec_RegOk.l0, spec_RegOk.j2, erasFrom, eraAt, eraOkB]
    rw [if_pos (by omega), if_pos (by omega), if_pos (by omega), spec_Holds_is ds c _ hd hz _ (by omega), spec_l1In_is, wrap_id (show -9223372036854775808 ≤ (i : Int) + 1 by omega) (by omega), wrap_id (show -9223372036854775808 ≤ (i : Int) - 1 by omega) (by omega), wrap_id (show -9223372036854775808 ≤ (l.length : Int) - 1 by omega) (by omega), show (i : Int) + 1 = ((i + 1 : Nat) : Int) from rfl, ih k (i + 1) (by omega) (by omega)]
    simp only [Option.bind_some, if_true]
    generalize rd_T95 l (i : Int) = x
    generalize rd_T95 l ((i : Int) - 1) = y
    generalize erasFrom ds c l d (i + 1) = R
    obtain ⟨xn, xc, xl⟩ := x
    simp only
    cases holdsB ds c xn <;> cases inB xl 0 60 <;> simp
    cases xc with
    | false => by_cases h2 : xl = 0 <;> simp [h2]
    | true =>
      simp
      by_cases hq : (i : Int) = (l.length : Int) - 1
      · simp [hq]
      · simp only [if_neg hq]
        by_cases h0 : i = 0
        · subst h0
          simp at hq ⊢
          simp [hq]
        · have h1 : (1 : Int) ≤ (i : Int) := by omega
          have h2 : 0 < i := by omega
          have h3 : (i : Int) - 1 < (l.length : Int) := by omega
          cases y.f1 <;> simp [h0, h1, h2, h3, hq]
theorem spec_RegOk_is (ds : List Int) (c : Int) (l : List S95) (t : Int) (ht : InR t) (hd : ds.length ≤ 1048576) (hl : l.length ≤ 1048576 ∧ ∀ e ∈ l, e.f0.length ≤ 1048576) (k : Nat) (hk : 4194304 < k) :
    spec_RegOk.f k ds c l t = some (regOk ds c l t) := by
  obtain ⟨k, rfl⟩ : ∃ m, k = m + 1 := ⟨k - 1, by omega⟩
  have h := spec_RegOk_l ds c l t hd hl l.length k 0 (by omega) (by omega)
  rw [show ((0 : Nat) : Int) = 0 from rfl] at h
  unfold spec_RegOk.f regOk
  rw [spec_ConfigOk_is ds c hd _ (by omega), spec_PlaceOk_is t ht, spec_EpochOf_is t ht, trimOk_is]
  simp only [Option.bind_some, spec_RegOk.j0]
  rw [h]
  generalize erasFrom ds c l l.length 0 = R
  cases cfgOk ds c <;> simp
  by_cases h3 : (l.length : Int) > 30
  · rw [decide_eq_false (show ¬ (l.length : Int) ≤ 30 by omega)]
    simp [h3]
  · rw [decide_eq_true (show (l.length : Int) ≤ 30 by omega)]
    simp only [if_neg h3]
    by_cases h0 : t = 0
    · simp [h0]
    · rw [if_neg h0, show (t == 0) = false by simpa using h0]
      generalize epochOf t = E
      cases placeOk t <;> by_cases hE : E > (l.length : Int) <;> simp [hE]

theorem toIntS_l (l : List Int) (hz : l.length ≤ 1048576) (d : Nat) : ∀ (k : Nat) (ys : List Int) (i : Int), 0 ≤ i → (l.length : Int) - i ≤ d → i ≤ l.length → d + 0 < k → ys.length = l.length → (∀ j : Nat, (j : Int) < i → ys[j]? = (l)[j]?) →
    laws_toIntS.l0 k l ys i = some l := by
  have hlen : l.length ≤ 1048576 := hz
  induction d with
  | zero =>
    intro k ys i h0 h1 h2 hk hy hj
    obtain ⟨k, rfl⟩ : ∃ m, k = m + 1 := ⟨k - 1, by omega⟩
    simp only [laws_toIntS.l0]
    rw [if_neg (by omega)]
    congr 1
    apply List.ext_getElem?
    intro j
    by_cases h : j < l.length
    · exact hj j (by omega)
    · rw [List.getElem?_eq_none (by omega), List.getElem?_eq_none (by first | omega | (simp; omega))]
  | succ d ih =>
    intro k ys i h0 h1 h2 hk hy hj
    obtain ⟨k, rfl⟩ : ∃ m, k = m + 1 := ⟨k - 1, by omega⟩
    simp only [laws_toIntS.l0]
    by_cases h : i < (l.length : Int)
    · rw [if_pos h, if_pos h0, if_pos (by omega), wrap_id (by omega) (by omega)]
      refine ih k _ (i + 1) (by omega) (by omega) (by omega) (by omega) (by simp [hy]) ?_
      intro j hji
      rw [List.getElem?_set]
      by_cases e : i.toNat = j
      · subst e
        rw [if_pos rfl, if_pos (by omega)]
        simp [rd, List.getD_eq_getElem?_getD, List.getElem?_eq_getElem (show i.toNat < l.length by omega)]
      · rw [if_neg e]
        exact hj j (by omega)
    · rw [if_neg h]
      congr 1
      apply List.ext_getElem?
      intro j
      by_cases h : j < l.length
      · exact hj j (by omega)
      · rw [List.getElem?_eq_none (by omega), List.getElem?_eq_none (by first | omega | (simp; omega))]

theorem toIntS_is (l : List Int) (hz : l.length ≤ 1048576) (k : Nat) (hk : 1048576 < k) : laws_toIntS.f k l = some l := by
  have hlen : l.length ≤ 1048576 := hz
  unfold laws_toIntS.f
  rw [if_pos (by omega), if_pos (by omega), toIntS_l l hz l.length k _ 0 (by omega) (by omega) (by omega) (by omega) (by simp) (fun j h => by omega)]

theorem toConfig_is (a0 : List Int) (a1 : Int) (ha0 : a0.length ≤ 1048576) (k : Nat) (hk : 1048576 < k) : laws_toConfig.f k a0 a1 = some (a0, a1) := by
  unfold laws_toConfig.f
  rw [toIntS_is a0 ha0 k (by omega)]
  simp only [Option.bind_some]

def cEra (x : S145) : S95 := ⟨x.f0, x.f1, x.f2⟩

theorem toEra_is (a0 : List Int) (a1 : Bool) (a2 : Int) (ha0 : a0.length ≤ 1048576) (k : Nat) (hk : 1048576 < k) : laws_toEra.f k a0 a1 a2 = some (a0, a1, a2) := by
  unfold laws_toEra.f
  rw [toIntS_is a0 ha0 k (by omega)]
  simp only [Option.bind_some]

theorem toEraS_l (l : List S145) (hz : (l.length ≤ 1048576 ∧ ∀ e0 ∈ l, (e0.f0.length ≤ 1048576))) (d : Nat) : ∀ (k : Nat) (ys : List S95) (i : Int), 0 ≤ i → (l.length : Int) - i ≤ d → i ≤ l.length → d + 1048576 < k → ys.length = l.length → (∀ j : Nat, (j : Int) < i → ys[j]? = ((l.map cEra))[j]?) →
    laws_toEraS.l0 k l ys i = some (l.map cEra) := by
  have hlen : l.length ≤ 1048576 := hz.1
  induction d with
  | zero =>
    intro k ys i h0 h1 h2 hk hy hj
    obtain ⟨k, rfl⟩ : ∃ m, k = m + 1 := ⟨k - 1, by omega⟩
    simp only [laws_toEraS.l0]
    rw [if_neg (by omega)]
    congr 1
    apply List.ext_getElem?
    intro j
    by_cases h : j < l.length
    · exact hj j (by omega)
    · rw [List.getElem?_eq_none (by omega), List.getElem?_eq_none (by first | omega | (simp; omega))]
  | succ d ih =>
    intro k ys i h0 h1 h2 hk hy hj
    obtain ⟨k, rfl⟩ : ∃ m, k = m + 1 := ⟨k - 1, by omega⟩
    simp only [laws_toEraS.l0]
    by_cases h : i < (l.length : Int)
    · rw [if_pos h, if_pos h0]
      have hg0 : (rd_T145 l i) = l[i.toNat]'(by omega) := by simp [rd_T145, List.getD_eq_getElem?_getD, List.getElem?_eq_getElem (show i.toNat < l.length by omega)]
      have he := hz.2 (l[i.toNat]'(by omega)) (List.getElem_mem _)
      rw [← hg0] at he
      rw [toEra_is (rd_T145 l i).f0 (rd_T145 l i).f1 (rd_T145 l i).f2 he k (by omega)]
      simp only [Option.bind_some]
      rw [if_pos (by omega), wrap_id (by omega) (by omega)]
      refine ih k _ (i + 1) (by omega) (by omega) (by omega) (by omega) (by simp [hy]) ?_
      intro j hji
      rw [List.getElem?_set]
      by_cases e : i.toNat = j
      · subst e
        rw [if_pos rfl, if_pos (by omega)]
        simp [rd_T145, cEra, List.getD_eq_getElem?_getD, List.getElem?_eq_getElem (show i.toNat < l.length by omega)]
      · rw [if_neg e]
        exact hj j (by omega)
    · rw [if_neg h]
      congr 1
      apply List.ext_getElem?
      intro j
      by_cases h : j < l.length
      · exact hj j (by omega)
      · rw [List.getElem?_eq_none (by omega), List.getElem?_eq_none (by first | omega | (simp; omega))]

theorem toEraS_is (l : List S145) (hz : (l.length ≤ 1048576 ∧ ∀ e0 ∈ l, (e0.f0.length ≤ 1048576))) (k : Nat) (hk : 2097152 < k) : laws_toEraS.f k l = some (l.map cEra) := by
  have hlen : l.length ≤ 1048576 := hz.1
  unfold laws_toEraS.f
  rw [if_pos (by omega), if_pos (by omega), toEraS_l l hz l.length k _ 0 (by omega) (by omega) (by omega) (by omega) (by simp) (fun j h => by omega)]

theorem toRegister_is (a0 : List S145) (a1 : Int) (ha0 : (a0.length ≤ 1048576 ∧ ∀ e0 ∈ a0, (e0.f0.length ≤ 1048576))) (k : Nat) (hk : 2097152 < k) : laws_toRegister.f k a0 a1 = some ((a0.map cEra), a1) := by
  unfold laws_toRegister.f
  rw [toEraS_is a0 ha0 k (by omega)]
  simp only [Option.bind_some]

theorem impl_within_is (x a b : Int) : impl_within.f x a b = some (inB x a b) := by
  unfold impl_within.f inB
  by_cases h : x ≥ a
  · rw [if_pos h]; simp [show a ≤ x from h]
  · rw [if_neg h]; simp [show ¬ a ≤ x from h]

theorem impl_ConfigOk_l (ds : List Int) (c : Int) (hl : ds.length ≤ 1048576) (d : Nat) : ∀ (k i : Nat), i + d = ds.length → d < k → impl_ConfigOk.l0 k ds (ds.length : Int) (i : Int) ds c = some ((ds.drop i).all (fun d => inB d 0 7) && inB (ds.length : Int) 1 8 && inB c 1 4) := by
  induction d with
  | zero =>
    intro k i h hk
    obtain ⟨k, rfl⟩ : ∃ m, k = m + 1 := ⟨k - 1, by omega⟩
    simp only [impl_ConfigOk.l0]
    rw [if_neg (by omega), List.drop_eq_nil_of_le (by omega), impl_within_is, impl_within_is]
    cases inB (ds.length : Int) 1 8 <;> simp
  | succ d ih =>
    intro k i h hk
    obtain ⟨k, rfl⟩ : ∃ m, k = m + 1 := ⟨k - 1, by omega⟩
    simp only [impl_ConfigOk.l0]
    rw [if_pos (by omega), if_pos (by omega), if_pos (by omega), impl_within_is, rd_drop ds i (by omega), List.all_cons]
    simp only [Option.bind_some]
    cases inB (rd ds i) 0 7 with
    | false => rfl
    | true =>
      simp only [if_true, Bool.true_and]
      rw [wrap_id (by omega) (by omega)]
      exact ih k (i + 1) (by omega) (by omega)

theorem impl_ConfigOk_is (ds : List Int) (c : Int) (hl : ds.length ≤ 1048576) (k : Nat) (hk : 1048577 < k) : impl_ConfigOk.f k ds c = some (cfgOk ds c) := by
  unfold impl_ConfigOk.f
  have h := impl_ConfigOk_l ds c hl ds.length k 0 (by omega) (by omega)
  rw [List.drop_zero] at h
  rw [show (0 : Int) = ((0 : Nat) : Int) from rfl, h]
  unfold cfgOk
  cases inB (ds.length : Int) 1 8 <;> cases inB c 1 4 <;> simp

theorem impl_ascends_l (l : List Int) (hi : Int) (hl : l.length ≤ 1048576) (d : Nat) : ∀ (k i : Nat), i + d = l.length → d < k → (∀ j, j < i → (0 ≤ l.getD j 0 ∧ l.getD j 0 ≤ hi) ∧ (0 < j → l.getD (j - 1) 0 < l.getD j 0)) → impl_ascends.l0 k l hi l (l.length : Int) (i : Int) = some (decide (Asc l 0 hi)) := by
  induction d with
  | zero =>
    intro k i h hk hj
    obtain ⟨k, rfl⟩ : ∃ m, k = m + 1 := ⟨k - 1, by omega⟩
    simp only [impl_ascends.l0]
    rw [if_neg (by omega), decide_eq_true (show Asc l 0 hi from fun j hjl => hj j (by omega))]
  | succ d ih =>
    intro k i h hk hj
    obtain ⟨k, rfl⟩ : ∃ m, k = m + 1 := ⟨k - 1, by omega⟩
    simp only [impl_ascends.l0]
    rw [if_pos (by omega), if_pos (by omega), if_pos (by omega), impl_within_is, rd_nat]
    simp only [Option.bind_some]
    by_cases hb : inB (l.getD i 0) 0 hi = true
    · rw [if_pos hb]
      rw [inB_true] at hb
      by_cases h0 : (i : Int) > 0
      · rw [if_pos h0, wrap_id (by omega) (by omega), if_pos (by omega), if_pos (by omega), show ((i : Int) - 1) = ((i - 1 : Nat) : Int) by omega, rd_nat]
        by_cases hg : l.getD (i - 1) 0 ≥ l.getD i 0
        · rw [if_pos hg, decide_eq_false (fun ha : Asc l 0 hi => by have := (ha i (by omega)).2 (by omega); omega)]
        · rw [if_neg hg, wrap_id (by omega) (by omega)]
          refine ih k (i + 1) (by omega) (by omega) (fun j hji => ?_)
          by_cases e : j = i
          · subst e; exact ⟨hb, fun _ => by omega⟩
          · exact hj j (by omega)
      · rw [if_neg h0, wrap_id (by omega) (by omega)]
        refine ih k (i + 1) (by omega) (by omega) (fun j hji => ?_)
        by_cases e : j = i
        · subst e; exact ⟨hb, fun _ => by omega⟩
        · exact hj j (by omega)
    · rw [if_neg hb, decide_eq_false (fun ha : Asc l 0 hi => hb (inB_true.2 (ha i (by omega)).1))]

theorem impl_ascends_is (l : List Int) (hi : Int) (hl : l.length ≤ 1048576) (k : Nat) (hk : 1048576 < k) : impl_ascends.f k l hi = some (decide (Asc l 0 hi)) := by
  unfold impl_ascends.f
  exact impl_ascends_l l hi hl l.length k 0 (by omega) (by omega) (fun j h => by omega)

theorem impl_NodesOk_is (ds : List Int) (c : Int) (l : List Int) (hd : ds.length ≤ 1048576) (hl : l.length ≤ 1048576) (k : Nat) (hk : 1048577 < k) : impl_NodesOk.f k ds c l = some (nodesOk ds c l) := by
  unfold impl_NodesOk.f nodesOk
  rw [impl_ConfigOk_is ds c hd k hk, wrap_id (by omega) (by omega), impl_ascends_is l _ hl k (by omega)]
  cases cfgOk ds c <;> simp

theorem slices_Index_l (l : List Int) (x : Int) (hl : l.length ≤ 1048576) (d : Nat) : ∀ (k i : Nat), i + d = l.length → d < k → ∃ r : Int, slices_Index_int_int.l0 k l x (l.length : Int) (i : Int) = some r ∧ (decide (r ≥ 0) = (l.drop i).contains x) := by
  induction d with
  | zero =>
    intro k i h hk
    obtain ⟨k, rfl⟩ : ∃ m, k = m + 1 := ⟨k - 1, by omega⟩
    simp only [slices_Index_int_int.l0]
    rw [if_neg (by omega), List.drop_eq_nil_of_le (by omega)]
    exact ⟨-1, rfl, rfl⟩
  | succ d ih =>
    intro k i h hk
    obtain ⟨k, rfl⟩ : ∃ m, k = m + 1 := ⟨k - 1, by omega⟩
    simp only [slices_Index_int_int.l0]
    rw [if_pos (by omega), if_pos (by omega), if_pos (by omega), rd_drop l i (by omega)]
    by_cases hx : x = rd l (i : Int)
    · rw [if_pos hx]
      exact ⟨i, rfl, by simp [hx]⟩
    · rw [if_neg hx, wrap_id (by omega) (by omega)]
      obtain ⟨r, hr, hd⟩ := ih k (i + 1) (by omega) (by omega)
      exact ⟨r, hr, by rw [hd]; simp [hx]⟩

theorem slices_Contains_is (l : List Int) (x : Int) (hl : l.length ≤ 1048576) (k : Nat) (hk : 1048576 < k) : slices_Contains_int_int.f k l x = some (l.contains x) := by
  unfold slices_Contains_int_int.f slices_Index_int_int.f
  obtain ⟨r, hr, hd⟩ := slices_Index_l l x hl l.length k 0 (by omega) (by omega)
  rw [show (0 : Int) = ((0 : Nat) : Int) from rfl, hr]
  simp only [Option.bind_some]
  rw [show ((0 : Nat) : Int) = 0 from rfl, hd, List.drop_zero]

theorem impl_SpanOf_l (ds : List Int) (c : Int) (l : List Int) (hl : l.length ≤ 1048576) (hmem : ∀ n ∈ l, 0 ≤ n ∧ n < (ds.length : Int)) (d : Nat) :
    ∀ (k i : Nat) (acc : List Int), i + d = l.length → d + 1048576 < k → acc.length ≤ i → impl_SpanOf.l0 k acc l (l.length : Int) (i : Int) ds c = some ((domsOf ds (l.drop i) acc).length : Int) := by
  induction d with
  | zero =>
    intro k i acc h hk ha
    obtain ⟨k, rfl⟩ : ∃ m, k = m + 1 := ⟨k - 1, by omega⟩
    simp only [impl_SpanOf.l0]
    rw [if_neg (by omega), List.drop_eq_nil_of_le (by omega)]
    rfl
  | succ d ih =>
    intro k i acc h hk ha
    obtain ⟨k, rfl⟩ : ∃ m, k = m + 1 := ⟨k - 1, by omega⟩
    have hi : i < l.length := by omega
    have hin : rd l (i : Int) ∈ l := by
      rw [rd_nat, List.getD_eq_getElem?_getD, List.getElem?_eq_getElem hi]
      exact List.getElem_mem _
    have hn := hmem _ hin
    simp only [impl_SpanOf.l0]
    rw [if_pos (by omega), if_pos (by omega), if_pos (by omega), if_pos hn.1, if_pos hn.2, slices_Contains_is acc _ (by omega) k (by omega), rd_drop l i hi]
    simp only [Option.bind_some, domsOf]
    rw [wrap_id (show -9223372036854775808 ≤ (i : Int) + 1 by omega) (by omega)]
    by_cases hc : acc.contains (rd ds (rd l (i : Int))) = true
    · rw [if_pos hc, if_pos hc]
      exact ih k (i + 1) acc (by omega) (by omega) (by omega)
    · rw [if_neg hc, if_neg hc, if_pos (by omega)]
      exact ih k (i + 1) _ (by omega) (by omega) (by simp; omega)

theorem impl_SpanOf_is (ds : List Int) (c : Int) (l : List Int) (hd : ds.length ≤ 1048576) (hl : l.length ≤ 1048576) (k : Nat) (hk : 2097153 < k) : impl_SpanOf.f k ds c l = some (if nodesOk ds c l = true then spanOf ds l else -1) := by
  unfold impl_SpanOf.f
  rw [impl_NodesOk_is ds c l hd hl k (by omega)]
  simp only [Option.bind_some]
  by_cases h : nodesOk ds c l = true
  · rw [if_pos h, if_pos h]
    have h' := h
    simp only [nodesOk, Bool.and_eq_true, decide_eq_true_eq] at h'
    have := impl_SpanOf_l ds c l hl (fun n hn => by have := Asc_mem h'.2 hn; omega) l.length k 0 [] (by omega) (by omega) (by simp)
    simpa [spanOf] using this
  · rw [if_neg h, if_neg h]

theorem impl_Holds_is (ds : List Int) (c : Int) (l : List Int) (hd : ds.length ≤ 1048576) (hl : l.length ≤ 1048576) (k : Nat) (hk : 2097153 < k) : impl_Holds.f k ds c l = some (holdsB ds c l) := by
  unfold impl_Holds.f holdsB
  rw [impl_NodesOk_is ds c l hd hl k (by omega)]
  simp only [Option.bind_some]
  by_cases h : nodesOk ds c l = true
  · rw [if_pos h, impl_SpanOf_is ds c l hd hl k hk, if_pos h, h]
    simp
  · rw [if_neg h]
    simp [h]

theorem impl_eraOk_is (ds : List Int) (c : Int) (ns : List Int) (b : Bool) (x : Int) (hd : ds.length ≤ 1048576) (hn : ns.length ≤ 1048576) (k : Nat) (hk : 3145731 < k) : impl_eraOk.f k ds c ns b x = some (holdsB ds c ns && (inB x 0 60 && (b || x == 0))) := by
  unfold impl_eraOk.f
  rw [impl_Holds_is ds c ns hd hn k (by omega), impl_within_is]
  cases holdsB ds c ns <;> cases inB x 0 60 <;> cases b <;> simp





theorem impl_PlaceOk_is (x : Int) (hx : InR x) : impl_PlaceOk.f x = some (placeOk x) := by
  unfold impl_PlaceOk.f placeOk impl_isEpoch.f impl_isOff.f
  by_cases h : x > 0
  · rw [tdiv_pos (by omega), tmod_pos (by omega), wrap_id (by have := hx.2; omega) (by have := hx.2; omega), impl_within_is, impl_within_is]
    cases inB (x / 4294967296) 1 30 <;> simp [show 0 < x from h]
  · rw [tdiv_neg' (by omega), wrap_id (by have := hx.1; omega) (by have := hx.1; omega), impl_within_is, show inB (-(-x / 4294967296)) 1 30 = false by
      rw [Bool.eq_false_iff]
      intro he
      rw [inB_true] at he
      omega]
    simp [show ¬ 0 < x from h]

theorem impl_EpochOf_is (x : Int) (hx : InR x) : impl_EpochOf.f x = some (epochOf x) := by
  unfold impl_EpochOf.f epochOf
  rw [impl_PlaceOk_is x hx]
  simp only [Option.bind_some]
  by_cases h : placeOk x = true
  · have h' := h
    simp only [placeOk, Bool.and_eq_true, inB_true, decide_eq_true_eq] at h'
    rw [if_pos h, if_pos h, tdiv_pos (by omega), wrap_id (by omega) (by omega)]
  · rw [if_neg h, if_neg h]

theorem impl_RegOk_l (ds : List Int) (c : Int) (l : List S95) (t : Int) (ht : InR t) (hd : ds.length ≤ 1048576) (hl : l.length ≤ 1048576 ∧ ∀ e ∈ l, e.f0.length ≤ 1048576) (d : Nat) : ∀ (k i : Nat), i + d = l.length → d + 4194304 < k →
    impl_RegOk.l0 k l (l.length : Int) (i : Int) ds c l t = some (erasFrom ds c l d i && (cfgOk ds c && (decide ((l.length : Int) ≤ 30) && trimOk l.length t))) := by
  induction d with
  | zero =>
    intro k i h hk
    obtain ⟨k, rfl⟩ : ∃ m, k = m + 1 := ⟨k - 1, by omega⟩
    simp only [impl_RegOk.l0]
    rw [if_neg (by omega), impl_ConfigOk_is ds c hd _ (by omega), impl_EpochOf_is t ht, erasFrom, trimOk]
    simp only [Option.bind_some, impl_within_is]
    generalize inB (epochOf t) 1 (l.length : Int) = B
    by_cases h0 : t = 0
    · cases cfgOk ds c <;> by_cases h3 : (l.length : Int) ≤ 30 <;> simp [h0, h3]
    · cases cfgOk ds c <;> by_cases h3 : (l.length : Int) ≤ 30 <;> simp [h0, h3]
  | succ d ih =>
    intro k i h hk
    obtain ⟨k, rfl⟩ : ∃ m, k = m + 1 := ⟨k - 1, by omega⟩
    have hz := hl.2 _ (rdT_Era_mem l i (by omega))
    simp only [impl_RegOk.l0, erasFrom, eraAt, eraOkB]
    rw [if_pos (by omega), if_pos (by omega), if_pos (by omega), impl_eraOk_is ds c _ _ _ hd hz _ (by omega), wrap_id (show -9223372036854775808 ≤ (i : Int) + 1 by omega) (by omega), wrap_id (show -9223372036854775808 ≤ (i : Int) - 1 by omega) (by omega), wrap_id (show -9223372036854775808 ≤ (l.length : Int) - 1 by omega) (by omega), show (i : Int) + 1 = ((i + 1 : Nat) : Int) from rfl, ih k (i + 1) (by omega) (by omega)]
    simp only [Option.bind_some]
    generalize rd_T95 l (i : Int) = x
    generalize rd_T95 l ((i : Int) - 1) = y
    generalize (cfgOk ds c && (decide ((l.length : Int) ≤ 30) && trimOk l.length t)) = Z
    generalize erasFrom ds c l d (i + 1) = R
    obtain ⟨xn, xc, xl⟩ := x
    simp only
    generalize (holdsB ds c xn && (inB xl 0 60 && (xc || xl == 0))) = U
    cases U <;> simp
    cases xc <;> simp
    by_cases hq : (i : Int) = (l.length : Int) - 1
    · simp [hq]
    · simp only [if_neg hq]
      by_cases h0 : i = 0
      · subst h0
        simp at hq ⊢
        simp [hq]
      · have h1 : (1 : Int) ≤ (i : Int) := by omega
        have h2 : 0 < i := by omega
        have h3 : (i : Int) - 1 < (l.length : Int) := by omega
        cases y.f1 <;> simp [h0, h1, h2, h3, hq]
theorem impl_RegOk_is (ds : List Int) (c : Int) (l : List S95) (t : Int) (ht : InR t) (hd : ds.length ≤ 1048576) (hl : l.length ≤ 1048576 ∧ ∀ e ∈ l, e.f0.length ≤ 1048576) (k : Nat) (hk : 5242880 < k) :
    impl_RegOk.f k ds c l t = some (regOk ds c l t) := by
  unfold impl_RegOk.f regOk
  have h := impl_RegOk_l ds c l t ht hd hl l.length k 0 (by omega) (by omega)
  rw [show ((0 : Nat) : Int) = 0 from rfl] at h
  rw [h]
  cases cfgOk ds c <;> cases decide ((l.length : Int) ≤ 30) <;> cases trimOk l.length t <;> cases erasFrom ds c l l.length 0 <;> rfl

theorem eqIntS_l (l : List Int) (hz : l.length ≤ 1048576) (d : Nat) : ∀ (k : Nat) (i : Int), 0 ≤ i → (l.length : Int) - i ≤ d → i ≤ l.length → d + 0 < k → laws_eqIntS.l0 k l l i = some true := by
  have hlen : l.length ≤ 1048576 := hz
  induction d with
  | zero =>
    intro k i h0 h1 h2 hk
    obtain ⟨k, rfl⟩ : ∃ m, k = m + 1 := ⟨k - 1, by omega⟩
    simp only [laws_eqIntS.l0]
    rw [if_neg (by omega)]
  | succ d ih =>
    intro k i h0 h1 h2 hk
    obtain ⟨k, rfl⟩ : ∃ m, k = m + 1 := ⟨k - 1, by omega⟩
    simp only [laws_eqIntS.l0]
    by_cases h : i < (l.length : Int)
    · rw [if_pos h, if_pos h0, if_pos h]
      (first | rw [if_pos rfl] | rw [if_pos trivial])
      rw [wrap_id (by omega) (by omega)]
      exact ih k (i + 1) (by omega) (by omega) (by omega) (by omega)
    · rw [if_neg h]

theorem eqIntS_self (l : List Int) (hz : l.length ≤ 1048576) (k : Nat) (hk : 1048576 < k) : laws_eqIntS.f k l l = some true := by
  have hlen : l.length ≤ 1048576 := hz
  unfold laws_eqIntS.f
  rw [if_pos rfl, eqIntS_l l hz l.length k 0 (by omega) (by omega) (by omega) (by omega)]

theorem eqConfig_self (a0 : List Int) (a1 : Int) (ha0 : a0.length ≤ 1048576) (k : Nat) (hk : 1048576 < k) : laws_eqConfig.f k a0 a1 a0 a1 = some true := by
  unfold laws_eqConfig.f
  simp [eqIntS_self a0 ha0 k (by omega)]

theorem eqEra_self (a0 : List Int) (a1 : Bool) (a2 : Int) (ha0 : a0.length ≤ 1048576) (k : Nat) (hk : 1048576 < k) : laws_eqEra.f k a0 a1 a2 a0 a1 a2 = some true := by
  unfold laws_eqEra.f
  simp [eqIntS_self a0 ha0 k (by omega)]

theorem eqEraS_l (l : List S95) (hz : (l.length ≤ 1048576 ∧ ∀ e0 ∈ l, (e0.f0.length ≤ 1048576))) (d : Nat) : ∀ (k : Nat) (i : Int), 0 ≤ i → (l.length : Int) - i ≤ d → i ≤ l.length → d + 1048576 < k → laws_eqEraS.l0 k l l i = some true := by
  have hlen : l.length ≤ 1048576 := hz.1
  induction d with
  | zero =>
    intro k i h0 h1 h2 hk
    obtain ⟨k, rfl⟩ : ∃ m, k = m + 1 := ⟨k - 1, by omega⟩
    simp only [laws_eqEraS.l0]
    rw [if_neg (by omega)]
  | succ d ih =>
    intro k i h0 h1 h2 hk
    obtain ⟨k, rfl⟩ : ∃ m, k = m + 1 := ⟨k - 1, by omega⟩
    simp only [laws_eqEraS.l0]
    by_cases h : i < (l.length : Int)
    · rw [if_pos h, if_pos h0, if_pos h]
      have hg0 : (rd_T95 l i) = l[i.toNat]'(by omega) := by simp [rd_T95, List.getD_eq_getElem?_getD, List.getElem?_eq_getElem (show i.toNat < l.length by omega)]
      have he := hz.2 (l[i.toNat]'(by omega)) (List.getElem_mem _)
      rw [← hg0] at he
      rw [eqEra_self (rd_T95 l i).f0 (rd_T95 l i).f1 (rd_T95 l i).f2 he k (by omega)]
      simp only [Option.bind_some]
      (first | rw [if_pos rfl] | rw [if_pos trivial])
      rw [wrap_id (by omega) (by omega)]
      exact ih k (i + 1) (by omega) (by omega) (by omega) (by omega)
    · rw [if_neg h]

theorem eqEraS_self (l : List S95) (hz : (l.length ≤ 1048576 ∧ ∀ e0 ∈ l, (e0.f0.length ≤ 1048576))) (k : Nat) (hk : 2097152 < k) : laws_eqEraS.f k l l = some true := by
  have hlen : l.length ≤ 1048576 := hz.1
  unfold laws_eqEraS.f
  rw [if_pos rfl, eqEraS_l l hz l.length k 0 (by omega) (by omega) (by omega) (by omega)]

theorem eqRegister_self (a0 : List S95) (a1 : Int) (ha0 : (a0.length ≤ 1048576 ∧ ∀ e0 ∈ a0, (e0.f0.length ≤ 1048576))) (k : Nat) (hk : 2097152 < k) : laws_eqRegister.f k a0 a1 a0 a1 = some true := by
  unfold laws_eqRegister.f
  simp [eqEraS_self a0 ha0 k (by omega)]

theorem FnExactRegOk : Goal := by
  intro ds c l t hds _ hl ht
  refine ⟨9000000, ?_⟩
  unfold laws_FnExactRegOk.f
  obtain ⟨r, hr, _, hz⟩ := szConfig_ok ds c hds.1 1048576 (by omega) (by omega)
  rw [hr]
  simp only [Option.bind_some]
  by_cases hneg : r < 0
  · rw [if_pos hneg]
  have z := hz (by omega)
  rw [if_neg hneg]
  obtain ⟨r', hr', _, hz'⟩ := szRegister_ok l t ⟨hl.1, fun e he => (hl.2 e he).1.1⟩ r (by omega) (by omega) 9000000 (by omega)
  rw [hr']
  simp only [Option.bind_some]
  by_cases hneg' : r' < 0
  · rw [if_pos hneg']
  have z' := hz' (by omega)
  have hlen : (l.map cEra).length ≤ 1048576 ∧ ∀ e ∈ l.map cEra, e.f0.length ≤ 1048576 := ⟨by simpa using z'.1, fun e he => by obtain ⟨x, hx, rfl⟩ := List.mem_map.1 he; exact z'.2 x hx⟩
  rw [if_neg hneg', toConfig_is ds c z _ (by omega), toRegister_is l t z' _ (by omega)]
  simp only [Option.bind_some]
  rw [spec_RegOk_is ds c _ t (InR_of ht) z hlen _ (by omega), impl_RegOk_is ds c _ t (InR_of ht) z hlen _ (by omega)]
  simp only [Option.bind_some]
  rw [if_neg (by simp), eqConfig_self ds c z _ (by omega)]
  simp only [Option.bind_some, if_true]
  rw [eqRegister_self _ t hlen _ (by omega)]
  rfl

end Go.Proofs.Ytdkdhciogedoiab.Pure
