/- The program's WriterOk answers for each config and writer what the reference's answers, and leaves both as they were. No conditions. -/
import Derived.Test.YtdkdhciogedoiaaGFnExactWriterOk
namespace Go.Proofs.Ytdkdhciogedoiaa.Pure
open Go.RowKit Go.Proofs.Ytdkdhciogedoiaa.PFnExactWriterOk Go.Proofs.YtdkdhciogedoiaaW.PrintWords Go.Proofs.YtdkdhciogedoiaaW.PrintLast Go.Proofs.YtdkdhciogedoiaaW.Opn Go.Proofs.Ytdkdhciogedoiaa.GFnExactWriterOk
set_option linter.unusedVariables false
set_option linter.unusedSimpArgs false

theorem wrap_id {x : Int} (h0 : -9223372036854775808 ≤ x) (h1 : x ≤ 9223372036854775807) : wrap64 x = x := by
  unfold wrap64
  omega

/-- x lies between a and b. -/
def inB (x a b : Int) : Bool := decide (a ≤ x) && decide (x ≤ b)
theorem inB_true {x a b : Int} : inB x a b = true ↔ a ≤ x ∧ x ≤ b := by simp [inB]
/-- A config that is right: its domains, its copies. -/
def cfgOk (ds : List Int) (c : Int) : Bool := inB (ds.length : Int) 1 8 && inB c 1 4 && ds.all (fun d => inB d 0 7)
/-- Ascending numbers from lo to hi. -/
def Asc (l : List Int) (lo hi : Int) : Prop := ∀ i : Nat, i < l.length → (lo ≤ l.getD i 0 ∧ l.getD i 0 ≤ hi) ∧ (0 < i → l.getD (i - 1) 0 < l.getD i 0)
instance (l : List Int) (lo hi : Int) : Decidable (Asc l lo hi) := by unfold Asc; infer_instance
def nodesOk (ds : List Int) (c : Int) (l : List Int) : Bool := cfgOk ds c && decide (Asc l 0 ((ds.length : Int) - 1))
/-- The domains of nodes, each once, behind those that were met. -/
def domsOf (ds : List Int) : List Int → List Int → List Int
  | [], acc => acc
  | n :: l, acc => domsOf ds l (if acc.contains (rd ds n) then acc else acc ++ [rd ds n])
def spanOf (ds l : List Int) : Int := ((domsOf ds l []).length : Int)
def holdsB (ds : List Int) (c : Int) (l : List Int) : Bool := nodesOk ds c l && decide (c ≤ spanOf ds l)
theorem rd_nat (l : List Int) (i : Nat) : rd l (i : Int) = l.getD i 0 := by simp [rd]
theorem rd_drop (l : List Int) (i : Nat) (h : i < l.length) : l.drop i = rd l (i : Int) :: l.drop (i + 1) := by
  rw [List.drop_eq_getElem_cons h, rd_nat, List.getD_eq_getElem?_getD, List.getElem?_eq_getElem h]
  rfl
theorem cfgOk_len {ds : List Int} {c : Int} (h : cfgOk ds c = true) : 1 ≤ ds.length ∧ ds.length ≤ 8 ∧ 1 ≤ c ∧ c ≤ 4 ∧ ∀ d ∈ ds, 0 ≤ d ∧ d ≤ 7 := by
  simp only [cfgOk, Bool.and_eq_true, inB_true, List.all_eq_true] at h
  obtain ⟨⟨h1, h2⟩, h3⟩ := h
  exact ⟨by omega, by omega, h2.1, h2.2, h3⟩
theorem Asc_mem {l : List Int} {lo hi : Int} (h : Asc l lo hi) {x : Int} (hx : x ∈ l) : lo ≤ x ∧ x ≤ hi := by
  obtain ⟨i, hi', rfl⟩ := List.getElem_of_mem hx
  have := (h i hi').1
  rwa [List.getD_eq_getElem?_getD, List.getElem?_eq_getElem hi'] at this
/-- A whole number of 64 bits. -/
def InR (x : Int) : Prop := -9223372036854775808 ≤ x ∧ x ≤ 9223372036854775807
theorem InR_of {x : Int} (h : (Lit.int .i64 x).wf = true) : InR x := by
  simp [Lit.wf, IntKind.min, IntKind.max, IntKind.signed, IntKind.bits] at h
  exact ⟨by omega, by omega⟩
/-- A place: its epoch, its offset. -/
def placeOk (x : Int) : Bool := decide (0 < x) && (inB (x / 4294967296) 1 30 && inB (x % 4294967296) 1 60)
def epochOf (x : Int) : Int := if placeOk x = true then x / 4294967296 else 0
def offOf (x : Int) : Int := if placeOk x = true then x % 4294967296 else 0
def placeMake (e o : Int) : Int × Bool := if inB e 1 30 = true ∧ inB o 1 60 = true then (4294967296 * e + o, true) else (0, false)
theorem tdiv_pos {x : Int} (h : 0 ≤ x) : Int.tdiv x 4294967296 = x / 4294967296 := Int.tdiv_eq_ediv_of_nonneg h
theorem tmod_pos {x : Int} (h : 0 ≤ x) : Int.tmod x 4294967296 = x % 4294967296 := Int.tmod_eq_emod_of_nonneg h
theorem tdiv_neg' {x : Int} (h : x ≤ 0) : Int.tdiv x 4294967296 = -((-x) / 4294967296) := by
  have h1 : Int.tdiv (-x) 4294967296 = (-x) / 4294967296 := Int.tdiv_eq_ediv_of_nonneg (by omega)
  have h2 := Int.neg_tdiv (-x) 4294967296
  rw [Int.neg_neg] at h2
  rw [h2, h1]
theorem epochOf_pos {x : Int} (h : placeOk x = true) : epochOf x = x / 4294967296 ∧ 1 ≤ epochOf x ∧ epochOf x ≤ 30 := by
  have h' := h
  simp only [placeOk, Bool.and_eq_true, inB_true, decide_eq_true_eq] at h'
  unfold epochOf
  rw [if_pos h]
  omega

theorem szIntS_ok (l : List Int) (hl : l.length ≤ 9223372036854775807) (n : Int) (h0 : 0 ≤ n) (hn : n ≤ 1048576) : ∃ r, laws_szIntS.f l n = some r ∧ r ≤ n ∧ (0 ≤ r → l.length ≤ 1048576) := by
  unfold laws_szIntS.f
  rw [wrap_id (by omega) (by omega)]
  split
  · exact ⟨-1, rfl, by omega, fun h => by omega⟩
  · exact ⟨n - l.length, rfl, by omega, fun _ => by omega⟩

theorem szConfig_ok (a0 : List Int) (a1 : Int) (ha0 : a0.length ≤ 9223372036854775807) (n : Int) (h0 : 0 ≤ n) (hn : n ≤ 1048576) : ∃ r, laws_szConfig.f a0 a1 n = some r ∧ r ≤ n ∧ (0 ≤ r → a0.length ≤ 1048576) := by
  unfold laws_szConfig.f
  obtain ⟨r0, e0, m0, z0⟩ := szIntS_ok a0 ha0 n (by omega) (by omega)
  rw [e0]
  simp only [Option.bind_some]
  by_cases g0 : r0 < 0
  · rw [if_pos g0]
    exact ⟨-1, rfl, by omega, fun h => by omega⟩
  · rw [if_neg g0]
    exact ⟨r0, rfl, by omega, fun _ => (z0 (by omega))⟩

theorem szWord_ok (a0 : ByteArray) (a1 : List Int) (a2 : Bool) (ha0 : a0.size ≤ 9223372036854775807) (ha1 : a1.length ≤ 9223372036854775807) (n : Int) (h0 : 0 ≤ n) (hn : n ≤ 1048576) : ∃ r, laws_szWord.f a0 a1 a2 n = some r ∧ r ≤ n ∧ (0 ≤ r → a0.size ≤ 1048576 ∧ a1.length ≤ 1048576) := by
  unfold laws_szWord.f
  rw [wrap_id (by omega) (by omega)]
  by_cases g0 : n - (a0.size : Int) < 0
  · rw [if_pos g0]
    exact ⟨-1, rfl, by omega, fun h => by omega⟩
  · rw [if_neg g0]
    obtain ⟨r1, e1, m1, z1⟩ := szIntS_ok a1 ha1 (n - (a0.size : Int)) (by omega) (by omega)
    rw [e1]
    simp only [Option.bind_some]
    by_cases g1 : r1 < 0
    · rw [if_pos g1]
      exact ⟨-1, rfl, by omega, fun h => by omega⟩
    · rw [if_neg g1]
      exact ⟨r1, rfl, by omega, fun _ => ⟨(by omega), (z1 (by omega))⟩⟩

theorem szWordS_l (l : List S140) (hl : (l.length ≤ 9223372036854775807 ∧ ∀ e0 ∈ l, (e0.f0.size ≤ 9223372036854775807 ∧ e0.f1.length ≤ 9223372036854775807))) (d : Nat) : ∀ (k : Nat) (n i : Int), 0 ≤ n → n ≤ 1048576 → 0 ≤ i → (l.length : Int) - i ≤ d → i ≤ l.length → d + 1048576 < k → (∀ j : Nat, (j : Int) < i → ∀ x, l[j]? = some x → (x.f0.size ≤ 1048576 ∧ x.f1.length ≤ 1048576)) →
    ∃ r, laws_szWordS.l0 k l n i = some r ∧ r ≤ n ∧ (0 ≤ r → ∀ x ∈ l, (x.f0.size ≤ 1048576 ∧ x.f1.length ≤ 1048576)) := by
  induction d with
  | zero =>
    intro k n i hn0 hn h0 h1 h2 hk hj
    obtain ⟨k, rfl⟩ : ∃ m, k = m + 1 := ⟨k - 1, by omega⟩
    refine ⟨n, by simp only [laws_szWordS.l0]; rw [if_neg (by omega)], by omega, fun _ x hx => ?_⟩
    obtain ⟨j, hjl, rfl⟩ := List.getElem_of_mem hx
    exact hj j (by omega) _ (List.getElem?_eq_getElem hjl)
  | succ d ih =>
    intro k n i hn0 hn h0 h1 h2 hk hj
    obtain ⟨k, rfl⟩ : ∃ m, k = m + 1 := ⟨k - 1, by omega⟩
    simp only [laws_szWordS.l0]
    by_cases h : i < (l.length : Int)
    · rw [if_pos h, if_pos h0]
      have hg : (rd_T140 l i) = l[i.toNat]'(by omega) := by simp [rd_T140, List.getD_eq_getElem?_getD, List.getElem?_eq_getElem (show i.toNat < l.length by omega)]
      have he := hl.2 (l[i.toNat]'(by omega)) (List.getElem_mem _)
      rw [← hg] at he
      obtain ⟨r, hr, hrn, hz⟩ := szWord_ok (rd_T140 l i).f0 (rd_T140 l i).f1 (rd_T140 l i).f2 he.1 he.2 n hn0 hn
      rw [hr]
      simp only [Option.bind_some]
      by_cases hneg : r < 0
      · rw [if_pos hneg]
        exact ⟨-1, rfl, by omega, fun h => by omega⟩
      · rw [if_neg hneg, wrap_id (by have := hl.1; omega) (by have := hl.1; omega)]
        obtain ⟨r', hr', hrn', hz'⟩ := ih k r (i + 1) (by omega) (by omega) (by omega) (by omega) (by omega) (by omega) (by
          intro j hji x hx
          by_cases e : (j : Int) < i
          · exact hj j e x hx
          · have ej : j = i.toNat := by omega
            subst ej
            rw [List.getElem?_eq_getElem (show i.toNat < l.length by omega)] at hx
            cases hx
            rw [← hg]
            exact hz (by omega))
        exact ⟨r', hr', by omega, hz'⟩
    · rw [if_neg h]
      refine ⟨n, rfl, by omega, fun _ x hx => ?_⟩
      obtain ⟨j, hjl, rfl⟩ := List.getElem_of_mem hx
      exact hj j (by omega) _ (List.getElem?_eq_getElem hjl)

theorem szWordS_ok (l : List S140) (hl : (l.length ≤ 9223372036854775807 ∧ ∀ e0 ∈ l, (e0.f0.size ≤ 9223372036854775807 ∧ e0.f1.length ≤ 9223372036854775807))) (n : Int) (h0 : 0 ≤ n) (hn : n ≤ 1048576) (k : Nat) (hk : 2097152 < k) : ∃ r, laws_szWordS.f k l n = some r ∧ r ≤ n ∧ (0 ≤ r → (l.length ≤ 1048576 ∧ ∀ e0 ∈ l, (e0.f0.size ≤ 1048576 ∧ e0.f1.length ≤ 1048576))) := by
  unfold laws_szWordS.f
  rw [wrap_id (by have := hl.1; omega) (by have := hl.1; omega)]
  by_cases h : n - (l.length : Int) < 0
  · rw [if_pos h]
    exact ⟨-1, rfl, by omega, fun h => by omega⟩
  · rw [if_neg h]
    obtain ⟨r, hr, hrn, hz⟩ := szWordS_l l hl l.length k (n - l.length) 0 (by omega) (by omega) (by omega) (by omega) (by omega) (by omega) (fun j hj => by omega)
    exact ⟨r, hr, by omega, fun h => ⟨by omega, hz h⟩⟩

theorem szWriter_ok (a0 : Int) (a1 : List S140) (ha1 : (a1.length ≤ 9223372036854775807 ∧ ∀ e0 ∈ a1, (e0.f0.size ≤ 9223372036854775807 ∧ e0.f1.length ≤ 9223372036854775807))) (n : Int) (h0 : 0 ≤ n) (hn : n ≤ 1048576) (k : Nat) (hk : 2097152 < k) : ∃ r, laws_szWriter.f k a0 a1 n = some r ∧ r ≤ n ∧ (0 ≤ r → (a1.length ≤ 1048576 ∧ ∀ e0 ∈ a1, (e0.f0.size ≤ 1048576 ∧ e0.f1.length ≤ 1048576))) := by
  unfold laws_szWriter.f
  obtain ⟨r0, e0, m0, z0⟩ := szWordS_ok a1 ha1 n (by omega) (by omega) k (by omega)
  rw [e0]
  simp only [Option.bind_some]
  by_cases g0 : r0 < 0
  · rw [if_pos g0]
    exact ⟨-1, rfl, by omega, fun h => by omega⟩
  · rw [if_neg g0]
    exact ⟨r0, rfl, by omega, fun _ => (z0 (by omega))⟩

theorem spec_l1In_is (x a b : Int) : spec_l1In.f x a b = some (inB x a b) := by
  unfold spec_l1In.f inB
  by_cases h : x ≥ a
  · rw [if_pos h]; simp [show a ≤ x from h]
  · rw [if_neg h]; simp [show ¬ a ≤ x from h]

theorem spec_ConfigOk_l (ds : List Int) (c : Int) (hl : ds.length ≤ 1048576) (d : Nat) : ∀ (k i : Nat), i + d = ds.length → d < k → spec_ConfigOk.l0 k (i : Int) ds c = some ((ds.drop i).all (fun d => inB d 0 7)) := by
  induction d with
  | zero =>
    intro k i h hk
    obtain ⟨k, rfl⟩ : ∃ m, k = m + 1 := ⟨k - 1, by omega⟩
    simp only [spec_ConfigOk.l0]
    rw [if_neg (by omega), List.drop_eq_nil_of_le (by omega)]
    rfl
  | succ d ih =>
    intro k i h hk
    obtain ⟨k, rfl⟩ : ∃ m, k = m + 1 := ⟨k - 1, by omega⟩
    simp only [spec_ConfigOk.l0]
    rw [if_pos (by omega), if_pos (by omega), spec_l1In_is, rd_drop ds i (by omega), List.all_cons]
    simp only [Option.bind_some]
    cases inB (rd ds i) 0 7 with
    | false => rfl
    | true =>
      simp only [if_true, Bool.true_and]
      rw [wrap_id (by omega) (by omega)]
      exact ih k (i + 1) (by omega) (by omega)

theorem spec_ConfigOk_is (ds : List Int) (c : Int) (hl : ds.length ≤ 1048576) (k : Nat) (hk : 1048577 < k) : spec_ConfigOk.f k ds c = some (cfgOk ds c) := by
  obtain ⟨k, rfl⟩ : ∃ m, k = m + 1 := ⟨k - 1, by omega⟩
  have hl0 := spec_ConfigOk_l ds c hl ds.length k 0 (by omega) (by omega)
  rw [List.drop_zero] at hl0
  unfold spec_ConfigOk.f cfgOk
  rw [spec_l1In_is, spec_l1In_is]
  simp only [Option.bind_some, spec_ConfigOk.j0]
  have hl0' : spec_ConfigOk.l0 k 0 ds c = some (ds.all fun d => inB d 0 7) := hl0
  rw [hl0']
  cases inB (ds.length : Int) 1 8 <;> cases inB c 1 4 <;> simp

theorem spec_l4Asc_l (l : List Int) (lo hi : Int) (hl : l.length ≤ 1048576) (d : Nat) : ∀ (k i : Nat), i + d = l.length → d < k → (∀ j, j < i → (lo ≤ l.getD j 0 ∧ l.getD j 0 ≤ hi) ∧ (0 < j → l.getD (j - 1) 0 < l.getD j 0)) → spec_l4Asc.l0 k l lo hi (i : Int) = some (decide (Asc l lo hi)) := by
  induction d with
  | zero =>
    intro k i h hk hj
    obtain ⟨k, rfl⟩ : ∃ m, k = m + 1 := ⟨k - 1, by omega⟩
    simp only [spec_l4Asc.l0]
    rw [if_neg (by omega), decide_eq_true (show Asc l lo hi from fun j hjl => hj j (by omega))]
  | succ d ih =>
    intro k i h hk hj
    obtain ⟨k, rfl⟩ : ∃ m, k = m + 1 := ⟨k - 1, by omega⟩
    simp only [spec_l4Asc.l0]
    rw [if_pos (by omega), if_pos (by omega), spec_l1In_is, rd_nat]
    simp only [Option.bind_some]
    by_cases hb : inB (l.getD i 0) lo hi = true
    · rw [if_pos hb]
      rw [inB_true] at hb
      by_cases h0 : (i : Int) > 0
      · rw [if_pos h0, wrap_id (by omega) (by omega), if_pos (by omega), if_pos (by omega), show ((i : Int) - 1) = ((i - 1 : Nat) : Int) by omega, rd_nat]
        by_cases hg : l.getD (i - 1) 0 ≥ l.getD i 0
        · rw [if_pos hg, decide_eq_false (fun ha : Asc l lo hi => by have := (ha i (by omega)).2 (by omega); omega)]
        · rw [if_neg hg, wrap_id (by omega) (by omega)]
          refine ih k (i + 1) (by omega) (by omega) (fun j hji => ?_)
          by_cases e : j = i
          · subst e; exact ⟨hb, fun _ => by omega⟩
          · exact hj j (by omega)
      · rw [if_neg h0, wrap_id (by omega) (by omega)]
        refine ih k (i + 1) (by omega) (by omega) (fun j hji => ?_)
        by_cases e : j = i
        · subst e; exact ⟨hb, fun _ => by omega⟩
        · exact hj j (by omega)
    · rw [if_neg hb, decide_eq_false (fun ha : Asc l lo hi => hb (inB_true.2 (ha i (by omega)).1))]

theorem spec_l4Asc_is (l : List Int) (lo hi : Int) (hl : l.length ≤ 1048576) (k : Nat) (hk : 1048576 < k) : spec_l4Asc.f k l lo hi = some (decide (Asc l lo hi)) := by
  unfold spec_l4Asc.f
  exact spec_l4Asc_l l lo hi hl l.length k 0 (by omega) (by omega) (fun j h => by omega)

theorem spec_NodesOk_is (ds : List Int) (c : Int) (l : List Int) (hd : ds.length ≤ 1048576) (hl : l.length ≤ 1048576) (k : Nat) (hk : 1048577 < k) : spec_NodesOk.f k ds c l = some (nodesOk ds c l) := by
  unfold spec_NodesOk.f nodesOk
  rw [spec_ConfigOk_is ds c hd k hk, wrap_id (by omega) (by omega), spec_l4Asc_is l _ _ hl k (by omega)]
  cases cfgOk ds c <;> simp

/-- What the marks of domains tell: just those that were met. -/
theorem spec_l4Span_l (ds : List Int) (c : Int) (l : List Int) (hd8 : ds.length ≤ 8) (hdom : ∀ d ∈ ds, 0 ≤ d ∧ d ≤ 7) (hl : l.length ≤ 1048576) (hmem : ∀ n ∈ l, 0 ≤ n ∧ n < (ds.length : Int)) (d : Nat) :
    ∀ (k i : Nat) (seen : List Bool) (acc : List Int), i + d = l.length → d < k → seen.length = 8 → (acc.length : Int) ≤ i → (∀ x : Int, 0 ≤ x → x ≤ 7 → (rdOf false seen x = acc.contains x)) →
    spec_l4Span.l0 k l seen (acc.length : Int) (i : Int) ds c = some ((domsOf ds (l.drop i) acc).length : Int) := by
  induction d with
  | zero =>
    intro k i seen acc h hk hs ha hx
    obtain ⟨k, rfl⟩ : ∃ m, k = m + 1 := ⟨k - 1, by omega⟩
    simp only [spec_l4Span.l0]
    rw [if_neg (by omega), List.drop_eq_nil_of_le (by omega)]
    rfl
  | succ d ih =>
    intro k i seen acc h hk hs ha hx
    obtain ⟨k, rfl⟩ : ∃ m, k = m + 1 := ⟨k - 1, by omega⟩
    have hi : i < l.length := by omega
    have hin : rd l (i : Int) ∈ l := by
      rw [rd_nat, List.getD_eq_getElem?_getD, List.getElem?_eq_getElem hi]
      exact List.getElem_mem _
    have hn := hmem _ hin
    have hdn : rd ds (rd l (i : Int)) ∈ ds := by
      have hlt : (rd l (i : Int)).toNat < ds.length := by omega
      unfold rd
      unfold rd at hlt
      rw [List.getD_eq_getElem?_getD, List.getElem?_eq_getElem hlt]
      exact List.getElem_mem _
    have hv := hdom _ hdn
    simp only [spec_l4Span.l0]
    rw [if_pos (by omega), if_pos (by omega), if_pos hn.1, if_pos hn.2, if_pos hv.1, if_pos (by omega), hx _ hv.1 hv.2, rd_drop l i hi]
    simp only [domsOf]
    rw [wrap_id (show -9223372036854775808 ≤ (i : Int) + 1 by omega) (by omega)]
    by_cases hc : acc.contains (rd ds (rd l (i : Int))) = true
    · rw [if_pos hc, if_pos hc]
      exact ih k (i + 1) seen acc (by omega) (by omega) hs (by omega) hx
    · rw [if_neg hc, if_neg hc, wrap_id (by omega) (by omega)]
      have := ih k (i + 1) (seen.set (rd ds (rd l (i : Int))).toNat true) (acc ++ [rd ds (rd l (i : Int))]) (by omega) (by omega) (by simp [hs]) (by simp; omega) (by
        intro x h0 h7
        by_cases e : x = rd ds (rd l (i : Int))
        · subst e
          simp [rdOf, List.getD_eq_getElem?_getD, List.getElem?_set, hs, show (rd ds (rd l (i : Int))).toNat < 8 by omega]
        · have he : (rd ds (rd l (i : Int))).toNat ≠ x.toNat := by omega
          have := hx x h0 h7
          simp only [rdOf] at this ⊢
          rw [List.getD_eq_getElem?_getD, List.getElem?_set, if_neg he, ← List.getD_eq_getElem?_getD, this]
          simp [e])
      simpa using this

theorem spec_l4Span_is (ds : List Int) (c : Int) (l : List Int) (hok : nodesOk ds c l = true) (hl : l.length ≤ 1048576) (k : Nat) (hk : 1048577 < k) : spec_l4Span.f k ds c l = some (spanOf ds l) := by
  simp only [nodesOk, Bool.and_eq_true, decide_eq_true_eq] at hok
  obtain ⟨h1, h2, _, _, h5⟩ := cfgOk_len hok.1
  unfold spec_l4Span.f
  rw [if_pos (by decide)]
  have := spec_l4Span_l ds c l h2 h5 hl (fun n hn => by have := Asc_mem hok.2 hn; omega) l.length k 0 (List.replicate 8 false) [] (by omega) (by omega) (by simp) (by simp) (by
    intro x h0 h7
    unfold rdOf
    rw [List.getD_eq_getElem?_getD, List.getElem?_replicate, if_pos (by omega)]
    rfl)
  simpa [spanOf] using this

theorem spec_Holds_is (ds : List Int) (c : Int) (l : List Int) (hd : ds.length ≤ 1048576) (hl : l.length ≤ 1048576) (k : Nat) (hk : 1048577 < k) : spec_Holds.f k ds c l = some (holdsB ds c l) := by
  unfold spec_Holds.f holdsB
  rw [spec_NodesOk_is ds c l hd hl k hk]
  simp only [Option.bind_some]
  by_cases h : nodesOk ds c l = true
  · rw [if_pos h, spec_l4Span_is ds c l h hl k hk, h]
    simp
  · rw [if_neg h]
    simp [h]

/-- A word that is right. -/
def wordOk (ds : List Int) (c : Int) (x : S53) : Bool := decide ((x.f0.size : Int) ≤ 40) && (nodesOk ds c x.f1 && (holdsB ds c x.f1 == x.f2))
/-- How many words are not done. -/
def openOf : List S53 → Int
  | [] => 0
  | x :: l => (if x.f2 = true then 0 else 1) + openOf l
theorem openOf_bd (l : List S53) : 0 ≤ openOf l ∧ openOf l ≤ l.length := by
  induction l with
  | nil => simp [openOf]
  | cons x l ih => simp only [openOf, List.length_cons]; split <;> omega
def le6 (x : Int) : Bool := decide (x ≤ 6)
theorem le6_f : (∀ n : Int, n > 6 → le6 n = false) ∧ (∀ n : Int, n ≤ 6 → le6 n = true) := ⟨fun n h => decide_eq_false (by omega), fun n h => decide_eq_true h⟩
theorem openOf_t {x : S53} {l : List S53} (h : x.f2 = true) : openOf (x :: l) = openOf l := by
  rw [openOf, if_pos h]
  omega
theorem openOf_n {x : S53} {l : List S53} (h : x.f2 = false) : openOf (x :: l) = 1 + openOf l := by
  rw [openOf, h, if_neg (by decide)]
def writerOk (ds : List Int) (c ep : Int) (l : List S53) : Bool := cfgOk ds c && inB ep 1 30 && decide ((l.length : Int) ≤ 60) && l.all (wordOk ds c) && le6 (openOf l)
theorem drop_rdT_Word (l : List S53) (i : Nat) (h : i < l.length) : l.drop i = rd_T53 l (i : Int) :: l.drop (i + 1) := by
  rw [List.drop_eq_getElem_cons h]
  simp [rd_T53, List.getD_eq_getElem?_getD, List.getElem?_eq_getElem h]
theorem rdT_Word_mem (l : List S53) (i : Nat) (h : i < l.length) : rd_T53 l (i : Int) ∈ l := by
  simp [rd_T53, List.getD_eq_getElem?_getD, List.getElem?_eq_getElem h]
theorem spec_WriterOk_l (ds : List Int) (c ep : Int) (l : List S53) (hd : ds.length ≤ 1048576) (hl : l.length ≤ 1048576 ∧ ∀ e ∈ l, e.f0.size ≤ 1048576 ∧ e.f1.length ≤ 1048576) (d : Nat) : ∀ (k i : Nat) (n : Int), i + d = l.length → 2 * d + 1048577 < k → 0 ≤ n → n ≤ i →
    spec_WriterOk.l0 k n (i : Int) ds c ep l = some ((l.drop i).all (wordOk ds c) && le6 (n + openOf (l.drop i))) := by
  induction d with
  | zero =>
    intro k i n h hk h0 h1
    obtain ⟨k, rfl⟩ : ∃ m, k = m + 1 := ⟨k - 1, by omega⟩
    simp only [spec_WriterOk.l0]
    rw [if_neg (by omega), List.drop_eq_nil_of_le (by omega)]
    simp only [List.all_nil, openOf, Bool.true_and, Int.add_zero]
    by_cases h6 : n ≤ 6
    · rw [le6_f.2 n h6]
      simp [h6]
    · rw [le6_f.1 n (by omega)]
      simp [h6]
  | succ d ih =>
    intro k i n h hk h0 h1
    obtain ⟨k, rfl⟩ : ∃ m, k = m + 2 := ⟨k - 2, by omega⟩
    have hz := hl.2 _ (rdT_Word_mem l i (by omega))
    simp only [spec_WriterOk.l0, spec_WriterOk.j2]
    rw [if_pos (by omega), if_pos (by omega), spec_NodesOk_is ds c _ hd hz.2 _ (by omega), spec_Holds_is ds c _ hd hz.2 _ (by omega), drop_rdT_Word l i (by omega), List.all_cons]
    simp only [Option.bind_some, wordOk]
    generalize rd_T53 l (i : Int) = x
    have i1 := ih k (i + 1) n (by omega) (by omega) h0 (by omega)
    have i2 := ih k (i + 1) (n + 1) (by omega) (by omega) (by omega) (by omega)
    rw [wrap_id (show -9223372036854775808 ≤ (i : Int) + 1 by omega) (by omega), wrap_id (show -9223372036854775808 ≤ n + 1 by omega) (by omega), show (i : Int) + 1 = ((i + 1 : Nat) : Int) from rfl, i1, i2]
    by_cases hs : (x.f0.size : Int) > 40
    · rw [if_pos hs, decide_eq_false (show ¬ ((x.f0.size : Int) ≤ 40) by omega)]
      simp
    · rw [if_neg hs, decide_eq_true (show (x.f0.size : Int) ≤ 40 by omega)]
      cases hx : x.f2 with
      | true =>
        rw [openOf_t hx]
        cases nodesOk ds c x.f1 <;> cases holdsB ds c x.f1 <;> simp
      | false =>
        rw [openOf_n hx, show n + (1 + openOf (l.drop (i + 1))) = n + 1 + openOf (l.drop (i + 1)) by omega]
        cases nodesOk ds c x.f1 <;> cases holdsB ds c x.f1 <;> simp
theorem spec_WriterOk_is (ds : List Int) (c ep : Int) (l : List S53) (hd : ds.length ≤ 1048576) (hl : l.length ≤ 1048576 ∧ ∀ e ∈ l, e.f0.size ≤ 1048576 ∧ e.f1.length ≤ 1048576) (k : Nat) (hk : 3145731 < k) :
    spec_WriterOk.f k ds c ep l = some (writerOk ds c ep l) := by
  obtain ⟨k, rfl⟩ : ∃ m, k = m + 1 := ⟨k - 1, by omega⟩
  have h := spec_WriterOk_l ds c ep l hd hl l.length k 0 0 (by omega) (by omega) (by omega) (by omega)
  rw [List.drop_zero, show ((0 : Nat) : Int) = 0 from rfl] at h
  unfold spec_WriterOk.f writerOk
  rw [spec_ConfigOk_is ds c hd _ (by omega), spec_l1In_is]
  simp only [Option.bind_some, spec_WriterOk.j0]
  rw [h]
  by_cases hs : (l.length : Int) > 60
  · rw [decide_eq_true hs, decide_eq_false (show ¬ ((l.length : Int) ≤ 60) by omega)]
    cases cfgOk ds c <;> cases inB ep 1 30 <;> simp
  · rw [decide_eq_false hs, decide_eq_true (show ((l.length : Int) ≤ 60) by omega)]
    cases cfgOk ds c <;> cases inB ep 1 30 <;> simp

theorem toIntS_l (l : List Int) (hz : l.length ≤ 1048576) (d : Nat) : ∀ (k : Nat) (ys : List Int) (i : Int), 0 ≤ i → (l.length : Int) - i ≤ d → i ≤ l.length → d + 0 < k → ys.length = l.length → (∀ j : Nat, (j : Int) < i → ys[j]? = (l)[j]?) →
    laws_toIntS.l0 k l ys i = some l := by
  have hlen : l.length ≤ 1048576 := hz
  induction d with
  | zero =>
    intro k ys i h0 h1 h2 hk hy hj
    obtain ⟨k, rfl⟩ : ∃ m, k = m + 1 := ⟨k - 1, by omega⟩
    simp only [laws_toIntS.l0]
    rw [if_neg (by omega)]
    congr 1
    apply List.ext_getElem?
    intro j
    by_cases h : j < l.length
    · exact hj j (by omega)
    · rw [List.getElem?_eq_none (by omega), List.getElem?_eq_none (by first | omega | (simp; omega))]
  | succ d ih =>
    intro k ys i h0 h1 h2 hk hy hj
    obtain ⟨k, rfl⟩ : ∃ m, k = m + 1 := ⟨k - 1, by omega⟩
    simp only [laws_toIntS.l0]
    by_cases h : i < (l.length : Int)
    · rw [if_pos h, if_pos h0, if_pos (by omega), wrap_id (by omega) (by omega)]
      refine ih k _ (i + 1) (by omega) (by omega) (by omega) (by omega) (by simp [hy]) ?_
      intro j hji
      rw [List.getElem?_set]
      by_cases e : i.toNat = j
      · subst e
        rw [if_pos rfl, if_pos (by omega)]
        simp [rd, List.getD_eq_getElem?_getD, List.getElem?_eq_getElem (show i.toNat < l.length by omega)]
      · rw [if_neg e]
        exact hj j (by omega)
    · rw [if_neg h]
      congr 1
      apply List.ext_getElem?
      intro j
      by_cases h : j < l.length
      · exact hj j (by omega)
      · rw [List.getElem?_eq_none (by omega), List.getElem?_eq_none (by first | omega | (simp; omega))]

theorem toIntS_is (l : List Int) (hz : l.length ≤ 1048576) (k : Nat) (hk : 1048576 < k) : laws_toIntS.f k l = some l := by
  have hlen : l.length ≤ 1048576 := hz
  unfold laws_toIntS.f
  rw [if_pos (by omega), if_pos (by omega), toIntS_l l hz l.length k _ 0 (by omega) (by omega) (by omega) (by omega) (by simp) (fun j h => by omega)]

theorem toConfig_is (a0 : List Int) (a1 : Int) (ha0 : a0.length ≤ 1048576) (k : Nat) (hk : 1048576 < k) : laws_toConfig.f k a0 a1 = some (a0, a1) := by
  unfold laws_toConfig.f
  rw [toIntS_is a0 ha0 k (by omega)]
  simp only [Option.bind_some]

def cWord (x : S140) : S53 := ⟨x.f0, x.f1, x.f2⟩

theorem toWord_is (a0 : ByteArray) (a1 : List Int) (a2 : Bool) (ha0 : a0.size ≤ 1048576) (ha1 : a1.length ≤ 1048576) (k : Nat) (hk : 1048576 < k) : laws_toWord.f k a0 a1 a2 = some (a0, a1, a2) := by
  unfold laws_toWord.f
  rw [toIntS_is a1 ha1 k (by omega)]
  simp only [Option.bind_some]

theorem toWordS_l (l : List S140) (hz : (l.length ≤ 1048576 ∧ ∀ e0 ∈ l, (e0.f0.size ≤ 1048576 ∧ e0.f1.length ≤ 1048576))) (d : Nat) : ∀ (k : Nat) (ys : List S53) (i : Int), 0 ≤ i → (l.length : Int) - i ≤ d → i ≤ l.length → d + 1048576 < k → ys.length = l.length → (∀ j : Nat, (j : Int) < i → ys[j]? = ((l.map cWord))[j]?) →
    laws_toWordS.l0 k l ys i = some (l.map cWord) := by
  have hlen : l.length ≤ 1048576 := hz.1
  induction d with
  | zero =>
    intro k ys i h0 h1 h2 hk hy hj
    obtain ⟨k, rfl⟩ : ∃ m, k = m + 1 := ⟨k - 1, by omega⟩
    simp only [laws_toWordS.l0]
    rw [if_neg (by omega)]
    congr 1
    apply List.ext_getElem?
    intro j
    by_cases h : j < l.length
    · exact hj j (by omega)
    · rw [List.getElem?_eq_none (by omega), List.getElem?_eq_none (by first | omega | (simp; omega))]
  | succ d ih =>
    intro k ys i h0 h1 h2 hk hy hj
    obtain ⟨k, rfl⟩ : ∃ m, k = m + 1 := ⟨k - 1, by omega⟩
    simp only [laws_toWordS.l0]
    by_cases h : i < (l.length : Int)
    · rw [if_pos h, if_pos h0]
      have hg0 : (rd_T140 l i) = l[i.toNat]'(by omega) := by simp [rd_T140, List.getD_eq_getElem?_getD, List.getElem?_eq_getElem (show i.toNat < l.length by omega)]
      have he := hz.2 (l[i.toNat]'(by omega)) (List.getElem_mem _)
      rw [← hg0] at he
      rw [toWord_is (rd_T140 l i).f0 (rd_T140 l i).f1 (rd_T140 l i).f2 he.1 he.2 k (by omega)]
      simp only [Option.bind_some]
      rw [if_pos (by omega), wrap_id (by omega) (by omega)]
      refine ih k _ (i + 1) (by omega) (by omega) (by omega) (by omega) (by simp [hy]) ?_
      intro j hji
      rw [List.getElem?_set]
      by_cases e : i.toNat = j
      · subst e
        rw [if_pos rfl, if_pos (by omega)]
        simp [rd_T140, cWord, List.getD_eq_getElem?_getD, List.getElem?_eq_getElem (show i.toNat < l.length by omega)]
      · rw [if_neg e]
        exact hj j (by omega)
    · rw [if_neg h]
      congr 1
      apply List.ext_getElem?
      intro j
      by_cases h : j < l.length
      · exact hj j (by omega)
      · rw [List.getElem?_eq_none (by omega), List.getElem?_eq_none (by first | omega | (simp; omega))]

theorem toWordS_is (l : List S140) (hz : (l.length ≤ 1048576 ∧ ∀ e0 ∈ l, (e0.f0.size ≤ 1048576 ∧ e0.f1.length ≤ 1048576))) (k : Nat) (hk : 2097152 < k) : laws_toWordS.f k l = some (l.map cWord) := by
  have hlen : l.length ≤ 1048576 := hz.1
  unfold laws_toWordS.f
  rw [if_pos (by omega), if_pos (by omega), toWordS_l l hz l.length k _ 0 (by omega) (by omega) (by omega) (by omega) (by simp) (fun j h => by omega)]

theorem toWriter_is (a0 : Int) (a1 : List S140) (ha1 : (a1.length ≤ 1048576 ∧ ∀ e0 ∈ a1, (e0.f0.size ≤ 1048576 ∧ e0.f1.length ≤ 1048576))) (k : Nat) (hk : 2097152 < k) : laws_toWriter.f k a0 a1 = some (a0, (a1.map cWord)) := by
  unfold laws_toWriter.f
  rw [toWordS_is a1 ha1 k (by omega)]
  simp only [Option.bind_some]

theorem impl_dataOk_is (s : ByteArray) : impl_dataOk.f s = some (decide ((s.size : Int) ≤ 40)) := rfl

theorem impl_within_is (x a b : Int) : impl_within.f x a b = some (inB x a b) := by
  unfold impl_within.f inB
  by_cases h : x ≥ a
  · rw [if_pos h]; simp [show a ≤ x from h]
  · rw [if_neg h]; simp [show ¬ a ≤ x from h]

theorem impl_ConfigOk_l (ds : List Int) (c : Int) (hl : ds.length ≤ 1048576) (d : Nat) : ∀ (k i : Nat), i + d = ds.length → d < k → impl_ConfigOk.l0 k ds (ds.length : Int) (i : Int) ds c = some ((ds.drop i).all (fun d => inB d 0 7) && inB (ds.length : Int) 1 8 && inB c 1 4) := by
  induction d with
  | zero =>
    intro k i h hk
    obtain ⟨k, rfl⟩ : ∃ m, k = m + 1 := ⟨k - 1, by omega⟩
    simp only [impl_ConfigOk.l0]
    rw [if_neg (by omega), List.drop_eq_nil_of_le (by omega), impl_within_is, impl_within_is]
    cases inB (ds.length : Int) 1 8 <;> simp
  | succ d ih =>
    intro k i h hk
    obtain ⟨k, rfl⟩ : ∃ m, k = m + 1 := ⟨k - 1, by omega⟩
    simp only [impl_ConfigOk.l0]
    rw [if_pos (by omega), if_pos (by omega), if_pos (by omega), impl_within_is, rd_drop ds i (by omega), List.all_cons]
    simp only [Option.bind_some]
    cases inB (rd ds i) 0 7 with
    | false => rfl
    | true =>
      simp only [if_true, Bool.true_and]
      rw [wrap_id (by omega) (by omega)]
      exact ih k (i + 1) (by omega) (by omega)

theorem impl_ConfigOk_is (ds : List Int) (c : Int) (hl : ds.length ≤ 1048576) (k : Nat) (hk : 1048577 < k) : impl_ConfigOk.f k ds c = some (cfgOk ds c) := by
  unfold impl_ConfigOk.f
  have h := impl_ConfigOk_l ds c hl ds.length k 0 (by omega) (by omega)
  rw [List.drop_zero] at h
  rw [show (0 : Int) = ((0 : Nat) : Int) from rfl, h]
  unfold cfgOk
  cases inB (ds.length : Int) 1 8 <;> cases inB c 1 4 <;> simp

theorem impl_ascends_l (l : List Int) (hi : Int) (hl : l.length ≤ 1048576) (d : Nat) : ∀ (k i : Nat), i + d = l.length → d < k → (∀ j, j < i → (0 ≤ l.getD j 0 ∧ l.getD j 0 ≤ hi) ∧ (0 < j → l.getD (j - 1) 0 < l.getD j 0)) → impl_ascends.l0 k l hi l (l.length : Int) (i : Int) = some (decide (Asc l 0 hi)) := by
  induction d with
  | zero =>
    intro k i h hk hj
    obtain ⟨k, rfl⟩ : ∃ m, k = m + 1 := ⟨k - 1, by omega⟩
    simp only [impl_ascends.l0]
    rw [if_neg (by omega), decide_eq_true (show Asc l 0 hi from fun j hjl => hj j (by omega))]
  | succ d ih =>
    intro k i h hk hj
    obtain ⟨k, rfl⟩ : ∃ m, k = m + 1 := ⟨k - 1, by omega⟩
    simp only [impl_ascends.l0]
    rw [if_pos (by omega), if_pos (by omega), if_pos (by omega), impl_within_is, rd_nat]
    simp only [Option.bind_some]
    by_cases hb : inB (l.getD i 0) 0 hi = true
    · rw [if_pos hb]
      rw [inB_true] at hb
      by_cases h0 : (i : Int) > 0
      · rw [if_pos h0, wrap_id (by omega) (by omega), if_pos (by omega), if_pos (by omega), show ((i : Int) - 1) = ((i - 1 : Nat) : Int) by omega, rd_nat]
        by_cases hg : l.getD (i - 1) 0 ≥ l.getD i 0
        · rw [if_pos hg, decide_eq_false (fun ha : Asc l 0 hi => by have := (ha i (by omega)).2 (by omega); omega)]
        · rw [if_neg hg, wrap_id (by omega) (by omega)]
          refine ih k (i + 1) (by omega) (by omega) (fun j hji => ?_)
          by_cases e : j = i
          · subst e; exact ⟨hb, fun _ => by omega⟩
          · exact hj j (by omega)
      · rw [if_neg h0, wrap_id (by omega) (by omega)]
        refine ih k (i + 1) (by omega) (by omega) (fun j hji => ?_)
        by_cases e : j = i
        · subst e; exact ⟨hb, fun _ => by omega⟩
        · exact hj j (by omega)
    · rw [if_neg hb, decide_eq_false (fun ha : Asc l 0 hi => hb (inB_true.2 (ha i (by omega)).1))]

theorem impl_ascends_is (l : List Int) (hi : Int) (hl : l.length ≤ 1048576) (k : Nat) (hk : 1048576 < k) : impl_ascends.f k l hi = some (decide (Asc l 0 hi)) := by
  unfold impl_ascends.f
  exact impl_ascends_l l hi hl l.length k 0 (by omega) (by omega) (fun j h => by omega)

theorem impl_NodesOk_is (ds : List Int) (c : Int) (l : List Int) (hd : ds.length ≤ 1048576) (hl : l.length ≤ 1048576) (k : Nat) (hk : 1048577 < k) : impl_NodesOk.f k ds c l = some (nodesOk ds c l) := by
  unfold impl_NodesOk.f nodesOk
  rw [impl_ConfigOk_is ds c hd k hk, wrap_id (by omega) (by omega), impl_ascends_is l _ hl k (by omega)]
  cases cfgOk ds c <;> simp

theorem slices_Index_l (l : List Int) (x : Int) (hl : l.length ≤ 1048576) (d : Nat) : ∀ (k i : Nat), i + d = l.length → d < k → ∃ r : Int, slices_Index_int_int.l0 k l x (l.length : Int) (i : Int) = some r ∧ (decide (r ≥ 0) = (l.drop i).contains x) := by
  induction d with
  | zero =>
    intro k i h hk
    obtain ⟨k, rfl⟩ : ∃ m, k = m + 1 := ⟨k - 1, by omega⟩
    simp only [slices_Index_int_int.l0]
    rw [if_neg (by omega), List.drop_eq_nil_of_le (by omega)]
    exact ⟨-1, rfl, rfl⟩
  | succ d ih =>
    intro k i h hk
    obtain ⟨k, rfl⟩ : ∃ m, k = m + 1 := ⟨k - 1, by omega⟩
    simp only [slices_Index_int_int.l0]
    rw [if_pos (by omega), if_pos (by omega), if_pos (by omega), rd_drop l i (by omega)]
    by_cases hx : x = rd l (i : Int)
    · rw [if_pos hx]
      exact ⟨i, rfl, by simp [hx]⟩
    · rw [if_neg hx, wrap_id (by omega) (by omega)]
      obtain ⟨r, hr, hd⟩ := ih k (i + 1) (by omega) (by omega)
      exact ⟨r, hr, by rw [hd]; simp [hx]⟩

theorem slices_Contains_is (l : List Int) (x : Int) (hl : l.length ≤ 1048576) (k : Nat) (hk : 1048576 < k) : slices_Contains_int_int.f k l x = some (l.contains x) := by
  unfold slices_Contains_int_int.f slices_Index_int_int.f
  obtain ⟨r, hr, hd⟩ := slices_Index_l l x hl l.length k 0 (by omega) (by omega)
  rw [show (0 : Int) = ((0 : Nat) : Int) from rfl, hr]
  simp only [Option.bind_some]
  rw [show ((0 : Nat) : Int) = 0 from rfl, hd, List.drop_zero]

theorem impl_SpanOf_l (ds : List Int) (c : Int) (l : List Int) (hl : l.length ≤ 1048576) (hmem : ∀ n ∈ l, 0 ≤ n ∧ n < (ds.length : Int)) (d : Nat) :
    ∀ (k i : Nat) (acc : List Int), i + d = l.length → d + 1048576 < k → acc.length ≤ i → impl_SpanOf.l0 k acc l (l.length : Int) (i : Int) ds c = some ((domsOf ds (l.drop i) acc).length : Int) := by
  induction d with
  | zero =>
    intro k i acc h hk ha
    obtain ⟨k, rfl⟩ : ∃ m, k = m + 1 := ⟨k - 1, by omega⟩
    simp only [impl_SpanOf.l0]
    rw [if_neg (by omega), List.drop_eq_nil_of_le (by omega)]
    rfl
  | succ d ih =>
    intro k i acc h hk ha
    obtain ⟨k, rfl⟩ : ∃ m, k = m + 1 := ⟨k - 1, by omega⟩
    have hi : i < l.length := by omega
    have hin : rd l (i : Int) ∈ l := by
      rw [rd_nat, List.getD_eq_getElem?_getD, List.getElem?_eq_getElem hi]
      exact List.getElem_mem _
    have hn := hmem _ hin
    simp only [impl_SpanOf.l0]
    rw [if_pos (by omega), if_pos (by omega), if_pos (by omega), if_pos hn.1, if_pos hn.2, slices_Contains_is acc _ (by omega) k (by omega), rd_drop l i hi]
    simp only [Option.bind_some, domsOf]
    rw [wrap_id (show -9223372036854775808 ≤ (i : Int) + 1 by omega) (by omega)]
    by_cases hc : acc.contains (rd ds (rd l (i : Int))) = true
    · rw [if_pos hc, if_pos hc]
      exact ih k (i + 1) acc (by omega) (by omega) (by omega)
    · rw [if_neg hc, if_neg hc, if_pos (by omega)]
      exact ih k (i + 1) _ (by omega) (by omega) (by simp; omega)

theorem impl_SpanOf_is (ds : List Int) (c : Int) (l : List Int) (hd : ds.length ≤ 1048576) (hl : l.length ≤ 1048576) (k : Nat) (hk : 2097153 < k) : impl_SpanOf.f k ds c l = some (if nodesOk ds c l = true then spanOf ds l else -1) := by
  unfold impl_SpanOf.f
  rw [impl_NodesOk_is ds c l hd hl k (by omega)]
  simp only [Option.bind_some]
  by_cases h : nodesOk ds c l = true
  · rw [if_pos h, if_pos h]
    have h' := h
    simp only [nodesOk, Bool.and_eq_true, decide_eq_true_eq] at h'
    have := impl_SpanOf_l ds c l hl (fun n hn => by have := Asc_mem h'.2 hn; omega) l.length k 0 [] (by omega) (by omega) (by simp)
    simpa [spanOf] using this
  · rw [if_neg h, if_neg h]

theorem impl_Holds_is (ds : List Int) (c : Int) (l : List Int) (hd : ds.length ≤ 1048576) (hl : l.length ≤ 1048576) (k : Nat) (hk : 2097153 < k) : impl_Holds.f k ds c l = some (holdsB ds c l) := by
  unfold impl_Holds.f holdsB
  rw [impl_NodesOk_is ds c l hd hl k (by omega)]
  simp only [Option.bind_some]
  by_cases h : nodesOk ds c l = true
  · rw [if_pos h, impl_SpanOf_is ds c l hd hl k hk, if_pos h, h]
    simp
  · rw [if_neg h]
    simp [h]

theorem impl_flagNum_is (b : Bool) : impl_flagNum.f b = some (if b = true then 1 else 0) := by
  unfold impl_flagNum.f
  cases b <;> rfl



theorem impl_WriterOk_l (ds : List Int) (c ep : Int) (l : List S53) (hd : ds.length ≤ 1048576) (hl : l.length ≤ 1048576 ∧ ∀ e ∈ l, e.f0.size ≤ 1048576 ∧ e.f1.length ≤ 1048576) (d : Nat) : ∀ (k i : Nat) (n : Int), i + d = l.length → d + 2097154 < k → 0 ≤ n → n ≤ i →
    impl_WriterOk.l0 k n l (l.length : Int) (i : Int) ds c ep l = some ((l.drop i).all (wordOk ds c) && (cfgOk ds c && (inB ep 1 30 && (decide ((l.length : Int) ≤ 60) && le6 (n + openOf (l.drop i)))))) := by
  induction d with
  | zero =>
    intro k i n h hk h0 h1
    obtain ⟨k, rfl⟩ : ∃ m, k = m + 1 := ⟨k - 1, by omega⟩
    simp only [impl_WriterOk.l0, impl_isEpoch.f]
    rw [if_neg (by omega), List.drop_eq_nil_of_le (by omega), impl_ConfigOk_is ds c hd _ (by omega), impl_within_is]
    by_cases hs : (l.length : Int) ≤ 60
    · rw [if_pos hs, decide_eq_true hs]
      cases cfgOk ds c <;> cases inB ep 1 30 <;> simp [openOf, le6]
    · rw [if_neg hs, decide_eq_false hs]
      cases cfgOk ds c <;> cases inB ep 1 30 <;> simp [openOf, le6]
  | succ d ih =>
    intro k i n h hk h0 h1
    obtain ⟨k, rfl⟩ : ∃ m, k = m + 1 := ⟨k - 1, by omega⟩
    have hz := hl.2 _ (rdT_Word_mem l i (by omega))
    simp only [impl_WriterOk.l0]
    rw [if_pos (by omega), if_pos (by omega), if_pos (by omega), impl_dataOk_is, impl_NodesOk_is ds c _ hd hz.2 _ (by omega), impl_Holds_is ds c _ hd hz.2 _ (by omega), drop_rdT_Word l i (by omega), List.all_cons]
    simp only [Option.bind_some, wordOk, impl_flagNum_is]
    generalize rd_T53 l (i : Int) = x
    have i1 := ih k (i + 1) n (by omega) (by omega) h0 (by omega)
    have i2 := ih k (i + 1) (n + 1) (by omega) (by omega) (by omega) (by omega)
    rw [wrap_id (show -9223372036854775808 ≤ (i : Int) + 1 by omega) (by omega), show (i : Int) + 1 = ((i + 1 : Nat) : Int) from rfl]
    by_cases hs : (x.f0.size : Int) ≤ 40
    · rw [decide_eq_true hs]
      cases hx : x.f2 with
      | true =>
        rw [openOf_t hx, if_neg (show ¬ ((!true) = true) by decide), show n + 0 = n by omega, wrap_id (show -9223372036854775808 ≤ n by omega) (by omega), i1]
        cases nodesOk ds c x.f1 <;> cases holdsB ds c x.f1 <;> simp
      | false =>
        rw [openOf_n hx, show n + (1 + openOf (l.drop (i + 1))) = n + 1 + openOf (l.drop (i + 1)) by omega]
        rw [if_pos (show ((!false) = true) by decide), wrap_id (show -9223372036854775808 ≤ n + 1 by omega) (by omega), i2]
        cases nodesOk ds c x.f1 <;> cases holdsB ds c x.f1 <;> simp
    · rw [decide_eq_false hs]
      simp
theorem impl_WriterOk_is (ds : List Int) (c ep : Int) (l : List S53) (hd : ds.length ≤ 1048576) (hl : l.length ≤ 1048576 ∧ ∀ e ∈ l, e.f0.size ≤ 1048576 ∧ e.f1.length ≤ 1048576) (k : Nat) (hk : 3145731 < k) :
    impl_WriterOk.f k ds c ep l = some (writerOk ds c ep l) := by
  unfold impl_WriterOk.f writerOk
  have h := impl_WriterOk_l ds c ep l hd hl l.length k 0 0 (by omega) (by omega) (by omega) (by omega)
  rw [List.drop_zero, show ((0 : Nat) : Int) = 0 from rfl] at h
  rw [h]
  cases cfgOk ds c <;> cases inB ep 1 30 <;> cases l.all (wordOk ds c) <;> simp

theorem eqIntS_l (l : List Int) (hz : l.length ≤ 1048576) (d : Nat) : ∀ (k : Nat) (i : Int), 0 ≤ i → (l.length : Int) - i ≤ d → i ≤ l.length → d + 0 < k → laws_eqIntS.l0 k l l i = some true := by
  have hlen : l.length ≤ 1048576 := hz
  induction d with
  | zero =>
    intro k i h0 h1 h2 hk
    obtain ⟨k, rfl⟩ : ∃ m, k = m + 1 := ⟨k - 1, by omega⟩
    simp only [laws_eqIntS.l0]
    rw [if_neg (by omega)]
  | succ d ih =>
    intro k i h0 h1 h2 hk
    obtain ⟨k, rfl⟩ : ∃ m, k = m + 1 := ⟨k - 1, by omega⟩
    simp only [laws_eqIntS.l0]
    by_cases h : i < (l.length : Int)
    · rw [if_pos h, if_pos h0, if_pos h]
      (first | rw [if_pos rfl] | rw [if_pos trivial])
      rw [wrap_id (by omega) (by omega)]
      exact ih k (i + 1) (by omega) (by omega) (by omega) (by omega)
    · rw [if_neg h]

theorem eqIntS_self (l : List Int) (hz : l.length ≤ 1048576) (k : Nat) (hk : 1048576 < k) : laws_eqIntS.f k l l = some true := by
  have hlen : l.length ≤ 1048576 := hz
  unfold laws_eqIntS.f
  rw [if_pos rfl, eqIntS_l l hz l.length k 0 (by omega) (by omega) (by omega) (by omega)]

theorem eqConfig_self (a0 : List Int) (a1 : Int) (ha0 : a0.length ≤ 1048576) (k : Nat) (hk : 1048576 < k) : laws_eqConfig.f k a0 a1 a0 a1 = some true := by
  unfold laws_eqConfig.f
  simp [eqIntS_self a0 ha0 k (by omega)]

theorem eqWord_self (a0 : ByteArray) (a1 : List Int) (a2 : Bool) (ha0 : a0.size ≤ 1048576) (ha1 : a1.length ≤ 1048576) (k : Nat) (hk : 1048576 < k) : laws_eqWord.f k a0 a1 a2 a0 a1 a2 = some true := by
  unfold laws_eqWord.f
  simp [eqIntS_self a1 ha1 k (by omega)]

theorem eqWordS_l (l : List S53) (hz : (l.length ≤ 1048576 ∧ ∀ e0 ∈ l, (e0.f0.size ≤ 1048576 ∧ e0.f1.length ≤ 1048576))) (d : Nat) : ∀ (k : Nat) (i : Int), 0 ≤ i → (l.length : Int) - i ≤ d → i ≤ l.length → d + 1048576 < k → laws_eqWordS.l0 k l l i = some true := by
  have hlen : l.length ≤ 1048576 := hz.1
  induction d with
  | zero =>
    intro k i h0 h1 h2 hk
    obtain ⟨k, rfl⟩ : ∃ m, k = m + 1 := ⟨k - 1, by omega⟩
    simp only [laws_eqWordS.l0]
    rw [if_neg (by omega)]
  | succ d ih =>
    intro k i h0 h1 h2 hk
    obtain ⟨k, rfl⟩ : ∃ m, k = m + 1 := ⟨k - 1, by omega⟩
    simp only [laws_eqWordS.l0]
    by_cases h : i < (l.length : Int)
    · rw [if_pos h, if_pos h0, if_pos h]
      have hg0 : (rd_T53 l i) = l[i.toNat]'(by omega) := by simp [rd_T53, List.getD_eq_getElem?_getD, List.getElem?_eq_getElem (show i.toNat < l.length by omega)]
      have he := hz.2 (l[i.toNat]'(by omega)) (List.getElem_mem _)
      rw [← hg0] at he
      rw [eqWord_self (rd_T53 l i).f0 (rd_T53 l i).f1 (rd_T53 l i).f2 he.1 he.2 k (by omega)]
      simp only [Option.bind_some]
      (first | rw [if_pos rfl] | rw [if_pos trivial])
      rw [wrap_id (by omega) (by omega)]
      exact ih k (i + 1) (by omega) (by omega) (by omega) (by omega)
    · rw [if_neg h]

theorem eqWordS_self (l : List S53) (hz : (l.length ≤ 1048576 ∧ ∀ e0 ∈ l, (e0.f0.size ≤ 1048576 ∧ e0.f1.length ≤ 1048576))) (k : Nat) (hk : 2097152 < k) : laws_eqWordS.f k l l = some true := by
  have hlen : l.length ≤ 1048576 := hz.1
  unfold laws_eqWordS.f
  rw [if_pos rfl, eqWordS_l l hz l.length k 0 (by omega) (by omega) (by omega) (by omega)]

theorem eqWriter_self (a0 : Int) (a1 : List S53) (ha1 : (a1.length ≤ 1048576 ∧ ∀ e0 ∈ a1, (e0.f0.size ≤ 1048576 ∧ e0.f1.length ≤ 1048576))) (k : Nat) (hk : 2097152 < k) : laws_eqWriter.f k a0 a1 a0 a1 = some true := by
  unfold laws_eqWriter.f
  simp [eqWordS_self a1 ha1 k (by omega)]

theorem FnExactWriterOk : Goal := by
  intro ds c ep l hds _ _ hl
  refine ⟨9000000, ?_⟩
  unfold laws_FnExactWriterOk.f
  obtain ⟨r, hr, _, hz⟩ := szConfig_ok ds c hds.1 1048576 (by omega) (by omega)
  rw [hr]
  simp only [Option.bind_some]
  by_cases hneg : r < 0
  · rw [if_pos hneg]
  have z := hz (by omega)
  rw [if_neg hneg]
  obtain ⟨r', hr', _, hz'⟩ := szWriter_ok ep l ⟨hl.1, fun e he => ⟨(hl.2 e he).1, (hl.2 e he).2.1.1⟩⟩ r (by omega) (by omega) 9000000 (by omega)
  rw [hr']
  simp only [Option.bind_some]
  by_cases hneg' : r' < 0
  · rw [if_pos hneg']
  have z' := hz' (by omega)
  have hlen : (l.map cWord).length ≤ 1048576 ∧ ∀ e ∈ l.map cWord, e.f0.size ≤ 1048576 ∧ e.f1.length ≤ 1048576 := ⟨by simpa using z'.1, fun e he => by obtain ⟨x, hx, rfl⟩ := List.mem_map.1 he; exact z'.2 x hx⟩
  rw [if_neg hneg', toConfig_is ds c z _ (by omega), toWriter_is ep l z' _ (by omega)]
  simp only [Option.bind_some]
  rw [spec_WriterOk_is ds c ep _ z hlen _ (by omega), impl_WriterOk_is ds c ep _ z hlen _ (by omega)]
  simp only [Option.bind_some]
  rw [if_neg (by simp), eqConfig_self ds c z _ (by omega)]
  simp only [Option.bind_some, if_true]
  rw [eqWriter_self ep _ hlen _ (by omega)]
  rfl

end Go.Proofs.Ytdkdhciogedoiaa.Pure
