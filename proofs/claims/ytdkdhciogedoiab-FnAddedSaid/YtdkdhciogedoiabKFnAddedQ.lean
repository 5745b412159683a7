/- A word that is added to a drawn writer has the next offset, and no node told of it; all others are as they were: for each code. No conditions. -/
import Derived.Test.YtdkdhciogedoiabKFnAddedG
import Derived.Test.YtdkdhciogedoiabKFnAddedD
namespace Go.Proofs.Ytdkdhciogedoiab.Pure
open Go.RowKit Go.Proofs.Ytdkdhciogedoiab.PFnAdded Go.Proofs.YtdkdhciogedoiabW.PrintWords Go.Proofs.YtdkdhciogedoiabW.PrintLast Go.Proofs.YtdkdhciogedoiabW.Opn Go.Proofs.Ytdkdhciogedoiab.GFnAdded
set_option linter.unusedVariables false
set_option linter.unusedSimpArgs false
theorem wrap_id {x : Int} (h0 : -9223372036854775808 ≤ x) (h1 : x ≤ 9223372036854775807) : wrap64 x = x := by
  unfold wrap64
  omega
def inB (x a b : Int) : Bool := decide (a ≤ x) && decide (x ≤ b)
theorem inB_true {x a b : Int} : inB x a b = true ↔ a ≤ x ∧ x ≤ b := by simp [inB]
def cfgOk (ds : List Int) (c : Int) : Bool := inB (ds.length : Int) 1 8 && inB c 1 4 && ds.all (fun d => inB d 0 7)
def Asc (l : List Int) (lo hi : Int) : Prop := ∀ i : Nat, i < l.length → (lo ≤ l.getD i 0 ∧ l.getD i 0 ≤ hi) ∧ (0 < i → l.getD (i - 1) 0 < l.getD i 0)
instance (l : List Int) (lo hi : Int) : Decidable (Asc l lo hi) := by unfold Asc; infer_instance
def nodesOk (ds : List Int) (c : Int) (l : List Int) : Bool := cfgOk ds c && decide (Asc l 0 ((ds.length : Int) - 1))
def domsOf (ds : List Int) : List Int → List Int → List Int
  | [], acc => acc
  | n :: l, acc => domsOf ds l (if acc.contains (rd ds n) then acc else acc ++ [rd ds n])
def spanOf (ds l : List Int) : Int := ((domsOf ds l []).length : Int)
def holdsB (ds : List Int) (c : Int) (l : List Int) : Bool := nodesOk ds c l && decide (c ≤ spanOf ds l)
theorem rd_nat (l : List Int) (i : Nat) : rd l (i : Int) = l.getD i 0 := by simp [rd]
theorem rd_drop (l : List Int) (i : Nat) (h : i < l.length) : l.drop i = rd l (i : Int) :: l.drop (i + 1) := by
  rw [List.drop_eq_getElem_cons h, rd_nat, List.getD_eq_getElem?_getD, List.getElem?_eq_getElem h]
  rfl
theorem cfgOk_len {ds : List Int} {c : Int} (h : cfgOk ds c = true) : 1 ≤ ds.length ∧ ds.length ≤ 8 ∧ 1 ≤ c ∧ c ≤ 4 ∧ ∀ d ∈ ds, 0 ≤ d ∧ d ≤ 7 := by
  simp only [cfgOk, Bool.and_eq_true, inB_true, List.all_eq_true] at h
  obtain ⟨⟨h1, h2⟩, h3⟩ := h
  exact ⟨by omega, by omega, h2.1, h2.2, h3⟩
theorem Asc_mem {l : List Int} {lo hi : Int} (h : Asc l lo hi) {x : Int} (hx : x ∈ l) : lo ≤ x ∧ x ≤ hi := by
  obtain ⟨i, hi', rfl⟩ := List.getElem_of_mem hx
  have := (h i hi').1
  rwa [List.getD_eq_getElem?_getD, List.getElem?_eq_getElem hi'] at this
def InR (x : Int) : Prop := -9223372036854775808 ≤ x ∧ x ≤ 9223372036854775807
theorem InR_of {x : Int} (h : (Lit.int .i64 x).wf = true) : InR x := by
  simp [Lit.wf, IntKind.min, IntKind.max, IntKind.signed, IntKind.bits] at h
  exact ⟨by omega, by omega⟩
def placeOk (x : Int) : Bool := decide (0 < x) && (inB (x / 4294967296) 1 30 && inB (x % 4294967296) 1 60)
def epochOf (x : Int) : Int := if placeOk x = true then x / 4294967296 else 0
def offOf (x : Int) : Int := if placeOk x = true then x % 4294967296 else 0
def placeMake (e o : Int) : Int × Bool := if inB e 1 30 = true ∧ inB o 1 60 = true then (4294967296 * e + o, true) else (0, false)
theorem tdiv_pos {x : Int} (h : 0 ≤ x) : Int.tdiv x 4294967296 = x / 4294967296 := Int.tdiv_eq_ediv_of_nonneg h
theorem tmod_pos {x : Int} (h : 0 ≤ x) : Int.tmod x 4294967296 = x % 4294967296 := Int.tmod_eq_emod_of_nonneg h
theorem tdiv_neg' {x : Int} (h : x ≤ 0) : Int.tdiv x 4294967296 = -((-x) / 4294967296) := by
  have h1 : Int.tdiv (-x) 4294967296 = (-x) / 4294967296 := Int.tdiv_eq_ediv_of_nonneg (by omega)
  have h2 := Int.neg_tdiv (-x) 4294967296
  rw [Int.neg_neg] at h2
  rw [h2, h1]
theorem epochOf_pos {x : Int} (h : placeOk x = true) : epochOf x = x / 4294967296 ∧ 1 ≤ epochOf x ∧ epochOf x ≤ 30 := by
  have h' := h
  simp only [placeOk, Bool.and_eq_true, inB_true, decide_eq_true_eq] at h'
  unfold epochOf
  rw [if_pos h]
  omega
def sureFrom (l : List S50) : Nat → Nat → Nat
  | 0, i => i
  | d + 1, i => if (rd_T50 l i).f2 = true then sureFrom l d (i + 1) else i
theorem spec_l1New_l (b : List Int) (hb : b.length ≤ 1048576) (d : Nat) : ∀ (k i : Nat) (h : Int), i + d = b.length → d < k → ∃ h', spec_l1New.l0 k b h (i : Int) = some (b, 0, h') := by
  induction d with
  | zero =>
    intro k i h hi hk
    obtain ⟨k, rfl⟩ : ∃ m, k = m + 1 := ⟨k - 1, by omega⟩
    simp only [spec_l1New.l0]
    rw [if_neg (by omega)]
    exact ⟨_, rfl⟩
  | succ d ih =>
    intro k i h hi hk
    obtain ⟨k, rfl⟩ : ∃ m, k = m + 1 := ⟨k - 1, by omega⟩
    simp only [spec_l1New.l0]
    rw [if_pos (by omega)]
    split
    · rw [if_pos (by omega), wrap_id (show -9223372036854775808 ≤ (i : Int) + 1 by omega) (by omega)]
      exact ih k (i + 1) _ (by omega) (by omega)
    · exact ⟨_, rfl⟩
theorem spec_l1New_ok (b : List Int) (hb : b.length ≤ 1048576) (k : Nat) (hk : 1048576 < k) : ∃ h, spec_l1New.f k b = some (b, 0, h) := by
  unfold spec_l1New.f
  obtain ⟨h', e⟩ := spec_l1New_l b hb b.length k 0 (wrap64 (17817 + (b.length : Int))) (by omega) (by omega)
  exact ⟨h', by simpa using e⟩
theorem and255 (x : Int) : 0 ≤ Go.bits .and .i64 x 255 ∧ Go.bits .and .i64 x 255 ≤ 255 := by
  unfold Go.bits
  have h : (BitVec.ofInt IntKind.i64.bits x &&& BitVec.ofInt IntKind.i64.bits 255).toNat ≤ 255 := by
    rw [BitVec.toNat_and]
    exact Nat.le_trans Nat.and_le_right (by decide)
  have hw := wrap_id (x := (((BitVec.ofInt IntKind.i64.bits x &&& BitVec.ofInt IntKind.i64.bits 255).toNat : Nat) : Int)) (by omega) (by omega)
  simp only
  rw [i64_w, hw]
  omega
theorem spec_l1Byte_ok (b : List Int) (i h : Int) (hb : b.length ≤ 1048576) (hi : 0 ≤ i) : ∃ x i' h', spec_l1Byte.f b i h = some (x, i', h') ∧ 0 ≤ x ∧ x ≤ 255 ∧ 0 ≤ i' := by
  unfold spec_l1Byte.f
  by_cases hl : i < (b.length : Int)
  · rw [if_pos hl, if_pos hi, wrap_id (show -9223372036854775808 ≤ i + 1 by omega) (by omega)]
    exact ⟨_, _, _, rfl, (and255 _).1, (and255 _).2, by omega⟩
  · rw [if_neg hl]
    exact ⟨_, _, _, rfl, (and255 _).1, (and255 _).2, hi⟩
theorem spec_l1Below_ok (b : List Int) (i h n : Int) (hb : b.length ≤ 1048576) (hi : 0 ≤ i) : ∃ x i' h', spec_l1Below.f b i h n = some (x, i', h') ∧ 0 ≤ x ∧ (0 < n → x < n) ∧ (n ≤ 0 → x = 0) ∧ 0 ≤ i' := by
  unfold spec_l1Below.f
  by_cases h0 : n ≤ 0
  · rw [if_pos h0]
    exact ⟨_, _, _, rfl, by omega, by omega, fun _ => rfl, hi⟩
  · rw [if_neg h0]
    by_cases h1 : n ≤ 256
    · rw [if_pos h1]
      obtain ⟨x, i', h', e, hx, _, hi'⟩ := spec_l1Byte_ok b i h hb hi
      rw [e]
      simp only [Option.bind_some]
      rw [if_neg (by omega), Int.tmod_eq_emod_of_nonneg hx]
      exact ⟨_, _, _, rfl, Int.emod_nonneg _ (by omega), fun _ => Int.emod_lt_of_pos _ (by omega), by omega, hi'⟩
    · rw [if_neg h1]
      obtain ⟨x, i1, h1', e1, hx, hx', hi1⟩ := spec_l1Byte_ok b i h hb hi
      rw [e1]
      simp only [Option.bind_some]
      obtain ⟨y, i2, h2', e2, hy, hy', hi2⟩ := spec_l1Byte_ok b i1 h1' hb hi1
      rw [e2]
      simp only [Option.bind_some]
      obtain ⟨z, i3, h3', e3, hz, hz', hi3⟩ := spec_l1Byte_ok b i2 h2' hb hi2
      rw [e3]
      simp only [Option.bind_some]
      obtain ⟨v, i4, h4', e4, hv, hv', hi4⟩ := spec_l1Byte_ok b i3 h3' hb hi3
      rw [e4]
      simp only [Option.bind_some]
      rw [if_neg (by omega), wrap_id (show -9223372036854775808 ≤ x * 16777216 by omega) (by omega), wrap_id (show -9223372036854775808 ≤ y * 65536 by omega) (by omega), wrap_id (show -9223372036854775808 ≤ x * 16777216 + y * 65536 by omega) (by omega), wrap_id (show -9223372036854775808 ≤ z * 256 by omega) (by omega), wrap_id (show -9223372036854775808 ≤ x * 16777216 + y * 65536 + z * 256 by omega) (by omega), wrap_id (show -9223372036854775808 ≤ x * 16777216 + y * 65536 + z * 256 + v by omega) (by omega), Int.tmod_eq_emod_of_nonneg (by omega)]
      exact ⟨_, _, _, rfl, Int.emod_nonneg _ (by omega), fun _ => Int.emod_lt_of_pos _ (by omega), by omega, hi4⟩
theorem spec_l1Once_ok (b : List Int) (i h n : Int) (hb : b.length ≤ 1048576) (hi : 0 ≤ i) : ∃ x i' h', spec_l1Once.f b i h n = some (x, i', h') ∧ 0 ≤ i' := by
  unfold spec_l1Once.f
  obtain ⟨x, i', h', e, _, _, _, hi'⟩ := spec_l1Below_ok b i h n hb hi
  rw [e]
  exact ⟨_, _, _, rfl, hi'⟩
theorem spec_l4DrawRight_l (b : List Int) (hb : b.length ≤ 1048576) (n : Int) (hn : n ≤ 8) (d : Nat) : ∀ (k : Nat) (j i h : Int) (o : List Int) (c : Int), 0 ≤ j → n - j ≤ d → d < k → 0 ≤ i → (o.length : Int) = j → j ≤ max n 0 →
    ∃ o' c' i' h', spec_l4DrawRight.l0 k n j b i h o c = some (o', c', i', h') ∧ o'.length ≤ 8 ∧ n ≤ o'.length ∧ 0 ≤ i' ∧ (c' = c ∨ c' = 2) := by
  induction d with
  | zero =>
    intro k j i h o c hj hd hk hi ho hjn
    obtain ⟨k, rfl⟩ : ∃ m, k = m + 1 := ⟨k - 1, by omega⟩
    simp only [spec_l4DrawRight.l0]
    rw [if_neg (by omega)]
    obtain ⟨y, i3, h3, e3, hi3⟩ := spec_l1Once_ok b i h 2 hb hi
    rw [e3]
    simp only [Option.bind_some]
    split
    · exact ⟨_, _, _, _, rfl, by omega, by omega, hi3, .inr rfl⟩
    · exact ⟨_, _, _, _, rfl, by omega, by omega, hi3, .inl rfl⟩
  | succ d ih =>
    intro k j i h o c hj hd hk hi ho hjn
    obtain ⟨k, rfl⟩ : ∃ m, k = m + 1 := ⟨k - 1, by omega⟩
    simp only [spec_l4DrawRight.l0]
    by_cases hlt : j < n
    · rw [if_pos hlt]
      obtain ⟨x, i1, h1, e, _, _, _, hi1⟩ := spec_l1Below_ok b i h 5 hb hi
      rw [e]
      simp only [Option.bind_some]
      rw [if_pos (by omega), wrap_id (show -9223372036854775808 ≤ j + 1 by omega) (by omega)]
      exact ih k (j + 1) i1 h1 _ c (by omega) (by omega) (by omega) hi1 (by simp; omega) (by omega)
    · rw [if_neg hlt]
      obtain ⟨y, i3, h3, e3, hi3⟩ := spec_l1Once_ok b i h 2 hb hi
      rw [e3]
      simp only [Option.bind_some]
      split
      · exact ⟨_, _, _, _, rfl, by omega, by omega, hi3, .inr rfl⟩
      · exact ⟨_, _, _, _, rfl, by omega, by omega, hi3, .inl rfl⟩
theorem spec_l4DrawRight_ok (b : List Int) (i h : Int) (hb : b.length ≤ 1048576) (hi : 0 ≤ i) (k : Nat) (hk : 9 < k) :
    ∃ o' c' i' h', spec_l4DrawRight.f k b i h = some (o', c', i', h') ∧ (3 ≤ o'.length ∧ o'.length ≤ 8) ∧ 0 ≤ i' ∧ 1 ≤ c' ∧ c' ≤ 3 := by
  unfold spec_l4DrawRight.f
  obtain ⟨x, i1, h1, e, hx, hx', _, hi1⟩ := spec_l1Below_ok b i h 3 hb hi
  rw [e]
  simp only [Option.bind_some]
  obtain ⟨y, i2, h2, e2, hy, hy', _, hi2⟩ := spec_l1Below_ok b i1 h1 5 hb hi1
  rw [e2]
  simp only [Option.bind_some]
  have hx2 := hx' (by omega)
  have hy2 := hy' (by omega)
  rw [wrap_id (show -9223372036854775808 ≤ 3 + y by omega) (by omega), wrap_id (show -9223372036854775808 ≤ 1 + x by omega) (by omega)]
  obtain ⟨o', c', i', h', e3, ho, ho2, hi3, hc⟩ := spec_l4DrawRight_l b hb (3 + y) (by omega) 8 k 0 i2 h2 [] (1 + x) (by omega) (by omega) (by omega) hi2 (by simp) (by omega)
  exact ⟨o', c', i', h', e3, ⟨by omega, ho⟩, hi3, by omega, by omega⟩
theorem spec_l1PickInt_ok (b : List Int) (i h : Int) (l : List Int) (hb : b.length ≤ 1048576) (hi : 0 ≤ i) (hl : 0 < l.length) : ∃ x i' h', spec_l1PickInt.f b i h l = some (x, i', h') ∧ x ∈ l ∧ 0 ≤ i' := by
  unfold spec_l1PickInt.f
  obtain ⟨x, i', h', e, hx, hx', _, hi'⟩ := spec_l1Below_ok b i h l.length hb hi
  rw [e]
  simp only [Option.bind_some]
  have := hx' (by omega)
  rw [if_pos hx, if_pos this]
  refine ⟨_, _, _, rfl, ?_, hi'⟩
  have hlt : x.toNat < l.length := by omega
  simp [rd, List.getD_eq_getElem?_getD, List.getElem?_eq_getElem hlt]
theorem spec_l4Draw_ok (b : List Int) (i h : Int) (hb : b.length ≤ 1048576) (hi : 0 ≤ i) (k : Nat) (hk : 9 < k) :
    ∃ o' c' i' h', spec_l4Draw.f k b i h = some (o', c', i', h') ∧ o'.length ≤ 9 ∧ 0 ≤ i' := by
  unfold spec_l4Draw.f
  obtain ⟨o, c, i1, h1, e, ho, hi1, hc⟩ := spec_l4DrawRight_ok b i h hb hi k hk
  rw [e]
  simp only [Option.bind_some]
  obtain ⟨x, i2, h2, e2, _, _, _, hi2⟩ := spec_l1Below_ok b i1 h1 20 hb hi1
  rw [e2]
  simp only [Option.bind_some]
  by_cases c0 : x = 0
  · rw [if_pos c0]
    obtain ⟨y, i3, h3, e3, _, hi3⟩ := spec_l1PickInt_ok b i2 h2 [0, 4, 5] hb hi2 (by decide)
    rw [e3]
    exact ⟨_, _, _, _, rfl, by omega, hi3⟩
  rw [if_neg c0]
  by_cases c1 : x = 1
  · rw [if_pos c1]
    obtain ⟨y, i3, h3, e3, _, hi3⟩ := spec_l1PickInt_ok b i2 h2 [-1, 7, 8] hb hi2 (by decide)
    rw [e3]
    simp only [Option.bind_some]
    rw [if_pos (by omega)]
    exact ⟨_, _, _, _, rfl, by simp; omega, hi3⟩
  rw [if_neg c1]
  by_cases c2 : x = 2
  · rw [if_pos c2]
    obtain ⟨y, i3, h3, e3, hy, hi3⟩ := spec_l1PickInt_ok b i2 h2 [0, 8, 9] hb hi2 (by decide)
    have hy2 : 0 ≤ y ∧ y ≤ 9 := by
      simp only [List.mem_cons, List.not_mem_nil, or_false] at hy
      omega
    rw [e3]
    simp only [Option.bind_some]
    rw [if_pos (by omega), if_pos (by omega)]
    exact ⟨_, _, _, _, rfl, by simp; omega, hi3⟩
  rw [if_neg c2]
  exact ⟨_, _, _, _, rfl, by omega, hi2⟩
theorem spec_l1In_is (x a b : Int) : spec_l1In.f x a b = some (inB x a b) := by
  unfold spec_l1In.f inB
  by_cases h : x ≥ a
  · rw [if_pos h]; simp [show a ≤ x from h]
  · rw [if_neg h]; simp [show ¬ a ≤ x from h]
theorem spec_ConfigOk_l (ds : List Int) (c : Int) (hl : ds.length ≤ 1048576) (d : Nat) : ∀ (k i : Nat), i + d = ds.length → d < k → spec_ConfigOk.l0 k (i : Int) ds c = some ((ds.drop i).all (fun d => inB d 0 7)) := by
  induction d with
  | zero =>
    intro k i h hk
    obtain ⟨k, rfl⟩ : ∃ m, k = m + 1 := ⟨k - 1, by omega⟩
    simp only [spec_ConfigOk.l0]
    rw [if_neg (by omega), List.drop_eq_nil_of_le (by omega)]
    rfl
  | succ d ih =>
    intro k i h hk
    obtain ⟨k, rfl⟩ : ∃ m, k = m + 1 := ⟨k - 1, by omega⟩
    simp only [spec_ConfigOk.l0]
    rw [if_pos (by omega), if_pos (by omega), spec_l1In_is, rd_drop ds i (by omega), List.all_cons]
    simp only [Option.bind_some]
    cases inB (rd ds i) 0 7 with
    | false => rfl
    | true =>
      simp only [if_true, Bool.true_and]
      rw [wrap_id (by omega) (by omega)]
      exact ih k (i + 1) (by omega) (by omega)
theorem spec_ConfigOk_is (ds : List Int) (c : Int) (hl : ds.length ≤ 1048576) (k : Nat) (hk : 1048577 < k) : spec_ConfigOk.f k ds c = some (cfgOk ds c) := by
  obtain ⟨k, rfl⟩ : ∃ m, k = m + 1 := ⟨k - 1, by omega⟩
  have hl0 := spec_ConfigOk_l ds c hl ds.length k 0 (by omega) (by omega)
  rw [List.drop_zero] at hl0
  unfold spec_ConfigOk.f cfgOk
  rw [spec_l1In_is, spec_l1In_is]
  simp only [Option.bind_some, spec_ConfigOk.j0]
  have hl0' : spec_ConfigOk.l0 k 0 ds c = some (ds.all fun d => inB d 0 7) := hl0
  rw [hl0']
  cases inB (ds.length : Int) 1 8 <;> cases inB c 1 4 <;> simp
theorem spec_l4Asc_l (l : List Int) (lo hi : Int) (hl : l.length ≤ 1048576) (d : Nat) : ∀ (k i : Nat), i + d = l.length → d < k → (∀ j, j < i → (lo ≤ l.getD j 0 ∧ l.getD j 0 ≤ hi) ∧ (0 < j → l.getD (j - 1) 0 < l.getD j 0)) → spec_l4Asc.l0 k l lo hi (i : Int) = some (decide (Asc l lo hi)) := by
  induction d with
  | zero =>
    intro k i h hk hj
    obtain ⟨k, rfl⟩ : ∃ m, k = m + 1 := ⟨k - 1, by omega⟩
    simp only [spec_l4Asc.l0]
    rw [if_neg (by omega), decide_eq_true (show Asc l lo hi from fun j hjl => hj j (by omega))]
  | succ d ih =>
    intro k i h hk hj
    obtain ⟨k, rfl⟩ : ∃ m, k = m + 1 := ⟨k - 1, by omega⟩
    simp only [spec_l4Asc.l0]
    rw [if_pos (by omega), if_pos (by omega), spec_l1In_is, rd_nat]
    simp only [Option.bind_some]
    by_cases hb : inB (l.getD i 0) lo hi = true
    · rw [if_pos hb]
      rw [inB_true] at hb
      by_cases h0 : (i : Int) > 0
      · rw [if_pos h0, wrap_id (by omega) (by omega), if_pos (by omega), if_pos (by omega), show ((i : Int) - 1) = ((i - 1 : Nat) : Int) by omega, rd_nat]
        by_cases hg : l.getD (i - 1) 0 ≥ l.getD i 0
        · rw [if_pos hg, decide_eq_false (fun ha : Asc l lo hi => by have := (ha i (by omega)).2 (by omega); omega)]
        · rw [if_neg hg, wrap_id (by omega) (by omega)]
          refine ih k (i + 1) (by omega) (by omega) (fun j hji => ?_)
          by_cases e : j = i
          · subst e; exact ⟨hb, fun _ => by omega⟩
          · exact hj j (by omega)
      · rw [if_neg h0, wrap_id (by omega) (by omega)]
        refine ih k (i + 1) (by omega) (by omega) (fun j hji => ?_)
        by_cases e : j = i
        · subst e; exact ⟨hb, fun _ => by omega⟩
        · exact hj j (by omega)
    · rw [if_neg hb, decide_eq_false (fun ha : Asc l lo hi => hb (inB_true.2 (ha i (by omega)).1))]
theorem spec_l4Asc_is (l : List Int) (lo hi : Int) (hl : l.length ≤ 1048576) (k : Nat) (hk : 1048576 < k) : spec_l4Asc.f k l lo hi = some (decide (Asc l lo hi)) := by
  unfold spec_l4Asc.f
  exact spec_l4Asc_l l lo hi hl l.length k 0 (by omega) (by omega) (fun j h => by omega)
theorem spec_NodesOk_is (ds : List Int) (c : Int) (l : List Int) (hd : ds.length ≤ 1048576) (hl : l.length ≤ 1048576) (k : Nat) (hk : 1048577 < k) : spec_NodesOk.f k ds c l = some (nodesOk ds c l) := by
  unfold spec_NodesOk.f nodesOk
  rw [spec_ConfigOk_is ds c hd k hk, wrap_id (by omega) (by omega), spec_l4Asc_is l _ _ hl k (by omega)]
  cases cfgOk ds c <;> simp
theorem spec_l4Span_l (ds : List Int) (c : Int) (l : List Int) (hd8 : ds.length ≤ 8) (hdom : ∀ d ∈ ds, 0 ≤ d ∧ d ≤ 7) (hl : l.length ≤ 1048576) (hmem : ∀ n ∈ l, 0 ≤ n ∧ n < (ds.length : Int)) (d : Nat) :
    ∀ (k i : Nat) (seen : List Bool) (acc : List Int), i + d = l.length → d < k → seen.length = 8 → (acc.length : Int) ≤ i → (∀ x : Int, 0 ≤ x → x ≤ 7 → (rdOf false seen x = acc.contains x)) →
    spec_l4Span.l0 k l seen (acc.length : Int) (i : Int) ds c = some ((domsOf ds (l.drop i) acc).length : Int) := by
  induction d with
  | zero =>
    intro k i seen acc h hk hs ha hx
    obtain ⟨k, rfl⟩ : ∃ m, k = m + 1 := ⟨k - 1, by omega⟩
    simp only [spec_l4Span.l0]
    rw [if_neg (by omega), List.drop_eq_nil_of_le (by omega)]
    rfl
  | succ d ih =>
    intro k i seen acc h hk hs ha hx
    obtain ⟨k, rfl⟩ : ∃ m, k = m + 1 := ⟨k - 1, by omega⟩
    have hi : i < l.length := by omega
    have hin : rd l (i : Int) ∈ l := by
      rw [rd_nat, List.getD_eq_getElem?_getD, List.getElem?_eq_getElem hi]
      exact List.getElem_mem _
    have hn := hmem _ hin
    have hdn : rd ds (rd l (i : Int)) ∈ ds := by
      have hlt : (rd l (i : Int)).toNat < ds.length := by omega
      unfold rd
      unfold rd at hlt
      rw [List.getD_eq_getElem?_getD, List.getElem?_eq_getElem hlt]
      exact List.getElem_mem _
    have hv := hdom _ hdn
    simp only [spec_l4Span.l0]
    rw [if_pos (by omega), if_pos (by omega), if_pos hn.1, if_pos hn.2, if_pos hv.1, if_pos (by omega), hx _ hv.1 hv.2, rd_drop l i hi]
    simp only [domsOf]
    rw [wrap_id (show -9223372036854775808 ≤ (i : Int) + 1 by omega) (by omega)]
    by_cases hc : acc.contains (rd ds (rd l (i : Int))) = true
    · rw [if_pos hc, if_pos hc]
      exact ih k (i + 1) seen acc (by omega) (by omega) hs (by omega) hx
    · rw [if_neg hc, if_neg hc, wrap_id (by omega) (by omega)]
      have := ih k (i + 1) (seen.set (rd ds (rd l (i : Int))).toNat true) (acc ++ [rd ds (rd l (i : Int))]) (by omega) (by omega) (by simp [hs]) (by simp; omega) (by
        intro x h0 h7
        by_cases e : x = rd ds (rd l (i : Int))
        · subst e
          simp [rdOf, List.getD_eq_getElem?_getD, List.getElem?_set, hs, show (rd ds (rd l (i : Int))).toNat < 8 by omega]
        · have he : (rd ds (rd l (i : Int))).toNat ≠ x.toNat := by omega
          have := hx x h0 h7
          simp only [rdOf] at this ⊢
          rw [List.getD_eq_getElem?_getD, List.getElem?_set, if_neg he, ← List.getD_eq_getElem?_getD, this]
          simp [e])
      simpa using this
theorem spec_l4Span_is (ds : List Int) (c : Int) (l : List Int) (hok : nodesOk ds c l = true) (hl : l.length ≤ 1048576) (k : Nat) (hk : 1048577 < k) : spec_l4Span.f k ds c l = some (spanOf ds l) := by
  simp only [nodesOk, Bool.and_eq_true, decide_eq_true_eq] at hok
  obtain ⟨h1, h2, _, _, h5⟩ := cfgOk_len hok.1
  unfold spec_l4Span.f
  rw [if_pos (by decide)]
  have := spec_l4Span_l ds c l h2 h5 hl (fun n hn => by have := Asc_mem hok.2 hn; omega) l.length k 0 (List.replicate 8 false) [] (by omega) (by omega) (by simp) (by simp) (by
    intro x h0 h7
    unfold rdOf
    rw [List.getD_eq_getElem?_getD, List.getElem?_replicate, if_pos (by omega)]
    rfl)
  simpa [spanOf] using this
theorem spec_Holds_is (ds : List Int) (c : Int) (l : List Int) (hd : ds.length ≤ 1048576) (hl : l.length ≤ 1048576) (k : Nat) (hk : 1048577 < k) : spec_Holds.f k ds c l = some (holdsB ds c l) := by
  unfold spec_Holds.f holdsB
  rw [spec_NodesOk_is ds c l hd hl k hk]
  simp only [Option.bind_some]
  by_cases h : nodesOk ds c l = true
  · rw [if_pos h, spec_l4Span_is ds c l h hl k hk, h]
    simp
  · rw [if_neg h]
    simp [h]
def wordOk (ds : List Int) (c : Int) (x : S50) : Bool := decide ((x.f0.size : Int) ≤ 40) && (nodesOk ds c x.f1 && (holdsB ds c x.f1 == x.f2))
def openOf : List S50 → Int
  | [] => 0
  | x :: l => (if x.f2 = true then 0 else 1) + openOf l
theorem openOf_bd (l : List S50) : 0 ≤ openOf l ∧ openOf l ≤ l.length := by
  induction l with
  | nil => simp [openOf]
  | cons x l ih => simp only [openOf, List.length_cons]; split <;> omega
def le6 (x : Int) : Bool := decide (x ≤ 6)
theorem le6_f : (∀ n : Int, n > 6 → le6 n = false) ∧ (∀ n : Int, n ≤ 6 → le6 n = true) := ⟨fun n h => decide_eq_false (by omega), fun n h => decide_eq_true h⟩
theorem openOf_t {x : S50} {l : List S50} (h : x.f2 = true) : openOf (x :: l) = openOf l := by
  rw [openOf, if_pos h]
  omega
theorem openOf_n {x : S50} {l : List S50} (h : x.f2 = false) : openOf (x :: l) = 1 + openOf l := by
  rw [openOf, h, if_neg (by decide)]
def writerOk (ds : List Int) (c ep : Int) (l : List S50) : Bool := cfgOk ds c && inB ep 1 30 && decide ((l.length : Int) ≤ 60) && l.all (wordOk ds c) && le6 (openOf l)
theorem drop_rdT_Word (l : List S50) (i : Nat) (h : i < l.length) : l.drop i = rd_T50 l (i : Int) :: l.drop (i + 1) := by
  rw [List.drop_eq_getElem_cons h]
  simp [rd_T50, List.getD_eq_getElem?_getD, List.getElem?_eq_getElem h]
theorem rdT_Word_mem (l : List S50) (i : Nat) (h : i < l.length) : rd_T50 l (i : Int) ∈ l := by
  simp [rd_T50, List.getD_eq_getElem?_getD, List.getElem?_eq_getElem h]
theorem spec_WriterOk_l (ds : List Int) (c ep : Int) (l : List S50) (hd : ds.length ≤ 1048576) (hl : l.length ≤ 1048576 ∧ ∀ e ∈ l, e.f0.size ≤ 1048576 ∧ e.f1.length ≤ 1048576) (d : Nat) : ∀ (k i : Nat) (n : Int), i + d = l.length → 2 * d + 1048577 < k → 0 ≤ n → n ≤ i →
    spec_WriterOk.l0 k n (i : Int) ds c ep l = some ((l.drop i).all (wordOk ds c) && le6 (n + openOf (l.drop i))) := by
  induction d with
  | zero =>
    intro k i n h hk h0 h1
    obtain ⟨k, rfl⟩ : ∃ m, k = m + 1 := ⟨k - 1, by omega⟩
    simp only [spec_WriterOk.l0]
    rw [if_neg (by omega), List.drop_eq_nil_of_le (by omega)]
    simp only [List.all_nil, openOf, Bool.true_and, Int.add_zero]
    by_cases h6 : n ≤ 6
    · rw [le6_f.2 n h6]
      simp [h6]
    · rw [le6_f.1 n (by omega)]
      simp [h6]
  | succ d ih =>
    intro k i n h hk h0 h1
    obtain ⟨k, rfl⟩ : ∃ m, k = m + 2 := ⟨k - 2, by omega⟩
    have hz := hl.2 _ (rdT_Word_mem l i (by omega))
    simp only [spec_WriterOk.l0, spec_WriterOk.j2]
    rw [if_pos (by omega), if_pos (by omega), spec_NodesOk_is ds c _ hd hz.2 _ (by omega), spec_Holds_is ds c _ hd hz.2 _ (by omega), drop_rdT_Word l i (by omega), List.all_cons]
    simp only [Option.bind_some, wordOk]
    generalize rd_T50 l (i : Int) = x
    have i1 := ih k (i + 1) n (by omega) (by omega) h0 (by omega)
    have i2 := ih k (i + 1) (n + 1) (by omega) (by omega) (by omega) (by omega)
    rw [wrap_id (show -9223372036854775808 ≤ (i : Int) + 1 by omega) (by omega), wrap_id (show -9223372036854775808 ≤ n + 1 by omega) (by omega), show (i : Int) + 1 = ((i + 1 : Nat) : Int) from rfl, i1, i2]
    by_cases hs : (x.f0.size : Int) > 40
    · rw [if_pos hs, decide_eq_false (show ¬ ((x.f0.size : Int) ≤ 40) by omega)]
      simp
    · rw [if_neg hs, decide_eq_true (show (x.f0.size : Int) ≤ 40 by omega)]
      cases hx : x.f2 with
      | true =>
        rw [openOf_t hx]
        cases nodesOk ds c x.f1 <;> cases holdsB ds c x.f1 <;> simp
      | false =>
        rw [openOf_n hx, show n + (1 + openOf (l.drop (i + 1))) = n + 1 + openOf (l.drop (i + 1)) by omega]
        cases nodesOk ds c x.f1 <;> cases holdsB ds c x.f1 <;> simp
theorem spec_WriterOk_is (ds : List Int) (c ep : Int) (l : List S50) (hd : ds.length ≤ 1048576) (hl : l.length ≤ 1048576 ∧ ∀ e ∈ l, e.f0.size ≤ 1048576 ∧ e.f1.length ≤ 1048576) (k : Nat) (hk : 3145731 < k) :
    spec_WriterOk.f k ds c ep l = some (writerOk ds c ep l) := by
  obtain ⟨k, rfl⟩ : ∃ m, k = m + 1 := ⟨k - 1, by omega⟩
  have h := spec_WriterOk_l ds c ep l hd hl l.length k 0 0 (by omega) (by omega) (by omega) (by omega)
  rw [List.drop_zero, show ((0 : Nat) : Int) = 0 from rfl] at h
  unfold spec_WriterOk.f writerOk
  rw [spec_ConfigOk_is ds c hd _ (by omega), spec_l1In_is]
  simp only [Option.bind_some, spec_WriterOk.j0]
  rw [h]
  by_cases hs : (l.length : Int) > 60
  · rw [decide_eq_true hs, decide_eq_false (show ¬ ((l.length : Int) ≤ 60) by omega)]
    cases cfgOk ds c <;> cases inB ep 1 30 <;> simp
  · rw [decide_eq_false hs, decide_eq_true (show ((l.length : Int) ≤ 60) by omega)]
    cases cfgOk ds c <;> cases inB ep 1 30 <;> simp
theorem spec_l8Copy_l (ep : Int) (l : List S50) (hl : l.length ≤ 1048576 ∧ ∀ e ∈ l, e.f1.length ≤ 1048576) (d : Nat) : ∀ (k i : Nat), i + d = l.length → d < k → spec_l8Copy.l0 k (i : Int) ep l ep (l.take i) = some (ep, l) := by
  induction d with
  | zero =>
    intro k i h hk
    obtain ⟨k, rfl⟩ : ∃ m, k = m + 1 := ⟨k - 1, by omega⟩
    simp only [spec_l8Copy.l0]
    rw [if_neg (by omega), List.take_of_length_le (by omega)]
  | succ d ih =>
    intro k i h hk
    obtain ⟨k, rfl⟩ : ∃ m, k = m + 1 := ⟨k - 1, by omega⟩
    have hm := hl.2 _ (rdT_Word_mem l i (by omega))
    simp only [spec_l8Copy.l0]
    rw [if_pos (by omega), if_pos (by omega)]
    simp only [Option.bind_some, List.length_nil, List.nil_append]
    rw [if_pos (by omega), if_pos (by rw [List.length_take]; omega), wrap_id (show -9223372036854775808 ≤ (i : Int) + 1 by omega) (by omega)]
    have hx : (⟨(rd_T50 l (i : Int)).f0, (rd_T50 l (i : Int)).f1, (rd_T50 l (i : Int)).f2⟩ : S50) = l[i]'(by omega) := by
      rw [show rd_T50 l (i : Int) = l[i]'(by omega) from by simp [rd_T50, List.getD_eq_getElem?_getD, List.getElem?_eq_getElem (show i < l.length by omega)]]
    have e : l.take i ++ [(⟨(rd_T50 l (i : Int)).f0, (rd_T50 l (i : Int)).f1, (rd_T50 l (i : Int)).f2⟩ : S50)] = l.take (i + 1) := by
      rw [hx]
      exact (List.take_succ_eq_append_getElem (show i < l.length by omega)).symm
    rw [e]
    exact ih k (i + 1) (by omega) (by omega)
theorem spec_l8Copy_is (ep : Int) (l : List S50) (hl : l.length ≤ 1048576 ∧ ∀ e ∈ l, e.f1.length ≤ 1048576) (k : Nat) (hk : 1048576 < k) : spec_l8Copy.f k ep l = some (ep, l) := by
  unfold spec_l8Copy.f
  have := spec_l8Copy_l ep l hl l.length k 0 (by omega) (by omega)
  simpa using this
def writerAdd (ds : List Int) (c ep : Int) (l : List S50) (s : ByteArray) : Int × List S50 × Int × Bool :=
  if writerOk ds c ep l = true then (if writerOk ds c ep (l ++ [⟨s, [], false⟩]) = true then (ep, l ++ [⟨s, [], false⟩], ((l ++ [(⟨s, [], false⟩ : S50)]).length : Int), true) else (ep, l, 0, false)) else (0, [], 0, false)
theorem spec_WriterAdd_is (ds : List Int) (c ep : Int) (l : List S50) (s : ByteArray) (hd : ds.length ≤ 1048576) (hl : l.length ≤ 1048575 ∧ ∀ e ∈ l, e.f0.size ≤ 1048576 ∧ e.f1.length ≤ 1048576) (hs : s.size ≤ 1048576) (k : Nat) (hk : 3145731 < k) :
    spec_WriterAdd.f k ds c ep l s = some (writerAdd ds c ep l s) := by
  have hl' : l.length ≤ 1048576 ∧ ∀ e ∈ l, e.f0.size ≤ 1048576 ∧ e.f1.length ≤ 1048576 := ⟨by omega, hl.2⟩
  have h2 : (l ++ [(⟨s, [], false⟩ : S50)]).length ≤ 1048576 ∧ ∀ e ∈ l ++ [(⟨s, [], false⟩ : S50)], e.f0.size ≤ 1048576 ∧ e.f1.length ≤ 1048576 := by
    refine ⟨by simp; omega, fun e he => ?_⟩
    rcases List.mem_append.1 he with h | h
    · exact hl.2 e h
    · rw [List.mem_singleton] at h
      subst h
      exact ⟨hs, by simp⟩
  unfold spec_WriterAdd.f writerAdd
  rw [spec_WriterOk_is ds c ep l hd hl' k hk, spec_l8Copy_is ep l ⟨hl'.1, fun e he => (hl'.2 e he).2⟩ k (by omega)]
  simp only [Option.bind_some]
  rw [if_pos (show l.length < 2932031007402 by omega), spec_WriterOk_is ds c ep _ hd h2 k hk]
  simp only [Option.bind_some]
  cases writerOk ds c ep l <;> cases writerOk ds c ep (l ++ [⟨s, [], false⟩]) <;> simp
theorem spec_l1Pick_ok (b : List Int) (i h : Int) (l : List ByteArray) (hb : b.length ≤ 1048576) (hi : 0 ≤ i) (hl : 0 < l.length) : ∃ x i' h', spec_l1Pick.f b i h l = some (x, i', h') ∧ x ∈ l ∧ 0 ≤ i' := by
  unfold spec_l1Pick.f
  obtain ⟨x, i', h', e, hx, hx', _, hi'⟩ := spec_l1Below_ok b i h l.length hb hi
  rw [e]
  simp only [Option.bind_some]
  have := hx' (by omega)
  rw [if_pos hx, if_pos this]
  refine ⟨_, _, _, rfl, ?_, hi'⟩
  have hlt : x.toNat < l.length := by omega
  simp [rdOf, List.getD_eq_getElem?_getD, List.getElem?_eq_getElem hlt]
theorem rdI_at (l : List Int) (i : Nat) (h : i < l.length) : l.drop i = rd l (i : Int) :: l.drop (i + 1) := by
  rw [List.drop_eq_getElem_cons h]
  simp [rd, List.getD_eq_getElem?_getD, List.getElem?_eq_getElem h]
theorem spec_l4Has_l (l : List Int) (x : Int) (hl : l.length ≤ 1048576) (d : Nat) : ∀ (k i : Nat), i + d = l.length → d < k → spec_l4Has.l0 k l x (i : Int) = some ((l.drop i).contains x) := by
  induction d with
  | zero =>
    intro k i h hk
    obtain ⟨k, rfl⟩ : ∃ m, k = m + 1 := ⟨k - 1, by omega⟩
    simp only [spec_l4Has.l0]
    rw [if_neg (by omega), List.drop_eq_nil_of_le (by omega)]
    rfl
  | succ d ih =>
    intro k i h hk
    obtain ⟨k, rfl⟩ : ∃ m, k = m + 1 := ⟨k - 1, by omega⟩
    simp only [spec_l4Has.l0]
    rw [if_pos (by omega), if_pos (by omega), rdI_at l i (by omega), List.contains_cons, wrap_id (show -9223372036854775808 ≤ (i : Int) + 1 by omega) (by omega), show (i : Int) + 1 = ((i + 1 : Nat) : Int) from rfl, ih k (i + 1) (by omega) (by omega)]
    by_cases h : rd l (i : Int) = x
    · rw [if_pos h, ← h]
      simp
    · rw [if_neg h, show (x == rd l (i : Int)) = false by simpa using fun e => h e.symm]
      simp
theorem spec_l4Has_is (l : List Int) (x : Int) (hl : l.length ≤ 1048576) (k : Nat) (hk : 1048576 < k) : spec_l4Has.f k l x = some (l.contains x) := by
  unfold spec_l4Has.f
  have := spec_l4Has_l l x hl l.length k 0 (by omega) (by omega)
  simpa using this
def insB : List Int → Int → List Int
  | [], x => [x]
  | y :: l, x => if y > x then x :: y :: l else y :: insB l x
def putB (l : List Int) (x : Int) : List Int := if l.contains x = true then l else insB l x
theorem insB_len (l : List Int) (x : Int) : (insB l x).length = l.length + 1 := by
  induction l with
  | nil => rfl
  | cons y l ih =>
    unfold insB
    split
    · rfl
    · simp [ih]
theorem putB_len (l : List Int) (x : Int) : (putB l x).length ≤ l.length + 1 := by
  unfold putB
  split
  · omega
  · rw [insB_len]
    omega
theorem spec_l4Put_t (l : List Int) (x : Int) (hl : l.length ≤ 1048576) (d : Nat) : ∀ (k i : Nat) (o : List Int), i + d = l.length → d < k → o.length ≤ i + 1 → spec_l4Put.l0 k l x o true (i : Int) = some (o ++ l.drop i) := by
  induction d with
  | zero =>
    intro k i o h hk ho
    obtain ⟨k, rfl⟩ : ∃ m, k = m + 1 := ⟨k - 1, by omega⟩
    simp only [spec_l4Put.l0]
    rw [if_neg (by omega), List.drop_eq_nil_of_le (by omega)]
    simp
  | succ d ih =>
    intro k i o h hk ho
    obtain ⟨k, rfl⟩ : ∃ m, k = m + 1 := ⟨k - 1, by omega⟩
    simp only [spec_l4Put.l0]
    rw [if_pos (by omega), if_pos trivial, if_pos (by omega), if_pos (by omega), wrap_id (show -9223372036854775808 ≤ (i : Int) + 1 by omega) (by omega), show (i : Int) + 1 = ((i + 1 : Nat) : Int) from rfl, ih k (i + 1) _ (by omega) (by omega) (by simp; omega), rdI_at l i (by omega)]
    simp
theorem spec_l4Put_f (l : List Int) (x : Int) (hl : l.length ≤ 1048576) (d : Nat) : ∀ (k i : Nat) (o : List Int), i + d = l.length → d < k → o.length ≤ i → spec_l4Put.l0 k l x o false (i : Int) = some (o ++ insB (l.drop i) x) := by
  induction d with
  | zero =>
    intro k i o h hk ho
    obtain ⟨k, rfl⟩ : ∃ m, k = m + 1 := ⟨k - 1, by omega⟩
    simp only [spec_l4Put.l0]
    rw [if_neg (by omega), if_neg (by simp), List.drop_eq_nil_of_le (by omega), if_pos (by omega)]
    rfl
  | succ d ih =>
    intro k i o h hk ho
    obtain ⟨k, rfl⟩ : ∃ m, k = m + 1 := ⟨k - 1, by omega⟩
    simp only [spec_l4Put.l0]
    rw [if_pos (by omega), if_neg (by simp), if_pos (by omega), rdI_at l i (by omega), wrap_id (show -9223372036854775808 ≤ (i : Int) + 1 by omega) (by omega), show (i : Int) + 1 = ((i + 1 : Nat) : Int) from rfl]
    simp only [insB, Option.bind_some]
    by_cases h2 : rd l (i : Int) > x
    · rw [if_pos h2, if_pos (by omega), if_pos (by simp; omega), spec_l4Put_t l x hl d k (i + 1) _ (by omega) (by omega) (by simp; omega), if_pos h2]
      simp
    · rw [if_neg h2, if_pos (by omega), ih k (i + 1) _ (by omega) (by omega) (by simp; omega), if_neg h2]
      simp
theorem spec_l4Put_is (l : List Int) (x : Int) (hl : l.length ≤ 1048576) (k : Nat) (hk : 1048576 < k) : spec_l4Put.f k l x = some (putB l x) := by
  unfold spec_l4Put.f putB
  rw [spec_l4Has_is l x hl k hk]
  simp only [Option.bind_some]
  cases l.contains x with
  | true =>
    have := spec_l4Put_t l x hl l.length k 0 [] (by omega) (by omega) (by simp)
    simpa using this
  | false =>
    have := spec_l4Put_f l x hl l.length k 0 [] (by omega) (by omega) (by simp)
    simpa using this
theorem rdT_Word_set (l : List S50) (i : Int) (x : S50) (h0 : 0 ≤ i) (h1 : i < l.length) : rd_T50 (l.set i.toNat x) i = x := by
  have h : i.toNat < l.length := by omega
  simp [rd_T50, List.getD_eq_getElem?_getD, h]
theorem rdT_Word_mem' (l : List S50) (i : Int) (h0 : 0 ≤ i) (h1 : i < l.length) : rd_T50 l i ∈ l := by
  have := rdT_Word_mem l i.toNat (by omega)
  rwa [show ((i.toNat : Nat) : Int) = i by omega] at this
def writerAck (ds : List Int) (c ep : Int) (l : List S50) (off node : Int) : Int × List S50 × Bool :=
  if writerOk ds c ep l = true then
    (if inB off 1 l.length = true ∧ inB node 0 ((ds.length : Int) - 1) = true ∧ (rd_T50 l (off - 1)).f2 = false then
      (ep, l.set (off - 1).toNat ⟨(rd_T50 l (off - 1)).f0, putB (rd_T50 l (off - 1)).f1 node, holdsB ds c (putB (rd_T50 l (off - 1)).f1 node)⟩, true)
    else (ep, l, false)) else (0, [], false)
theorem spec_WriterAck_is (ds : List Int) (c ep : Int) (l : List S50) (off node : Int) (hd : ds.length ≤ 1048576) (hl : l.length ≤ 1048576 ∧ ∀ e ∈ l, e.f0.size ≤ 1048576 ∧ e.f1.length ≤ 1048575) (k : Nat) (hk : 3145732 < k) :
    spec_WriterAck.f k ds c ep l off node = some (writerAck ds c ep l off node) := by
  obtain ⟨k, rfl⟩ : ∃ m, k = m + 1 := ⟨k - 1, by omega⟩
  have hl' : l.length ≤ 1048576 ∧ ∀ e ∈ l, e.f0.size ≤ 1048576 ∧ e.f1.length ≤ 1048576 := ⟨hl.1, fun e he => ⟨(hl.2 e he).1, by have := (hl.2 e he).2; omega⟩⟩
  unfold spec_WriterAck.f writerAck
  rw [spec_WriterOk_is ds c ep l hd hl' _ (by omega), spec_l8Copy_is ep l ⟨hl'.1, fun e he => (hl'.2 e he).2⟩ _ (by omega), spec_l1In_is]
  simp only [Option.bind_some, spec_l1In_is]
  rw [wrap_id (show -9223372036854775808 ≤ (ds.length : Int) - 1 by omega) (by omega)]
  cases writerOk ds c ep l with
  | false => simp
  | true =>
    simp only [if_true]
    cases ho : inB off 1 (l.length : Int) with
    | false => simp [spec_WriterAck.j0]
    | true =>
      have ho' : 1 ≤ off ∧ off ≤ l.length := by rw [inB_true] at ho; omega
      rw [wrap_id (show -9223372036854775808 ≤ off - 1 by omega) (by omega)]
      cases hn : inB node 0 ((ds.length : Int) - 1) with
      | false => simp [spec_WriterAck.j0]
      | true =>
        simp only [if_true]
        rw [if_pos (by omega), if_pos (by omega)]
        simp only [spec_WriterAck.j0]
        rw [wrap_id (show -9223372036854775808 ≤ off - 1 by omega) (by omega)]
        cases hx : (rd_T50 l (off - 1)).f2 with
        | true => simp
        | false =>
          have hm := hl.2 _ (rdT_Word_mem' l (off - 1) (by omega) (by omega))
          have hp := putB_len (rd_T50 l (off - 1)).f1 node
          rw [if_neg (by simp), if_pos (by omega), if_pos (by omega), spec_l4Put_is _ node (by omega) _ (by omega)]
          simp only [Option.bind_some]
          rw [rdT_Word_set l (off - 1) _ (by omega) (by omega)]
          simp only
          rw [spec_Holds_is ds c _ hd (by omega) _ (by omega)]
          simp
theorem spec_l1Max_is (a b : Int) : spec_l1Max.f a b = some (max a b) := by
  unfold spec_l1Max.f
  split <;> (congr 1; omega)
def wsz (n : Nat) (l : List S50) : Prop := l.length ≤ n ∧ ∀ e ∈ l, e.f0.size ≤ 40 ∧ e.f1.length ≤ n
theorem wsz_mono {n m : Nat} {l : List S50} (h : wsz n l) (hm : n ≤ m) : wsz m l := ⟨by have := h.1; omega, fun e he => ⟨(h.2 e he).1, by have := (h.2 e he).2; omega⟩⟩
theorem writerAdd_sz (ds : List Int) (c ep : Int) (l : List S50) (s : ByteArray) (n : Nat) (h : wsz n l) (hs : s.size ≤ 40) : wsz (n + 1) (writerAdd ds c ep l s).2.1 := by
  unfold writerAdd
  split
  · split
    · refine ⟨by simp; exact h.1, fun e he => ?_⟩
      rcases List.mem_append.1 he with h2 | h2
      · exact (wsz_mono h (Nat.le_succ n)).2 e h2
      · rw [List.mem_singleton] at h2
        subst h2
        exact ⟨hs, by simp⟩
    · exact wsz_mono h (Nat.le_succ n)
  · exact ⟨by simp, fun e he => by simp at he⟩
theorem writerAck_sz (ds : List Int) (c ep : Int) (l : List S50) (off node : Int) (n : Nat) (h : wsz n l) : wsz (n + 1) (writerAck ds c ep l off node).2.1 := by
  unfold writerAck
  split
  · split
    · rename_i hc
      have ho' : 1 ≤ off ∧ off ≤ l.length := by have := hc.1; rw [inB_true] at this; omega
      refine ⟨by simp; have := h.1; omega, fun e he => ?_⟩
      rcases List.mem_or_eq_of_mem_set he with h2 | h2
      · exact (wsz_mono h (Nat.le_succ n)).2 e h2
      · subst h2
        have hm := h.2 _ (rdT_Word_mem' l (off - 1) (by omega) (by omega))
        exact ⟨hm.1, by have := putB_len (rd_T50 l (off - 1)).f1 node; simp only; omega⟩
    · exact wsz_mono h (Nat.le_succ n)
  · exact ⟨by simp, fun e he => by simp at he⟩
theorem spec_l8DrawRight_l (b : List Int) (ds : List Int) (c : Int) (hb : b.length ≤ 1048576) (hd : ds.length ≤ 1048576) (d : Nat) : ∀ (k n : Nat) (i h ep : Int) (l : List S50), n + d = 14 → 2 * d + 3145733 < k → 0 ≤ i → wsz n l →
    ∃ ep' l' i' h', spec_l8DrawRight.l0 k (n : Int) b i h ds c ep l = some (ep', l', i', h') ∧ wsz 14 l' ∧ 0 ≤ i' := by
  induction d with
  | zero =>
    intro k n i h ep l hn hk hi hw
    obtain ⟨k, rfl⟩ : ∃ m, k = m + 1 := ⟨k - 1, by omega⟩
    simp only [spec_l8DrawRight.l0]
    obtain ⟨x, i', h', e, _, hx, _, hi'⟩ := spec_l1Below_ok b i h 14 hb hi
    rw [e]
    simp only [Option.bind_some]
    have := hx (by omega)
    rw [if_neg (by omega)]
    exact ⟨_, _, _, _, rfl, wsz_mono hw (by omega), hi'⟩
  | succ d ih =>
    intro k n i h ep l hn hk hi hw
    obtain ⟨k, rfl⟩ : ∃ m, k = m + 2 := ⟨k - 2, by omega⟩
    simp only [spec_l8DrawRight.l0]
    obtain ⟨x, i1, h1, e, _, hx, _, hi1⟩ := spec_l1Below_ok b i h 14 hb hi
    rw [e]
    simp only [Option.bind_some]
    by_cases hlt : (n : Int) < x
    · rw [if_pos hlt]
      obtain ⟨s, i2, h2, e2, hs, hi2⟩ := spec_l1Pick_ok b i1 h1 [(⟨#[]⟩ : ByteArray), (⟨#[97]⟩ : ByteArray), (⟨#[98, 99]⟩ : ByteArray)] hb hi1 (by decide)
      have hsz : s.size ≤ 40 := by
        simp only [List.mem_cons, List.not_mem_nil, or_false] at hs
        rcases hs with rfl | rfl | rfl <;> decide
      have hw1 := hw.1
      have hl : l.length ≤ 1048575 ∧ ∀ e ∈ l, e.f0.size ≤ 1048576 ∧ e.f1.length ≤ 1048576 := ⟨by omega, fun e he => ⟨by have := (hw.2 e he).1; omega, by have := (hw.2 e he).2; omega⟩⟩
      rw [e2]
      simp only [Option.bind_some]
      rw [spec_WriterAdd_is ds c ep l s hd hl (by omega) _ (by omega)]
      simp only [Option.bind_some]
      obtain ⟨y, i3, h3, e3, hi3⟩ := spec_l1Once_ok b i2 h2 2 hb hi2
      rw [e3]
      simp only [Option.bind_some, spec_l8DrawRight.j1]
      rw [wrap_id (show -9223372036854775808 ≤ (n : Int) + 1 by omega) (by omega), show (n : Int) + 1 = ((n + 1 : Nat) : Int) from rfl]
      cases y with
      | true =>
        simp only [if_true]
        rw [spec_l1Max_is]
        simp only [Option.bind_some]
        obtain ⟨z, i4, h4, e4, hz, hz', _, hi4⟩ := spec_l1Below_ok b i3 h3 (max (l.length : Int) 1) hb hi3
        have hz2 := hz' (by omega)
        rw [e4]
        simp only [Option.bind_some]
        obtain ⟨v, i5, h5, e5, _, _, _, hi5⟩ := spec_l1Below_ok b i4 h4 (ds.length : Int) hb hi4
        rw [e5]
        simp only [Option.bind_some]
        rw [wrap_id (show -9223372036854775808 ≤ 1 + z by omega) (by omega), spec_WriterAck_is ds c ep l (1 + z) v hd ⟨by omega, fun e he => ⟨by have := (hw.2 e he).1; omega, by have := (hw.2 e he).2; omega⟩⟩ _ (by omega)]
        simp only [Option.bind_some]
        split
        · exact ih k (n + 1) i5 h5 _ _ (by omega) (by omega) hi5 (writerAck_sz ds c ep l (1 + z) v n hw)
        · exact ih k (n + 1) i5 h5 _ _ (by omega) (by omega) hi5 (wsz_mono hw (by omega))
      | false =>
        simp only [Bool.false_eq_true, if_false]
        split
        · exact ih k (n + 1) i3 h3 _ _ (by omega) (by omega) hi3 (writerAdd_sz ds c ep l s n hw hsz)
        · exact ih k (n + 1) i3 h3 _ _ (by omega) (by omega) hi3 (wsz_mono hw (by omega))
    · rw [if_neg hlt]
      exact ⟨_, _, _, _, rfl, wsz_mono hw (by omega), hi1⟩
theorem spec_l8DrawRight_ok (b : List Int) (i h : Int) (ds : List Int) (c : Int) (hb : b.length ≤ 1048576) (hi : 0 ≤ i) (hd : ds.length ≤ 1048576) (k : Nat) (hk : 3145800 < k) :
    ∃ ep' l' i' h', spec_l8DrawRight.f k b i h ds c = some (ep', l', i', h') ∧ wsz 14 l' ∧ 0 ≤ i' := by
  unfold spec_l8DrawRight.f
  obtain ⟨x, i1, h1, e, _, _, _, hi1⟩ := spec_l1Below_ok b i h 4 hb hi
  rw [e]
  simp only [Option.bind_some]
  exact spec_l8DrawRight_l b ds c hb hd 14 k 0 i1 h1 _ [] (by omega) (by omega) hi1 ⟨by simp, fun e he => by simp at he⟩
def wfit (l : List S50) : Prop := l.length ≤ 60 ∧ ∀ e ∈ l, e.f0.size ≤ 41 ∧ e.f1.length ≤ 14
theorem wsz_fit {l : List S50} (h : wsz 14 l) : wfit l := ⟨by have := h.1; omega, fun e he => ⟨by have := (h.2 e he).1; omega, (h.2 e he).2⟩⟩
theorem size_strOfNums (xs : List Int) : (strOfNums xs).size = xs.length := by
  simp [strOfNums, ByteArray.size]
theorem spec_l8Draw_l (b : List Int) (i h ep : Int) (d : Nat) : ∀ (k : Nat) (l : List S50), wfit l → 60 - l.length ≤ d → d < k → ∃ l', spec_l8Draw.l0 k b i h ep l = some (ep, l', i, h) ∧ wfit l' := by
  induction d with
  | zero =>
    intro k l hl hd hk
    obtain ⟨k, rfl⟩ : ∃ m, k = m + 1 := ⟨k - 1, by omega⟩
    simp only [spec_l8Draw.l0]
    rw [if_neg (by have := hl.1; omega)]
    exact ⟨_, rfl, hl⟩
  | succ d ih =>
    intro k l hl hd hk
    have hl1 := hl.1
    obtain ⟨k, rfl⟩ : ∃ m, k = m + 1 := ⟨k - 1, by omega⟩
    simp only [spec_l8Draw.l0]
    by_cases h1 : (l.length : Int) < 60
    · rw [if_pos h1]
      by_cases h2 : (l.length : Int) > 0
      · rw [if_pos h2, if_pos h2, if_pos (by omega)]
        refine ih k _ ⟨by simp; omega, fun e he => ?_⟩ (by simp; omega) (by omega)
        rcases List.mem_append.1 he with h3 | h3
        · exact hl.2 e h3
        · rw [List.mem_singleton] at h3
          subst h3
          have hm := hl.2 (rd_T50 l 0) (rdT_Word_mem' l 0 (by omega) (by omega))
          exact hm
      · rw [if_neg h2]
        exact ⟨_, rfl, hl⟩
    · rw [if_neg h1]
      exact ⟨_, rfl, hl⟩
theorem spec_l8Draw_ok (b : List Int) (i h : Int) (ds : List Int) (c : Int) (hb : b.length ≤ 1048576) (hi : 0 ≤ i) (hd : ds.length ≤ 1048576) (k : Nat) (hk : 3145800 < k) :
    ∃ ep' l' i' h', spec_l8Draw.f k b i h ds c = some (ep', l', i', h') ∧ wfit l' ∧ 0 ≤ i' := by
  unfold spec_l8Draw.f
  obtain ⟨ep, l, i1, h1, e, hw, hi1⟩ := spec_l8DrawRight_ok b i h ds c hb hi hd k hk
  have hw1 := hw.1
  rw [e]
  simp only [Option.bind_some]
  obtain ⟨x, i2, h2, e2, _, _, _, hi2⟩ := spec_l1Below_ok b i1 h1 25 hb hi1
  rw [e2]
  simp only [Option.bind_some]
  by_cases c0 : x = 0
  · rw [if_pos c0]
    obtain ⟨y, i3, h3, e3, _, hi3⟩ := spec_l1PickInt_ok b i2 h2 [0, 30, 31] hb hi2 (by decide)
    rw [e3]
    exact ⟨_, _, _, _, rfl, wsz_fit hw, hi3⟩
  rw [if_neg c0]
  by_cases c1 : x = 1
  · rw [if_pos c1]
    by_cases hl : (l.length : Int) > 0
    · rw [if_pos hl, if_pos hl]
      refine ⟨_, _, _, _, rfl, ⟨by simp; omega, fun e he => ?_⟩, hi2⟩
      rcases List.mem_or_eq_of_mem_set he with h3 | h3
      · exact (wsz_fit hw).2 e h3
      · subst h3
        have hm := (wsz_fit hw).2 (rd_T50 l 0) (rdT_Word_mem' l 0 (by omega) (by omega))
        exact hm
    · rw [if_neg hl]
      exact ⟨_, _, _, _, rfl, wsz_fit hw, hi2⟩
  rw [if_neg c1]
  by_cases c2 : x = 2
  · rw [if_pos c2]
    obtain ⟨y, i3, h3, e3, hy, hy', _, hi3⟩ := spec_l1Below_ok b i2 h2 2 hb hi2
    have := hy' (by omega)
    rw [e3]
    simp only [Option.bind_some]
    rw [wrap_id (show -9223372036854775808 ≤ 40 + y by omega) (by omega), if_pos (by omega), if_pos (by omega), if_pos (by omega)]
    refine ⟨_, _, _, _, rfl, ⟨by simp; omega, fun e he => ?_⟩, hi3⟩
    rcases List.mem_append.1 he with h3 | h3
    · exact (wsz_fit hw).2 e h3
    · rw [List.mem_singleton] at h3
      subst h3
      exact ⟨by simp only [size_strOfNums, List.length_replicate]; omega, by simp⟩
  rw [if_neg c2]
  by_cases c3 : x = 3
  · rw [if_pos c3]
    obtain ⟨l', e3, hl'⟩ := spec_l8Draw_l b i2 h2 ep 60 k l (wsz_fit hw) (by omega) (by omega)
    rw [e3]
    exact ⟨_, _, _, _, rfl, hl', hi2⟩
  · rw [if_neg c3]
    exact ⟨_, _, _, _, rfl, wsz_fit hw, hi2⟩
theorem spec_DrawWriterAdd_ok (b : List Int) (hb : b.length ≤ 1048576) (k : Nat) (hk : 3145800 < k) : ∃ ds c ep l s, spec_DrawWriterAdd.f k b = some (ds, c, ep, l, s) ∧ ds.length ≤ 9 ∧ wfit l ∧ s.size ≤ 41 := by
  unfold spec_DrawWriterAdd.f
  obtain ⟨h, e⟩ := spec_l1New_ok b hb k (by omega)
  rw [e]
  simp only [Option.bind_some]
  obtain ⟨o, c, i1, h1, e1, ho, hi1⟩ := spec_l4Draw_ok b 0 h hb (by omega) k (by omega)
  rw [e1]
  simp only [Option.bind_some]
  obtain ⟨ep, l, i2, h2, e2, hl, hi2⟩ := spec_l8Draw_ok b i1 h1 o c hb hi1 (by omega) k hk
  rw [e2]
  simp only [Option.bind_some]
  obtain ⟨s, i3, h3, e3, hs, hi3⟩ := spec_l1Pick_ok b i2 h2 [(⟨#[]⟩ : ByteArray), (⟨#[97]⟩ : ByteArray), (⟨#[98, 99]⟩ : ByteArray)] hb hi2 (by decide)
  have hsz : s.size ≤ 41 := by
    simp only [List.mem_cons, List.not_mem_nil, or_false] at hs
    rcases hs with rfl | rfl | rfl <;> decide
  rw [e3]
  simp only [Option.bind_some]
  obtain ⟨y, i4, h4, e4, hi4⟩ := spec_l1Once_ok b i3 h3 12 hb hi3
  rw [e4]
  simp only [Option.bind_some]
  split
  · obtain ⟨z, i5, h5, e5, hz, hz', _, hi5⟩ := spec_l1Below_ok b i4 h4 2 hb hi4
    have := hz' (by omega)
    rw [e5]
    simp only [Option.bind_some]
    rw [wrap_id (show -9223372036854775808 ≤ 40 + z by omega) (by omega), if_pos (by omega), if_pos (by omega)]
    exact ⟨_, _, _, _, _, rfl, ho, hl, by simp only [size_strOfNums, List.length_replicate]; omega⟩
  · exact ⟨_, _, _, _, _, rfl, ho, hl, hsz⟩
theorem laws_big_is (l : List Int) : laws_big.f l = some (decide ((l.length : Int) > 1048576)) := rfl
theorem impl_within_is (x a b : Int) : impl_within.f x a b = some (inB x a b) := by
  unfold impl_within.f inB
  by_cases h : x ≥ a
  · rw [if_pos h]; simp [show a ≤ x from h]
  · rw [if_neg h]; simp [show ¬ a ≤ x from h]
theorem impl_ConfigOk_l (ds : List Int) (c : Int) (hl : ds.length ≤ 1048576) (d : Nat) : ∀ (k i : Nat), i + d = ds.length → d < k → impl_ConfigOk.l0 k ds (ds.length : Int) (i : Int) ds c = some ((ds.drop i).all (fun d => inB d 0 7) && inB (ds.length : Int) 1 8 && inB c 1 4) := by
  induction d with
  | zero =>
    intro k i h hk
    obtain ⟨k, rfl⟩ : ∃ m, k = m + 1 := ⟨k - 1, by omega⟩
    simp only [impl_ConfigOk.l0]
    rw [if_neg (by omega), List.drop_eq_nil_of_le (by omega), impl_within_is, impl_within_is]
    cases inB (ds.length : Int) 1 8 <;> simp
  | succ d ih =>
    intro k i h hk
    obtain ⟨k, rfl⟩ : ∃ m, k = m + 1 := ⟨k - 1, by omega⟩
    simp only [impl_ConfigOk.l0]
    rw [if_pos (by omega), if_pos (by omega), if_pos (by omega), impl_within_is, rd_drop ds i (by omega), List.all_cons]
    simp only [Option.bind_some]
    cases inB (rd ds i) 0 7 with
    | false => rfl
    | true =>
      simp only [if_true, Bool.true_and]
      rw [wrap_id (by omega) (by omega)]
      exact ih k (i + 1) (by omega) (by omega)
theorem impl_ConfigOk_is (ds : List Int) (c : Int) (hl : ds.length ≤ 1048576) (k : Nat) (hk : 1048577 < k) : impl_ConfigOk.f k ds c = some (cfgOk ds c) := by
  unfold impl_ConfigOk.f
  have h := impl_ConfigOk_l ds c hl ds.length k 0 (by omega) (by omega)
  rw [List.drop_zero] at h
  rw [show (0 : Int) = ((0 : Nat) : Int) from rfl, h]
  unfold cfgOk
  cases inB (ds.length : Int) 1 8 <;> cases inB c 1 4 <;> simp
theorem impl_dataOk_is (s : ByteArray) : impl_dataOk.f s = some (decide ((s.size : Int) ≤ 40)) := rfl
theorem impl_ascends_l (l : List Int) (hi : Int) (hl : l.length ≤ 1048576) (d : Nat) : ∀ (k i : Nat), i + d = l.length → d < k → (∀ j, j < i → (0 ≤ l.getD j 0 ∧ l.getD j 0 ≤ hi) ∧ (0 < j → l.getD (j - 1) 0 < l.getD j 0)) → impl_ascends.l0 k l hi l (l.length : Int) (i : Int) = some (decide (Asc l 0 hi)) := by
  induction d with
  | zero =>
    intro k i h hk hj
    obtain ⟨k, rfl⟩ : ∃ m, k = m + 1 := ⟨k - 1, by omega⟩
    simp only [impl_ascends.l0]
    rw [if_neg (by omega), decide_eq_true (show Asc l 0 hi from fun j hjl => hj j (by omega))]
  | succ d ih =>
    intro k i h hk hj
    obtain ⟨k, rfl⟩ : ∃ m, k = m + 1 := ⟨k - 1, by omega⟩
    simp only [impl_ascends.l0]
    rw [if_pos (by omega), if_pos (by omega), if_pos (by omega), impl_within_is, rd_nat]
    simp only [Option.bind_some]
    by_cases hb : inB (l.getD i 0) 0 hi = true
    · rw [if_pos hb]
      rw [inB_true] at hb
      by_cases h0 : (i : Int) > 0
      · rw [if_pos h0, wrap_id (by omega) (by omega), if_pos (by omega), if_pos (by omega), show ((i : Int) - 1) = ((i - 1 : Nat) : Int) by omega, rd_nat]
        by_cases hg : l.getD (i - 1) 0 ≥ l.getD i 0
        · rw [if_pos hg, decide_eq_false (fun ha : Asc l 0 hi => by have := (ha i (by omega)).2 (by omega); omega)]
        · rw [if_neg hg, wrap_id (by omega) (by omega)]
          refine ih k (i + 1) (by omega) (by omega) (fun j hji => ?_)
          by_cases e : j = i
          · subst e; exact ⟨hb, fun _ => by omega⟩
          · exact hj j (by omega)
      · rw [if_neg h0, wrap_id (by omega) (by omega)]
        refine ih k (i + 1) (by omega) (by omega) (fun j hji => ?_)
        by_cases e : j = i
        · subst e; exact ⟨hb, fun _ => by omega⟩
        · exact hj j (by omega)
    · rw [if_neg hb, decide_eq_false (fun ha : Asc l 0 hi => hb (inB_true.2 (ha i (by omega)).1))]
theorem impl_ascends_is (l : List Int) (hi : Int) (hl : l.length ≤ 1048576) (k : Nat) (hk : 1048576 < k) : impl_ascends.f k l hi = some (decide (Asc l 0 hi)) := by
  unfold impl_ascends.f
  exact impl_ascends_l l hi hl l.length k 0 (by omega) (by omega) (fun j h => by omega)
theorem impl_NodesOk_is (ds : List Int) (c : Int) (l : List Int) (hd : ds.length ≤ 1048576) (hl : l.length ≤ 1048576) (k : Nat) (hk : 1048577 < k) : impl_NodesOk.f k ds c l = some (nodesOk ds c l) := by
  unfold impl_NodesOk.f nodesOk
  rw [impl_ConfigOk_is ds c hd k hk, wrap_id (by omega) (by omega), impl_ascends_is l _ hl k (by omega)]
  cases cfgOk ds c <;> simp
theorem slices_Index_l (l : List Int) (x : Int) (hl : l.length ≤ 1048576) (d : Nat) : ∀ (k i : Nat), i + d = l.length → d < k → ∃ r : Int, slices_Index_int_int.l0 k l x (l.length : Int) (i : Int) = some r ∧ (decide (r ≥ 0) = (l.drop i).contains x) := by
  induction d with
  | zero =>
    intro k i h hk
    obtain ⟨k, rfl⟩ : ∃ m, k = m + 1 := ⟨k - 1, by omega⟩
    simp only [slices_Index_int_int.l0]
    rw [if_neg (by omega), List.drop_eq_nil_of_le (by omega)]
    exact ⟨-1, rfl, rfl⟩
  | succ d ih =>
    intro k i h hk
    obtain ⟨k, rfl⟩ : ∃ m, k = m + 1 := ⟨k - 1, by omega⟩
    simp only [slices_Index_int_int.l0]
    rw [if_pos (by omega), if_pos (by omega), if_pos (by omega), rd_drop l i (by omega)]
    by_cases hx : x = rd l (i : Int)
    · rw [if_pos hx]
      exact ⟨i, rfl, by simp [hx]⟩
    · rw [if_neg hx, wrap_id (by omega) (by omega)]
      obtain ⟨r, hr, hd⟩ := ih k (i + 1) (by omega) (by omega)
      exact ⟨r, hr, by rw [hd]; simp [hx]⟩
theorem slices_Contains_is (l : List Int) (x : Int) (hl : l.length ≤ 1048576) (k : Nat) (hk : 1048576 < k) : slices_Contains_int_int.f k l x = some (l.contains x) := by
  unfold slices_Contains_int_int.f slices_Index_int_int.f
  obtain ⟨r, hr, hd⟩ := slices_Index_l l x hl l.length k 0 (by omega) (by omega)
  rw [show (0 : Int) = ((0 : Nat) : Int) from rfl, hr]
  simp only [Option.bind_some]
  rw [show ((0 : Nat) : Int) = 0 from rfl, hd, List.drop_zero]
theorem impl_SpanOf_l (ds : List Int) (c : Int) (l : List Int) (hl : l.length ≤ 1048576) (hmem : ∀ n ∈ l, 0 ≤ n ∧ n < (ds.length : Int)) (d : Nat) :
    ∀ (k i : Nat) (acc : List Int), i + d = l.length → d + 1048576 < k → acc.length ≤ i → impl_SpanOf.l0 k acc l (l.length : Int) (i : Int) ds c = some ((domsOf ds (l.drop i) acc).length : Int) := by
  induction d with
  | zero =>
    intro k i acc h hk ha
    obtain ⟨k, rfl⟩ : ∃ m, k = m + 1 := ⟨k - 1, by omega⟩
    simp only [impl_SpanOf.l0]
    rw [if_neg (by omega), List.drop_eq_nil_of_le (by omega)]
    rfl
  | succ d ih =>
    intro k i acc h hk ha
    obtain ⟨k, rfl⟩ : ∃ m, k = m + 1 := ⟨k - 1, by omega⟩
    have hi : i < l.length := by omega
    have hin : rd l (i : Int) ∈ l := by
      rw [rd_nat, List.getD_eq_getElem?_getD, List.getElem?_eq_getElem hi]
      exact List.getElem_mem _
    have hn := hmem _ hin
    simp only [impl_SpanOf.l0]
    rw [if_pos (by omega), if_pos (by omega), if_pos (by omega), if_pos hn.1, if_pos hn.2, slices_Contains_is acc _ (by omega) k (by omega), rd_drop l i hi]
    simp only [Option.bind_some, domsOf]
    rw [wrap_id (show -9223372036854775808 ≤ (i : Int) + 1 by omega) (by omega)]
    by_cases hc : acc.contains (rd ds (rd l (i : Int))) = true
    · rw [if_pos hc, if_pos hc]
      exact ih k (i + 1) acc (by omega) (by omega) (by omega)
    · rw [if_neg hc, if_neg hc, if_pos (by omega)]
      exact ih k (i + 1) _ (by omega) (by omega) (by simp; omega)
theorem impl_SpanOf_is (ds : List Int) (c : Int) (l : List Int) (hd : ds.length ≤ 1048576) (hl : l.length ≤ 1048576) (k : Nat) (hk : 2097153 < k) : impl_SpanOf.f k ds c l = some (if nodesOk ds c l = true then spanOf ds l else -1) := by
  unfold impl_SpanOf.f
  rw [impl_NodesOk_is ds c l hd hl k (by omega)]
  simp only [Option.bind_some]
  by_cases h : nodesOk ds c l = true
  · rw [if_pos h, if_pos h]
    have h' := h
    simp only [nodesOk, Bool.and_eq_true, decide_eq_true_eq] at h'
    have := impl_SpanOf_l ds c l hl (fun n hn => by have := Asc_mem h'.2 hn; omega) l.length k 0 [] (by omega) (by omega) (by simp)
    simpa [spanOf] using this
  · rw [if_neg h, if_neg h]
theorem impl_Holds_is (ds : List Int) (c : Int) (l : List Int) (hd : ds.length ≤ 1048576) (hl : l.length ≤ 1048576) (k : Nat) (hk : 2097153 < k) : impl_Holds.f k ds c l = some (holdsB ds c l) := by
  unfold impl_Holds.f holdsB
  rw [impl_NodesOk_is ds c l hd hl k (by omega)]
  simp only [Option.bind_some]
  by_cases h : nodesOk ds c l = true
  · rw [if_pos h, impl_SpanOf_is ds c l hd hl k hk, if_pos h, h]
    simp
  · rw [if_neg h]
    simp [h]
theorem impl_flagNum_is (b : Bool) : impl_flagNum.f b = some (if b = true then 1 else 0) := by
  unfold impl_flagNum.f
  cases b <;> rfl
theorem impl_WriterOk_l (ds : List Int) (c ep : Int) (l : List S50) (hd : ds.length ≤ 1048576) (hl : l.length ≤ 1048576 ∧ ∀ e ∈ l, e.f0.size ≤ 1048576 ∧ e.f1.length ≤ 1048576) (d : Nat) : ∀ (k i : Nat) (n : Int), i + d = l.length → d + 2097154 < k → 0 ≤ n → n ≤ i →
    impl_WriterOk.l0 k n l (l.length : Int) (i : Int) ds c ep l = some ((l.drop i).all (wordOk ds c) && (cfgOk ds c && (inB ep 1 30 && (decide ((l.length : Int) ≤ 60) && le6 (n + openOf (l.drop i)))))) := by
  induction d with
  | zero =>
    intro k i n h hk h0 h1
    obtain ⟨k, rfl⟩ : ∃ m, k = m + 1 := ⟨k - 1, by omega⟩
    simp only [impl_WriterOk.l0, impl_isEpoch.f]
    rw [if_neg (by omega), List.drop_eq_nil_of_le (by omega), impl_ConfigOk_is ds c hd _ (by omega), impl_within_is]
    by_cases hs : (l.length : Int) ≤ 60
    · rw [if_pos hs, decide_eq_true hs]
      cases cfgOk ds c <;> cases inB ep 1 30 <;> simp [openOf, le6]
    · rw [if_neg hs, decide_eq_false hs]
      cases cfgOk ds c <;> cases inB ep 1 30 <;> simp [openOf, le6]
  | succ d ih =>
    intro k i n h hk h0 h1
    obtain ⟨k, rfl⟩ : ∃ m, k = m + 1 := ⟨k - 1, by omega⟩
    have hz := hl.2 _ (rdT_Word_mem l i (by omega))
    simp only [impl_WriterOk.l0]
    rw [if_pos (by omega), if_pos (by omega), if_pos (by omega), impl_dataOk_is, impl_NodesOk_is ds c _ hd hz.2 _ (by omega), impl_Holds_is ds c _ hd hz.2 _ (by omega), drop_rdT_Word l i (by omega), List.all_cons]
    simp only [Option.bind_some, wordOk, impl_flagNum_is]
    generalize rd_T50 l (i : Int) = x
    have i1 := ih k (i + 1) n (by omega) (by omega) h0 (by omega)
    have i2 := ih k (i + 1) (n + 1) (by omega) (by omega) (by omega) (by omega)
    rw [wrap_id (show -9223372036854775808 ≤ (i : Int) + 1 by omega) (by omega), show (i : Int) + 1 = ((i + 1 : Nat) : Int) from rfl]
    by_cases hs : (x.f0.size : Int) ≤ 40
    · rw [decide_eq_true hs]
      cases hx : x.f2 with
      | true =>
        rw [openOf_t hx, if_neg (show ¬ ((!true) = true) by decide), show n + 0 = n by omega, wrap_id (show -9223372036854775808 ≤ n by omega) (by omega), i1]
        cases nodesOk ds c x.f1 <;> cases holdsB ds c x.f1 <;> simp
      | false =>
        rw [openOf_n hx, show n + (1 + openOf (l.drop (i + 1))) = n + 1 + openOf (l.drop (i + 1)) by omega]
        rw [if_pos (show ((!false) = true) by decide), wrap_id (show -9223372036854775808 ≤ n + 1 by omega) (by omega), i2]
        cases nodesOk ds c x.f1 <;> cases holdsB ds c x.f1 <;> simp
    · rw [decide_eq_false hs]
      simp
theorem impl_WriterOk_is (ds : List Int) (c ep : Int) (l : List S50) (hd : ds.length ≤ 1048576) (hl : l.length ≤ 1048576 ∧ ∀ e ∈ l, e.f0.size ≤ 1048576 ∧ e.f1.length ≤ 1048576) (k : Nat) (hk : 3145731 < k) :
    impl_WriterOk.f k ds c ep l = some (writerOk ds c ep l) := by
  unfold impl_WriterOk.f writerOk
  have h := impl_WriterOk_l ds c ep l hd hl l.length k 0 0 (by omega) (by omega) (by omega) (by omega)
  rw [List.drop_zero, show ((0 : Nat) : Int) = 0 from rfl] at h
  rw [h]
  cases cfgOk ds c <;> cases inB ep 1 30 <;> cases l.all (wordOk ds c) <;> simp
theorem impl_copyInts_is (l : List Int) (hl : l.length ≤ 1048576) : impl_copyInts.f l = some l := by
  unfold impl_copyInts.f
  simp only [Option.bind_some, List.length_nil, List.nil_append]
  rw [if_pos (by omega)]
theorem impl_copyWriter_l (ep : Int) (l : List S50) (hl : l.length ≤ 1048576 ∧ ∀ e ∈ l, e.f1.length ≤ 1048576) (d : Nat) : ∀ (k i : Nat), i + d = l.length → d < k → impl_copyWriter.l0 k l (l.length : Int) (i : Int) ep (l.take i) = some (ep, l) := by
  induction d with
  | zero =>
    intro k i h hk
    obtain ⟨k, rfl⟩ : ∃ m, k = m + 1 := ⟨k - 1, by omega⟩
    simp only [impl_copyWriter.l0]
    rw [if_neg (by omega), List.take_of_length_le (by omega)]
  | succ d ih =>
    intro k i h hk
    obtain ⟨k, rfl⟩ : ∃ m, k = m + 1 := ⟨k - 1, by omega⟩
    have hm := hl.2 _ (rdT_Word_mem l i (by omega))
    simp only [impl_copyWriter.l0]
    rw [if_pos (by omega), if_pos (by omega), if_pos (by omega), impl_copyInts_is _ hm]
    simp only [Option.bind_some]
    rw [if_pos (by rw [List.length_take]; omega), wrap_id (show -9223372036854775808 ≤ (i : Int) + 1 by omega) (by omega)]
    have hx : (⟨(rd_T50 l (i : Int)).f0, (rd_T50 l (i : Int)).f1, (rd_T50 l (i : Int)).f2⟩ : S50) = l[i]'(by omega) := by
      rw [show rd_T50 l (i : Int) = l[i]'(by omega) from by simp [rd_T50, List.getD_eq_getElem?_getD, List.getElem?_eq_getElem (show i < l.length by omega)]]
    have e : l.take i ++ [(⟨(rd_T50 l (i : Int)).f0, (rd_T50 l (i : Int)).f1, (rd_T50 l (i : Int)).f2⟩ : S50)] = l.take (i + 1) := by
      rw [hx]
      exact (List.take_succ_eq_append_getElem (show i < l.length by omega)).symm
    rw [e]
    exact ih k (i + 1) (by omega) (by omega)
theorem impl_copyWriter_is (ep : Int) (l : List S50) (hl : l.length ≤ 1048576 ∧ ∀ e ∈ l, e.f1.length ≤ 1048576) (k : Nat) (hk : 1048576 < k) : impl_copyWriter.f k ep l = some (ep, l) := by
  unfold impl_copyWriter.f
  have := impl_copyWriter_l ep l hl l.length k 0 (by omega) (by omega)
  simpa using this
theorem impl_writerAsWas_is (ds : List Int) (c ep : Int) (l : List S50) (hd : ds.length ≤ 1048576) (hl : l.length ≤ 1048576 ∧ ∀ e ∈ l, e.f0.size ≤ 1048576 ∧ e.f1.length ≤ 1048576) (k : Nat) (hk : 3145731 < k) :
    impl_writerAsWas.f k ds c ep l = some (if writerOk ds c ep l = true then (ep, l) else (0, [])) := by
  unfold impl_writerAsWas.f
  rw [impl_WriterOk_is ds c ep l hd hl k hk, impl_copyWriter_is ep l ⟨hl.1, fun e he => (hl.2 e he).2⟩ k (by omega)]
  cases writerOk ds c ep l <;> simp
theorem impl_WriterAdd_is (ds : List Int) (c ep : Int) (l : List S50) (s : ByteArray) (hd : ds.length ≤ 1048576) (hl : l.length ≤ 1048575 ∧ ∀ e ∈ l, e.f0.size ≤ 1048576 ∧ e.f1.length ≤ 1048576) (hs : s.size ≤ 1048576) (k : Nat) (hk : 3145731 < k) :
    impl_WriterAdd.f k ds c ep l s = some (writerAdd ds c ep l s) := by
  have hl' : l.length ≤ 1048576 ∧ ∀ e ∈ l, e.f0.size ≤ 1048576 ∧ e.f1.length ≤ 1048576 := ⟨by omega, hl.2⟩
  have h2 : (l ++ [(⟨s, [], false⟩ : S50)]).length ≤ 1048576 ∧ ∀ e ∈ l ++ [(⟨s, [], false⟩ : S50)], e.f0.size ≤ 1048576 ∧ e.f1.length ≤ 1048576 := by
    refine ⟨by simp; omega, fun e he => ?_⟩
    rcases List.mem_append.1 he with h | h
    · exact hl.2 e h
    · rw [List.mem_singleton] at h
      subst h
      exact ⟨hs, by simp⟩
  unfold impl_WriterAdd.f writerAdd
  rw [impl_copyWriter_is ep l ⟨hl'.1, fun e he => (hl'.2 e he).2⟩ k (by omega)]
  simp only [Option.bind_some]
  rw [if_pos (show l.length < 2932031007402 by omega), impl_WriterOk_is ds c ep l hd hl' k hk]
  simp only [Option.bind_some]
  rw [impl_WriterOk_is ds c ep _ hd h2 k hk, impl_writerAsWas_is ds c ep l hd hl' k hk]
  simp only [Option.bind_some]
  cases writerOk ds c ep l <;> cases writerOk ds c ep (l ++ [⟨s, [], false⟩]) <;> simp
theorem impl_WriterSure_l (l : List S50) (e : Int) (hl : l.length ≤ 1048576) (d : Nat) : ∀ (k i : Nat), i + d = l.length → d < k → impl_WriterSure.l0 k l (l.length : Int) (i : Int) e l = some (sureFrom l d i : Int) := by
  induction d with
  | zero =>
    intro k i h hk
    obtain ⟨k, rfl⟩ : ∃ m, k = m + 1 := ⟨k - 1, by omega⟩
    simp only [impl_WriterSure.l0]
    rw [if_neg (by omega)]
    simp [sureFrom]
    omega
  | succ d ih =>
    intro k i h hk
    obtain ⟨k, rfl⟩ : ∃ m, k = m + 1 := ⟨k - 1, by omega⟩
    simp only [impl_WriterSure.l0, sureFrom]
    rw [if_pos (by omega), if_pos (by omega), if_pos (by omega)]
    split
    · rw [wrap_id (by omega) (by omega)]
      exact ih k (i + 1) (by omega) (by omega)
    · rfl
theorem impl_WriterSure_is (e : Int) (l : List S50) (hl : l.length ≤ 1048576) (k : Nat) (hk : 1048576 < k) : impl_WriterSure.f k e l = some (sureFrom l l.length 0 : Int) := by
  unfold impl_WriterSure.f
  exact impl_WriterSure_l l e hl l.length k 0 (by omega) (by omega)
theorem sureFrom_all (l : List S50) (d : Nat) : ∀ i, i + d = l.length → i ≤ sureFrom l d i ∧ sureFrom l d i ≤ l.length ∧ (∀ j, i ≤ j → j < sureFrom l d i → (rd_T50 l (j : Int)).f2 = true) := by
  induction d with
  | zero =>
    intro i h
    simp only [sureFrom]
    exact ⟨by omega, by omega, fun j h1 h2 => by omega⟩
  | succ d ih =>
    intro i h
    simp only [sureFrom]
    split
    · rename_i hx
      obtain ⟨h1, h2, h3⟩ := ih (i + 1) (by omega)
      refine ⟨by omega, h2, fun j hj hj' => ?_⟩
      by_cases he : j = i
      · subst he
        exact hx
      · exact h3 j (by omega) hj'
    · exact ⟨by omega, by omega, fun j h1 h2 => by omega⟩
theorem rdT_app_l (l : List S50) (x : S50) (i : Nat) (h : i < l.length) : rd_T50 (l ++ [x]) (i : Int) = rd_T50 l (i : Int) := by
  simp [rd_T50, List.getD_eq_getElem?_getD, List.getElem?_append_left h]
theorem rdT_app_r (l : List S50) (x : S50) : rd_T50 (l ++ [x]) (l.length : Int) = x := by
  simp [rd_T50, List.getD_eq_getElem?_getD]
theorem laws_FnAdded_l (s : ByteArray) (ds : List Int) (c ep : Int) (l : List S50) (hl : wfit l) (hd : ds.length ≤ 9) (hs : s.size ≤ 41) (ep' : Int) (hok : writerOk ds c ep' (l ++ [⟨s, [], false⟩]) = true) (d : Nat) : ∀ (k i : Nat), i + d = l.length → d + 3145732 < k →
    laws_FnAdded.l0 k s (((l ++ [(⟨s, [], false⟩ : S50)]).length : Nat) : Int) (i : Int) ds c ep l ep' (l ++ [⟨s, [], false⟩]) = some true := by
  have hl1 := hl.1
  have hlen : (l ++ [(⟨s, [], false⟩ : S50)]).length = l.length + 1 := by simp
  induction d with
  | zero =>
    intro k i h hk
    obtain ⟨k, rfl⟩ : ∃ m, k = m + 1 := ⟨k - 1, by omega⟩
    have h2 : (l ++ [(⟨s, [], false⟩ : S50)]).length ≤ 1048576 ∧ ∀ e ∈ l ++ [(⟨s, [], false⟩ : S50)], e.f0.size ≤ 1048576 ∧ e.f1.length ≤ 1048576 := by
      refine ⟨by omega, fun e he => ?_⟩
      rcases List.mem_append.1 he with h | h
      · exact ⟨by have := (hl.2 e h).1; omega, by have := (hl.2 e h).2; omega⟩
      · rw [List.mem_singleton] at h
        subst h
        exact ⟨by simp only; omega, by simp⟩
    simp only [laws_FnAdded.l0]
    rw [hlen, if_neg (by omega), wrap_id (show -9223372036854775808 ≤ ((l.length + 1 : Nat) : Int) - 1 by omega) (by omega), if_pos (by omega), if_pos (by omega), wrap_id (show -9223372036854775808 ≤ (l.length : Int) + 1 by omega) (by omega), if_pos (by omega), show ((l.length + 1 : Nat) : Int) - 1 = (l.length : Int) by omega, rdT_app_r]
    simp only [if_true, List.length_nil]
    rw [impl_WriterSure_is ep' _ h2.1 _ (by omega), impl_WriterOk_is ds c ep' _ (by omega) h2 _ (by omega), hok]
    have hsure : sureFrom (l ++ [(⟨s, [], false⟩ : S50)]) (l ++ [(⟨s, [], false⟩ : S50)]).length 0 ≤ l.length := by
      obtain ⟨_, a2, a3⟩ := sureFrom_all (l ++ [(⟨s, [], false⟩ : S50)]) (l ++ [(⟨s, [], false⟩ : S50)]).length 0 (by omega)
      apply Classical.byContradiction
      intro hn
      have := a3 l.length (by omega) (by omega)
      rw [rdT_app_r] at this
      simp at this
    simp only [Option.bind_some]
    rw [if_pos (by decide), if_neg (by decide), if_pos (by omega)]
  | succ d ih =>
    intro k i h hk
    obtain ⟨k, rfl⟩ : ∃ m, k = m + 1 := ⟨k - 1, by omega⟩
    simp only [laws_FnAdded.l0]
    rw [if_pos (by omega), if_pos (by omega), if_pos (by rw [hlen]; omega), rdT_app_l l _ i (by omega), if_pos rfl, if_neg (by simp), wrap_id (show -9223372036854775808 ≤ (i : Int) + 1 by omega) (by omega)]
    exact ih k (i + 1) (by omega) (by omega)
theorem FnAdded : Goal := by
  intro b hb
  refine ⟨9000000, ?_⟩
  unfold laws_FnAdded.f
  rw [laws_big_is]
  simp only [Option.bind_some]
  by_cases hbig : (b.length : Int) > 1048576
  · rw [decide_eq_true hbig, if_pos rfl]
  rw [decide_eq_false hbig, if_neg (by decide)]
  obtain ⟨ds, c, ep, l, s, e, hd, hl, hs⟩ := spec_DrawWriterAdd_ok b (by omega) 9000000 (by omega)
  have hl1 := hl.1
  have hl' : l.length ≤ 1048575 ∧ ∀ e ∈ l, e.f0.size ≤ 1048576 ∧ e.f1.length ≤ 1048576 := ⟨by omega, fun e he => ⟨by have := (hl.2 e he).1; omega, by have := (hl.2 e he).2; omega⟩⟩
  rw [e]
  simp only [Option.bind_some]
  rw [impl_WriterAdd_is ds c ep l s (by omega) hl' (by omega) _ (by omega), spec_WriterAdd_is ds c ep l s (by omega) hl' (by omega) _ (by omega)]
  simp only [Option.bind_some]
  rw [if_neg (by simp), show ((writerAdd ds c ep l s).2.2.1 != (writerAdd ds c ep l s).2.2.1) = false by simp, show (9000000 : Nat) = 8999999 + 1 from rfl]
  simp only [laws_FnAdded.j0]
  rw [if_neg (by decide)]
  unfold writerAdd
  cases hw : writerOk ds c ep l with
  | false => simp
  | true =>
    cases hw2 : writerOk ds c ep (l ++ [⟨s, [], false⟩]) with
    | false => simp
    | true =>
      simp only [if_true]
      exact laws_FnAdded_l s ds c ep l hl hd hs ep hw2 l.length 8999999 0 (by omega) (by omega)
end Go.Proofs.Ytdkdhciogedoiab.Pure
