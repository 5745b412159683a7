/- The plain law: a store that is read from bytes is the same by the program and by the reference. Conditions: what is known of a value that came in. -/
import Derived.Test.YtdkdhciogedoiabFamFnExactStoreRead
set_option linter.unusedVariables false
set_option linter.unusedSimpArgs false
set_option linter.unusedSectionVars false
namespace Go.Proofs.Ytdkdhciogedoiab.OmFnExactStoreRead
open Go Go.OM
/-- x lies between a and b. -/
def inB (x a b : Int) : Bool := decide (a ≤ x) && decide (x ≤ b)
theorem inB_true {x a b : Int} : inB x a b = true ↔ a ≤ x ∧ x ≤ b := by simp [inB]
theorem ite_inB (x a b : Int) : (if a ≤ x then some (decide (x ≤ b)) else some false) = some (inB x a b) := by
  unfold inB
  by_cases h : a ≤ x <;> simp [h]
def InR (x : Int) : Prop := -9223372036854775808 ≤ x ∧ x ≤ 9223372036854775807
theorem InR_of {x : Int} (h : Gd (.int .i64) x) : InR x := by
  have h : (Lit.int .i64 x).wf = true := h
  simp [Lit.wf, IntKind.min, IntKind.max, IntKind.signed, IntKind.bits] at h
  exact ⟨by omega, by omega⟩
theorem Ev.and {q b : Bool} {A : Nat → Option Bool} (h : q = true → Ev A b) : Ev (fun k => if q = true then A k else some false) (q && b) := by
  cases q with
  | false => exact Ev.neg (by decide) Ev.ret
  | true => exact Ev.pos rfl (h rfl)
theorem Ev.andc {c : Prop} [Decidable c] {b : Bool} {A : Nat → Option Bool} (h : c → Ev A b) : Ev (fun k => if c then A k else some false) (decide c && b) := by
  by_cases hc : c
  · rw [decide_eq_true hc]; exact Ev.pos hc (h hc)
  · rw [decide_eq_false hc]; exact Ev.neg hc Ev.ret
theorem Ev.nand {c : Prop} [Decidable c] {b : Bool} {A : Nat → Option Bool} (h : ¬ c → Ev A b) : Ev (fun k => if c then some false else A k) (!decide c && b) := by
  by_cases hc : c
  · rw [decide_eq_true hc]; exact Ev.pos hc Ev.ret
  · rw [decide_eq_false hc]; exact Ev.neg hc (h hc)
theorem Ev.ite {c : Prop} [Decidable c] {α : Type} {A B : Nat → Option α} {v u : α} (h1 : c → Ev A v) (h2 : ¬ c → Ev B u) : Ev (fun k => if c then A k else B k) (if c then v else u) := by
  by_cases hc : c
  · rw [if_pos hc]; exact Ev.pos hc (h1 hc)
  · rw [if_neg hc]; exact Ev.neg hc (h2 hc)
theorem all_loop {n : Nat} {p : Nat → Int → Option Bool} {q : Nat → Bool} {zb : Bool} (hp : ∀ (i : Nat), i < n → ∀ b, Ev (fun k => p k (((i + 1 : Nat)) : Int)) b → Ev (fun k => p (k + 1) (i : Int)) (q i && b)) (h0 : Ev (fun k => p (k + 1) (n : Int)) zb) :
    ∀ (m i : Nat), i + m = n → Ev (fun k => p k (i : Int)) ((List.range' i m).all q && zb) := by
  intro m
  induction m with
  | zero => intro i h; rw [show i = n by omega]; exact Ev.succ h0
  | succ m ih =>
    intro i h
    refine (Ev.succ (hp i (by omega) _ (ih (i + 1) (by omega)))).eq ?_
    rw [List.range'_succ, List.all_cons, Bool.and_assoc]
theorem wrap_up {i n : Nat} (h : i < n) (hn : n ≤ 4611686018427387904) : wrap64 ((i : Int) + (1 : Int)) = ((i + 1 : Nat) : Int) := wrap64_id (by omega) (by omega)
theorem cnt_ints (l : List Int) : cnt (.sl (.int .i64)) l = l.length := by
  show l.length + (l.map fun _ => 0).sum = l.length
  have : (l.map fun _ => 0).sum = 0 := by induction l with
    | nil => rfl
    | cons x l ih => simpa using ih
  omega
/-- It comes to something with P. -/
def Evp {α : Type} (f : Nat → Option α) (P : α → Prop) : Prop := ∃ v, Ev f v ∧ P v
def Op {α : Type} (f : Option α) (P : α → Prop) : Prop := ∃ v, f = some v ∧ P v
section
variable {α β : Type} {P : α → Prop} {Q : β → Prop}
theorem Evp.ret {v : α} (h : P v) : Evp (fun _ => some v) P := ⟨v, Ev.ret, h⟩
theorem Evp.of {f : Nat → Option α} {v : α} (h : Ev f v) (hp : P v) : Evp f P := ⟨v, h, hp⟩
theorem Evp.bind {f : Nat → Option α} {g : Nat → α → Option β} (h : Evp f P) (hg : ∀ a, P a → Evp (fun k => g k a) Q) : Evp (fun k => (f k).bind (g k)) Q := by
  obtain ⟨a, h1, h2⟩ := h
  obtain ⟨b, h3, h4⟩ := hg a h2
  exact ⟨b, h1.bind h3, h4⟩
theorem Evp.bindv {f : Nat → Option α} {g : Nat → α → Option β} {a : α} (h : Ev f a) (hg : Evp (fun k => g k a) Q) : Evp (fun k => (f k).bind (g k)) Q := by
  obtain ⟨b, h3, h4⟩ := hg
  exact ⟨b, h.bind h3, h4⟩
theorem Evp.bindc {f : Option α} {g : Nat → α → Option β} (h : Op f P) (hg : ∀ a, P a → Evp (fun k => g k a) Q) : Evp (fun k => f.bind (g k)) Q := by
  obtain ⟨a, h1, h2⟩ := h
  obtain ⟨b, h3, h4⟩ := hg a h2
  exact ⟨b, Ev.bindc h1 h3, h4⟩
theorem Evp.succ {f : Nat → Option α} (h : Evp (fun k => f (k + 1)) P) : Evp f P := by
  obtain ⟨a, h1, h2⟩ := h
  exact ⟨a, Ev.succ h1, h2⟩
theorem Evp.pos {c : Prop} [Decidable c] {f g : Nat → Option α} (hc : c) (h : Evp f P) : Evp (fun k => if c then f k else g k) P := by
  obtain ⟨a, h1, h2⟩ := h
  exact ⟨a, Ev.pos hc h1, h2⟩
theorem Evp.neg {c : Prop} [Decidable c] {f g : Nat → Option α} (hc : ¬ c) (h : Evp g P) : Evp (fun k => if c then f k else g k) P := by
  obtain ⟨a, h1, h2⟩ := h
  exact ⟨a, Ev.neg hc h1, h2⟩
theorem Evp.ite {c : Prop} [Decidable c] {f g : Nat → Option α} (h1 : c → Evp f P) (h2 : ¬ c → Evp g P) : Evp (fun k => if c then f k else g k) P := by
  by_cases hc : c
  · exact Evp.pos hc (h1 hc)
  · exact Evp.neg hc (h2 hc)
theorem Evp.mono {f : Nat → Option α} {P' : α → Prop} (h : Evp f P) (hp : ∀ a, P a → P' a) : Evp f P' := by
  obtain ⟨a, h1, h2⟩ := h
  exact ⟨a, h1, hp a h2⟩
theorem Evp.opt {f : Option α} (h : Op f P) : Evp (fun _ => f) P := by
  obtain ⟨a, h1, h2⟩ := h
  exact ⟨a, Ev.of h1, h2⟩
theorem Evp.cg {f g : Nat → Option α} (h : Evp g P) (e : ∀ k, f k = g k) : Evp f P := by
  obtain ⟨a, h1, h2⟩ := h
  exact ⟨a, h1.cg e, h2⟩
theorem Op.ret {v : α} (h : P v) : Op (some v) P := ⟨v, rfl, h⟩
theorem Op.bind {f : Option α} {g : α → Option β} (h : Op f P) (hg : ∀ a, P a → Op (g a) Q) : Op (f.bind g) Q := by
  obtain ⟨a, h1, h2⟩ := h
  obtain ⟨b, h3, h4⟩ := hg a h2
  exact ⟨b, by rw [h1, Option.bind_some, h3], h4⟩
theorem Op.pos {c : Prop} [Decidable c] {f g : Option α} (hc : c) (h : Op f P) : Op (if c then f else g) P := by rw [if_pos hc]; exact h
theorem Op.neg {c : Prop} [Decidable c] {f g : Option α} (hc : ¬ c) (h : Op g P) : Op (if c then f else g) P := by rw [if_neg hc]; exact h
theorem Op.ite {c : Prop} [Decidable c] {f g : Option α} (h1 : c → Op f P) (h2 : ¬ c → Op g P) : Op (if c then f else g) P := by
  by_cases hc : c
  · exact Op.pos hc (h1 hc)
  · exact Op.neg hc (h2 hc)
end
theorem nft : ¬ (false = true) := by decide

theorem or_add (v c : Int) (i : Nat) (hi : i ≤ 8) (hv : 0 ≤ v) (hv2 : v < 2 ^ (7 * i)) (hc : 0 ≤ c) (hc2 : c ≤ 255) :
    orK .i64 v (shlK .i64 (andK .i64 c 127) (wrap64 (7 * (i : Int)))) = v + (c % 128) * 2 ^ (7 * i) ∧ 0 ≤ v + (c % 128) * 2 ^ (7 * i) ∧ v + (c % 128) * 2 ^ (7 * i) < 2 ^ (7 * (i + 1)) := by
  obtain ⟨a, rfl⟩ : ∃ a : Nat, v = a := ⟨v.toNat, by omega⟩
  obtain ⟨b, rfl⟩ : ∃ b : Nat, c = b := ⟨c.toNat, by omega⟩
  have ha : a < 2 ^ (7 * i) := by exact_mod_cast hv2
  have hm : b % 128 < 128 := Nat.mod_lt _ (by decide)
  have hp : 2 ^ (7 * (i + 1)) = 128 * 2 ^ (7 * i) := by rw [Nat.mul_add, Nat.pow_add]; omega
  have hle : 2 ^ (7 * (i + 1)) ≤ 2 ^ 63 := Nat.pow_le_pow_right (by decide) (by omega)
  have hs : a + (b % 128) * 2 ^ (7 * i) < 2 ^ (7 * (i + 1)) := by
    rw [hp]
    have : (b % 128) * 2 ^ (7 * i) ≤ 127 * 2 ^ (7 * i) := Nat.mul_le_mul_right _ (by omega)
    omega
  have e1 : andK .i64 (b : Int) 127 = ((b % 128 : Nat) : Int) := by
    have e : andK .i64 (b : Int) 127 = wrap64 (((BitVec.ofInt 64 (b : Int) &&& BitVec.ofInt 64 127).toNat : Nat) : Int) := rfl
    have h : (BitVec.ofInt 64 (b : Int) &&& BitVec.ofInt 64 127).toNat = b % 128 := by
      rw [BitVec.toNat_and, BitVec.toNat_ofInt, show (BitVec.ofInt 64 127).toNat = 2 ^ 7 - 1 from rfl, Nat.and_two_pow_sub_one_eq_mod]
      have : ((b : Int) % ((2 ^ 64 : Nat) : Int)).toNat = b := by omega
      rw [this]
    rw [e, h, wrap64_id (by omega) (by omega)]
  have e2 : wrap64 (7 * (i : Int)) = ((7 * i : Nat) : Int) := by rw [wrap64_id (by omega) (by omega)]; omega
  have e3 : shlK .i64 ((b % 128 : Nat) : Int) ((7 * i : Nat) : Int) = (((b % 128) * 2 ^ (7 * i) : Nat) : Int) := by
    have e : shlK .i64 ((b % 128 : Nat) : Int) ((7 * i : Nat) : Int) = wrap64 (((b % 128 : Nat) : Int) * 2 ^ (min ((7 * i : Nat) : Int).toNat 64)) := rfl
    rw [e, Int.toNat_natCast, Nat.min_eq_left (by omega)]
    have : (((b % 128 : Nat) : Int) * 2 ^ (7 * i)) = (((b % 128) * 2 ^ (7 * i) : Nat) : Int) := by push_cast; rfl
    rw [this, wrap64_id (by omega) (by omega)]
  have e4 : orK .i64 (a : Int) (((b % 128) * 2 ^ (7 * i) : Nat) : Int) = ((a + (b % 128) * 2 ^ (7 * i) : Nat) : Int) := by
    have e : orK .i64 (a : Int) (((b % 128) * 2 ^ (7 * i) : Nat) : Int) = wrap64 (((BitVec.ofInt 64 (a : Int) ||| BitVec.ofInt 64 (((b % 128) * 2 ^ (7 * i) : Nat) : Int)).toNat : Nat) : Int) := rfl
    have h : (BitVec.ofInt 64 (a : Int) ||| BitVec.ofInt 64 (((b % 128) * 2 ^ (7 * i) : Nat) : Int)).toNat = a + (b % 128) * 2 ^ (7 * i) := by
      rw [BitVec.toNat_or, BitVec.toNat_ofInt, BitVec.toNat_ofInt]
      have h1 : ((a : Int) % ((2 ^ 64 : Nat) : Int)).toNat = a := by omega
      have h2 : ((((b % 128) * 2 ^ (7 * i) : Nat) : Int) % ((2 ^ 64 : Nat) : Int)).toNat = (b % 128) * 2 ^ (7 * i) := by omega
      rw [h1, h2, Nat.or_comm, ← Nat.shiftLeft_eq, ← Nat.shiftLeft_add_eq_or_of_lt ha, Nat.add_comm]
    rw [e, h, wrap64_id (by omega) (by omega)]
  have e5 : ((b : Int) % 128) * 2 ^ (7 * i) = (((b % 128) * 2 ^ (7 * i) : Nat) : Int) := by push_cast; rfl
  have e6 : (2 : Int) ^ (7 * (i + 1)) = ((2 ^ (7 * (i + 1)) : Nat) : Int) := by push_cast; rfl
  rw [e1, e2, e3, e4, e5, e6]
  exact ⟨by push_cast; rfl, by omega, by omega⟩
/-- What is known of a number that was read. -/
def NumR (n : Nat) (p : Int) (r : Int × Int × Bool) : Prop := (r.2.2 = true → 0 ≤ r.1 ∧ r.1 ≤ 9223372036854775807 ∧ p < r.2.1 ∧ r.2.1 ≤ (n : Int)) ∧ (r.2.2 = false → r = ((0 : Int), (0 : Int), false))
theorem num_l (b : List Int) (hb : b.length ≤ 1048576) (hx : ∀ i, 0 ≤ b.getD i 0 ∧ b.getD i 0 ≤ 255) (p : Nat) (hp : p ≤ b.length) : ∀ (m i : Nat) (v x3 : Int), i + m = 9 → 0 ≤ v → v < 2 ^ (7 * i) → (i < 9 → x3 = 2 ^ (7 * i)) →
    ∃ r, Ev (fun k => spec_GetNum.p13 k b (p : Int) v x3 (i : Int)) r ∧ Ev (fun k => impl_GetNum.p11 k b (p : Int) v (i : Int)) r ∧ NumR b.length p r := by
  intro m
  induction m with
  | zero =>
    intro i v x3 hi h1 h2 h3
    refine ⟨((0 : Int), (0 : Int), false), Ev.succ ?_, Ev.succ ?_, by simp, fun _ => rfl⟩
    · simp only [spec_GetNum.p13]; exact Ev.neg (by omega) Ev.ret
    · simp only [impl_GetNum.p11]; exact Ev.neg (by omega) Ev.ret
  | succ m ih =>
    intro i v x3 hi h1 h2 h3
    have ep : wrap64 ((p : Int) + (i : Int)) = ((p + i : Nat) : Int) := by rw [wrap64_id (by omega) (by omega)]; omega
    have eq : wrap64 (((b.length : Nat) : Int) - (p : Int)) = ((b.length : Nat) : Int) - (p : Int) := wrap64_id (by omega) (by omega)
    by_cases hl : p + i < b.length
    case neg =>
      refine ⟨((0 : Int), (0 : Int), false), Ev.succ ?_, Ev.succ ?_, by simp, fun _ => rfl⟩
      · simp only [spec_GetNum.p13, ep]; exact Ev.pos (by omega) (Ev.neg (by omega) Ev.ret)
      · simp only [impl_GetNum.p11, eq]; exact Ev.pos (by omega) (Ev.neg (by omega) Ev.ret)
    obtain ⟨c0, c1⟩ := hx (p + i)
    have hc : b.getD (p + i) 0 = b.getD (p + i) 0 := rfl
    generalize hg : b.getD (p + i) 0 = c at *
    have ec : wrap64 c = c := wrap64_id (by omega) (by omega)
    have h7 : (0 : Int) ≤ wrap64 ((7 : Int) * (i : Int)) := by rw [wrap64_id (by omega) (by omega)]; omega
    obtain ⟨o1, o2, o3⟩ := or_add v c i (by omega) h1 h2 c0 c1
    have hle : (2 : Int) ^ (7 * (i + 1)) ≤ 2 ^ 63 := by
      have : 2 ^ (7 * (i + 1)) ≤ 2 ^ 63 := Nat.pow_le_pow_right (by decide) (by omega)
      exact_mod_cast this
    have hpos : (0 : Int) < 2 ^ (7 * i) := by
      have : 0 < 2 ^ (7 * i) := Nat.pow_pos (by decide)
      exact_mod_cast this
    have hmod : 0 ≤ c % 128 ∧ c % 128 < 128 := by omega
    have hmul : 0 ≤ (c % 128) * 2 ^ (7 * i) := Int.mul_nonneg hmod.1 (by omega)
    have es : wrap64 (v + wrap64 (Int.tmod c 128 * x3)) = v + (c % 128) * 2 ^ (7 * i) := by
      rw [h3 (by omega), Int.tmod_eq_emod_of_nonneg c0, wrap64_id (x := (c % 128) * 2 ^ (7 * i)) (by omega) (by omega), wrap64_id (by omega) (by omega)]
    have ei : wrap64 ((i : Int) + 1) = ((i + 1 : Nat) : Int) := wrap_up (n := 9) (by omega) (by omega)
    have en : wrap64 (((p + i : Nat) : Int) + 1) = ((p + i + 1 : Nat) : Int) := by rw [wrap64_id (by omega) (by omega)]; omega
    by_cases hbig : c < 128
    · by_cases hz : c = 0 ∧ (0 : Int) < (i : Int)
      · refine ⟨((0 : Int), (0 : Int), false), Ev.succ ?_, Ev.succ ?_, by simp, fun _ => rfl⟩
        · simp only [spec_GetNum.p13, ep, Int.toNat_natCast, hg, ec]
          exact Ev.pos (by omega) (Ev.pos (by omega) (Ev.pos (by omega) (Ev.pos hbig (Ev.pos hz.1 (Ev.pos hz.2 Ev.ret)))))
        · simp only [impl_GetNum.p11, ep, eq, Int.toNat_natCast, hg, ec]
          exact Ev.pos (by omega) (Ev.pos (by omega) (Ev.pos (by omega) (Ev.pos h7 (Ev.neg (by omega) (Ev.pos hz.2 (Ev.pos hz.1 Ev.ret))))))
      · refine ⟨(v + (c % 128) * 2 ^ (7 * i), ((p + i + 1 : Nat) : Int), true), Ev.succ ?_, Ev.succ ?_, fun _ => ⟨o2, by show v + (c % 128) * 2 ^ (7 * i) ≤ _; omega, by show (p : Int) < ((p + i + 1 : Nat) : Int); omega, by show ((p + i + 1 : Nat) : Int) ≤ _; omega⟩, by simp⟩
        · simp only [spec_GetNum.p13, ep, Int.toNat_natCast, hg, ec, es, en]
          refine Ev.pos (by omega) (Ev.pos (by omega) (Ev.pos (by omega) (Ev.pos hbig ?_)))
          by_cases hz0 : c = 0
          · exact Ev.pos hz0 (Ev.neg (fun h => hz ⟨hz0, h⟩) Ev.ret)
          · exact Ev.neg hz0 Ev.ret
        · simp only [impl_GetNum.p11, ep, eq, Int.toNat_natCast, hg, ec, o1, en]
          refine Ev.pos (by omega) (Ev.pos (by omega) (Ev.pos (by omega) (Ev.pos h7 (Ev.neg (by omega) ?_))))
          by_cases hi0 : (0 : Int) < (i : Int)
          · exact Ev.pos hi0 (Ev.neg (fun h => hz ⟨h, hi0⟩) Ev.ret)
          · exact Ev.neg hi0 Ev.ret
    · obtain ⟨r, r1, r2, r3⟩ := ih (i + 1) (v + (c % 128) * 2 ^ (7 * i)) (wrap64 (x3 * 128)) (by omega) o2 o3 (fun h9 => by
        have hl2 : (2 : Int) ^ (7 * (i + 1)) ≤ 2 ^ 56 := by
          have : 2 ^ (7 * (i + 1)) ≤ 2 ^ 56 := Nat.pow_le_pow_right (by decide) (by omega)
          exact_mod_cast this
        have hq : (2 : Int) ^ (7 * i) * 128 = 2 ^ (7 * (i + 1)) := by rw [Nat.mul_add, Int.pow_add]; rfl
        rw [h3 (by omega), hq, wrap64_id (by omega) (by omega)])
      refine ⟨r, Ev.succ ?_, Ev.succ ?_, r3⟩
      · simp only [spec_GetNum.p13, ep, Int.toNat_natCast, hg, ec, es, ei]
        exact Ev.pos (by omega) (Ev.pos (by omega) (Ev.pos (by omega) (Ev.neg hbig r1)))
      · simp only [impl_GetNum.p11, ep, eq, Int.toNat_natCast, hg, ec, o1, ei]
        exact Ev.pos (by omega) (Ev.pos (by omega) (Ev.pos (by omega) (Ev.pos h7 (Ev.pos (by omega) r2))))
theorem num_both (b : List Int) (hb : b.length ≤ 1048576) (hx : ∀ i, 0 ≤ b.getD i 0 ∧ b.getD i 0 ≤ 255) (p : Int) (h0 : 0 ≤ p) (hp : p ≤ (b.length : Int)) :
    ∃ r, Ev (fun k => spec_GetNum.f k b p) r ∧ Ev (fun k => impl_GetNum.f k b p) r ∧ NumR b.length p r := by
  obtain ⟨p, rfl⟩ : ∃ q : Nat, p = q := ⟨p.toNat, by omega⟩
  obtain ⟨r, r1, r2, r3⟩ := num_l b hb hx p (by omega) 9 0 0 1 (by omega) (by omega) (by decide) (fun _ => by decide)
  by_cases he : ((b.length : Nat) : Int) ≤ (p : Int)
  · refine ⟨((0 : Int), (0 : Int), false), ?_, ?_, by simp, fun _ => rfl⟩
    · simp only [spec_GetNum.f]
      exact Ev.neg (by omega) (Ev.pos he Ev.ret)
    · simp only [impl_GetNum.f]
      refine Ev.neg (by omega) (Ev.succ ?_)
      simp only [impl_GetNum.p11]
      rw [wrap64_id (x := ((b.length : Nat) : Int) - (p : Int)) (by omega) (by omega)]
      exact Ev.pos (by omega) (Ev.neg (by omega) Ev.ret)
  · refine ⟨r, ?_, ?_, r3⟩
    · simp only [spec_GetNum.f]
      exact Ev.neg (by omega) (Ev.neg he r1)
    · simp only [impl_GetNum.f]
      exact Ev.neg (by omega) r2

theorem spec_l1In_is (x a b : Int) : spec_l1In.f x a b = some (inB x a b) := ite_inB x a b

/-- A place: its epoch, its offset. -/
def placeOk (x : Int) : Bool := decide (0 < x) && (inB (x / 4294967296) 1 30 && inB (x % 4294967296) 1 60)
def epochOf (x : Int) : Int := if placeOk x = true then x / 4294967296 else 0
def offOf (x : Int) : Int := if placeOk x = true then x % 4294967296 else 0
theorem tdiv_pos {x : Int} (h : 0 ≤ x) : Int.tdiv x 4294967296 = x / 4294967296 := Int.tdiv_eq_ediv_of_nonneg h
theorem tmod_pos {x : Int} (h : 0 ≤ x) : Int.tmod x 4294967296 = x % 4294967296 := Int.tmod_eq_emod_of_nonneg h
theorem tdiv_neg' {x : Int} (h : x ≤ 0) : Int.tdiv x 4294967296 = -((-x) / 4294967296) := by
  have h1 : Int.tdiv (-x) 4294967296 = (-x) / 4294967296 := Int.tdiv_eq_ediv_of_nonneg (by omega)
  have h2 := Int.neg_tdiv (-x) 4294967296
  rw [Int.neg_neg] at h2
  rw [h2, h1]
theorem placeOk_pos {x : Int} (h : placeOk x = true) : 0 < x ∧ (1 ≤ x / 4294967296 ∧ x / 4294967296 ≤ 30) ∧ (1 ≤ x % 4294967296 ∧ x % 4294967296 ≤ 60) := by
  simpa only [placeOk, Bool.and_eq_true, inB_true, decide_eq_true_eq] using h
theorem epochOf_pos {x : Int} (h : placeOk x = true) : epochOf x = x / 4294967296 ∧ 1 ≤ epochOf x ∧ epochOf x ≤ 30 := by
  have h' := placeOk_pos h
  unfold epochOf
  rw [if_pos h]
  omega
theorem spec_PlaceOk_is (x : Int) (hx : InR x) : spec_PlaceOk.f x = some (placeOk x) := by
  have h2 := hx.2
  simp only [spec_PlaceOk.f, placeOk, spec_l1In_is]
  by_cases h : 0 < x
  · rw [if_pos h, tdiv_pos (by omega), tmod_pos (by omega), wrap64_id (by omega) (by omega)]
    cases inB (x / 4294967296) 1 30 <;> simp [h]
  · rw [if_neg h]
    simp [h]

theorem spec_EpochOf_is (x : Int) (hx : InR x) : spec_EpochOf.f x = some (epochOf x) := by
  have h2 := hx.2
  simp only [spec_EpochOf.f, spec_PlaceOk_is x hx, Option.bind_some, epochOf]
  by_cases h : placeOk x = true
  · have := placeOk_pos h
    rw [if_pos h, if_pos h, tdiv_pos (by omega), wrap64_id (by omega) (by omega)]
  · rw [if_neg h, if_neg h]

/-- An entry that is right. -/
noncomputable def entB (e : Entry) : Bool := placeOk e.1 && (inB e.2.1 0 30 && (!(decide (0 < e.2.1) && decide (e.2.1 ≤ epochOf e.1)) && (decide (((e.2.2.2.1.size : Nat) : Int) ≤ 40) && (!e.2.2.1 || (decide (0 < e.2.1) && decide (e.2.2.2.1 = (⟨#[]⟩ : ByteArray)))))))
theorem spec_EntryOk_ev (e : Entry) (ha : InR e.1) : Ev (fun k => spec_EntryOk.f k e) (entB e) := by
  have tail : Ev (fun k => spec_EntryOk.p6 k e) (!e.2.2.1 || (decide (0 < e.2.1) && decide (e.2.2.2.1 = (⟨#[]⟩ : ByteArray)))) := by
    refine Ev.succ ?_
    simp only [spec_EntryOk.p6]
    cases hc : e.2.2.1 with
    | true => exact Ev.pos rfl (Ev.andc fun _ => Ev.ret)
    | false => exact Ev.neg (by decide) Ev.ret
  have tail2 : Ev (fun k => if (40 : Int) < ((e.2.2.2.1.size : Nat) : Int) then some false else spec_EntryOk.p6 k e) (decide (((e.2.2.2.1.size : Nat) : Int) ≤ 40) && (!e.2.2.1 || (decide (0 < e.2.1) && decide (e.2.2.2.1 = (⟨#[]⟩ : ByteArray))))) :=
    (Ev.nand fun _ => tail).eq (by
      by_cases h : (40 : Int) < ((e.2.2.2.1.size : Nat) : Int)
      · rw [decide_eq_true h, decide_eq_false (show ¬ ((e.2.2.2.1.size : Nat) : Int) ≤ 40 by omega)]; rfl
      · rw [decide_eq_false h, decide_eq_true (show ((e.2.2.2.1.size : Nat) : Int) ≤ 40 by omega)]; rfl)
  simp only [spec_EntryOk.f, spec_PlaceOk_is _ ha, spec_EpochOf_is _ ha, spec_l1In_is, Option.bind_some, entB]
  refine Ev.and fun _ => Ev.and fun _ => ?_
  by_cases h0 : (0 : Int) < e.2.1
  · refine (Ev.pos h0 (Ev.nand fun _ => tail2)).eq ?_
    simp only [decide_eq_true h0, Bool.true_and]
  · rw [show (decide ((0 : Int) < e.2.1) && decide (e.2.1 ≤ epochOf e.1)) = false by rw [decide_eq_false h0]; rfl, Bool.not_false, Bool.true_and]
    exact Ev.neg h0 tail2

noncomputable def zEnt : Entry := ((0 : Int), ((0 : Int), (false, ((⟨#[]⟩ : ByteArray), ()))))
noncomputable def entsB (l : List Entry) : Bool := (List.range' 0 l.length).all fun i => entB (l.getD i zEnt)
noncomputable def ascE (l : List Entry) : Bool := (List.range' 0 l.length).all fun i => !(decide (0 < i) && decide ((l.getD i zEnt).1 ≤ (l.getD (i - 1) zEnt).1))
theorem spec_l6List_ev (l : List Entry) (n : Int) (hl : l.length ≤ 1048576) (ha : ∀ i, i < l.length → InR (l.getD i zEnt).1) : Ev (fun k => spec_l6List.f k l n) (!decide (n < ((l.length : Nat) : Int)) && entsB l) := by
  have h := all_loop (n := l.length) (p := fun k i => spec_l6List.p9 k l i) (q := fun i => entB (l.getD i zEnt)) (zb := true) (fun i hi b hb => by
    simp only [spec_l6List.p9, Int.toNat_natCast]
    rw [wrap_up hi (by omega)]
    exact Ev.pos (by omega) (Ev.pos (by omega) (Ev.bind (spec_EntryOk_ev _ (ha i hi)) (Ev.and fun _ => hb)))) (by
    simp only [spec_l6List.p9]
    exact Ev.neg (by omega) Ev.ret) l.length 0 (by omega)
  rw [Bool.and_true] at h
  simp only [spec_l6List.f]
  exact Ev.nand fun _ => h

theorem spec_l6Asc_ev (l : List Entry) (hl : l.length ≤ 1048576) : Ev (fun k => spec_l6Asc.f k l) (ascE l) := by
  have h := all_loop (n := l.length) (p := fun k i => if i = 0 then spec_l6Asc.p5 k l 1 else spec_l6Asc.p5 k l i) (q := fun i => !(decide (0 < i) && decide ((l.getD i zEnt).1 ≤ (l.getD (i - 1) zEnt).1))) (zb := true) (fun i hi b hb => by
    by_cases h0 : i = 0
    · subst h0
      refine (Ev.pos rfl ?_).eq (v := b) (by rfl)
      have hb' : Ev (fun k => spec_l6Asc.p5 k l 1) b := hb.cg fun k => (if_neg (by decide)).symm
      obtain ⟨K, hK⟩ := hb'
      exact ⟨K, fun k hk => hK (k + 1) (by omega)⟩
    · refine Ev.neg (by omega) ?_
      have hb' : Ev (fun k => spec_l6Asc.p5 k l (((i + 1 : Nat)) : Int)) b := hb.cg fun k => (if_neg (by omega)).symm
      have e2 : wrap64 ((i : Int) - 1) = ((i - 1 : Nat) : Int) := by rw [wrap64_id (by omega) (by omega)]; omega
      simp only [spec_l6Asc.p5, e2, Int.toNat_natCast]
      rw [wrap_up hi (by omega), decide_eq_true (show 0 < i by omega), Bool.true_and]
      exact Ev.pos (by omega) (Ev.pos (by omega) (Ev.pos (by omega) (Ev.nand fun _ => hb')))) (by
    by_cases h0 : l.length = 0
    · refine Ev.pos (by omega) ?_
      simp only [spec_l6Asc.p5]
      exact Ev.neg (by omega) Ev.ret
    · refine Ev.neg (by omega) ?_
      simp only [spec_l6Asc.p5]
      exact Ev.neg (by omega) Ev.ret) l.length 0 (by omega)
  rw [Bool.and_true] at h
  exact h.cg fun k => (if_pos rfl).symm

noncomputable def storeB (s : Store) : Bool := decide (((s.1.length : Nat) : Int) ≤ 200) && (entsB s.1 && (decide (((s.2.1.length : Nat) : Int) ≤ 20) && (entsB s.2.1 && (ascE s.1 && inB s.2.2.1 0 30))))
theorem ndec (a b : Int) : (!decide (a < b)) = decide (b ≤ a) := by
  by_cases h : a < b
  · rw [decide_eq_true h, decide_eq_false (by omega)]; rfl
  · rw [decide_eq_false h, decide_eq_true (by omega)]; rfl
theorem spec_StoreOk_ev (s : Store) (h1 : s.1.length ≤ 1048576) (h2 : s.2.1.length ≤ 1048576) (a1 : ∀ i, i < s.1.length → InR (s.1.getD i zEnt).1) (a2 : ∀ i, i < s.2.1.length → InR (s.2.1.getD i zEnt).1) : Ev (fun k => spec_StoreOk.f k s) (storeB s) := by
  have e1 := spec_l6List_ev s.1 200 h1 a1
  have e2 := spec_l6List_ev s.2.1 20 h2 a2
  simp only [spec_StoreOk.f, spec_l1In_is, Option.bind_some, storeB]
  rw [ndec] at e1 e2
  refine (Ev.bind e1 (Ev.and fun _ => Ev.bind e2 (Ev.and fun _ => Ev.bind (spec_l6Asc_ev s.1 h1) (Ev.and fun _ => Ev.ret)))).eq ?_
  simp only [Bool.and_assoc]

theorem num_ok {b : List Int} {p : Int} {r : Int × Int × Bool} (h : Ev (fun k => impl_GetNum.f k b p) r) (hr : r.2.2 = true) : Ev (fun k => impl_reader_num.f k (b, (p, (false, ())))) (r.1, (b, (r.2.1, (false, ())))) := by
  simp only [impl_reader_num.f]
  exact Ev.bind h (Ev.neg (by decide) (Ev.pos hr Ev.ret))
theorem num_no {b : List Int} {p : Int} {r : Int × Int × Bool} (h : Ev (fun k => impl_GetNum.f k b p) r) (hr : r.2.2 = false) : Ev (fun k => impl_reader_num.f k (b, (p, (false, ())))) ((0 : Int), (b, (p, (true, ())))) := by
  simp only [impl_reader_num.f]
  exact Ev.bind h (Ev.neg (by decide) (Ev.neg (by rw [hr]; decide) Ev.ret))
theorem num_bad {b : List Int} {p : Int} (hb : b.length ≤ 1048576) (hx : ∀ i, 0 ≤ b.getD i 0 ∧ b.getD i 0 ≤ 255) (h0 : 0 ≤ p) (hp : p ≤ (b.length : Int)) : Ev (fun k => impl_reader_num.f k (b, (p, (true, ())))) ((0 : Int), (b, (p, (true, ())))) := by
  obtain ⟨r, _, h, _⟩ := num_both b hb hx p h0 hp
  simp only [impl_reader_num.f]
  exact Ev.bind h (Ev.pos trivial Ev.ret)

theorem count_bad {b : List Int} {p n : Int} (hb : b.length ≤ 1048576) (hx : ∀ i, 0 ≤ b.getD i 0 ∧ b.getD i 0 ≤ 255) (h0 : 0 ≤ p) (hp : p ≤ (b.length : Int)) (hn : 0 ≤ n) : Ev (fun k => impl_reader_count.f k (b, (p, (true, ()))) n) ((0 : Int), (b, (p, (true, ())))) := by
  simp only [impl_reader_count.f]
  exact Ev.bind (num_bad hb hx h0 hp) (Ev.neg (by show ¬ n < 0; omega) Ev.ret)

theorem impl_within_is (x a b : Int) : impl_within.f x a b = some (inB x a b) := ite_inB x a b

theorem impl_PlaceOk_is (x : Int) (hx : InR x) : impl_PlaceOk.f x = some (placeOk x) := by
  have h1 := hx.1; have h2 := hx.2
  simp only [impl_PlaceOk.f, placeOk, impl_isEpoch.f, impl_isOff.f, impl_within_is]
  by_cases h : 0 < x
  · rw [tdiv_pos (by omega), tmod_pos (by omega), wrap64_id (by omega) (by omega)]
    cases inB (x / 4294967296) 1 30 <;> simp [h]
  · rw [tdiv_neg' (by omega), wrap64_id (by omega) (by omega), show inB (-(-x / 4294967296)) 1 30 = false by
      rw [Bool.eq_false_iff]
      intro he
      rw [inB_true] at he
      omega]
    simp [h]

theorem impl_dataOk_is (s : ByteArray) : impl_dataOk.f s = some (!decide ((40 : Int) < ((s.size : Nat) : Int))) := by
  simp only [impl_dataOk.f]
  by_cases h : ((s.size : Nat) : Int) ≤ 40
  · rw [decide_eq_true h, decide_eq_false (by omega)]; rfl
  · rw [decide_eq_false h, decide_eq_true (by omega)]; rfl

theorem impl_EpochOf_is (x : Int) (hx : InR x) : impl_EpochOf.f x = some (epochOf x) := by
  have h2 := hx.2
  simp only [impl_EpochOf.f, impl_PlaceOk_is x hx, Option.bind_some, epochOf]
  by_cases h : placeOk x = true
  · have := placeOk_pos h
    rw [if_pos h, if_pos h, tdiv_pos (by omega), wrap64_id (by omega) (by omega)]
  · rw [if_neg h, if_neg h]

theorem impl_EntryOk_ev (e : Entry) (ha : InR e.1) : Ev (fun k => impl_EntryOk.f k e) (entB e) := by
  have h6 : ∀ p q : Bool, Ev (fun k => impl_EntryOk.p6 k p q e) (placeOk e.1 && (p && (q && decide (((e.2.2.2.1.size : Nat) : Int) ≤ 40)))) := fun p q => by
    refine Ev.succ ?_
    simp only [impl_EntryOk.p6, impl_PlaceOk_is _ ha, impl_dataOk.f, Option.bind_some]
    exact Ev.and fun _ => Ev.and fun _ => Ev.and fun _ => Ev.ret
  have h4 : ∀ p : Bool, Ev (fun k => impl_EntryOk.p4 k p e) (placeOk e.1 && (p && ((!e.2.2.1 || (decide (0 < e.2.1) && decide (e.2.2.2.1 = (⟨#[]⟩ : ByteArray)))) && decide (((e.2.2.2.1.size : Nat) : Int) ≤ 40)))) := fun p => by
    refine Ev.succ ?_
    simp only [impl_EntryOk.p4]
    cases hc : e.2.2.1 with
    | true =>
      refine Ev.pos rfl ?_
      by_cases h0 : (0 : Int) < e.2.1
      · exact (Ev.pos h0 (h6 p _)).eq (by rw [decide_eq_true h0]; simp)
      · exact (Ev.neg h0 (h6 p _)).eq (by rw [decide_eq_false h0]; simp)
    | false => exact (Ev.neg (by decide) (h6 p _)).eq (by simp)
  simp only [impl_EntryOk.f, impl_EpochOf_is _ ha, impl_within_is, Option.bind_some]
  have key : ∀ v : Bool, v = (inB e.2.1 0 30 && !(decide (0 < e.2.1) && decide (e.2.1 ≤ epochOf e.1))) → Ev (fun k => impl_EntryOk.p4 k v e) (entB e) := fun v hv => (h4 v).eq (by
    unfold entB
    rw [hv]
    cases placeOk e.1 <;> cases inB e.2.1 0 30 <;> cases decide ((0 : Int) < e.2.1) <;> cases decide (e.2.1 ≤ epochOf e.1) <;> cases e.2.2.1 <;> cases decide (((e.2.2.2.1.size : Nat) : Int) ≤ 40) <;> cases decide (e.2.2.2.1 = (⟨#[]⟩ : ByteArray)) <;> rfl)
  by_cases hi : inB e.2.1 0 30 = true
  · have hb := inB_true.1 hi
    refine Ev.pos hi ?_
    by_cases h0 : e.2.1 = 0
    · exact Ev.pos h0 (key true (by rw [hi, decide_eq_false (show ¬ (0 : Int) < e.2.1 by omega)]; rfl))
    · refine Ev.neg h0 (key _ ?_)
      rw [hi, decide_eq_true (show (0 : Int) < e.2.1 by omega)]
      by_cases h1 : epochOf e.1 < e.2.1
      · rw [decide_eq_true h1, decide_eq_false (by omega)]; rfl
      · rw [decide_eq_false h1, decide_eq_true (by omega)]; rfl
  · exact Ev.neg hi (key false (by rw [Bool.not_eq_true] at hi; rw [hi]; rfl))

theorem impl_entriesOk_ev (l : List Entry) (hl : l.length ≤ 1048576) (ha : ∀ i, i < l.length → InR (l.getD i zEnt).1) : Ev (fun k => impl_entriesOk.f k l) (entsB l) := by
  have h := all_loop (n := l.length) (p := fun k i => impl_entriesOk.p5 k l ((l.length : Nat) : Int) i) (q := fun i => entB (l.getD i zEnt)) (zb := true) (fun i hi b hb => by
    simp only [impl_entriesOk.p5, Int.toNat_natCast]
    rw [wrap_up hi (by omega)]
    exact Ev.pos (by omega) (Ev.pos (by omega) (Ev.bind (impl_EntryOk_ev _ (ha i hi)) (Ev.and fun _ => hb)))) (by
    simp only [impl_entriesOk.p5]
    exact Ev.neg (by omega) Ev.ret) l.length 0 (by omega)
  rw [Bool.and_true] at h
  exact h

theorem impl_placesAscend_ev (l : List Entry) (hl : l.length ≤ 1048576) : Ev (fun k => impl_placesAscend.f k l) (ascE l) := by
  have h := all_loop (n := l.length) (p := fun k i => impl_placesAscend.p5 k l l ((l.length : Nat) : Int) i) (q := fun i => !(decide (0 < i) && decide ((l.getD i zEnt).1 ≤ (l.getD (i - 1) zEnt).1))) (zb := true) (fun i hi b hb => by
    simp only [impl_placesAscend.p5, Int.toNat_natCast]
    rw [wrap_up hi (by omega)]
    refine Ev.pos (by omega) (Ev.pos (by omega) ?_)
    by_cases h0 : i = 0
    · subst h0
      exact (Ev.neg (by omega) hb).eq (by rfl)
    · have e2 : wrap64 ((i : Int) - 1) = ((i - 1 : Nat) : Int) := by rw [wrap64_id (by omega) (by omega)]; omega
      rw [e2, decide_eq_true (show 0 < i by omega), Bool.true_and, Int.toNat_natCast]
      exact Ev.pos (by omega) (Ev.pos (by omega) (Ev.nand fun _ => hb))) (by
    simp only [impl_placesAscend.p5]
    exact Ev.neg (by omega) Ev.ret) l.length 0 (by omega)
  rw [Bool.and_true] at h
  exact h

theorem impl_StoreOk_ev (s : Store) (h1 : s.1.length ≤ 1048576) (h2 : s.2.1.length ≤ 1048576) (a1 : ∀ i, i < s.1.length → InR (s.1.getD i zEnt).1) (a2 : ∀ i, i < s.2.1.length → InR (s.2.1.getD i zEnt).1) : Ev (fun k => impl_StoreOk.f k s) (storeB s) := by
  simp only [impl_StoreOk.f, impl_within_is, Option.bind_some, storeB]
  refine (Ev.nand fun _ => Ev.nand fun _ => Ev.bind (impl_entriesOk_ev s.1 h1 a1) (Ev.and fun _ => Ev.bind (impl_entriesOk_ev s.2.1 h2 a2) (Ev.and fun _ => Ev.bind (impl_placesAscend_ev s.1 h1) (Ev.and fun _ => Ev.ret)))).eq ?_
  rw [ndec, ndec]
  cases decide (((s.1.length : Nat) : Int) ≤ 200) <;> cases entsB s.1 <;> cases decide (((s.2.1.length : Nat) : Int) ≤ 20) <;> cases entsB s.2.1 <;> simp

theorem text_bad {b : List Int} {p : Int} (hb : b.length ≤ 1048576) (hx : ∀ i, 0 ≤ b.getD i 0 ∧ b.getD i 0 ≤ 255) (h0 : 0 ≤ p) (hp : p ≤ (b.length : Int)) : Ev (fun k => impl_reader_text.f k (b, (p, (true, ())))) ((⟨#[]⟩ : ByteArray), (b, (p, (true, ())))) := by
  simp only [impl_reader_text.f]
  exact Ev.bind (num_bad hb hx h0 hp) (Ev.pos rfl Ev.ret)
theorem text_both {b : List Int} {p : Int} (hb : b.length ≤ 1048576) (hx : ∀ i, 0 ≤ b.getD i 0 ∧ b.getD i 0 ≤ 255) (h0 : 0 ≤ p) (hp : p ≤ (b.length : Int)) :
    ∃ t : ByteArray × Int × Bool, Ev (fun k => spec_GetText.f k b p) t ∧ (t.2.2 = true → p < t.2.1 ∧ t.2.1 ≤ (b.length : Int) ∧ Ev (fun k => impl_reader_text.f k (b, (p, (false, ())))) (t.1, (b, (t.2.1, (false, ()))))) ∧
      (t.2.2 = false → t = ((⟨#[]⟩ : ByteArray), (0 : Int), false) ∧ ∃ q, 0 ≤ q ∧ q ≤ (b.length : Int) ∧ Ev (fun k => impl_reader_text.f k (b, (p, (false, ())))) ((⟨#[]⟩ : ByteArray), (b, (q, (true, ()))))) := by
  obtain ⟨r, r1, r2, r3, r4⟩ := num_both b hb hx p h0 hp
  cases hr : r.2.2 with
  | false =>
    refine ⟨((⟨#[]⟩ : ByteArray), (0 : Int), false), ?_, by simp, fun _ => ⟨rfl, p, h0, hp, ?_⟩⟩
    · simp only [spec_GetText.f]
      exact Ev.bind r1 (Ev.neg (by rw [hr]; decide) Ev.ret)
    · simp only [impl_reader_text.f]
      exact Ev.bind (num_no r2 hr) (Ev.pos rfl Ev.ret)
  | true =>
    obtain ⟨v0, v1, q0, q1⟩ := r3 hr
    have e1 : wrap64 (((b.length : Nat) : Int) - r.2.1) = ((b.length : Nat) : Int) - r.2.1 := wrap64_id (by omega) (by omega)
    by_cases hl : ((b.length : Nat) : Int) - r.2.1 < r.1
    · refine ⟨((⟨#[]⟩ : ByteArray), (0 : Int), false), ?_, by simp, fun _ => ⟨rfl, r.2.1, by omega, q1, ?_⟩⟩
      · simp only [spec_GetText.f]
        refine Ev.bind r1 (Ev.pos hr (Ev.pos ?_ Ev.ret))
        rw [e1]; exact hl
      · simp only [impl_reader_text.f]
        refine Ev.bind (num_ok r2 hr) (Ev.neg nft (Ev.pos ?_ Ev.ret))
        rw [e1]; exact hl
    · have e2 : wrap64 (r.2.1 + r.1) = r.2.1 + r.1 := wrap64_id (by omega) (by omega)
      have e3 : wrap64 (r.2.1 + r.1 - r.1) = r.2.1 := by rw [wrap64_id (by omega) (by omega)]; omega
      refine ⟨(bytesOf (List.take ((r.2.1 + r.1).toNat - r.2.1.toNat) (b.drop r.2.1.toNat)), r.2.1 + r.1, true), ?_, fun _ => ⟨by show p < r.2.1 + r.1; omega, by show r.2.1 + r.1 ≤ _; omega, ?_⟩, by simp⟩
      · simp only [spec_GetText.f]
        refine Ev.bind r1 (Ev.pos hr ?_)
        rw [e1, e2]
        exact Ev.neg hl (Ev.pos (by omega) Ev.ret)
      · simp only [impl_reader_text.f]
        refine Ev.bind (num_ok r2 hr) (Ev.neg nft ?_)
        show Ev (fun k => if wrap64 (((b.length : Nat) : Int) - r.2.1) < r.1 then _ else if (0 : Int) ≤ wrap64 (wrap64 (r.2.1 + r.1) - r.1) ∧ wrap64 (wrap64 (r.2.1 + r.1) - r.1) ≤ wrap64 (r.2.1 + r.1) ∧ wrap64 (r.2.1 + r.1) ≤ ((b.length : Nat) : Int) then some (bytesOf (List.take ((wrap64 (r.2.1 + r.1)).toNat - (wrap64 (wrap64 (r.2.1 + r.1) - r.1)).toNat) (b.drop (wrap64 (wrap64 (r.2.1 + r.1) - r.1)).toNat)), (b, ((wrap64 (r.2.1 + r.1)), (false, ())))) else none) _
        rw [e1, e2, e3]
        exact Ev.neg hl (Ev.pos (by omega) Ev.ret)

theorem flag_bad {b : List Int} {p : Int} (hb : b.length ≤ 1048576) (hx : ∀ i, 0 ≤ b.getD i 0 ∧ b.getD i 0 ≤ 255) (h0 : 0 ≤ p) (hp : p ≤ (b.length : Int)) : Ev (fun k => impl_reader_flag.f k (b, (p, (true, ())))) (false, (b, (p, (true, ())))) := by
  simp only [impl_reader_flag.f]
  exact Ev.bind (count_bad hb hx h0 hp (by decide)) Ev.ret
theorem entry_both {b : List Int} {p : Int} (hb : b.length ≤ 1048576) (hx : ∀ i, 0 ≤ b.getD i 0 ∧ b.getD i 0 ≤ 255) (h0 : 0 ≤ p) (hp : p ≤ (b.length : Int)) :
    ∃ e : Entry × Int × Bool, Ev (fun k => spec_EntryRead.f k b p) e ∧ InR e.1.1 ∧ (e.2.2 = true → p < e.2.1 ∧ e.2.1 ≤ (b.length : Int) ∧ Ev (fun k => impl_reader_entry.f k (b, (p, (false, ())))) (e.1, (b, (e.2.1, (false, ()))))) ∧
      (e.2.2 = false → e.2.1 = 0 ∧ ∃ q, 0 ≤ q ∧ q ≤ (b.length : Int) ∧ Ev (fun k => impl_reader_entry.f k (b, (p, (false, ())))) (e.1, (b, (q, (true, ()))))) := by
  have z0 : InR zEnt.1 := by unfold InR zEnt; decide
  obtain ⟨r, r1, r2, r3, r4⟩ := num_both b hb hx p h0 hp
  simp only [spec_EntryRead.f, impl_reader_entry.f]
  cases hr : r.2.2 with
  | false =>
    refine ⟨(zEnt, (0 : Int), false), Ev.bind r1 (Ev.neg (by rw [hr]; decide) Ev.ret), z0, by simp, fun _ => ⟨rfl, p, h0, hp, ?_⟩⟩
    exact Ev.bind (num_no r2 hr) (Ev.bind (num_bad hb hx h0 hp) (Ev.bind (flag_bad hb hx h0 hp) (Ev.bind (text_bad hb hx h0 hp) (Ev.pos rfl Ev.ret))))
  | true =>
  obtain ⟨v0, v1, q0, q1⟩ := r3 hr
  obtain ⟨s, s1, s2, s3, s4⟩ := num_both b hb hx r.2.1 (by omega) q1
  have sr : InR r.1 := ⟨by omega, v1⟩
  cases hs : s.2.2 with
  | false =>
    refine ⟨(zEnt, (0 : Int), false), Ev.bind r1 (Ev.pos hr (Ev.bind s1 (Ev.neg (by rw [hs]; decide) Ev.ret))), z0, by simp, fun _ => ⟨rfl, r.2.1, by omega, q1, ?_⟩⟩
    exact Ev.bind (num_ok r2 hr) (Ev.bind (num_no s2 hs) (Ev.bind (flag_bad hb hx (by omega) q1) (Ev.bind (text_bad hb hx (by omega) q1) (Ev.pos rfl Ev.ret))))
  | true =>
  obtain ⟨u0, u1, p0, p1⟩ := s3 hs
  obtain ⟨t, t1, t2, t3, t4⟩ := num_both b hb hx s.2.1 (by omega) p1
  have fl : ∀ {x : Bool × reader}, Ev (fun k => (impl_reader_count.f k (b, (s.2.1, (false, ()))) (1 : Int)).bind fun r1 => some ((decide (r1.1 = (1 : Int))), r1.2)) x → Ev (fun k => impl_reader_flag.f k (b, (s.2.1, (false, ())))) x := fun h => h
  cases ht : t.2.2 with
  | false =>
    refine ⟨(zEnt, (0 : Int), false), Ev.bind r1 (Ev.pos hr (Ev.bind s1 (Ev.pos hs (Ev.bind t1 (Ev.neg (by rw [ht]; decide) Ev.ret))))), z0, by simp, fun _ => ⟨rfl, s.2.1, by omega, p1, ?_⟩⟩
    have f : Ev (fun k => impl_reader_flag.f k (b, (s.2.1, (false, ())))) (false, (b, (s.2.1, (true, ())))) := fl (Ev.bind (Ev.bind (num_no t2 ht) (Ev.neg (show ¬ ((1 : Int) < 0) by decide) Ev.ret)) Ev.ret)
    exact Ev.bind (num_ok r2 hr) (Ev.bind (num_ok s2 hs) (Ev.bind f (Ev.bind (text_bad hb hx (by omega) p1) (Ev.pos rfl Ev.ret))))
  | true =>
  obtain ⟨w0, w1, o0, o1⟩ := t3 ht
  by_cases hbig : (1 : Int) < t.1
  · refine ⟨(zEnt, (0 : Int), false), Ev.bind r1 (Ev.pos hr (Ev.bind s1 (Ev.pos hs (Ev.bind t1 (Ev.pos ht (Ev.pos hbig Ev.ret)))))), z0, by simp, fun _ => ⟨rfl, t.2.1, by omega, o1, ?_⟩⟩
    have f : Ev (fun k => impl_reader_flag.f k (b, (s.2.1, (false, ())))) (false, (b, (t.2.1, (true, ())))) := fl (Ev.bind (Ev.bind (num_ok t2 ht) (Ev.pos hbig Ev.ret)) Ev.ret)
    exact Ev.bind (num_ok r2 hr) (Ev.bind (num_ok s2 hs) (Ev.bind f (Ev.bind (text_bad hb hx (by omega) o1) (Ev.pos rfl Ev.ret))))
  have f : Ev (fun k => impl_reader_flag.f k (b, (s.2.1, (false, ())))) (decide (t.1 = 1), (b, (t.2.1, (false, ())))) := fl (Ev.bind (Ev.bind (num_ok t2 ht) (Ev.neg hbig Ev.ret)) Ev.ret)
  obtain ⟨x, x1, x2, x3⟩ := text_both (p := t.2.1) hb hx (by omega) o1
  cases hq : x.2.2 with
  | false =>
    obtain ⟨y1, q, y2, y3, y4⟩ := x3 hq
    refine ⟨(zEnt, (0 : Int), false), Ev.bind r1 (Ev.pos hr (Ev.bind s1 (Ev.pos hs (Ev.bind t1 (Ev.pos ht (Ev.neg hbig (Ev.bind x1 (Ev.neg (by rw [hq]; decide) Ev.ret)))))))), z0, by simp, fun _ => ⟨rfl, q, y2, y3, ?_⟩⟩
    exact Ev.bind (num_ok r2 hr) (Ev.bind (num_ok s2 hs) (Ev.bind f (Ev.bind y4 (Ev.pos rfl Ev.ret))))
  | true =>
    obtain ⟨y1, y2, y3⟩ := x2 hq
    have k1 := spec_EntryOk_ev (r.1, (s.1, ((decide (t.1 = (1 : Int))), (x.1, ())))) sr
    have k2 := impl_EntryOk_ev (r.1, (s.1, ((decide (t.1 = (1 : Int))), (x.1, ())))) sr
    cases he : entB (r.1, (s.1, ((decide (t.1 = (1 : Int))), (x.1, ())))) with
    | true =>
      rw [he] at k1 k2
      refine ⟨((r.1, (s.1, ((decide (t.1 = (1 : Int))), (x.1, ())))), x.2.1, true), Ev.bind r1 (Ev.pos hr (Ev.bind s1 (Ev.pos hs (Ev.bind t1 (Ev.pos ht (Ev.neg hbig (Ev.bind x1 (Ev.pos hq (Ev.bind k1 (Ev.pos rfl Ev.ret)))))))))), sr, fun _ => ⟨by show p < x.2.1; omega, y2, ?_⟩, by simp⟩
      exact Ev.bind (num_ok r2 hr) (Ev.bind (num_ok s2 hs) (Ev.bind f (Ev.bind y3 (Ev.neg nft (Ev.bind k2 (Ev.pos rfl Ev.ret))))))
    | false =>
      rw [he] at k1 k2
      refine ⟨(zEnt, (0 : Int), false), Ev.bind r1 (Ev.pos hr (Ev.bind s1 (Ev.pos hs (Ev.bind t1 (Ev.pos ht (Ev.neg hbig (Ev.bind x1 (Ev.pos hq (Ev.bind k1 (Ev.neg (by decide) Ev.ret)))))))))), z0, by simp, fun _ => ⟨rfl, x.2.1, by omega, y2, ?_⟩⟩
      exact Ev.bind (num_ok r2 hr) (Ev.bind (num_ok s2 hs) (Ev.bind f (Ev.bind y3 (Ev.neg nft (Ev.bind k2 (Ev.neg (by decide) Ev.ret))))))

noncomputable def zSt : Store := (([] : List Entry), (([] : List Entry), ((0 : Int), ())))
/-- What is known of what was read. -/
def StR (q : Store × Bool) : Prop := q = (zSt, false) ∨ (storeB q.1 = true ∧ q.1.2.1 = [] ∧ q.2 = true)
section
variable {b : List Int} (hb : b.length ≤ 1048576) (hx : ∀ i, 0 ≤ b.getD i 0 ∧ b.getD i 0 ≤ 255) (v : Int) (z : Store)
include hb hx
theorem app_InR {l : List Entry} {e : Entry} (hl : ∀ i, i < l.length → InR (l.getD i zEnt).1) (he : InR e.1) : ∀ i, i < (l ++ [e]).length → InR ((l ++ [e]).getD i zEnt).1 := fun i hi => by
  rw [List.length_append, List.length_cons, List.length_nil] at hi
  by_cases h : i < l.length
  · rw [List.getD_eq_getElem?_getD, List.getElem?_append_left h, ← List.getD_eq_getElem?_getD]; exact hl i h
  · rw [show i = l.length by omega, List.getD_eq_getElem?_getD, List.getElem?_append_right (Nat.le_refl _), Nat.sub_self]; exact he
theorem spec_end_bad (p : Int) (s : Store) : Ev (fun k => spec_StoreRead.p26 k b p false z s) (zSt, false) := by
  refine Ev.succ ?_
  simp only [spec_StoreRead.p26]
  exact Ev.neg (by decide) Ev.ret
theorem spec_bad (p n i : Int) (s : Store) : Ev (fun k => spec_StoreRead.p15 k b p false n i z s) (zSt, false) := by
  refine Ev.succ ?_
  simp only [spec_StoreRead.p15]
  by_cases h : i < n
  · exact Ev.pos h (Ev.neg (by decide) (spec_end_bad hb hx z p s))
  · exact Ev.neg h (spec_end_bad hb hx z p s)
theorem impl_end_bad (p : Int) (s : Store) : Ev (fun k => impl_StoreRead.p20 k z s (b, (p, (true, ())))) (zSt, false) := by
  refine Ev.succ ?_
  simp only [impl_StoreRead.p20, impl_reader_done.f]
  exact Ev.bindc (if_pos trivial) (Ev.neg nft Ev.ret)
theorem impl_bad (p n i : Int) (s : Store) : Ev (fun k => impl_StoreRead.p13 k n i z s (b, (p, (true, ())))) (zSt, false) := by
  refine Ev.succ ?_
  simp only [impl_StoreRead.p13]
  by_cases h : i < n
  · exact Ev.pos h (Ev.pos trivial (impl_end_bad hb hx z p s))
  · exact Ev.neg h (impl_end_bad hb hx z p s)
theorem end_both (p : Int) (l : List Entry) (hl : l.length ≤ 1048576) (ha : ∀ i, i < l.length → InR (l.getD i zEnt).1) :
    ∃ q, Ev (fun k => spec_StoreRead.p26 k b p true z (l, (([] : List Entry), (v, ())))) q ∧ Ev (fun k => impl_StoreRead.p20 k z (l, (([] : List Entry), (v, ()))) (b, (p, (false, ())))) q ∧ StR q ∧ (200 < l.length → q = (zSt, false)) := by
  have k1 := spec_StoreOk_ev (l, (([] : List Entry), (v, ()))) hl (by show (0 : Nat) ≤ _; omega) ha (fun i hi => by cases hi)
  have k2 := impl_StoreOk_ev (l, (([] : List Entry), (v, ()))) hl (by show (0 : Nat) ≤ _; omega) ha (fun i hi => by cases hi)
  by_cases hp : p = ((b.length : Nat) : Int)
  · cases hs : storeB (l, (([] : List Entry), (v, ()))) with
    | true =>
      rw [hs] at k1 k2
      refine ⟨((l, (([] : List Entry), (v, ()))), true), Ev.succ ?_, Ev.succ ?_, .inr ⟨hs, rfl, rfl⟩, fun h => ?_⟩
      · simp only [spec_StoreRead.p26]
        exact Ev.pos trivial (Ev.pos hp (Ev.bind k1 (Ev.pos rfl Ev.ret)))
      · simp only [impl_StoreRead.p20, impl_reader_done.f]
        exact Ev.bindc (if_neg nft) (Ev.pos (decide_eq_true hp) (Ev.bind k2 (Ev.pos rfl Ev.ret)))
      · unfold storeB at hs
        rw [Bool.and_eq_true, decide_eq_true_eq] at hs
        have : ((l.length : Nat) : Int) ≤ 200 := hs.1
        omega
    | false =>
      rw [hs] at k1 k2
      refine ⟨(zSt, false), Ev.succ ?_, Ev.succ ?_, .inl rfl, fun _ => rfl⟩
      · simp only [spec_StoreRead.p26]
        exact Ev.pos trivial (Ev.pos hp (Ev.bind k1 (Ev.neg nft Ev.ret)))
      · simp only [impl_StoreRead.p20, impl_reader_done.f]
        exact Ev.bindc (if_neg nft) (Ev.pos (decide_eq_true hp) (Ev.bind k2 (Ev.neg nft Ev.ret)))
  · refine ⟨(zSt, false), Ev.succ ?_, Ev.succ ?_, .inl rfl, fun _ => rfl⟩
    · simp only [spec_StoreRead.p26]
      exact Ev.pos trivial (Ev.neg hp Ev.ret)
    · simp only [impl_StoreRead.p20, impl_reader_done.f]
      exact Ev.bindc (if_neg nft) (Ev.neg (by simpa using hp) Ev.ret)
theorem loop_both (n : Int) (hn : n ≤ 200) : ∀ (m i : Nat) (p : Int) (l : List Entry), (i : Int) + m = max n i → i ≤ 200 → l.length = i → (∀ i, i < l.length → InR (l.getD i zEnt).1) → 0 ≤ p → p ≤ (b.length : Int) →
    ∃ q, Ev (fun k => spec_StoreRead.p15 k b p true n (i : Int) z (l, (([] : List Entry), (v, ())))) q ∧ Ev (fun k => impl_StoreRead.p13 k n (i : Int) z (l, (([] : List Entry), (v, ()))) (b, (p, (false, ())))) q ∧ StR q := by
  intro m
  induction m with
  | zero =>
    intro i p l hi h2 hl ha h0 hp
    obtain ⟨q, q1, q2, q3, _⟩ := end_both hb hx v z p l (by omega) ha
    refine ⟨q, Ev.succ ?_, Ev.succ ?_, q3⟩
    · simp only [spec_StoreRead.p15]; exact Ev.neg (by omega) q1
    · simp only [impl_StoreRead.p13]; exact Ev.neg (by omega) q2
  | succ m ih =>
    intro i p l hi h2 hl ha h0 hp
    obtain ⟨e, e1, e2, e3, e4⟩ := entry_both hb hx h0 hp
    have ei : wrap64 ((i : Int) + 1) = ((i + 1 : Nat) : Int) := wrap_up (n := 201) (by omega) (by omega)
    have hlim : (((l.length : Nat) : Int) + ((([e.1] : List Entry).length : Nat) : Int)) ≤ lim := by simp only [lim_eq, List.length_cons, List.length_nil]; omega
    cases he : e.2.2 with
    | true =>
      obtain ⟨f1, f2, f3⟩ := e3 he
      obtain ⟨q, q1, q2, q3⟩ := ih (i + 1) e.2.1 (l ++ [e.1]) (by omega) (by omega) (by simp [hl]) (app_InR hb hx ha e2) (by omega) f2
      refine ⟨q, Ev.succ ?_, Ev.succ ?_, q3⟩
      · simp only [spec_StoreRead.p15, ei]
        refine Ev.pos (by omega) (Ev.pos trivial (Ev.bind e1 (Ev.pos hlim ?_)))
        rw [he]; exact q1
      · simp only [impl_StoreRead.p13, ei]
        exact Ev.pos (by omega) (Ev.neg (by decide) (Ev.bind f3 (Ev.pos hlim q2)))
    | false =>
      obtain ⟨f0, p', f1, f2, f3⟩ := e4 he
      refine ⟨(zSt, false), Ev.succ ?_, Ev.succ ?_, .inl rfl⟩
      · simp only [spec_StoreRead.p15, ei]
        refine Ev.pos (by omega) (Ev.pos trivial (Ev.bind e1 (Ev.pos hlim ?_)))
        rw [he]; exact spec_bad hb hx z _ _ _ _
      · simp only [impl_StoreRead.p13, ei]
        exact Ev.pos (by omega) (Ev.neg (by decide) (Ev.bind f3 (Ev.pos hlim (impl_bad hb hx z _ _ _ _))))
theorem loop_long (n : Int) (hn : 200 < n) : ∀ (m i : Nat) (p : Int) (l : List Entry), (b.length : Int) - p ≤ m → (i : Int) ≤ n → (i : Int) ≤ p → l.length = i → (∀ i, i < l.length → InR (l.getD i zEnt).1) → 0 ≤ p → p ≤ (b.length : Int) →
    Ev (fun k => spec_StoreRead.p15 k b p true n (i : Int) z (l, (([] : List Entry), (v, ())))) (zSt, false) := by
  intro m
  induction m with
  | zero =>
    intro i p l hm hi hip hl ha h0 hp
    refine Ev.succ ?_
    simp only [spec_StoreRead.p15]
    by_cases hlt : (i : Int) < n
    · obtain ⟨e, e1, e2, e3, e4⟩ := entry_both hb hx h0 hp
      cases he : e.2.2 with
      | true => have := e3 he; omega
      | false =>
        refine Ev.pos hlt (Ev.pos trivial (Ev.bind e1 (Ev.pos (by simp only [lim_eq, List.length_cons, List.length_nil]; omega) ?_)))
        rw [he]; exact spec_bad hb hx z _ _ _ _
    · obtain ⟨q, q1, _, _, q4⟩ := end_both hb hx v z p l (by omega) ha
      rw [q4 (by omega)] at q1
      exact Ev.neg hlt q1
  | succ m ih =>
    intro i p l hm hi hip hl ha h0 hp
    refine Ev.succ ?_
    simp only [spec_StoreRead.p15]
    by_cases hlt : (i : Int) < n
    · obtain ⟨e, e1, e2, e3, e4⟩ := entry_both hb hx h0 hp
      refine Ev.pos hlt (Ev.pos trivial (Ev.bind e1 (Ev.pos (by simp only [lim_eq, List.length_cons, List.length_nil]; omega) ?_)))
      cases he : e.2.2 with
      | true =>
        obtain ⟨f1, f2, _⟩ := e3 he
        rw [wrap_up (i := i) (n := 1048577) (by omega) (by omega)]
        exact ih (i + 1) e.2.1 (l ++ [e.1]) (by omega) (by omega) (by omega) (by simp [hl]) (app_InR hb hx ha e2) (by omega) f2
      | false => exact spec_bad hb hx z _ _ _ _
    · obtain ⟨q, q1, _, _, q4⟩ := end_both hb hx v z p l (by omega) ha
      rw [q4 (by omega)] at q1
      exact Ev.neg hlt q1
theorem read_both : ∃ q, Ev (fun k => spec_StoreRead.f k b) q ∧ Ev (fun k => impl_StoreRead.f k b) q ∧ StR q := by
  obtain ⟨r, r1, r2, r3, r4⟩ := num_both b hb hx 0 (by omega) (by omega)
  simp only [spec_StoreRead.f, impl_StoreRead.f]
  cases hr : r.2.2 with
  | false =>
    exact ⟨(zSt, false), Ev.bind r1 (Ev.neg (by rw [hr]; decide) Ev.ret), Ev.bind (num_no r2 hr) (Ev.bind (count_bad hb hx (by omega) (by omega) (by decide)) (impl_bad hb hx _ _ _ _ _)), .inl rfl⟩
  | true =>
  obtain ⟨v0, v1, q0, q1⟩ := r3 hr
  obtain ⟨s, s1, s2, s3, s4⟩ := num_both b hb hx r.2.1 (by omega) q1
  have cn : ∀ {x : Int × reader}, Ev (fun k => (impl_reader_num.f k (b, (r.2.1, (false, ())))).bind fun r1 => if (200 : Int) < r1.1 then some ((0 : Int), (r1.2.1, (r1.2.2.1, (true, r1.2.2.2.2)))) else some (r1.1, r1.2)) x → Ev (fun k => impl_reader_count.f k (b, (r.2.1, (false, ()))) (200 : Int)) x := fun h => h
  cases hs : s.2.2 with
  | false =>
    have h0 := s4 hs
    refine ⟨(zSt, false), Ev.bind r1 (Ev.pos hr (Ev.bind s1 ?_)), Ev.bind (num_ok r2 hr) (Ev.bind (cn (Ev.bind (num_no s2 hs) (Ev.neg (show ¬ ((200 : Int) < 0) by decide) Ev.ret))) (impl_bad hb hx _ _ _ _ _)), .inl rfl⟩
    rw [hs]; exact spec_bad hb hx _ _ _ _ _
  | true =>
  obtain ⟨u0, u1, p0, p1⟩ := s3 hs
  by_cases hbig : (200 : Int) < s.1
  · refine ⟨(zSt, false), Ev.bind r1 (Ev.pos hr (Ev.bind s1 ?_)), Ev.bind (num_ok r2 hr) (Ev.bind (cn (Ev.bind (num_ok s2 hs) (Ev.pos hbig Ev.ret))) (impl_bad hb hx _ _ _ _ _)), .inl rfl⟩
    rw [hs]
    exact loop_long hb hx r.1 _ s.1 hbig b.length 0 s.2.1 [] (by omega) (by omega) (by omega) rfl (fun i hi => by cases hi) (by omega) p1
  · obtain ⟨q, k1, k2, k3⟩ := loop_both hb hx r.1 zSt s.1 (by omega) s.1.toNat 0 s.2.1 [] (by omega) (by omega) rfl (fun i hi => by cases hi) (by omega) p1
    refine ⟨q, Ev.bind r1 (Ev.pos hr (Ev.bind s1 ?_)), Ev.bind (num_ok r2 hr) (Ev.bind (cn (Ev.bind (num_ok s2 hs) (Ev.neg hbig Ev.ret))) k2), k3⟩
    rw [hs]; exact k1
end


theorem byte_of {l : List Int} (h : Gd (.sl (.int .u8)) l) : ∀ i, 0 ≤ l.getD i 0 ∧ l.getD i 0 ≤ 255 := fun i => by
  by_cases hi : i < l.length
  · have h1 : (Lit.int .u8 (l.getD i 0)).wf = true := h.2 _ (getD_mem hi)
    generalize l.getD i 0 = x at h1 ⊢
    simp [Lit.wf, IntKind.min, IntKind.max, IntKind.signed, IntKind.bits] at h1
    exact ⟨by omega, by omega⟩
  · rw [List.getD_eq_getElem?_getD, List.getElem?_eq_none (by omega)]; decide
theorem sum_le {α : Type} {f : α → Nat} {c : Nat} : ∀ {l : List α}, (∀ x ∈ l, f x ≤ c) → (l.map f).sum ≤ c * l.length := by
  intro l
  induction l with
  | nil => intro _; exact Nat.le_refl _
  | cons x l ih =>
    intro h
    have h1 := h x List.mem_cons_self
    have h2 := ih fun y hy => h y (List.mem_cons_of_mem _ hy)
    rw [List.map_cons, List.sum_cons, List.length_cons, Nat.mul_add]
    omega
theorem cnt_StR {q : Store × Bool} (h : StR q) : cnt tStore q.1 ≤ 16384 := by
  rcases h with rfl | ⟨h1, h2, _⟩
  · decide
  · unfold storeB entsB at h1
    simp only [Bool.and_eq_true, decide_eq_true_eq, List.all_eq_true, List.mem_range'_1] at h1
    have hs : (q.1.1.map fun x => cnt tEntry x).sum ≤ 40 * q.1.1.length := sum_le fun x hx => by
      obtain ⟨i, hi, rfl⟩ := List.mem_iff_getElem.1 hx
      have h3 := h1.2.1 i (by omega)
      rw [show q.1.1.getD i zEnt = q.1.1[i] by rw [List.getD_eq_getElem?_getD, List.getElem?_eq_getElem hi]; rfl] at h3
      unfold entB at h3
      simp only [Bool.and_eq_true, decide_eq_true_eq] at h3
      have h4 := h3.2.2.2.1
      show 0 + (0 + (0 + (q.1.1[i].2.2.2.1.size + 0))) ≤ 40
      omega
    show (q.1.1.length + (q.1.1.map fun x => cnt tEntry x).sum) + ((q.1.2.1.length + (q.1.2.1.map fun x => cnt tEntry x).sum) + (0 + 0)) ≤ 16384
    rw [h2]
    simp only [List.length_nil, List.map_nil, List.sum_nil]
    omega
theorem cnt_bytes (l : List Int) : cnt (.sl (.int .u8)) l = l.length := by
  show l.length + (l.map fun _ => 0).sum = l.length
  have : (l.map fun _ => 0).sum = 0 := by induction l with
    | nil => rfl
    | cons x l ih => simpa using ih
  omega
theorem pureL (a0 : List Int) (h0 : Gd (.sl (.int .u8)) a0) : ∃ k, laws_FnExactStoreRead.f k a0 = some true := by
  refine Ev.get (v := true) ?_
  simp only [laws_FnExactStoreRead.f]
  by_cases hb : (1048576 : Int) < ((a0.length : Nat) : Int)
  · exact Ev.pos hb Ev.ret
  refine Ev.neg hb ?_
  have hc0 : cnt (.sl (.int .u8)) a0 ≤ 1048576 := by rw [cnt_bytes]; omega
  have t0 := to_ByteS a0 hc0
  obtain ⟨q, e1, e2, e3⟩ := read_both (b := a0) (by omega) (byte_of h0)
  have e4 := cnt_StR e3
  have q0 := eq_ByteS a0 (by omega)
  have q1 := eq_Store q.1 (by omega)
  have w0 := W_ByteS_le a0
  have w1 := W_Store_le q.1
  obtain ⟨n1, x1, m1, m2, m3⟩ := mk_ByteS a0 1 (by omega) (by omega)
  obtain ⟨n3, x3, m7, m8, m9, m10⟩ := mk_Store q.1 1 (by omega) (by omega)
  repeat first | exact Ev.ret | refine Ev.bind (by assumption) ?_ | refine Ev.bindc (by assumption) ?_ | refine Ev.pos (by first | trivial | omega) ?_ | refine Ev.neg (by omega) ?_

end Go.Proofs.Ytdkdhciogedoiab.OmFnExactStoreRead
