/- The plain law: an epoch that is opened in a drawn register is its last one, has these nodes, and is not closed; all earlier ones are as they were. Conditions: what is known of a value that came in. -/
import Derived.Test.YtdkdhciogedoiacFamFnOpened
set_option linter.unusedVariables false
set_option linter.unusedSimpArgs false
namespace Go.Proofs.Ytdkdhciogedoiac.OmFnOpened
open Go Go.OM
/-- x lies between a and b. -/
def inB (x a b : Int) : Bool := decide (a ≤ x) && decide (x ≤ b)
theorem inB_true {x a b : Int} : inB x a b = true ↔ a ≤ x ∧ x ≤ b := by simp [inB]
theorem ite_inB (x a b : Int) : (if a ≤ x then some (decide (x ≤ b)) else some false) = some (inB x a b) := by
  unfold inB
  by_cases h : a ≤ x <;> simp [h]
def InR (x : Int) : Prop := -9223372036854775808 ≤ x ∧ x ≤ 9223372036854775807
theorem InR_of {x : Int} (h : Gd (.int .i64) x) : InR x := by
  have h : (Lit.int .i64 x).wf = true := h
  simp [Lit.wf, IntKind.min, IntKind.max, IntKind.signed, IntKind.bits] at h
  exact ⟨by omega, by omega⟩
theorem Ev.and {q b : Bool} {A : Nat → Option Bool} (h : q = true → Ev A b) : Ev (fun k => if q = true then A k else some false) (q && b) := by
  cases q with
  | false => exact Ev.neg (by decide) Ev.ret
  | true => exact Ev.pos rfl (h rfl)
theorem Ev.andc {c : Prop} [Decidable c] {b : Bool} {A : Nat → Option Bool} (h : c → Ev A b) : Ev (fun k => if c then A k else some false) (decide c && b) := by
  by_cases hc : c
  · rw [decide_eq_true hc]; exact Ev.pos hc (h hc)
  · rw [decide_eq_false hc]; exact Ev.neg hc Ev.ret
theorem Ev.nand {c : Prop} [Decidable c] {b : Bool} {A : Nat → Option Bool} (h : ¬ c → Ev A b) : Ev (fun k => if c then some false else A k) (!decide c && b) := by
  by_cases hc : c
  · rw [decide_eq_true hc]; exact Ev.pos hc Ev.ret
  · rw [decide_eq_false hc]; exact Ev.neg hc (h hc)
theorem Ev.ite {c : Prop} [Decidable c] {α : Type} {A B : Nat → Option α} {v u : α} (h1 : c → Ev A v) (h2 : ¬ c → Ev B u) : Ev (fun k => if c then A k else B k) (if c then v else u) := by
  by_cases hc : c
  · rw [if_pos hc]; exact Ev.pos hc (h1 hc)
  · rw [if_neg hc]; exact Ev.neg hc (h2 hc)
theorem all_loop {n : Nat} {p : Nat → Int → Option Bool} {q : Nat → Bool} {zb : Bool} (hp : ∀ (i : Nat), i < n → ∀ b, Ev (fun k => p k (((i + 1 : Nat)) : Int)) b → Ev (fun k => p (k + 1) (i : Int)) (q i && b)) (h0 : Ev (fun k => p (k + 1) (n : Int)) zb) :
    ∀ (m i : Nat), i + m = n → Ev (fun k => p k (i : Int)) ((List.range' i m).all q && zb) := by
  intro m
  induction m with
  | zero => intro i h; rw [show i = n by omega]; exact Ev.succ h0
  | succ m ih =>
    intro i h
    refine (Ev.succ (hp i (by omega) _ (ih (i + 1) (by omega)))).eq ?_
    rw [List.range'_succ, List.all_cons, Bool.and_assoc]
theorem wrap_up {i n : Nat} (h : i < n) (hn : n ≤ 4611686018427387904) : wrap64 ((i : Int) + (1 : Int)) = ((i + 1 : Nat) : Int) := wrap64_id (by omega) (by omega)
theorem cnt_ints (l : List Int) : cnt (.sl (.int .i64)) l = l.length := by
  show l.length + (l.map fun _ => 0).sum = l.length
  have : (l.map fun _ => 0).sum = 0 := by induction l with
    | nil => rfl
    | cons x l ih => simpa using ih
  omega
/-- It comes to something with P. -/
def Evp {α : Type} (f : Nat → Option α) (P : α → Prop) : Prop := ∃ v, Ev f v ∧ P v
def Op {α : Type} (f : Option α) (P : α → Prop) : Prop := ∃ v, f = some v ∧ P v
section
variable {α β : Type} {P : α → Prop} {Q : β → Prop}
theorem Evp.ret {v : α} (h : P v) : Evp (fun _ => some v) P := ⟨v, Ev.ret, h⟩
theorem Evp.of {f : Nat → Option α} {v : α} (h : Ev f v) (hp : P v) : Evp f P := ⟨v, h, hp⟩
theorem Evp.bind {f : Nat → Option α} {g : Nat → α → Option β} (h : Evp f P) (hg : ∀ a, P a → Evp (fun k => g k a) Q) : Evp (fun k => (f k).bind (g k)) Q := by
  obtain ⟨a, h1, h2⟩ := h
  obtain ⟨b, h3, h4⟩ := hg a h2
  exact ⟨b, h1.bind h3, h4⟩
theorem Evp.bindv {f : Nat → Option α} {g : Nat → α → Option β} {a : α} (h : Ev f a) (hg : Evp (fun k => g k a) Q) : Evp (fun k => (f k).bind (g k)) Q := by
  obtain ⟨b, h3, h4⟩ := hg
  exact ⟨b, h.bind h3, h4⟩
theorem Evp.bindc {f : Option α} {g : Nat → α → Option β} (h : Op f P) (hg : ∀ a, P a → Evp (fun k => g k a) Q) : Evp (fun k => f.bind (g k)) Q := by
  obtain ⟨a, h1, h2⟩ := h
  obtain ⟨b, h3, h4⟩ := hg a h2
  exact ⟨b, Ev.bindc h1 h3, h4⟩
theorem Evp.succ {f : Nat → Option α} (h : Evp (fun k => f (k + 1)) P) : Evp f P := by
  obtain ⟨a, h1, h2⟩ := h
  exact ⟨a, Ev.succ h1, h2⟩
theorem Evp.pos {c : Prop} [Decidable c] {f g : Nat → Option α} (hc : c) (h : Evp f P) : Evp (fun k => if c then f k else g k) P := by
  obtain ⟨a, h1, h2⟩ := h
  exact ⟨a, Ev.pos hc h1, h2⟩
theorem Evp.neg {c : Prop} [Decidable c] {f g : Nat → Option α} (hc : ¬ c) (h : Evp g P) : Evp (fun k => if c then f k else g k) P := by
  obtain ⟨a, h1, h2⟩ := h
  exact ⟨a, Ev.neg hc h1, h2⟩
theorem Evp.ite {c : Prop} [Decidable c] {f g : Nat → Option α} (h1 : c → Evp f P) (h2 : ¬ c → Evp g P) : Evp (fun k => if c then f k else g k) P := by
  by_cases hc : c
  · exact Evp.pos hc (h1 hc)
  · exact Evp.neg hc (h2 hc)
theorem Evp.mono {f : Nat → Option α} {P' : α → Prop} (h : Evp f P) (hp : ∀ a, P a → P' a) : Evp f P' := by
  obtain ⟨a, h1, h2⟩ := h
  exact ⟨a, h1, hp a h2⟩
theorem Evp.opt {f : Option α} (h : Op f P) : Evp (fun _ => f) P := by
  obtain ⟨a, h1, h2⟩ := h
  exact ⟨a, Ev.of h1, h2⟩
theorem Evp.cg {f g : Nat → Option α} (h : Evp g P) (e : ∀ k, f k = g k) : Evp f P := by
  obtain ⟨a, h1, h2⟩ := h
  exact ⟨a, h1.cg e, h2⟩
theorem Op.ret {v : α} (h : P v) : Op (some v) P := ⟨v, rfl, h⟩
theorem Op.bind {f : Option α} {g : α → Option β} (h : Op f P) (hg : ∀ a, P a → Op (g a) Q) : Op (f.bind g) Q := by
  obtain ⟨a, h1, h2⟩ := h
  obtain ⟨b, h3, h4⟩ := hg a h2
  exact ⟨b, by rw [h1, Option.bind_some, h3], h4⟩
theorem Op.pos {c : Prop} [Decidable c] {f g : Option α} (hc : c) (h : Op f P) : Op (if c then f else g) P := by rw [if_pos hc]; exact h
theorem Op.neg {c : Prop} [Decidable c] {f g : Option α} (hc : ¬ c) (h : Op g P) : Op (if c then f else g) P := by rw [if_neg hc]; exact h
theorem Op.ite {c : Prop} [Decidable c] {f g : Option α} (h1 : c → Op f P) (h2 : ¬ c → Op g P) : Op (if c then f else g) P := by
  by_cases hc : c
  · exact Op.pos hc (h1 hc)
  · exact Op.neg hc (h2 hc)
end

theorem laws_big_is (b : List Int) : laws_big.f b = some (decide ((1048576 : Int) < ((b.length : Nat) : Int))) := rfl

/-- A cursor over bytes: where it stands. -/
def Cu (c : l1Cur) : Prop := c.1.length ≤ 1048576 ∧ 0 ≤ c.2.1
theorem spec_l1New_l (b : List Int) (hb : b.length ≤ 1048576) : ∀ (m i : Nat) (h : Int), i + m = b.length → Evp (fun k => spec_l1New.p7 k b h (i : Int)) Cu := by
  intro m
  induction m with
  | zero =>
    intro i h hi
    refine Evp.succ ?_
    simp only [spec_l1New.p7]
    exact Evp.neg (by omega) (Evp.ret ⟨hb, Int.le_refl _⟩)
  | succ m ih =>
    intro i h hi
    refine Evp.succ ?_
    simp only [spec_l1New.p7]
    refine Evp.pos (by omega) (Evp.ite (fun _ => Evp.pos (by omega) ?_) (fun _ => Evp.ret ⟨hb, Int.le_refl _⟩))
    rw [wrap_up (i := i) (n := b.length) (by omega) (by omega)]
    exact ih (i + 1) _ (by omega)
theorem spec_l1New_d (b : List Int) (hb : b.length ≤ 1048576) : Evp (fun k => spec_l1New.f k b) Cu := spec_l1New_l b hb b.length 0 _ (by omega)

theorem and255 (x : Int) : 0 ≤ andK .i64 x 255 ∧ andK .i64 x 255 ≤ 255 := by
  have e : andK .i64 x 255 = wrap64 (((BitVec.ofInt 64 x &&& BitVec.ofInt 64 255).toNat : Nat) : Int) := rfl
  have h : (BitVec.ofInt 64 x &&& BitVec.ofInt 64 255).toNat ≤ 255 := by
    rw [BitVec.toNat_and]
    exact Nat.le_trans Nat.and_le_right (by decide)
  rw [e, wrap64_id (by omega) (by omega)]
  omega
theorem spec_l1Byte_d (c : l1Cur) (h : Cu c) : Op (spec_l1Byte.f c) (fun r => 0 ≤ r.1 ∧ r.1 ≤ 255 ∧ Cu r.2) := by
  obtain ⟨h1, h2⟩ := h
  unfold spec_l1Byte.f
  refine Op.ite (fun hl => Op.pos ⟨h2, hl⟩ (Op.ret ⟨(and255 _).1, (and255 _).2, h1, ?_⟩)) (fun hl => Op.ret ⟨(and255 _).1, (and255 _).2, h1, h2⟩)
  show (0 : Int) ≤ wrap64 (c.2.1 + 1)
  rw [wrap64_id (by omega) (by omega)]; omega

theorem spec_l1Below_d (c : l1Cur) (n : Int) (h : Cu c) : Op (spec_l1Below.f c n) (fun r => 0 ≤ r.1 ∧ (0 < n → r.1 < n) ∧ (n ≤ 0 → r.1 = 0) ∧ Cu r.2) := by
  unfold spec_l1Below.f
  refine Op.ite (fun h0 => Op.ret ⟨by show (0 : Int) ≤ 0; omega, fun h1 => by omega, fun _ => rfl, h⟩) (fun h0 => Op.ite (fun h1 => Op.bind (spec_l1Byte_d c h) fun r hr => ?_) (fun h1 => ?_))
  · refine Op.neg (by omega) (Op.ret ?_)
    show 0 ≤ Int.tmod r.1 n ∧ (0 < n → Int.tmod r.1 n < n) ∧ (n ≤ 0 → Int.tmod r.1 n = 0) ∧ Cu r.2
    rw [Int.tmod_eq_emod_of_nonneg hr.1]
    exact ⟨Int.emod_nonneg _ (by omega), fun _ => Int.emod_lt_of_pos _ (by omega), fun _ => by omega, hr.2.2⟩
  · refine Op.bind (spec_l1Byte_d c h) fun r hr => Op.bind (spec_l1Byte_d _ hr.2.2) fun s hs => Op.bind (spec_l1Byte_d _ hs.2.2) fun t ht => Op.bind (spec_l1Byte_d _ ht.2.2) fun u hu => Op.neg (by omega) (Op.ret ?_)
    obtain ⟨a1, a2, _⟩ := hr
    obtain ⟨b1, b2, _⟩ := hs
    obtain ⟨c1, c2, _⟩ := ht
    obtain ⟨d1, d2, d3⟩ := hu
    rw [wrap64_id (x := r.1 * 16777216) (by omega) (by omega), wrap64_id (x := s.1 * 65536) (by omega) (by omega), wrap64_id (x := r.1 * 16777216 + s.1 * 65536) (by omega) (by omega), wrap64_id (x := t.1 * 256) (by omega) (by omega), wrap64_id (x := r.1 * 16777216 + s.1 * 65536 + t.1 * 256) (by omega) (by omega), wrap64_id (x := r.1 * 16777216 + s.1 * 65536 + t.1 * 256 + u.1) (by omega) (by omega)]
    have hz : (0 : Int) ≤ r.1 * 16777216 + s.1 * 65536 + t.1 * 256 + u.1 := by omega
    show 0 ≤ Int.tmod _ n ∧ (0 < n → Int.tmod _ n < n) ∧ (n ≤ 0 → Int.tmod _ n = 0) ∧ Cu u.2
    rw [Int.tmod_eq_emod_of_nonneg hz]
    exact ⟨Int.emod_nonneg _ (by omega), fun _ => Int.emod_lt_of_pos _ (by omega), fun _ => by omega, d3⟩

theorem spec_l1Once_d (c : l1Cur) (n : Int) (h : Cu c) : Op (spec_l1Once.f c n) (fun r => Cu r.2) := by
  unfold spec_l1Once.f
  exact Op.bind (spec_l1Below_d c n h) fun r hr => Op.ret hr.2.2.2

theorem spec_l4DrawRight_l (n : Int) (h3 : 0 ≤ n) (hn : n ≤ 8) (z : Config) : ∀ (m i : Nat) (a : Config) (c : l1Cur), (i : Int) + m = n → a.1.length = i → (∀ x ∈ a.1, 0 ≤ x ∧ x ≤ 4) → Cu c →
    Evp (fun k => spec_l4DrawRight.p9 k n (i : Int) z a c) (fun r => (r.1.1.length : Int) = n ∧ (∀ x ∈ r.1.1, 0 ≤ x ∧ x ≤ 4) ∧ (r.1.2.1 = a.2.1 ∨ r.1.2.1 = 2) ∧ Cu r.2) := by
  intro m
  induction m with
  | zero =>
    intro i a c hi ha hx hc
    refine Evp.succ ?_
    simp only [spec_l4DrawRight.p9]
    refine Evp.neg (by omega) (Evp.bindc (spec_l1Once_d c 2 hc) fun r hr => Evp.ite (fun _ => Evp.ret ⟨by show (a.1.length : Int) = n; omega, hx, .inr rfl, hr⟩) (fun _ => Evp.ret ⟨by show (a.1.length : Int) = n; omega, hx, .inl rfl, hr⟩))
  | succ m ih =>
    intro i a c hi ha hx hc
    refine Evp.succ ?_
    simp only [spec_l4DrawRight.p9]
    refine Evp.pos (by omega) (Evp.bindc (spec_l1Below_d c 5 hc) fun r hr => Evp.pos (by simp only [lim_eq, List.length_cons, List.length_nil]; omega) ?_)
    rw [wrap_up (i := i) (n := 8) (by omega) (by omega)]
    exact ih (i + 1) (a.1 ++ [r.1], a.2) r.2 (by omega) (by show (a.1 ++ [r.1]).length = i + 1; simp [ha]) (fun x hm => by
      rcases List.mem_append.1 hm with h | h
      · exact hx x h
      · rw [List.mem_singleton] at h; subst h; have := hr.2.1 (by omega); exact ⟨hr.1, by omega⟩) hr.2.2.2
theorem spec_l4DrawRight_d (c : l1Cur) (h : Cu c) : Evp (fun k => spec_l4DrawRight.f k c) (fun r => 3 ≤ r.1.1.length ∧ r.1.1.length ≤ 8 ∧ (∀ x ∈ r.1.1, 0 ≤ x ∧ x ≤ 4) ∧ 1 ≤ r.1.2.1 ∧ r.1.2.1 ≤ 3 ∧ Cu r.2) := by
  simp only [spec_l4DrawRight.f]
  refine Evp.bindc (spec_l1Below_d c 3 h) fun r hr => Evp.bindc (spec_l1Below_d _ 5 hr.2.2.2) fun s hs => ?_
  have h1 := hr.2.1 (by omega)
  have h2 := hs.2.1 (by omega)
  have h0 := hr.1
  have h0' := hs.1
  rw [wrap64_id (x := 3 + s.1) (by omega) (by omega), wrap64_id (x := 1 + r.1) (by omega) (by omega)]
  refine (spec_l4DrawRight_l (3 + s.1) (by omega) (by omega) _ (3 + s.1).toNat 0 _ _ (by omega) rfl (fun x hx => by cases hx) hs.2.2.2).mono fun q hq => ?_
  obtain ⟨q1, q2, q3, q4⟩ := hq
  have q3 : q.1.2.1 = 1 + r.1 ∨ q.1.2.1 = 2 := q3
  exact ⟨by omega, by omega, q2, by omega, by omega, q4⟩

theorem spec_l1PickInt_d (c : l1Cur) (l : List Int) (h : Cu c) (hl : 0 < l.length) : Op (spec_l1PickInt.f c l) (fun r => r.1 ∈ l ∧ Cu r.2) := by
  unfold spec_l1PickInt.f
  refine Op.bind (spec_l1Below_d c _ h) fun r hr => ?_
  have h1 := hr.2.1 (by omega)
  exact Op.pos ⟨hr.1, h1⟩ (Op.ret ⟨getD_mem (by omega), hr.2.2.2⟩)

theorem spec_l4Draw_d (c : l1Cur) (h : Cu c) : Evp (fun k => spec_l4Draw.f k c) (fun r => r.1.1.length ≤ 9 ∧ Cu r.2) := by
  simp only [spec_l4Draw.f]
  refine Evp.bind (spec_l4DrawRight_d c h) fun r hr => Evp.bindc (spec_l1Below_d _ 20 hr.2.2.2.2.2) fun s hs => ?_
  refine Evp.ite (fun _ => Evp.bindc (spec_l1PickInt_d _ _ hs.2.2.2 (by decide)) fun t ht => Evp.ret ⟨by show r.1.1.length ≤ 9; omega, ht.2⟩) fun _ => ?_
  refine Evp.ite (fun _ => Evp.bindc (spec_l1PickInt_d _ _ hs.2.2.2 (by decide)) fun t ht => Evp.pos (by omega) (Evp.ret ⟨by show (r.1.1.set _ _).length ≤ 9; rw [List.length_set]; omega, ht.2⟩)) fun _ => ?_
  refine Evp.ite (fun _ => Evp.bindc (spec_l1PickInt_d _ _ hs.2.2.2 (by decide)) fun t ht => ?_) fun _ => Evp.ret ⟨by show r.1.1.length ≤ 9; omega, hs.2.2.2⟩
  have hm : t.1 = 0 ∨ t.1 = 8 ∨ t.1 = 9 := by simpa using ht.1
  refine Evp.pos (by rw [lim_eq]; omega) (Evp.ret ⟨?_, ht.2⟩)
  show (List.replicate t.1.toNat (0 : Int)).length ≤ 9
  rw [List.length_replicate]; omega

theorem spec_l4Has_l (l : List Int) (x : Int) (hl : l.length ≤ 1048576) : ∀ (m i : Nat), i + m = l.length → Ev (fun k => spec_l4Has.p5 k l x (i : Int)) ((l.drop i).contains x) := by
  intro m
  induction m with
  | zero =>
    intro i h
    refine Ev.succ ?_
    simp only [spec_l4Has.p5]
    rw [List.drop_eq_nil_of_le (by omega)]
    exact Ev.neg (by omega) Ev.ret
  | succ m ih =>
    intro i h
    refine Ev.succ ?_
    simp only [spec_l4Has.p5, Int.toNat_natCast]
    rw [drop_get (d := (0 : Int)) (i := i) (l := l) (by omega), List.contains_cons, wrap_up (i := i) (n := l.length) (by omega) (by omega)]
    refine Ev.pos (by omega) (Ev.pos (by omega) ?_)
    by_cases hx : l.getD i 0 = x
    · exact (Ev.pos hx Ev.ret).eq (by rw [hx]; simp)
    · refine (Ev.neg hx (ih (i + 1) (by omega))).eq ?_
      rw [show (x == l.getD i 0) = false by simpa using fun e => hx e.symm, Bool.false_or]
theorem spec_l4Has_ev (l : List Int) (x : Int) (hl : l.length ≤ 1048576) : Ev (fun k => spec_l4Has.f k l x) (l.contains x) := spec_l4Has_l l x hl l.length 0 (by omega)

theorem spec_l4Put_l (l : List Int) (x : Int) (hl : l.length ≤ 1048576) : ∀ (m i : Nat) (o : List Int) (b : Bool), i + m = l.length → o.length ≤ i + (if b = true then 1 else 0) → Evp (fun k => spec_l4Put.p9 k l x o b (i : Int)) (fun r => r.length ≤ o.length + m + (if b = true then 0 else 1)) := by
  intro m
  induction m with
  | zero =>
    intro i o b h ho
    refine Evp.succ ?_
    simp only [spec_l4Put.p9]
    refine Evp.neg (by omega) ?_
    cases b with
    | true => exact Evp.pos rfl (Evp.ret (by simp))
    | false => simp at ho; exact Evp.neg (by decide) (Evp.pos (by simp only [lim_eq, List.length_cons, List.length_nil]; omega) (Evp.ret (by simp)))
  | succ m ih =>
    intro i o b h ho
    refine Evp.succ ?_
    simp only [spec_l4Put.p9]
    rw [wrap_up (i := i) (n := l.length) (by omega) (by omega)]
    refine Evp.pos (by omega) ?_
    cases b with
    | true =>
      simp at ho
      refine Evp.pos rfl (Evp.pos (by omega) (Evp.pos (by simp only [lim_eq, List.length_cons, List.length_nil]; omega) ?_))
      exact (ih (i + 1) _ true (by omega) (by simp; omega)).mono fun r hr => by simp at hr ⊢; omega
    | false =>
      simp at ho
      refine Evp.neg (by decide) (Evp.pos (by omega) (Evp.ite (fun _ => Evp.pos (by simp only [lim_eq, List.length_cons, List.length_nil]; omega) (Evp.pos (by omega) (Evp.pos (by simp only [lim_eq, List.length_append, List.length_cons, List.length_nil]; omega) ?_))) (fun _ => Evp.pos (by omega) (Evp.pos (by simp only [lim_eq, List.length_cons, List.length_nil]; omega) ?_))))
      · exact (ih (i + 1) _ true (by omega) (by simp; omega)).mono fun r hr => by simp at hr ⊢; omega
      · exact (ih (i + 1) _ false (by omega) (by simp; omega)).mono fun r hr => by simp at hr ⊢; omega
theorem spec_l4Put_d (l : List Int) (x : Int) (hl : l.length ≤ 1048576) : Evp (fun k => spec_l4Put.f k l x) (fun r => r.length ≤ l.length + 1) := by
  simp only [spec_l4Put.f]
  refine Evp.bindv (spec_l4Has_ev l x hl) ((spec_l4Put_l l x hl l.length 0 [] (l.contains x) (by omega) (by simp)).mono fun r hr => ?_)
  have h2 : (if l.contains x = true then 0 else 1) ≤ 1 := by split <;> omega
  simp only [List.length_nil] at hr
  omega

theorem spec_l4DrawNodes_l (n : Int) (a : Config) (hn : n ≤ 1048576) (ha : a.1.length ≤ 1048576) : ∀ (m i : Nat) (l : List Int) (c : l1Cur), (i : Int) + m = n → l.length ≤ i → Cu c →
    Evp (fun k => spec_l4DrawNodes.p9 k l n (i : Int) a c) (fun r => r.1.length ≤ i + m + 1 ∧ Cu r.2) := by
  intro m
  induction m with
  | zero =>
    intro i l c hi hl hc
    refine Evp.succ ?_
    simp only [spec_l4DrawNodes.p9]
    refine Evp.neg (by omega) (Evp.bindc (spec_l1Once_d c 20 hc) fun r hr => Evp.ite (fun _ => Evp.bindc (spec_l1PickInt_d _ _ hr (by simp)) fun s hs => Evp.pos (by simp only [lim_eq, List.length_cons, List.length_nil]; omega) (Evp.ret ⟨by simp; omega, hs.2⟩)) (fun _ => Evp.ret ⟨by show l.length ≤ _; omega, hr⟩))
  | succ m ih =>
    intro i l c hi hl hc
    refine Evp.succ ?_
    simp only [spec_l4DrawNodes.p9, spec_l1Max.f]
    refine Evp.pos (by omega) ?_
    have hm : ∃ z : Int, (if (1 : Int) < ((a.1.length : Nat) : Int) then some ((a.1.length : Nat) : Int) else some (1 : Int)) = some z := by split <;> exact ⟨_, rfl⟩
    obtain ⟨z, hz⟩ := hm
    simp only [hz, Option.bind_some]
    refine Evp.bindc (spec_l1Below_d c z hc) fun r hr => Evp.bind (spec_l4Put_d l r.1 (by omega)) fun s hs => ?_
    rw [wrap_up (i := i) (n := i + 1) (by omega) (by omega)]
    exact (ih (i + 1) s r.2 (by omega) (by omega) hr.2.2.2).mono fun q hq => ⟨by omega, hq.2⟩
theorem spec_l4DrawNodes_d (c : l1Cur) (a : Config) (h : Cu c) (ha : a.1.length ≤ 9) : Evp (fun k => spec_l4DrawNodes.f k c a) (fun r => r.1.length ≤ 12 ∧ Cu r.2) := by
  simp only [spec_l4DrawNodes.f]
  rw [wrap64_id (by omega) (by omega)]
  refine Evp.bindc (spec_l1Below_d c _ h) fun r hr => ?_
  have h1 := hr.2.1 (by omega)
  have h0 := hr.1
  exact (spec_l4DrawNodes_l r.1 a (by omega) (by omega) r.1.toNat 0 [] r.2 (by omega) (by simp) hr.2.2.2).mono fun q hq => ⟨by omega, hq.2⟩

theorem spec_l1In_is (x a b : Int) : spec_l1In.f x a b = some (inB x a b) := ite_inB x a b

/-- A config that is right: its domains, its copies. -/
noncomputable def cfgB (a : Config) : Bool := inB ((a.1.length : Nat) : Int) 1 8 && (inB a.2.1 1 4 && (List.range' 0 a.1.length).all fun i => inB (a.1.getD i 0) 0 7)
theorem cfgB_len {a : Config} (h : cfgB a = true) : 1 ≤ a.1.length ∧ a.1.length ≤ 8 ∧ 1 ≤ a.2.1 ∧ a.2.1 ≤ 4 ∧ ∀ i, i < a.1.length → 0 ≤ a.1.getD i 0 ∧ a.1.getD i 0 ≤ 7 := by
  simp only [cfgB, Bool.and_eq_true, inB_true, List.all_eq_true, List.mem_range'_1] at h
  obtain ⟨h1, h2, h3⟩ := h
  exact ⟨by omega, by omega, h2.1, h2.2, fun i hi => h3 i (by omega)⟩
theorem spec_ConfigOk_ev (a : Config) (hl : a.1.length ≤ 1048576) : Ev (fun k => spec_ConfigOk.f k a) (cfgB a) := by
  have h := all_loop (n := a.1.length) (p := fun k i => spec_ConfigOk.p9 k i a) (q := fun i => inB (a.1.getD i 0) 0 7) (zb := true) (fun i hi b hb => by
    simp only [spec_ConfigOk.p9, spec_l1In_is]
    refine Ev.pos (by omega) (Ev.pos (by omega) (Ev.bindc rfl (Ev.and fun _ => ?_)))
    rw [wrap_up hi (by omega)]; exact hb) (by
    simp only [spec_ConfigOk.p9]
    exact Ev.neg (by omega) Ev.ret) a.1.length 0 (by omega)
  simp only [spec_ConfigOk.f, spec_l1In_is, cfgB]
  refine Ev.bindc rfl (Ev.and fun _ => Ev.bindc rfl (Ev.and fun _ => ?_))
  simpa using h

/-- Ascending numbers from lo to hi. -/
noncomputable def ascB (l : List Int) (lo hi : Int) : Bool := (List.range' 0 l.length).all fun i => inB (l.getD i 0) lo hi && (decide (i = 0) || !decide (l.getD i 0 ≤ l.getD (i - 1) 0))
theorem ascB_mem {l : List Int} {lo hi : Int} (h : ascB l lo hi = true) {i : Nat} (hi' : i < l.length) : lo ≤ l.getD i 0 ∧ l.getD i 0 ≤ hi := by
  simp only [ascB, List.all_eq_true, List.mem_range'_1, Bool.and_eq_true, inB_true] at h
  exact (h i (by omega)).1
theorem spec_l4Asc_ev (l : List Int) (lo hi : Int) (hl : l.length ≤ 1048576) : Ev (fun k => spec_l4Asc.f k l lo hi) (ascB l lo hi) := by
  have h := all_loop (n := l.length) (p := fun k i => spec_l4Asc.p5 k l lo hi i) (q := fun i => inB (l.getD i 0) lo hi && (decide (i = 0) || !decide (l.getD i 0 ≤ l.getD (i - 1) 0))) (zb := true) (fun i hi' b hb => by
    simp only [spec_l4Asc.p5, spec_l1In_is]
    refine Ev.pos (by omega) (Ev.pos (by omega) (Ev.bindc rfl ?_))
    rw [Bool.and_assoc]
    refine Ev.and fun _ => ?_
    rw [wrap_up hi' (by omega)]
    by_cases h0 : i = 0
    · subst h0
      exact (Ev.neg (by omega) hb).eq (by simp)
    · have e : wrap64 ((i : Int) - 1) = ((i - 1 : Nat) : Int) := by rw [wrap64_id (by omega) (by omega)]; omega
      rw [e]
      refine Ev.pos (by omega) (Ev.pos (by omega) (Ev.pos (by omega) ?_))
      rw [decide_eq_false h0, Bool.false_or]
      exact Ev.nand fun _ => hb) (by
    simp only [spec_l4Asc.p5]
    exact Ev.neg (by omega) Ev.ret) l.length 0 (by omega)
  exact (Ev.cg h fun k => rfl).eq (by unfold ascB; rw [Bool.and_true])

noncomputable def nodesB (a : Config) (l : List Int) : Bool := cfgB a && ascB l 0 (((a.1.length : Nat) : Int) - 1)
theorem spec_NodesOk_ev (a : Config) (l : List Int) (ha : a.1.length ≤ 1048576) (hl : l.length ≤ 1048576) : Ev (fun k => spec_NodesOk.f k a l) (nodesB a l) := by
  simp only [spec_NodesOk.f, nodesB]
  refine Ev.bind (spec_ConfigOk_ev a ha) (Ev.and fun _ => ?_)
  rw [wrap64_id (by omega) (by omega)]
  exact Ev.bind (spec_l4Asc_ev l 0 _ hl) Ev.ret

/-- The domains of nodes, each once, behind those that were met. -/
noncomputable def domsOf (a : Config) : List Int → List Int → List Int
  | [], acc => acc
  | n :: l, acc => domsOf a l (if acc.contains (a.1.getD n.toNat 0) then acc else acc ++ [a.1.getD n.toNat 0])
noncomputable def spanOf (a : Config) (l : List Int) : Int := ((domsOf a l []).length : Int)
theorem spec_l4Span_l (a : Config) (l : List Int) (hdom : ∀ i, i < a.1.length → 0 ≤ a.1.getD i 0 ∧ a.1.getD i 0 ≤ 7) (hl : l.length ≤ 1048576) (hmem : ∀ i, i < l.length → 0 ≤ l.getD i 0 ∧ l.getD i 0 < ((a.1.length : Nat) : Int)) :
    ∀ (m i : Nat) (seen : List Bool) (acc : List Int), i + m = l.length → seen.length = 8 → acc.length ≤ i → (∀ x : Int, 0 ≤ x → x ≤ 7 → (seen.getD x.toNat false = acc.contains x)) →
    Ev (fun k => spec_l4Span.p9 k l seen (acc.length : Int) (i : Int) a) ((domsOf a (l.drop i) acc).length : Int) := by
  intro m
  induction m with
  | zero =>
    intro i seen acc h hs ha hx
    refine Ev.succ ?_
    simp only [spec_l4Span.p9]
    rw [List.drop_eq_nil_of_le (by omega)]
    exact Ev.neg (by omega) Ev.ret
  | succ m ih =>
    intro i seen acc h hs ha hx
    have hi : i < l.length := by omega
    have hn := hmem i hi
    have hv := hdom (l.getD i 0).toNat (by omega)
    refine Ev.succ ?_
    simp only [spec_l4Span.p9, Int.toNat_natCast]
    rw [drop_get (d := (0 : Int)) hi]
    simp only [domsOf]
    generalize hw : a.1.getD (l.getD i 0).toNat 0 = x at *
    refine Ev.pos (by omega) (Ev.pos (by omega) (Ev.pos (by omega) (Ev.pos (by omega) ?_)))
    rw [hx _ hv.1 hv.2, wrap_up hi (by omega)]
    by_cases hc : acc.contains x = true
    · rw [if_pos hc]
      exact Ev.pos hc (ih (i + 1) seen acc (by omega) hs (by omega) hx)
    · rw [if_neg hc]
      refine Ev.neg hc (Ev.pos (by omega) ?_)
      have := ih (i + 1) (seen.set x.toNat true) (acc ++ [x]) (by omega) (by simp [hs]) (by simp; omega) (by
        intro y h0 h7
        by_cases e : y = x
        · subst e
          simp [List.getD_eq_getElem?_getD, List.getElem?_set, hs, show y.toNat < 8 by omega]
        · have he : x.toNat ≠ y.toNat := by omega
          have := hx y h0 h7
          rw [List.getD_eq_getElem?_getD, List.getElem?_set, if_neg he, ← List.getD_eq_getElem?_getD, this]
          simp [e])
      have e1 : wrap64 ((acc.length : Int) + 1) = ((acc ++ [x]).length : Int) := by rw [wrap64_id (by omega) (by omega)]; simp
      rw [e1]; exact this
theorem spec_l4Span_ev (a : Config) (l : List Int) (hok : nodesB a l = true) (hl : l.length ≤ 1048576) : Ev (fun k => spec_l4Span.f k a l) (spanOf a l) := by
  simp only [nodesB, Bool.and_eq_true] at hok
  obtain ⟨h1, h2, _, _, h5⟩ := cfgB_len hok.1
  simp only [spec_l4Span.f]
  refine Ev.pos (by simp [lim_eq]) ?_
  have := spec_l4Span_l a l h5 hl (fun i hi => by have := ascB_mem hok.2 hi; omega) l.length 0 (List.replicate 8 false) [] (by omega) (by simp) (by simp) (by
    intro x h0 h7
    rw [List.getD_eq_getElem?_getD, List.getElem?_replicate, if_pos (by omega)]
    rfl)
  rw [List.drop_zero] at this
  exact this

noncomputable def holdsB (a : Config) (l : List Int) : Bool := nodesB a l && decide (a.2.1 ≤ spanOf a l)
theorem spec_Holds_ev (a : Config) (l : List Int) (ha : a.1.length ≤ 1048576) (hl : l.length ≤ 1048576) : Ev (fun k => spec_Holds.f k a l) (holdsB a l) := by
  simp only [spec_Holds.f, holdsB]
  exact Ev.bind (spec_NodesOk_ev a l ha hl) (Ev.and fun h => Ev.bind (spec_l4Span_ev a l h hl) Ev.ret)

theorem spec_l7DrawSet_l (a : Config) (ha : a.1.length ≤ 9) : ∀ (m i : Nat) (l : List Int) (c : l1Cur), i + m = a.1.length → l.length ≤ 12 + i → Cu c →
    Evp (fun k => spec_l7DrawSet.p7 k l (i : Int) a c) (fun r => r.1.length ≤ 24 ∧ Cu r.2) := by
  intro m
  induction m with
  | zero =>
    intro i l c hi hl hc
    refine Evp.succ ?_
    simp only [spec_l7DrawSet.p7]
    exact Evp.neg (by omega) (Evp.ret ⟨by show l.length ≤ 24; omega, hc⟩)
  | succ m ih =>
    intro i l c hi hl hc
    refine Evp.succ ?_
    simp only [spec_l7DrawSet.p7]
    refine Evp.pos (by omega) (Evp.bindv (spec_Holds_ev a l (by omega) (by omega)) (Evp.ite (fun _ => Evp.ret ⟨by show l.length ≤ 24; omega, hc⟩) (fun _ => Evp.bind (spec_l4Put_d l _ (by omega)) fun s hs => ?_)))
    rw [wrap_up (i := i) (n := i + 1) (by omega) (by omega)]
    exact ih (i + 1) s c (by omega) (by omega) hc
theorem spec_l7DrawSet_d (c : l1Cur) (a : Config) (h : Cu c) (ha : a.1.length ≤ 9) : Evp (fun k => spec_l7DrawSet.f k c a) (fun r => r.1.length ≤ 24 ∧ Cu r.2) := by
  simp only [spec_l7DrawSet.f]
  exact Evp.bind (spec_l4DrawNodes_d c a h ha) fun r hr => spec_l7DrawSet_l a ha a.1.length 0 r.1 r.2 (by omega) (by omega) hr.2

/-- A place: its epoch, its offset. -/
def placeOk (x : Int) : Bool := decide (0 < x) && (inB (x / 4294967296) 1 30 && inB (x % 4294967296) 1 60)
def epochOf (x : Int) : Int := if placeOk x = true then x / 4294967296 else 0
def offOf (x : Int) : Int := if placeOk x = true then x % 4294967296 else 0
theorem tdiv_pos {x : Int} (h : 0 ≤ x) : Int.tdiv x 4294967296 = x / 4294967296 := Int.tdiv_eq_ediv_of_nonneg h
theorem tmod_pos {x : Int} (h : 0 ≤ x) : Int.tmod x 4294967296 = x % 4294967296 := Int.tmod_eq_emod_of_nonneg h
theorem tdiv_neg' {x : Int} (h : x ≤ 0) : Int.tdiv x 4294967296 = -((-x) / 4294967296) := by
  have h1 : Int.tdiv (-x) 4294967296 = (-x) / 4294967296 := Int.tdiv_eq_ediv_of_nonneg (by omega)
  have h2 := Int.neg_tdiv (-x) 4294967296
  rw [Int.neg_neg] at h2
  rw [h2, h1]
theorem placeOk_pos {x : Int} (h : placeOk x = true) : 0 < x ∧ (1 ≤ x / 4294967296 ∧ x / 4294967296 ≤ 30) ∧ (1 ≤ x % 4294967296 ∧ x % 4294967296 ≤ 60) := by
  simpa only [placeOk, Bool.and_eq_true, inB_true, decide_eq_true_eq] using h
theorem epochOf_pos {x : Int} (h : placeOk x = true) : epochOf x = x / 4294967296 ∧ 1 ≤ epochOf x ∧ epochOf x ≤ 30 := by
  have h' := placeOk_pos h
  unfold epochOf
  rw [if_pos h]
  omega
theorem spec_PlaceOk_is (x : Int) (hx : InR x) : spec_PlaceOk.f x = some (placeOk x) := by
  have h2 := hx.2
  simp only [spec_PlaceOk.f, placeOk, spec_l1In_is]
  by_cases h : 0 < x
  · rw [if_pos h, tdiv_pos (by omega), tmod_pos (by omega), wrap64_id (by omega) (by omega)]
    cases inB (x / 4294967296) 1 30 <;> simp [h]
  · rw [if_neg h]
    simp [h]

theorem spec_EpochOf_is (x : Int) (hx : InR x) : spec_EpochOf.f x = some (epochOf x) := by
  have h2 := hx.2
  simp only [spec_EpochOf.f, spec_PlaceOk_is x hx, Option.bind_some, epochOf]
  by_cases h : placeOk x = true
  · have := placeOk_pos h
    rw [if_pos h, if_pos h, tdiv_pos (by omega), wrap64_id (by omega) (by omega)]
  · rw [if_neg h, if_neg h]

/-- An era that is right by itself; one of a register; what is given up. -/
noncomputable def zEra : Era := (([] : List Int), (false, ((0 : Int), ())))
noncomputable def eraB (a : Config) (e : Era) : Bool := holdsB a e.1 && (inB e.2.2.1 0 60 && (e.2.1 || decide (e.2.2.1 = 0)))
noncomputable def eraAt (a : Config) (l : List Era) (i : Nat) : Bool := eraB a (l.getD i zEra) && (!(l.getD i zEra).2.1 || (!decide (i = l.length - 1) && (decide (i = 0) || (l.getD (i - 1) zEra).2.1)))
noncomputable def erasB (a : Config) (l : List Era) : Bool := (List.range' 0 l.length).all (eraAt a l)
noncomputable def trimB (n : Nat) (t : Int) : Bool := decide (t = 0) || inB (epochOf t) 1 n
noncomputable def regB (a : Config) (r : Register) : Bool := cfgB a && (decide (((r.1.length : Nat) : Int) ≤ 30) && (trimB r.1.length r.2.1 && erasB a r.1))
theorem trimB_is (n : Nat) (t : Int) : trimB n t = (decide (t = 0) || (placeOk t && !decide ((n : Int) < epochOf t))) := by
  unfold trimB
  by_cases h : placeOk t = true
  · obtain ⟨_, h1, h2⟩ := epochOf_pos h
    rw [h]
    by_cases h3 : (n : Int) < epochOf t
    · rw [decide_eq_true h3, show inB (epochOf t) 1 n = false by rw [Bool.eq_false_iff]; intro he; rw [inB_true] at he; omega]
      simp
    · rw [decide_eq_false h3, show inB (epochOf t) 1 n = true by rw [inB_true]; omega]
      simp
  · have h0 : epochOf t = 0 := by unfold epochOf; rw [if_neg h]
    rw [h0, show inB 0 1 n = false by rw [Bool.eq_false_iff]; intro he; rw [inB_true] at he; omega]
    cases hp : placeOk t
    · simp
    · exact absurd hp h
theorem spec_RegOk_l (a : Config) (r : Register) (ha : a.1.length ≤ 1048576) (hl : r.1.length ≤ 1048576) (he : ∀ i, i < r.1.length → (r.1.getD i zEra).1.length ≤ 1048576) : Ev (fun k => spec_RegOk.p11 k ((r.1.length : Nat) : Int) ((0 : Nat) : Int) a r) (erasB a r.1) := by
  have h := all_loop (n := r.1.length) (p := fun k i => spec_RegOk.p11 k ((r.1.length : Nat) : Int) i a r) (q := eraAt a r.1) (zb := true) (fun i hi b hb => by
    simp only [spec_RegOk.p11, spec_l1In_is, Int.toNat_natCast]
    have hz := he i hi
    have hw : wrap64 ((i : Int) + 1) = ((i + 1 : Nat) : Int) := wrap_up hi (by omega)
    unfold eraAt eraB
    change Ev (fun k => if (i : Int) < ((r.1.length : Nat) : Int) then _ else _) _
    refine Ev.pos (by omega) (Ev.pos (by omega) (Ev.bind (spec_Holds_ev a _ ha hz) ?_))
    rw [Bool.and_assoc, Bool.and_assoc, Bool.and_assoc]
    change Ev (fun k => if holdsB a (r.1.getD i zEra).1 = true then _ else some false) _
    refine Ev.and fun _ => Ev.bindc rfl (Ev.and fun _ => ?_)
    -- behind the checks of the era itself
    have tail : ∀ (p q u v w x : Bool) (z : Int), Ev (fun k => spec_RegOk.p20 k ((r.1.length : Nat) : Int) (i : Int) z p q u v w x a r (r.1.getD i zEra)) ((!(r.1.getD i zEra).2.1 || (!decide (i = r.1.length - 1) && (decide (i = 0) || (r.1.getD (i - 1) zEra).2.1))) && b) := by
      intro p q u v w x z
      refine Ev.succ ?_
      simp only [spec_RegOk.p20, hw]
      by_cases hc : (r.1.getD i zEra).2.1 = true
      · refine Ev.pos hc ?_
        have e1 : wrap64 (((r.1.length : Nat) : Int) - 1) = ((r.1.length - 1 : Nat) : Int) := by rw [wrap64_id (by omega) (by omega)]; omega
        rw [e1, hc, Bool.not_true, Bool.false_or, Bool.and_assoc]
        by_cases hq : i = r.1.length - 1
        · rw [decide_eq_true hq]
          exact Ev.pos (by omega) Ev.ret
        · rw [decide_eq_false hq]
          refine Ev.neg (by omega) ?_
          by_cases h0 : i = 0
          · subst h0
            exact (Ev.neg (by omega) hb).eq (by rfl)
          · have e2 : wrap64 ((i : Int) - 1) = ((i - 1 : Nat) : Int) := by rw [wrap64_id (by omega) (by omega)]; omega
            rw [e2, decide_eq_false h0]
            refine Ev.pos (by omega) (Ev.pos (by omega) ?_)
            exact (Ev.and fun _ => hb).eq (by rfl)
      · refine (Ev.neg hc hb).eq ?_
        simp only [Bool.not_eq_true] at hc
        rw [hc]; rfl
    by_cases hc : (r.1.getD i zEra).2.1 = true
    · exact (Ev.pos hc (tail _ _ _ _ _ _ _)).eq (by rw [hc]; rfl)
    · refine (Ev.neg hc (Ev.andc (b := (!(r.1.getD i zEra).2.1 || (!decide (i = r.1.length - 1) && (decide (i = 0) || (r.1.getD (i - 1) zEra).2.1))) && b) fun hz => tail _ _ _ _ _ _ _)).eq ?_
      simp only [Bool.not_eq_true] at hc
      rw [hc]; rfl) (by
    simp only [spec_RegOk.p11]
    exact Ev.neg (by omega) Ev.ret) r.1.length 0 (by omega)
  exact h.eq (by unfold erasB; rw [Bool.and_true])
theorem spec_RegOk_ev (a : Config) (r : Register) (ht : InR r.2.1) (ha : a.1.length ≤ 1048576) (hl : r.1.length ≤ 1048576) (he : ∀ i, i < r.1.length → (r.1.getD i zEra).1.length ≤ 1048576) : Ev (fun k => spec_RegOk.f k a r) (regB a r) := by
  have hp8 : Ev (fun k => spec_RegOk.p8 k ((r.1.length : Nat) : Int) a r) (erasB a r.1) := Ev.succ (Ev.cg (spec_RegOk_l a r ha hl he) fun k => rfl)
  simp only [spec_RegOk.f, regB, spec_PlaceOk_is _ ht, spec_EpochOf_is _ ht, Option.bind_some]
  refine Ev.bind (spec_ConfigOk_ev a ha) (Ev.and fun _ => ?_)
  by_cases h30 : (30 : Int) < ((r.1.length : Nat) : Int)
  · refine (Ev.pos h30 Ev.ret).eq ?_
    rw [decide_eq_false (by omega)]; rfl
  · refine Ev.neg h30 ?_
    rw [decide_eq_true (by omega), Bool.true_and, trimB_is]
    by_cases h0 : r.2.1 = 0
    · exact (Ev.pos h0 hp8).eq (by rw [decide_eq_true h0]; rfl)
    · refine Ev.neg h0 ?_
      rw [decide_eq_false h0, Bool.false_or, Bool.and_assoc]
      exact Ev.and fun _ => Ev.nand fun _ => hp8

theorem spec_l7Copy_ev (r : Register) (hl : r.1.length ≤ 1048576) (he : ∀ i, i < r.1.length → (r.1.getD i zEra).1.length ≤ 1048576) : Ev (fun k => spec_l7Copy.f k r) r := by
  have h : ∀ (m i : Nat) (z : Register) (acc : List Era), i + m = r.1.length → acc.length = i → Ev (fun k => spec_l7Copy.p7 k (i : Int) r z (acc, (r.2.1, ()))) (acc ++ r.1.drop i, (r.2.1, ())) := by
    intro m
    induction m with
    | zero =>
      intro i z acc hi ha
      refine Ev.succ ?_
      simp only [spec_l7Copy.p7]
      rw [List.drop_eq_nil_of_le (by omega), List.append_nil]
      exact Ev.neg (by omega) Ev.ret
    | succ m ih =>
      intro i z acc hi ha
      have hlt : i < r.1.length := by omega
      have hz := he i hlt
      refine Ev.succ ?_
      simp only [spec_l7Copy.p7, Int.toNat_natCast, List.nil_append]
      change Ev (fun k => if (i : Int) < ((r.1.length : Nat) : Int) then (if (0 : Int) ≤ (i : Int) ∧ (i : Int) < ((r.1.length : Nat) : Int) then (if (((([] : List Int).length : Nat) : Int) + (((r.1.getD i zEra).1.length : Nat) : Int)) ≤ lim then (if ((acc.length : Nat) : Int) + (([r.1.getD i zEra].length : Nat) : Int) ≤ lim then spec_l7Copy.p7 k (wrap64 ((i : Int) + 1)) r z (acc ++ [r.1.getD i zEra], (r.2.1, ())) else none) else none) else none) else some (acc, (r.2.1, ()))) _
      refine Ev.pos (by omega) (Ev.pos (by omega) (Ev.pos (by simp only [lim_eq, List.length_nil]; omega) (Ev.pos (by simp only [lim_eq, List.length_cons, List.length_nil]; omega) ?_)))
      rw [wrap_up hlt (by omega), drop_get (d := zEra) hlt]
      exact (ih (i + 1) z (acc ++ [r.1.getD i zEra]) (by omega) (by rw [List.length_append, ha]; rfl)).eq (by rw [List.append_assoc]; rfl)
  have := h r.1.length 0 (([] : List Era), ((0 : Int), ())) [] (by omega) rfl
  rw [List.drop_zero, List.nil_append] at this
  exact Ev.cg this fun k => rfl

/-- A register with a further epoch. -/
noncomputable def openF (a : Config) (r : Register) (l : List Int) : Register × Int × Bool := if regB a r = true then (if holdsB a l = true then (if ((r.1.length : Nat) : Int) = (30 : Int) then (r, (0 : Int), false) else (((r.1 ++ [(l, (false, ((0 : Int), ())))]), r.2), (((r.1 ++ [(l, (false, ((0 : Int), ())))]).length : Nat) : Int), true)) else (r, (0 : Int), false)) else ((([] : List Era), ((0 : Int), ())), (0 : Int), false)
theorem spec_RegOpen_ev (a : Config) (r : Register) (l : List Int) (hr : InR r.2.1) (ha : a.1.length ≤ 1048576) (hl : r.1.length ≤ 1048576) (he : ∀ i, i < r.1.length → (r.1.getD i zEra).1.length ≤ 1048576) (hls : l.length ≤ 1048576) : Ev (fun k => spec_RegOpen.f k a r l) (openF a r l) := by
  have s1 := spec_RegOk_ev a r hr ha hl he
  have s3 := spec_l7Copy_ev r hl he
  have s6 := spec_Holds_ev a l ha hls
  simp only [spec_RegOpen.f, List.nil_append, openF]
  refine Ev.bind s1 (Ev.ite (fun hb => Ev.bind s3 (Ev.bind s6 (Ev.ite (fun hh => Ev.ite (fun _ => Ev.ret) (fun _ => Ev.pos ?_ (Ev.pos ?_ Ev.ret))) (fun _ => Ev.ret)))) (fun _ => Ev.ret))
  · simp only [lim_eq, List.length_nil]; omega
  · simp only [lim_eq, List.length_cons, List.length_nil]; omega

/-- The first epoch that is open, counted from one. -/
noncomputable def fO : List Era → Int → Int
  | [], _ => 0
  | e :: l, i => if e.2.1 = true then fO l (i + 1) else i + 1
theorem fO_or : ∀ (l : List Era) (i : Int), 0 ≤ i → fO l i = 0 ∨ (i + 1 ≤ fO l i ∧ fO l i ≤ i + l.length) := by
  intro l
  induction l with
  | nil => intro i _; exact .inl rfl
  | cons e l ih =>
    intro i hi
    simp only [fO, List.length_cons]
    split
    · rcases ih (i + 1) (by omega) with h | h
      · exact .inl h
      · exact .inr ⟨by omega, by omega⟩
    · exact .inr ⟨by omega, by omega⟩
theorem spec_FirstOpen_l (r : Register) (hl : r.1.length ≤ 1048576) : ∀ (m i : Nat), i + m = r.1.length → Ev (fun k => spec_FirstOpen.p5 k (i : Int) r) (fO (r.1.drop i) i) := by
  intro m
  induction m with
  | zero =>
    intro i hi
    refine Ev.succ ?_
    simp only [spec_FirstOpen.p5]
    rw [List.drop_eq_nil_of_le (by omega)]
    exact Ev.neg (by omega) Ev.ret
  | succ m ih =>
    intro i hi
    refine Ev.succ ?_
    simp only [spec_FirstOpen.p5, Int.toNat_natCast]
    rw [drop_get (d := zEra) (i := i) (l := r.1) (by omega), wrap_up (i := i) (n := r.1.length) (by omega) (by omega)]
    exact Ev.pos (by omega) (Ev.pos (by omega) (Ev.ite (fun _ => ih (i + 1) (by omega)) (fun _ => Ev.ret)))
theorem spec_FirstOpen_ev (r : Register) (hl : r.1.length ≤ 1048576) : Ev (fun k => spec_FirstOpen.f k r) (fO r.1 0) := spec_FirstOpen_l r hl r.1.length 0 (by omega)

/-- A register of at most n epochs, with small sets. -/
def RG (n : Nat) (r : Register) : Prop := r.1.length ≤ n ∧ (∀ e ∈ r.1, e.1.length ≤ 64) ∧ InR r.2.1
theorem RG.at {n : Nat} {r : Register} (h : RG n r) : ∀ i, i < r.1.length → (r.1.getD i zEra).1.length ≤ 1048576 := fun i hi => by
  have := h.2.1 _ (getD_mem (d := zEra) hi); omega
theorem RG.mono {n m : Nat} {r : Register} (h : RG n r) (hm : n ≤ m) : RG m r := ⟨by have := h.1; omega, h.2⟩
theorem RG.nil {n : Nat} : RG n (([] : List Era), ((0 : Int), ())) := ⟨by simp, fun e he => (by cases he), by unfold InR; decide⟩
theorem RG.set {n : Nat} {l : List Era} {t : Int} {i : Nat} {e : Era} (h : RG n (l, (t, ()))) (he : e.1.length ≤ 64) : RG n (l.set i e, (t, ())) := by
  refine ⟨by show (l.set i e).length ≤ n; rw [List.length_set]; exact h.1, fun x hx => ?_, h.2.2⟩
  rcases List.mem_or_eq_of_mem_set hx with h' | rfl
  · exact h.2.1 x h'
  · exact he
theorem RG.get {n : Nat} {r : Register} (h : RG n r) (i : Nat) : (r.1.getD i zEra).1.length ≤ 64 := by
  by_cases hi : i < r.1.length
  · exact h.2.1 _ (getD_mem hi)
  · rw [List.getD_eq_getElem?_getD, List.getElem?_eq_none (by omega)]; decide
theorem spec_RegClose_d {n : Nat} (a : Config) (r : Register) (e last : Int) (ha : a.1.length ≤ 1048576) (hn : n ≤ 1048576) (h : RG n r) : Evp (fun k => spec_RegClose.f k a r e last) (fun q => RG n q.1) := by
  have hl := h.1
  simp only [spec_RegClose.f]
  refine Evp.bindv (spec_RegOk_ev a r h.2.2 ha (by omega) h.at) (Evp.ite (fun _ => Evp.bindv (spec_l7Copy_ev r (by omega) h.at) (Evp.bindv (spec_FirstOpen_ev r (by omega)) ?_)) (fun _ => Evp.ret RG.nil))
  refine Evp.ite (fun _ => Evp.ite (fun _ => Evp.ret h) (fun h0 => Evp.ite (fun _ => Evp.ret h) (fun _ => Evp.bindc (P := fun _ => True) ⟨_, spec_l1In_is _ _ _, trivial⟩ fun b _ => Evp.ite (fun _ => ?_) (fun _ => Evp.ret h)))) (fun _ => Evp.ret h)
  have hf := fO_or r.1 0 (by omega)
  rw [wrap64_id (x := fO r.1 0 - 1) (by omega) (by omega)]
  refine Evp.pos (by omega) (Evp.pos (by rw [List.length_set]; omega) (Evp.ret ?_))
  have h1 : RG n ((r.1.set (fO r.1 0 - 1).toNat ((r.1.getD (fO r.1 0 - 1).toNat zEra).1, (true, (r.1.getD (fO r.1 0 - 1).toNat zEra).2.2))), (r.2.1, ())) := RG.set h (h.get _)
  exact RG.set h1 (h1.get _)

theorem InR_wrap (x : Int) : InR (wrap64 x) := by
  have h : wrap64 x = (if (true && decide (x % 2 ^ 64 ≥ 2 ^ (64 - 1))) = true then x % 2 ^ 64 - 2 ^ 64 else x % 2 ^ 64) := rfl
  rw [h]
  have h1 : 0 ≤ x % 2 ^ 64 := Int.emod_nonneg _ (by decide)
  have h2 : x % 2 ^ 64 < 2 ^ 64 := Int.emod_lt_of_pos _ (by decide)
  unfold InR
  split
  · rename_i h; simp at h; omega
  · rename_i h; simp at h; omega
theorem spec_l1Place_is (a b : Int) : Op (spec_l1Place.f a b) InR := ⟨_, rfl, InR_wrap _⟩

/-- A register that is trimmed. -/
noncomputable def trimF (a : Config) (r : Register) (t : Int) : Register × Bool := if regB a r = true then (if inB (epochOf t) 1 ((r.1.length : Nat) : Int) = true then ((r.1, ((max r.2.1 t), r.2.2)), true) else (r, false)) else ((([] : List Era), ((0 : Int), ())), false)
theorem spec_RegTrim_ev (a : Config) (r : Register) (t : Int) (hr : InR r.2.1) (ht : InR t) (ha : a.1.length ≤ 1048576) (hl : r.1.length ≤ 1048576) (he : ∀ i, i < r.1.length → (r.1.getD i zEra).1.length ≤ 1048576) : Ev (fun k => spec_RegTrim.f k a r t) (trimF a r t) := by
  have s1 := spec_RegOk_ev a r hr ha hl he
  have s3 := spec_l7Copy_ev r hl he
  simp only [spec_RegTrim.f, spec_PlaceOk_is t ht, spec_EpochOf_is t ht, Option.bind_some, spec_l1Max.f, trimF]
  refine Ev.bind s1 (Ev.ite (fun hb => Ev.bind s3 ?_) (fun _ => Ev.ret))
  by_cases hp : placeOk t = true
  · obtain ⟨_, p1, p2⟩ := epochOf_pos hp
    refine Ev.pos hp ?_
    by_cases hlt : ((r.1.length : Nat) : Int) < epochOf t
    · rw [if_neg (show ¬ inB (epochOf t) 1 ((r.1.length : Nat) : Int) = true by rw [inB_true]; omega)]
      exact Ev.pos hlt Ev.ret
    · rw [if_pos (show inB (epochOf t) 1 ((r.1.length : Nat) : Int) = true by rw [inB_true]; omega)]
      refine Ev.neg hlt (Ev.of ?_)
      by_cases hm : t < r.2.1
      · rw [if_pos hm, Option.bind_some, Int.max_eq_left (by omega)]
      · rw [if_neg hm, Option.bind_some, Int.max_eq_right (by omega)]
  · have h0 : epochOf t = 0 := by unfold epochOf; rw [if_neg hp]
    rw [if_neg (show ¬ inB (epochOf t) 1 ((r.1.length : Nat) : Int) = true by rw [inB_true, h0]; omega)]
    exact Ev.neg hp Ev.ret

theorem spec_l7DrawRight_l (a : Config) (z : Register) (ha : a.1.length ≤ 9) : ∀ (m i : Nat) (r : Register) (c : l1Cur), i + m = 6 → RG i r → Cu c →
    Evp (fun k => spec_l7DrawRight.p7 k (i : Int) a z r c) (fun q => RG 6 q.1 ∧ Cu q.2) := by
  intro m
  induction m with
  | zero =>
    intro i r c hi hr hc
    refine Evp.succ ?_
    simp only [spec_l7DrawRight.p7]
    refine Evp.bindc (spec_l1Below_d c 7 hc) fun b hb => Evp.neg ?_ (Evp.ret ⟨hr.mono (by omega), hb.2.2.2⟩)
    have := hb.2.1 (by omega); omega
  | succ m ih =>
    intro i r c hi hr hc
    have hl := hr.1
    have go : ∀ (r' : Register) (c' : l1Cur), RG (i + 1) r' → Cu c' → Evp (fun k => spec_l7DrawRight.p7 k (wrap64 ((i : Int) + 1)) a z r' c') (fun q => RG 6 q.1 ∧ Cu q.2) := fun r' c' h1 h2 => by
      rw [wrap_up (i := i) (n := 6) (by omega) (by omega)]
      exact ih (i + 1) r' c' (by omega) h1 h2
    have same : RG (i + 1) r := hr.mono (by omega)
    refine Evp.succ ?_
    simp only [spec_l7DrawRight.p7]
    refine Evp.bindc (spec_l1Below_d c 7 hc) fun b hb => Evp.ite (fun _ => ?_) (fun _ => Evp.ret ⟨hr.mono (by omega), hb.2.2.2⟩)
    refine Evp.bind (spec_l7DrawSet_d b.2 a hb.2.2.2 ha) fun s hs => Evp.bindv (spec_RegOpen_ev a r s.1 hr.2.2 (by omega) (by omega) hr.at (by omega)) (Evp.bindc (spec_l1Below_d _ 4 hs.2) fun t ht => ?_)
    refine Evp.ite (fun _ => Evp.bindc (spec_l1Below_d _ 5 ht.2.2.2) fun u hu => Evp.bind (spec_RegClose_d a r _ _ (by omega) (by omega) hr) fun w hw => Evp.ite (fun _ => go _ _ (hw.mono (by omega)) hu.2.2.2) (fun _ => go _ _ same hu.2.2.2)) (fun _ => Evp.ite (fun _ => ?_) (fun _ => Evp.ite (fun ho => go _ _ ?_ ht.2.2.2) (fun _ => go _ _ same ht.2.2.2)))
    · refine Evp.bindc (spec_l1Below_d _ 2 ht.2.2.2) fun u hu => Evp.bindc (spec_l1Below_d _ 4 hu.2.2.2) fun v hv => Evp.bindc (spec_l1Place_is _ _) fun p hp => Evp.bindv (spec_RegTrim_ev a r p hr.2.2 hp (by omega) (by omega) hr.at) (Evp.ite (fun _ => go _ _ ?_ hv.2.2.2) (fun _ => go _ _ same hv.2.2.2))
      unfold trimF
      split
      · split
        · refine ⟨by show r.1.length ≤ i + 1; omega, hr.2.1, ?_⟩
          have h1 := hr.2.2
          show InR (max r.2.1 p)
          unfold InR at *
          omega
        · exact same
      · exact RG.nil
    · unfold openF
      split
      · split
        · split
          · exact same
          · refine ⟨by show (r.1 ++ [_]).length ≤ i + 1; simp; omega, fun e he => ?_, hr.2.2⟩
            rcases List.mem_append.1 he with h | h
            · exact hr.2.1 e h
            · rw [List.mem_singleton] at h; subst h; show s.1.length ≤ 64; omega
        · exact same
      · exact RG.nil
theorem spec_l7DrawRight_d (c : l1Cur) (a : Config) (h : Cu c) (ha : a.1.length ≤ 9) : Evp (fun k => spec_l7DrawRight.f k c a) (fun q => RG 6 q.1 ∧ Cu q.2) := spec_l7DrawRight_l a _ ha 6 0 _ c (by omega) RG.nil h

theorem spec_l1DrawPlace_d (c : l1Cur) (h : Cu c) : Op (spec_l1DrawPlace.f c) (fun r => InR r.1 ∧ Cu r.2) := by
  unfold spec_l1DrawPlace.f
  refine Op.bind (spec_l1Below_d c 3 h) fun r hr => Op.bind (spec_l1Below_d _ 6 hr.2.2.2) fun s hs => Op.bind (spec_l1Place_is _ _) fun p hp => Op.bind (spec_l1Below_d _ 15 hs.2.2.2) fun t ht => ?_
  refine Op.ite (fun _ => Op.bind (spec_l1PickInt_d _ _ ht.2.2.2 (by decide)) fun u hu => Op.ret ⟨?_, hu.2⟩) (fun _ => Op.ite (fun _ => Op.bind (spec_l1PickInt_d _ _ ht.2.2.2 (by decide)) fun u hu => Op.bind (spec_l1PickInt_d _ _ hu.2 (by decide)) fun v hv => Op.bind (spec_l1Place_is _ _) fun q hq => Op.ret ⟨hq, hv.2⟩) (fun _ => Op.ret ⟨hp, ht.2.2.2⟩))
  have := hu.1
  simp only [List.mem_cons, List.not_mem_nil, or_false] at this
  unfold InR
  rcases this with h | h | h | h | h | h <;> rw [h] <;> decide

theorem spec_l7Draw_l (l : List Int) (hl : l.length ≤ 64) (z : Register) : ∀ (m : Nat) (r : Register) (c : l1Cur), r.1.length + m = 31 → RG 31 r → Cu c →
    Evp (fun k => spec_l7Draw.p35 k l z r c) (fun q => RG 31 q.1 ∧ Cu q.2) := by
  intro m
  induction m with
  | zero =>
    intro r c hi hr hc
    refine Evp.succ ?_
    simp only [spec_l7Draw.p35]
    refine Evp.bindc (spec_l1Below_d c 2 hc) fun b hb => Evp.neg ?_ (Evp.ret ⟨hr, hb.2.2.2⟩)
    have h1 := hb.2.1 (by omega); have h0 := hb.1
    rw [wrap64_id (by omega) (by omega)]; omega
  | succ m ih =>
    intro r c hi hr hc
    refine Evp.succ ?_
    simp only [spec_l7Draw.p35]
    refine Evp.bindc (spec_l1Below_d c 2 hc) fun b hb => Evp.ite (fun _ => Evp.pos (by simp only [lim_eq, List.length_cons, List.length_nil]; omega) ?_) (fun _ => Evp.ret ⟨hr, hb.2.2.2⟩)
    refine ih _ b.2 (by show (r.1 ++ [_]).length + m = 31; simp; omega) ⟨by show (r.1 ++ [_]).length ≤ 31; simp; omega, fun e he => ?_, hr.2.2⟩ hb.2.2.2
    rcases List.mem_append.1 he with h | h
    · exact hr.2.1 e h
    · rw [List.mem_singleton] at h; subst h; exact hl
theorem spec_l7Draw_d (c : l1Cur) (a : Config) (h : Cu c) (ha : a.1.length ≤ 9) : Evp (fun k => spec_l7Draw.f k c a) (fun q => RG 31 q.1 ∧ Cu q.2) := by
  simp only [spec_l7Draw.f]
  refine Evp.bind (spec_l7DrawRight_d c a h ha) fun r hr => Evp.bindc (spec_l1Below_d _ 25 hr.2) fun b hb => ?_
  have hg := hr.1
  have hg31 : RG 31 r.1 := hg.mono (by omega)
  have hl := hg.1
  refine Evp.ite (fun _ => Evp.bindc (spec_l1DrawPlace_d _ hb.2.2.2) fun p hp => Evp.ret ⟨⟨by show r.1.1.length ≤ 31; omega, hg.2.1, hp.1⟩, hp.2⟩) fun _ => ?_
  refine Evp.ite (fun _ => Evp.ite (fun h0 => ?_) (fun _ => Evp.ret ⟨hg31, hb.2.2.2⟩)) fun _ => ?_
  · rw [wrap64_id (by omega) (by omega)]
    exact Evp.pos (by omega) (Evp.ret ⟨RG.set hg31 (hg.get _), hb.2.2.2⟩)
  refine Evp.ite (fun _ => Evp.ite (fun h0 => Evp.bindc (spec_l1PickInt_d _ _ hb.2.2.2 (by decide)) fun p hp => Evp.pos (by omega) (Evp.ret ⟨RG.set hg31 (hg.get _), hp.2⟩)) (fun _ => Evp.ret ⟨hg31, hb.2.2.2⟩)) fun _ => ?_
  refine Evp.ite (fun _ => Evp.ite (fun h0 => Evp.bind (spec_l4DrawNodes_d _ a hb.2.2.2 ha) fun p hp => Evp.pos (by omega) (Evp.ret ⟨RG.set hg31 (by show p.1.length ≤ 64; omega), hp.2⟩)) (fun _ => Evp.ret ⟨hg31, hb.2.2.2⟩)) fun _ => ?_
  refine Evp.ite (fun _ => Evp.bind (spec_l7DrawSet_d _ a hb.2.2.2 ha) fun p hp => ?_) (fun _ => Evp.ret ⟨hg31, hb.2.2.2⟩)
  exact spec_l7Draw_l p.1 (by omega) _ (31 - r.1.1.length) r.1 p.2 (by omega) hg31 hp.2

theorem spec_DrawRegOpen_d (b : List Int) (hb : b.length ≤ 1048576) : Evp (fun k => spec_DrawRegOpen.f k b) (fun r => r.1.1.length ≤ 9 ∧ RG 31 r.2.1 ∧ r.2.2.length ≤ 64) := by
  simp only [spec_DrawRegOpen.f]
  exact Evp.bind (spec_l1New_d b hb) fun c hc => Evp.bind (spec_l4Draw_d c hc) fun a ha => Evp.bind (spec_l7Draw_d _ _ ha.2 ha.1) fun r hr => Evp.bindc (spec_l1Once_d _ 4 hr.2) fun t ht => Evp.ite (fun _ => Evp.bind (spec_l4DrawNodes_d _ _ ht ha.1) fun s hs => Evp.ret ⟨ha.1, hr.1, by show s.1.length ≤ 64; omega⟩) (fun _ => Evp.bind (spec_l7DrawSet_d _ _ ht ha.1) fun s hs => Evp.ret ⟨ha.1, hr.1, by show s.1.length ≤ 64; omega⟩)

theorem impl_within_is (x a b : Int) : impl_within.f x a b = some (inB x a b) := ite_inB x a b

theorem impl_ConfigOk_ev (a : Config) (hl : a.1.length ≤ 1048576) : Ev (fun k => impl_ConfigOk.f k a) (cfgB a) := by
  have h := all_loop (n := a.1.length) (p := fun k i => impl_ConfigOk.p5 k a.1 ((a.1.length : Nat) : Int) i a) (q := fun i => inB (a.1.getD i 0) 0 7) (zb := inB ((a.1.length : Nat) : Int) 1 8 && (inB a.2.1 1 4 && true)) (fun i hi b hb => by
    simp only [impl_ConfigOk.p5, impl_within_is]
    refine Ev.pos (by omega) (Ev.pos (by omega) (Ev.bindc rfl (Ev.and fun _ => ?_)))
    rw [wrap_up hi (by omega)]; exact hb) (by
    simp only [impl_ConfigOk.p5, impl_within_is]
    refine Ev.neg (by omega) (Ev.bindc rfl (Ev.and fun _ => Ev.bindc rfl (Ev.ret.eq (by simp))))) a.1.length 0 (by omega)
  refine (Ev.cg h fun k => rfl).eq ?_
  unfold cfgB
  cases inB ((a.1.length : Nat) : Int) 1 8 <;> cases inB a.2.1 1 4 <;> simp

theorem impl_ascends_ev (l : List Int) (hi : Int) (hl : l.length ≤ 1048576) : Ev (fun k => impl_ascends.f k l hi) (ascB l 0 hi) := by
  have h := all_loop (n := l.length) (p := fun k i => impl_ascends.p5 k l hi l ((l.length : Nat) : Int) i) (q := fun i => inB (l.getD i 0) 0 hi && (decide (i = 0) || !decide (l.getD i 0 ≤ l.getD (i - 1) 0))) (zb := true) (fun i hi' b hb => by
    simp only [impl_ascends.p5, impl_within_is]
    refine Ev.pos (by omega) (Ev.pos (by omega) (Ev.bindc rfl ?_))
    rw [Bool.and_assoc]
    refine Ev.and fun _ => ?_
    rw [wrap_up hi' (by omega)]
    by_cases h0 : i = 0
    · subst h0
      exact (Ev.neg (by omega) hb).eq (by simp)
    · have e : wrap64 ((i : Int) - 1) = ((i - 1 : Nat) : Int) := by rw [wrap64_id (by omega) (by omega)]; omega
      rw [e]
      refine Ev.pos (by omega) (Ev.pos (by omega) ?_)
      rw [decide_eq_false h0, Bool.false_or]
      exact Ev.nand fun _ => hb) (by
    simp only [impl_ascends.p5]
    exact Ev.neg (by omega) Ev.ret) l.length 0 (by omega)
  exact (Ev.cg h fun k => rfl).eq (by unfold ascB; rw [Bool.and_true])

theorem impl_NodesOk_ev (a : Config) (l : List Int) (ha : a.1.length ≤ 1048576) (hl : l.length ≤ 1048576) : Ev (fun k => impl_NodesOk.f k a l) (nodesB a l) := by
  simp only [impl_NodesOk.f, nodesB]
  refine Ev.bind (impl_ConfigOk_ev a ha) (Ev.and fun _ => ?_)
  rw [wrap64_id (by omega) (by omega)]
  exact Ev.bind (impl_ascends_ev l _ hl) Ev.ret

theorem slices_Index_l (l : List Int) (x : Int) (hl : l.length ≤ 1048576) : ∀ (m i : Nat), i + m = l.length → ∃ r : Int, Ev (fun k => slices_Index_int_int.p5 k l x ((l.length : Nat) : Int) (i : Int)) r ∧ (decide (0 ≤ r) = (l.drop i).contains x) := by
  intro m
  induction m with
  | zero =>
    intro i h
    refine ⟨-1, Ev.succ ?_, by rw [List.drop_eq_nil_of_le (by omega)]; rfl⟩
    simp only [slices_Index_int_int.p5]
    exact Ev.neg (by omega) Ev.ret
  | succ m ih =>
    intro i h
    have hi : i < l.length := by omega
    rw [drop_get (d := (0 : Int)) hi]
    by_cases hx : x = l.getD i 0
    · refine ⟨i, Ev.succ ?_, by simp [hx]⟩
      simp only [slices_Index_int_int.p5, Int.toNat_natCast]
      exact Ev.pos (by omega) (Ev.pos (by omega) (Ev.pos hx Ev.ret))
    · obtain ⟨r, h1, h2⟩ := ih (i + 1) (by omega)
      refine ⟨r, Ev.succ ?_, by rw [h2, List.contains_cons, beq_eq_false_iff_ne.2 hx, Bool.false_or]⟩
      simp only [slices_Index_int_int.p5, Int.toNat_natCast]
      refine Ev.pos (by omega) (Ev.pos (by omega) (Ev.neg hx ?_))
      rw [wrap_up hi (by omega)]; exact h1

theorem slices_Contains_ev (l : List Int) (x : Int) (hl : l.length ≤ 1048576) : Ev (fun k => slices_Contains_int_int.f k l x) (l.contains x) := by
  obtain ⟨r, h1, h2⟩ := slices_Index_l l x hl l.length 0 (by omega)
  simp only [slices_Contains_int_int.f, slices_Index_int_int.f]
  exact (Ev.bind h1 (Ev.ret (v := decide (0 ≤ r)))).eq (by rw [h2, List.drop_zero])

theorem impl_SpanOf_l (a : Config) (l : List Int) (hl : l.length ≤ 1048576) (hmem : ∀ i, i < l.length → 0 ≤ l.getD i 0 ∧ l.getD i 0 < ((a.1.length : Nat) : Int)) :
    ∀ (m i : Nat) (acc : List Int), i + m = l.length → acc.length ≤ i → Ev (fun k => impl_SpanOf.p11 k acc l ((l.length : Nat) : Int) (i : Int) a) ((domsOf a (l.drop i) acc).length : Int) := by
  intro m
  induction m with
  | zero =>
    intro i acc h ha
    refine Ev.succ ?_
    simp only [impl_SpanOf.p11]
    rw [List.drop_eq_nil_of_le (by omega)]
    exact Ev.neg (by omega) Ev.ret
  | succ m ih =>
    intro i acc h ha
    have hi : i < l.length := by omega
    have hn := hmem i hi
    refine Ev.succ ?_
    simp only [impl_SpanOf.p11, Int.toNat_natCast]
    rw [drop_get (d := (0 : Int)) hi]
    simp only [domsOf]
    generalize hw : a.1.getD (l.getD i 0).toNat 0 = x at *
    refine Ev.pos (by omega) (Ev.pos (by omega) (Ev.pos (by omega) (Ev.bind (slices_Contains_ev acc x (by omega)) ?_)))
    rw [wrap_up hi (by omega)]
    by_cases hc : acc.contains x = true
    · rw [if_pos hc]
      exact Ev.pos hc (ih (i + 1) acc (by omega) (by omega))
    · rw [if_neg hc]
      refine Ev.neg hc (Ev.pos (by omega) (Ev.pos (by simp [lim_eq]; omega) ?_))
      exact ih (i + 1) (acc ++ [x]) (by omega) (by simp; omega)
theorem impl_SpanOf_ev (a : Config) (l : List Int) (ha : a.1.length ≤ 1048576) (hl : l.length ≤ 1048576) : Ev (fun k => impl_SpanOf.f k a l) (if nodesB a l = true then spanOf a l else -1) := by
  simp only [impl_SpanOf.f]
  refine Ev.bind (impl_NodesOk_ev a l ha hl) (Ev.ite (fun h => ?_) fun _ => Ev.ret)
  simp only [nodesB, Bool.and_eq_true] at h
  have := impl_SpanOf_l a l hl (fun i hi => by have := ascB_mem h.2 hi; omega) l.length 0 [] (by omega) (by simp)
  rw [List.drop_zero] at this
  exact this

theorem impl_Holds_ev (a : Config) (l : List Int) (ha : a.1.length ≤ 1048576) (hl : l.length ≤ 1048576) : Ev (fun k => impl_Holds.f k a l) (holdsB a l) := by
  simp only [impl_Holds.f, holdsB]
  refine Ev.bind (impl_NodesOk_ev a l ha hl) (Ev.and fun h => Ev.bind (impl_SpanOf_ev a l ha hl) ?_)
  rw [if_pos h]; exact Ev.ret

theorem impl_eraOk_ev (a : Config) (e : Era) (ha : a.1.length ≤ 1048576) (he : e.1.length ≤ 1048576) : Ev (fun k => impl_eraOk.f k a e) (eraB a e) := by
  simp only [impl_eraOk.f, impl_within_is, eraB]
  refine Ev.bind (impl_Holds_ev a e.1 ha he) (Ev.and fun _ => Ev.bindc rfl (Ev.and fun _ => ?_))
  by_cases hc : e.2.1 = true
  · exact (Ev.pos hc Ev.ret).eq (by rw [hc]; rfl)
  · refine (Ev.neg hc Ev.ret).eq ?_
    simp only [Bool.not_eq_true] at hc
    rw [hc, Bool.false_or]

theorem impl_PlaceOk_is (x : Int) (hx : InR x) : impl_PlaceOk.f x = some (placeOk x) := by
  have h1 := hx.1; have h2 := hx.2
  simp only [impl_PlaceOk.f, placeOk, impl_isEpoch.f, impl_isOff.f, impl_within_is]
  by_cases h : 0 < x
  · rw [tdiv_pos (by omega), tmod_pos (by omega), wrap64_id (by omega) (by omega)]
    cases inB (x / 4294967296) 1 30 <;> simp [h]
  · rw [tdiv_neg' (by omega), wrap64_id (by omega) (by omega), show inB (-(-x / 4294967296)) 1 30 = false by
      rw [Bool.eq_false_iff]
      intro he
      rw [inB_true] at he
      omega]
    simp [h]

theorem impl_EpochOf_is (x : Int) (hx : InR x) : impl_EpochOf.f x = some (epochOf x) := by
  have h2 := hx.2
  simp only [impl_EpochOf.f, impl_PlaceOk_is x hx, Option.bind_some, epochOf]
  by_cases h : placeOk x = true
  · have := placeOk_pos h
    rw [if_pos h, if_pos h, tdiv_pos (by omega), wrap64_id (by omega) (by omega)]
  · rw [if_neg h, if_neg h]

theorem impl_RegOk_ev (a : Config) (r : Register) (ht : InR r.2.1) (ha : a.1.length ≤ 1048576) (hl : r.1.length ≤ 1048576) (he : ∀ i, i < r.1.length → (r.1.getD i zEra).1.length ≤ 1048576) : Ev (fun k => impl_RegOk.f k a r) (regB a r) := by
  have hend : ∀ q : Bool, Ev (fun k => impl_RegOk.p16 k q a r) (cfgB a && (decide (((r.1.length : Nat) : Int) ≤ 30) && q)) := fun q => by
    refine Ev.succ ?_
    simp only [impl_RegOk.p16]
    exact Ev.bind (impl_ConfigOk_ev a ha) (Ev.and fun _ => Ev.andc fun _ => Ev.ret)
  have h := all_loop (n := r.1.length) (p := fun k i => impl_RegOk.p5 k r.1 ((r.1.length : Nat) : Int) i a r) (q := eraAt a r.1) (zb := cfgB a && (decide (((r.1.length : Nat) : Int) ≤ 30) && trimB r.1.length r.2.1)) (fun i hi b hb => by
    simp only [impl_RegOk.p5, Int.toNat_natCast]
    have hz := he i hi
    have hw : wrap64 ((i : Int) + 1) = ((i + 1 : Nat) : Int) := wrap_up hi (by omega)
    unfold eraAt
    refine Ev.pos (by omega) (Ev.pos (by omega) (Ev.bind (impl_eraOk_ev a (r.1.getD i zEra) ha hz) ?_))
    rw [Bool.and_assoc]
    refine Ev.and fun _ => ?_
    simp only [hw]
    by_cases hc : (r.1.getD i zEra).2.1 = true
    · refine Ev.pos hc ?_
      have e1 : wrap64 (((r.1.length : Nat) : Int) - 1) = ((r.1.length - 1 : Nat) : Int) := by rw [wrap64_id (by omega) (by omega)]; omega
      rw [e1, hc, Bool.not_true, Bool.false_or, Bool.and_assoc]
      by_cases hq : i = r.1.length - 1
      · rw [decide_eq_true hq]
        exact Ev.pos (by omega) Ev.ret
      · rw [decide_eq_false hq]
        refine Ev.neg (by omega) ?_
        by_cases h0 : i = 0
        · subst h0
          exact (Ev.neg (by omega) hb).eq (by rfl)
        · have e2 : wrap64 ((i : Int) - 1) = ((i - 1 : Nat) : Int) := by rw [wrap64_id (by omega) (by omega)]; omega
          rw [e2, decide_eq_false h0]
          refine Ev.pos (by omega) (Ev.pos (by omega) ?_)
          exact (Ev.and fun _ => hb).eq (by rfl)
    · refine (Ev.neg hc hb).eq ?_
      simp only [Bool.not_eq_true] at hc
      rw [hc]; rfl) (by
    simp only [impl_RegOk.p5, impl_EpochOf_is _ ht, impl_within_is, Option.bind_some]
    refine Ev.neg (by omega) ?_
    unfold trimB
    by_cases h0 : r.2.1 = 0
    · exact (Ev.pos h0 (hend true)).eq (by rw [decide_eq_true h0]; rfl)
    · exact (Ev.neg h0 (hend _)).eq (by rw [decide_eq_false h0]; rfl)) r.1.length 0 (by omega)
  refine (Ev.cg h fun k => rfl).eq ?_
  unfold regB erasB
  cases cfgB a <;> cases decide (((r.1.length : Nat) : Int) ≤ 30) <;> cases trimB r.1.length r.2.1 <;> simp

theorem impl_copyInts_is (l : List Int) (h : l.length ≤ 1048576) : impl_copyInts.f l = some l := by
  simp only [impl_copyInts.f]
  rw [if_pos (by simp [lim_eq]; omega)]; rfl

theorem impl_copyRegister_ev (r : Register) (hl : r.1.length ≤ 1048576) (he : ∀ i, i < r.1.length → (r.1.getD i zEra).1.length ≤ 1048576) : Ev (fun k => impl_copyRegister.f k r) r := by
  have h : ∀ (m i : Nat) (z : Register) (acc : List Era), i + m = r.1.length → acc.length = i → Ev (fun k => impl_copyRegister.p7 k r.1 ((r.1.length : Nat) : Int) (i : Int) z (acc, (r.2.1, ()))) (acc ++ r.1.drop i, (r.2.1, ())) := by
    intro m
    induction m with
    | zero =>
      intro i z acc hi ha
      refine Ev.succ ?_
      simp only [impl_copyRegister.p7]
      rw [List.drop_eq_nil_of_le (by omega), List.append_nil]
      exact Ev.neg (by omega) Ev.ret
    | succ m ih =>
      intro i z acc hi ha
      have hlt : i < r.1.length := by omega
      have hz := he i hlt
      refine Ev.succ ?_
      simp only [impl_copyRegister.p7, Int.toNat_natCast]
      refine Ev.pos (by omega) (Ev.pos (by omega) (Ev.bindc (impl_copyInts_is (r.1.getD i zEra).1 hz) ?_))
      change Ev (fun k => if ((acc.length : Nat) : Int) + (([r.1.getD i zEra].length : Nat) : Int) ≤ lim then impl_copyRegister.p7 k r.1 ((r.1.length : Nat) : Int) (wrap64 ((i : Int) + 1)) z (acc ++ [r.1.getD i zEra], (r.2.1, ())) else none) _
      refine Ev.pos (by simp only [lim_eq, List.length_cons, List.length_nil]; omega) ?_
      rw [wrap_up hlt (by omega), drop_get (d := zEra) hlt]
      exact (ih (i + 1) z (acc ++ [r.1.getD i zEra]) (by omega) (by rw [List.length_append, ha]; rfl)).eq (by rw [List.append_assoc]; rfl)
  have := h r.1.length 0 (([] : List Era), ((0 : Int), ())) [] (by omega) rfl
  rw [List.drop_zero, List.nil_append] at this
  exact Ev.cg this fun k => rfl

theorem impl_regAsWas_ev (a : Config) (r : Register) (ht : InR r.2.1) (ha : a.1.length ≤ 1048576) (hl : r.1.length ≤ 1048576) (he : ∀ i, i < r.1.length → (r.1.getD i zEra).1.length ≤ 1048576) : Ev (fun k => impl_regAsWas.f k a r) (if regB a r = true then r else (([] : List Era), ((0 : Int), ()))) := by
  simp only [impl_regAsWas.f]
  exact Ev.bind (impl_RegOk_ev a r ht ha hl he) (Ev.ite (fun _ => Ev.bind (impl_copyRegister_ev r hl he) Ev.ret) fun _ => Ev.ret)

theorem impl_RegOpen_ev (a : Config) (r : Register) (l : List Int) (hr : InR r.2.1) (ha : a.1.length ≤ 1048576) (hl : r.1.length ≤ 1048576) (he : ∀ i, i < r.1.length → (r.1.getD i zEra).1.length ≤ 1048576) (hls : l.length ≤ 1048576) : Ev (fun k => impl_RegOpen.f k a r l) (openF a r l) := by
  have s2 := impl_RegOk_ev a r hr ha hl he
  have s4 := impl_copyRegister_ev r hl he
  have s5 := impl_regAsWas_ev a r hr ha hl he
  have s7 := impl_Holds_ev a l ha hls
  have s8 := impl_copyInts_is l hls
  simp only [impl_RegOpen.f, openF]
  cases hb : regB a r with
  | false =>
    rw [hb] at s2 s5
    exact Ev.bind s2 (Ev.neg (by decide) (Ev.bind s5 Ev.ret))
  | true =>
    rw [hb] at s2 s5
    rw [if_pos rfl]
    refine Ev.bind s2 (Ev.pos rfl (Ev.bind s7 (Ev.ite (fun _ => Ev.ite (fun _ => Ev.bind s5 Ev.ret) (fun _ => Ev.bind s4 (Ev.bindc s8 (Ev.pos ?_ Ev.ret)))) (fun _ => Ev.bind s5 Ev.ret))))
    simp only [lim_eq, List.length_cons, List.length_nil]; omega

theorem impl_EraNodes_at (r : Register) (i : Nat) (hi : i < r.1.length) (hl : r.1.length ≤ 1048576) (he : ∀ i, i < r.1.length → (r.1.getD i zEra).1.length ≤ 1048576) : impl_EraNodes.f r (((i + 1 : Nat)) : Int) = some (r.1.getD i zEra).1 := by
  have e1 : wrap64 ((((i + 1 : Nat)) : Int) - 1) = (i : Int) := by rw [wrap64_id (by omega) (by omega)]; omega
  simp only [impl_EraNodes.f, impl_within_is, Option.bind_some, e1, Int.toNat_natCast]
  rw [if_pos (by rw [inB_true]; omega), if_pos (by omega)]
  have := impl_copyInts_is (r.1.getD i zEra).1 (he i hi)
  show (impl_copyInts.f (r.1.getD i zEra).1).bind _ = _
  rw [this]; rfl

theorem spec_EraNodes_at (r : Register) (i : Nat) (hi : i < r.1.length) (hl : r.1.length ≤ 1048576) (he : ∀ i, i < r.1.length → (r.1.getD i zEra).1.length ≤ 1048576) : spec_EraNodes.f r (((i + 1 : Nat)) : Int) = some (r.1.getD i zEra).1 := by
  have e1 : wrap64 ((((i + 1 : Nat)) : Int) - 1) = (i : Int) := by rw [wrap64_id (by omega) (by omega)]; omega
  simp only [spec_EraNodes.f, spec_l1In_is, Option.bind_some, e1, Int.toNat_natCast, List.nil_append]
  rw [if_pos (by rw [inB_true]; omega), if_pos (by omega)]
  have := he i hi
  show (if ((([] : List Int).length : Nat) : Int) + (((r.1.getD i zEra).1.length : Nat) : Int) ≤ lim then some (r.1.getD i zEra).1 else none) = _
  rw [if_pos (by simp only [lim_eq, List.length_nil]; omega)]

theorem laws_sameInts_l (l : List Int) (hl : l.length ≤ 1048576) : ∀ (m i : Nat), i + m = l.length → Ev (fun k => laws_sameInts.p9 k l l (i : Int)) true := by
  intro m
  induction m with
  | zero =>
    intro i hi
    refine Ev.succ ?_
    simp only [laws_sameInts.p9]
    exact Ev.neg (by omega) Ev.ret
  | succ m ih =>
    intro i hi
    refine Ev.succ ?_
    simp only [laws_sameInts.p9]
    rw [wrap_up (i := i) (n := l.length) (by omega) (by omega)]
    exact Ev.pos (by omega) (Ev.pos (by omega) (Ev.pos (by omega) (Ev.pos trivial (ih (i + 1) (by omega)))))
theorem laws_sameInts_ev (l : List Int) (hl : l.length ≤ 1048576) : Ev (fun k => laws_sameInts.f k l l) true := by
  simp only [laws_sameInts.f]
  exact Ev.pos trivial (laws_sameInts_l l hl l.length 0 (by omega))


theorem getD_app {l : List Era} {x : Era} {i : Nat} (h : i < l.length) : (l ++ [x]).getD i zEra = l.getD i zEra := by
  rw [List.getD_eq_getElem?_getD, List.getElem?_append_left h, ← List.getD_eq_getElem?_getD]
theorem getD_end {l : List Era} {x : Era} : (l ++ [x]).getD l.length zEra = x := by
  rw [List.getD_eq_getElem?_getD, List.getElem?_append_right (Nat.le_refl _), Nat.sub_self]; rfl
theorem reg_opened {a : Config} {r : Register} {l : List Int} (hg : regB a r = true) (hh : holdsB a l = true) (h30 : ((r.1.length : Nat) : Int) ≠ 30) : regB a ((r.1 ++ [(l, (false, ((0 : Int), ())))]), r.2) = true := by
  unfold regB trimB erasB at *
  simp only [Bool.and_eq_true, Bool.or_eq_true, decide_eq_true_eq, List.all_eq_true, List.mem_range'_1, List.length_append, List.length_cons, List.length_nil] at *
  obtain ⟨h1, h2, h3, h4⟩ := hg
  refine ⟨h1, by omega, h3.imp (fun h => h) (fun h => by rw [inB_true] at h ⊢; omega), fun i hi => ?_⟩
  by_cases hlt : i < r.1.length
  · have := h4 i (by omega)
    unfold eraAt at this ⊢
    rw [getD_app hlt]
    simp only [Bool.and_eq_true, Bool.or_eq_true, Bool.not_eq_true', decide_eq_true_eq, decide_eq_false_iff_not, List.length_append, List.length_cons, List.length_nil] at this ⊢
    refine ⟨this.1, this.2.imp (fun h => h) (fun h => ⟨by omega, h.2.imp (fun h => h) (fun h => ?_)⟩)⟩
    rw [getD_app (by omega)]; exact h
  · have he : i = r.1.length := by omega
    subst he
    unfold eraAt eraB
    rw [getD_end, hh]
    rfl
theorem laws_FnOpened_l (a : Config) (r : Register) (l : List Int) (hg : RG 31 r) (ha : a.1.length ≤ 9) (hl : l.length ≤ 64) (hok : regB a ((r.1 ++ [(l, (false, ((0 : Int), ())))]), r.2) = true) :
    ∀ (m i : Nat), i + m = r.1.length → Ev (fun k => laws_FnOpened.p23 k l (((r.1 ++ [(l, (false, ((0 : Int), ())))]).length : Nat) : Int) (((i + 1 : Nat)) : Int) a r ((r.1 ++ [(l, (false, ((0 : Int), ())))]), r.2)) true := by
  have hn := hg.1
  have hN : (r.1 ++ [(l, (false, ((0 : Int), ())))] : List Era).length = r.1.length + 1 := by simp
  have hE : ∀ i, i < (r.1 ++ [(l, (false, ((0 : Int), ())))] : List Era).length → ((r.1 ++ [(l, (false, ((0 : Int), ())))] : List Era).getD i zEra).1.length ≤ 1048576 := fun i hi => by
    by_cases hlt : i < r.1.length
    · rw [getD_app hlt]; exact hg.at i hlt
    · rw [show i = r.1.length by omega, getD_end]; show l.length ≤ _; omega
  intro m
  induction m with
  | zero =>
    intro i hi
    have hi : i = r.1.length := by omega
    subst hi
    refine Ev.succ ?_
    simp only [laws_FnOpened.p23, hN]
    rw [impl_EraNodes_at ((r.1 ++ [(l, (false, ((0 : Int), ())))]), r.2) r.1.length (by show _ < (r.1 ++ [_]).length; omega) (by show (r.1 ++ [_]).length ≤ _; omega) hE]
    have e1 : wrap64 (((r.1.length + 1 : Nat) : Int) - 1) = ((r.1.length : Nat) : Int) := by rw [wrap64_id (by omega) (by omega)]; omega
    have e2 : ((r.1 ++ [(l, (false, ((0 : Int), ())))] : List Era).getD r.1.length zEra).1 = l := by rw [getD_end]
    have e3 : ((r.1 ++ [(l, (false, ((0 : Int), ())))] : List Era).getD r.1.length zEra).2.1 = false := by rw [getD_end]
    rw [e1, Int.toNat_natCast, e2]
    refine Ev.neg (by omega) (Ev.pos (by rw [wrap64_id (by omega) (by omega)]; omega) (Ev.bindc rfl (Ev.bind (laws_sameInts_ev l (by omega)) (Ev.pos rfl (Ev.pos (by omega) (Ev.neg ?_ (Ev.bind ?_ Ev.ret)))))))
    · show ¬ ((r.1 ++ [(l, (false, ((0 : Int), ())))] : List Era).getD r.1.length zEra).2.1 = true
      rw [e3]; decide
    · exact (impl_RegOk_ev a ((r.1 ++ [(l, (false, ((0 : Int), ())))]), r.2) hg.2.2 (by omega) (by show (r.1 ++ [_]).length ≤ _; omega) hE).eq hok
  | succ m ih =>
    intro i hi
    have hlt : i < r.1.length := by omega
    refine Ev.succ ?_
    simp only [laws_FnOpened.p23, hN]
    rw [impl_EraNodes_at ((r.1 ++ [(l, (false, ((0 : Int), ())))]), r.2) i (by show _ < (r.1 ++ [_]).length; omega) (by show (r.1 ++ [_]).length ≤ _; omega) hE, spec_EraNodes_at r i hlt (by omega) hg.at]
    have e1 : wrap64 (((i + 1 : Nat) : Int) - 1) = (i : Int) := by rw [wrap64_id (by omega) (by omega)]; omega
    have e2 : wrap64 (((i + 1 : Nat) : Int) + 1) = (((i + 1) + 1 : Nat) : Int) := by rw [wrap64_id (by omega) (by omega)]; omega
    have e4 := getD_app (l := r.1) (x := (l, (false, ((0 : Int), ())))) hlt
    have ih' := ih (i + 1) (by omega)
    rw [hN] at ih'
    rw [e1, e2, Int.toNat_natCast]
    have e4' : (r.1 ++ [(l, (false, ((0 : Int), ())))] : List Era).getD i (([] : List Int), (false, ((0 : Int), ()))) = r.1.getD i (([] : List Int), (false, ((0 : Int), ()))) := e4
    simp only [e4']
    have hs : Ev (fun k => laws_sameInts.f k ((r.1 ++ [(l, (false, ((0 : Int), ())))] : List Era).getD i zEra).1 (r.1.getD i zEra).1) true := by rw [e4]; exact laws_sameInts_ev _ (hg.at i hlt)
    exact Ev.pos (by omega) (Ev.bindc rfl (Ev.bindc rfl (Ev.bind hs (Ev.pos rfl (Ev.pos (by omega) (Ev.pos (by omega) (Ev.pos trivial (Ev.pos (by omega) (Ev.pos (by omega) (Ev.pos trivial ih'))))))))))
theorem pureL (a0 : List Int) (h0 : Gd (.sl (.int .u8)) a0) : ∃ k, laws_FnOpened.f k a0 = some true := by
  refine Ev.get (v := true) ?_
  simp only [laws_FnOpened.f, laws_big_is, Option.bind_some]
  by_cases hb : (1048576 : Int) < ((a0.length : Nat) : Int)
  · exact Ev.pos (by simpa using hb) Ev.ret
  refine Ev.neg (by simpa using hb) ?_
  obtain ⟨⟨a, r, l⟩, e0, ha, hr, hls⟩ := spec_DrawRegOpen_d a0 (by omega)
  have ha : a.1.length ≤ 9 := ha
  have hr : RG 31 r := hr
  have hls : l.length ≤ 64 := hls
  have hl := hr.1
  have e1 := impl_RegOpen_ev a r l hr.2.2 (by omega) (by omega) hr.at (by omega)
  have e2 := spec_RegOpen_ev a r l hr.2.2 (by omega) (by omega) hr.at (by omega)
  refine Ev.bind e0 (Ev.bind e1 (Ev.bind e2 (Ev.pos rfl (Ev.pos rfl ?_))))
  unfold openF
  have same : Ev (fun k => if (r, (0 : Int), false).2.2 = true then laws_FnOpened.p23 k l (r, (0 : Int), false).2.1 (1 : Int) a r (r, (0 : Int), false).1 else if (((r, (0 : Int), false).1.1.length : Nat) : Int) = ((r.1.length : Nat) : Int) then some true else some (decide ((((r, (0 : Int), false).1.1.length : Nat) : Int) = (0 : Int)))) true := Ev.neg (show ¬ (false = true) by decide) (Ev.pos rfl Ev.ret)
  by_cases hg : regB a r = true
  · rw [if_pos hg]
    by_cases hh : holdsB a l = true
    · rw [if_pos hh]
      by_cases h30 : ((r.1.length : Nat) : Int) = (30 : Int)
      · rw [if_pos h30]; exact same
      · rw [if_neg h30]
        exact Ev.pos rfl (laws_FnOpened_l a r l hr ha hls (reg_opened hg hh h30) r.1.length 0 (by omega))
    · rw [if_neg hh]; exact same
  · rw [if_neg hg]
    refine Ev.neg (show ¬ (false = true) by decide) ?_
    by_cases hz : (((([] : List Era).length : Nat) : Int)) = ((r.1.length : Nat) : Int)
    · exact Ev.pos hz Ev.ret
    · exact (Ev.neg hz Ev.ret).eq (by decide)

end Go.Proofs.Ytdkdhciogedoiac.OmFnOpened
