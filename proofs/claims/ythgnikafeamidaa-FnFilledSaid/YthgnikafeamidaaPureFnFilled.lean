/- The plain law: a drawn node that is filled has what any of the others kept, or better, and nothing late; it refuses what is old. Conditions: what is known of a value that came in. -/
import Derived.Test.YthgnikafeamidaaFamFnFilled
set_option linter.unusedVariables false
set_option linter.unusedSimpArgs false
set_option linter.unusedSectionVars false
namespace Go.Proofs.Ythgnikafeamidaa.OmFnFilled
open Go Go.OM
/-- x lies between a and b. -/
def inB (x a b : Int) : Bool := decide (a ≤ x) && decide (x ≤ b)
theorem inB_true {x a b : Int} : inB x a b = true ↔ a ≤ x ∧ x ≤ b := by simp [inB]
theorem ite_inB (x a b : Int) : (if a ≤ x then some (decide (x ≤ b)) else some false) = some (inB x a b) := by
  unfold inB
  by_cases h : a ≤ x <;> simp [h]
def InR (x : Int) : Prop := -9223372036854775808 ≤ x ∧ x ≤ 9223372036854775807
theorem InR_of {x : Int} (h : Gd (.int .i64) x) : InR x := by
  have h : (Lit.int .i64 x).wf = true := h
  simp [Lit.wf, IntKind.min, IntKind.max, IntKind.signed, IntKind.bits] at h
  exact ⟨by omega, by omega⟩
theorem Ev.and {q b : Bool} {A : Nat → Option Bool} (h : q = true → Ev A b) : Ev (fun k => if q = true then A k else some false) (q && b) := by
  cases q with
  | false => exact Ev.neg (by decide) Ev.ret
  | true => exact Ev.pos rfl (h rfl)
theorem Ev.andc {c : Prop} [Decidable c] {b : Bool} {A : Nat → Option Bool} (h : c → Ev A b) : Ev (fun k => if c then A k else some false) (decide c && b) := by
  by_cases hc : c
  · rw [decide_eq_true hc]; exact Ev.pos hc (h hc)
  · rw [decide_eq_false hc]; exact Ev.neg hc Ev.ret
theorem Ev.nand {c : Prop} [Decidable c] {b : Bool} {A : Nat → Option Bool} (h : ¬ c → Ev A b) : Ev (fun k => if c then some false else A k) (!decide c && b) := by
  by_cases hc : c
  · rw [decide_eq_true hc]; exact Ev.pos hc Ev.ret
  · rw [decide_eq_false hc]; exact Ev.neg hc (h hc)
theorem Ev.ite {c : Prop} [Decidable c] {α : Type} {A B : Nat → Option α} {v u : α} (h1 : c → Ev A v) (h2 : ¬ c → Ev B u) : Ev (fun k => if c then A k else B k) (if c then v else u) := by
  by_cases hc : c
  · rw [if_pos hc]; exact Ev.pos hc (h1 hc)
  · rw [if_neg hc]; exact Ev.neg hc (h2 hc)
theorem all_loop {n : Nat} {p : Nat → Int → Option Bool} {q : Nat → Bool} {zb : Bool} (hp : ∀ (i : Nat), i < n → ∀ b, Ev (fun k => p k (((i + 1 : Nat)) : Int)) b → Ev (fun k => p (k + 1) (i : Int)) (q i && b)) (h0 : Ev (fun k => p (k + 1) (n : Int)) zb) :
    ∀ (m i : Nat), i + m = n → Ev (fun k => p k (i : Int)) ((List.range' i m).all q && zb) := by
  intro m
  induction m with
  | zero => intro i h; rw [show i = n by omega]; exact Ev.succ h0
  | succ m ih =>
    intro i h
    refine (Ev.succ (hp i (by omega) _ (ih (i + 1) (by omega)))).eq ?_
    rw [List.range'_succ, List.all_cons, Bool.and_assoc]
theorem wrap_up {i n : Nat} (h : i < n) (hn : n ≤ 4611686018427387904) : wrap64 ((i : Int) + (1 : Int)) = ((i + 1 : Nat) : Int) := wrap64_id (by omega) (by omega)
theorem cnt_ints (l : List Int) : cnt (.sl (.int .i64)) l = l.length := by
  show l.length + (l.map fun _ => 0).sum = l.length
  have : (l.map fun _ => 0).sum = 0 := by induction l with
    | nil => rfl
    | cons x l ih => simpa using ih
  omega
/-- It comes to something with P. -/
def Evp {α : Type} (f : Nat → Option α) (P : α → Prop) : Prop := ∃ v, Ev f v ∧ P v
def Op {α : Type} (f : Option α) (P : α → Prop) : Prop := ∃ v, f = some v ∧ P v
section
variable {α β : Type} {P : α → Prop} {Q : β → Prop}
theorem Evp.ret {v : α} (h : P v) : Evp (fun _ => some v) P := ⟨v, Ev.ret, h⟩
theorem Evp.of {f : Nat → Option α} {v : α} (h : Ev f v) (hp : P v) : Evp f P := ⟨v, h, hp⟩
theorem Evp.bind {f : Nat → Option α} {g : Nat → α → Option β} (h : Evp f P) (hg : ∀ a, P a → Evp (fun k => g k a) Q) : Evp (fun k => (f k).bind (g k)) Q := by
  obtain ⟨a, h1, h2⟩ := h
  obtain ⟨b, h3, h4⟩ := hg a h2
  exact ⟨b, h1.bind h3, h4⟩
theorem Evp.bindv {f : Nat → Option α} {g : Nat → α → Option β} {a : α} (h : Ev f a) (hg : Evp (fun k => g k a) Q) : Evp (fun k => (f k).bind (g k)) Q := by
  obtain ⟨b, h3, h4⟩ := hg
  exact ⟨b, h.bind h3, h4⟩
theorem Evp.bindc {f : Option α} {g : Nat → α → Option β} (h : Op f P) (hg : ∀ a, P a → Evp (fun k => g k a) Q) : Evp (fun k => f.bind (g k)) Q := by
  obtain ⟨a, h1, h2⟩ := h
  obtain ⟨b, h3, h4⟩ := hg a h2
  exact ⟨b, Ev.bindc h1 h3, h4⟩
theorem Evp.succ {f : Nat → Option α} (h : Evp (fun k => f (k + 1)) P) : Evp f P := by
  obtain ⟨a, h1, h2⟩ := h
  exact ⟨a, Ev.succ h1, h2⟩
theorem Evp.pos {c : Prop} [Decidable c] {f g : Nat → Option α} (hc : c) (h : Evp f P) : Evp (fun k => if c then f k else g k) P := by
  obtain ⟨a, h1, h2⟩ := h
  exact ⟨a, Ev.pos hc h1, h2⟩
theorem Evp.neg {c : Prop} [Decidable c] {f g : Nat → Option α} (hc : ¬ c) (h : Evp g P) : Evp (fun k => if c then f k else g k) P := by
  obtain ⟨a, h1, h2⟩ := h
  exact ⟨a, Ev.neg hc h1, h2⟩
theorem Evp.ite {c : Prop} [Decidable c] {f g : Nat → Option α} (h1 : c → Evp f P) (h2 : ¬ c → Evp g P) : Evp (fun k => if c then f k else g k) P := by
  by_cases hc : c
  · exact Evp.pos hc (h1 hc)
  · exact Evp.neg hc (h2 hc)
theorem Evp.mono {f : Nat → Option α} {P' : α → Prop} (h : Evp f P) (hp : ∀ a, P a → P' a) : Evp f P' := by
  obtain ⟨a, h1, h2⟩ := h
  exact ⟨a, h1, hp a h2⟩
theorem Evp.opt {f : Option α} (h : Op f P) : Evp (fun _ => f) P := by
  obtain ⟨a, h1, h2⟩ := h
  exact ⟨a, Ev.of h1, h2⟩
theorem Evp.cg {f g : Nat → Option α} (h : Evp g P) (e : ∀ k, f k = g k) : Evp f P := by
  obtain ⟨a, h1, h2⟩ := h
  exact ⟨a, h1.cg e, h2⟩
theorem Op.ret {v : α} (h : P v) : Op (some v) P := ⟨v, rfl, h⟩
theorem Op.bind {f : Option α} {g : α → Option β} (h : Op f P) (hg : ∀ a, P a → Op (g a) Q) : Op (f.bind g) Q := by
  obtain ⟨a, h1, h2⟩ := h
  obtain ⟨b, h3, h4⟩ := hg a h2
  exact ⟨b, by rw [h1, Option.bind_some, h3], h4⟩
theorem Op.pos {c : Prop} [Decidable c] {f g : Option α} (hc : c) (h : Op f P) : Op (if c then f else g) P := by rw [if_pos hc]; exact h
theorem Op.neg {c : Prop} [Decidable c] {f g : Option α} (hc : ¬ c) (h : Op g P) : Op (if c then f else g) P := by rw [if_neg hc]; exact h
theorem Op.ite {c : Prop} [Decidable c] {f g : Option α} (h1 : c → Op f P) (h2 : ¬ c → Op g P) : Op (if c then f else g) P := by
  by_cases hc : c
  · exact Op.pos hc (h1 hc)
  · exact Op.neg hc (h2 hc)
end
theorem nft : ¬ (false = true) := by decide
/-- x among numbers: ahead of the first greater one. -/
noncomputable def insB : List Int → Int → List Int
  | [], x => [x]
  | y :: l, x => if x < y then x :: y :: l else y :: insB l x
noncomputable def insL (l : List Int) (x : Int) : List Int := if l.contains x = true then l else insB l x
theorem insB_len (l : List Int) (x : Int) : (insB l x).length = l.length + 1 := by
  induction l with
  | nil => rfl
  | cons y l ih =>
    unfold insB
    split
    · rfl
    · rw [List.length_cons, List.length_cons, ih]
theorem insL_len (l : List Int) (x : Int) : (insL l x).length ≤ l.length + 1 := by
  unfold insL
  split
  · omega
  · rw [insB_len]; omega
theorem insB_at {x : Int} : ∀ {l : List Int} {i : Nat}, i ≤ l.length → (∀ q, q < i → l.getD q 0 < x) → (i < l.length → x < l.getD i 0) → l.take i ++ [x] ++ l.drop i = insB l x := by
  intro l
  induction l with
  | nil => intro i hi _ _; have : i = 0 := by simpa using hi
           subst this; rfl
  | cons y l ih =>
    intro i hi h1 h2
    cases i with
    | zero =>
      have : x < y := h2 (Nat.zero_lt_succ _)
      unfold insB; rw [if_pos this]; rfl
    | succ i =>
      have : ¬ x < y := by have := h1 0 (Nat.zero_lt_succ _); change y < x at this; omega
      unfold insB; rw [if_neg this]
      show y :: (l.take i ++ [x] ++ l.drop i) = _
      rw [ih (by simpa using hi) (fun q hq => by have := h1 (q + 1) (by omega); simpa using this) (fun h => by have := h2 (by simp; omega); simpa using this)]
theorem wrapu (x : Int) (h0 : 0 ≤ x) (h1 : x ≤ 9223372036854775807) : IntKind.wrap .u64 x = x := by
  show (if (false && decide (x % 2 ^ 64 ≥ 2 ^ (64 - 1))) = true then x % 2 ^ 64 - 2 ^ 64 else x % 2 ^ 64) = x
  rw [Bool.false_and, if_neg (by decide)]
  exact Int.emod_eq_of_lt h0 (by omega)
theorem mid_is {i j n : Nat} (h : i < j) (hj : j ≤ n) (hn : n ≤ 4611686018427387904) : wrap64 (shrK .u64 (IntKind.wrap .u64 (wrap64 ((i : Int) + (j : Int)))) (1 : Int)) = (((i + j) / 2 : Nat) : Int) := by
  rw [wrap64_id (x := (i : Int) + (j : Int)) (by omega) (by omega), wrapu _ (by omega) (by omega)]
  have e : shrK .u64 ((i : Int) + (j : Int)) 1 = (((i + j) / 2 : Nat) : Int) := by
    show Int.fdiv ((i : Int) + (j : Int)) (2 ^ 1) = _
    rw [Int.fdiv_eq_ediv_of_nonneg _ (by decide)]
    omega
  rw [e, wrap64_id (by omega) (by omega)]
/-- A search by halves. -/
theorem bs_loop {β : Type} {n : Nat} {p : Nat → Int → Int → Option β} {lt : Nat → Bool} {v : β} (hm : ∀ q r, q ≤ r → r < n → lt r = true → lt q = true)
    (hp : ∀ i j : Nat, i < j → j ≤ n → ∀ b, (lt ((i + j) / 2) = true → Ev (fun k => p k (((i + j) / 2 + 1 : Nat) : Int) (j : Int)) b) → (lt ((i + j) / 2) = false → Ev (fun k => p k (i : Int) (((i + j) / 2 : Nat) : Int)) b) → Ev (fun k => p (k + 1) (i : Int) (j : Int)) b)
    (h0 : ∀ i : Nat, i ≤ n → (∀ q, q < i → lt q = true) → (∀ q, i ≤ q → q < n → lt q = false) → Ev (fun k => p (k + 1) (i : Int) (i : Int)) v) :
    ∀ (d i j : Nat), j - i ≤ d → i ≤ j → j ≤ n → (∀ q, q < i → lt q = true) → (∀ q, j ≤ q → q < n → lt q = false) → Ev (fun k => p k (i : Int) (j : Int)) v := by
  intro d
  induction d with
  | zero =>
    intro i j hd hij hj h1 h2
    have : i = j := by omega
    subst this
    exact Ev.succ (h0 i hj h1 h2)
  | succ d ih =>
    intro i j hd hij hj h1 h2
    by_cases hlt : i < j
    · refine Ev.succ (hp i j hlt hj v (fun hb => ?_) (fun hb => ?_))
      · exact ih _ _ (by omega) (by omega) hj (fun q hq => hm q _ (by omega) (by omega) hb) h2
      · refine ih _ _ (by omega) (by omega) (by omega) h1 (fun q hq hqn => ?_)
        cases hc : lt q with
        | false => rfl
        | true => exact absurd (hm _ q hq hqn hc) (by rw [hb]; decide)
    · have : i = j := by omega
      subst this
      exact Ev.succ (h0 i hj h1 h2)
/-- Numbers that ascend. -/
def Asc (l : List Int) : Prop := ∀ q r, q < r → r < l.length → l.getD q 0 < l.getD r 0
theorem Asc.of {l : List Int} (h : ∀ q, q + 1 < l.length → l.getD q 0 < l.getD (q + 1) 0) : Asc l := by
  intro q r hqr hr
  induction r with
  | zero => omega
  | succ r ih =>
    have h1 := h r hr
    by_cases hq : q = r
    · subst hq; exact h1
    · have := ih (by omega) (by omega); omega
theorem getD_of_mem {l : List Int} {x : Int} (h : x ∈ l) : ∃ q, q < l.length ∧ l.getD q 0 = x := by
  obtain ⟨q, hq, e⟩ := List.getElem_of_mem h
  exact ⟨q, hq, by rw [List.getD_eq_getElem?_getD, List.getElem?_eq_getElem hq]; exact e⟩
theorem getD_is {α : Type} {l : List α} {q : Nat} {d : α} (hq : q < l.length) : l.getD q d = l[q] := by
  rw [List.getD_eq_getElem?_getD, List.getElem?_eq_getElem hq]; rfl
theorem Asc.pw {l : List Int} (h : Asc l) : l.Pairwise (· < ·) :=
  List.pairwise_iff_getElem.2 fun i j hi hj hij => by have := h i j hij hj; rwa [getD_is hi, getD_is hj] at this
theorem Asc.of_pw {l : List Int} (h : l.Pairwise (· < ·)) : Asc l := fun q r hqr hr => by
  rw [getD_is (by omega), getD_is hr]; exact List.pairwise_iff_getElem.1 h q r (by omega) hr hqr
theorem mem_insB {l : List Int} {x y : Int} : y ∈ insB l x ↔ y = x ∨ y ∈ l := by
  induction l with
  | nil => simp [insB]
  | cons z l ih =>
    unfold insB
    split
    · simp
    · rw [List.mem_cons, ih, List.mem_cons]
      exact ⟨fun h => h.elim (fun h => .inr (.inl h)) (fun h => h.elim .inl (fun h => .inr (.inr h))), fun h => h.elim (fun h => .inr (.inl h)) (fun h => h.elim .inl (fun h => .inr (.inr h)))⟩
theorem mem_insL {l : List Int} {x y : Int} : y ∈ insL l x ↔ y = x ∨ y ∈ l := by
  unfold insL
  split
  · rename_i h
    rw [List.contains_iff_mem] at h
    exact ⟨.inr, fun h' => h'.elim (fun e => e ▸ h) id⟩
  · exact mem_insB
theorem insB_pw {l : List Int} {x : Int} (h : l.Pairwise (· < ·)) (hx : x ∉ l) : (insB l x).Pairwise (· < ·) := by
  induction l with
  | nil => simp [insB]
  | cons z l ih =>
    rw [List.pairwise_cons] at h
    unfold insB
    split
    · rename_i hz
      refine List.pairwise_cons.2 ⟨fun y hy => ?_, List.pairwise_cons.2 h⟩
      rcases List.mem_cons.1 hy with rfl | hy
      · exact hz
      · have := h.1 y hy; omega
    · rename_i hz
      have hne : x ≠ z := fun e => hx (e ▸ List.mem_cons_self)
      refine List.pairwise_cons.2 ⟨fun y hy => ?_, ih h.2 (fun h => hx (List.mem_cons_of_mem _ h))⟩
      rcases mem_insB.1 hy with rfl | hy
      · omega
      · exact h.1 y hy
theorem insL_pw {l : List Int} {x : Int} (h : l.Pairwise (· < ·)) : (insL l x).Pairwise (· < ·) := by
  unfold insL
  split
  · exact h
  · rename_i hc
    exact insB_pw h (fun hm => hc (List.contains_iff_mem.2 hm))
/-- A row whose first elements are told anew. -/
theorem map_get {α : Type} {F : α → α} {l : List α} {i : Nat} {d : α} (hi : i < l.length) : ((l.take i).map F ++ l.drop i).getD i d = l.getD i d := by
  have hl : ((l.take i).map F).length = i := by rw [List.length_map, List.length_take]; omega
  rw [List.getD_eq_getElem?_getD, List.getElem?_append_right (by omega), hl, Nat.sub_self, List.getElem?_drop, Nat.add_zero, ← List.getD_eq_getElem?_getD]
theorem map_step {α : Type} {F : α → α} {l : List α} {i : Nat} {d : α} (hi : i < l.length) : ((l.take i).map F ++ l.drop i).set i (F (l.getD i d)) = (l.take (i + 1)).map F ++ l.drop (i + 1) := by
  have hl : ((l.take i).map F).length = i := by rw [List.length_map, List.length_take]; omega
  have ht : l.take (i + 1) = l.take i ++ [l.getD i d] := by
    rw [List.take_add_one, List.getElem?_eq_getElem hi, getD_is hi]; rfl
  rw [List.set_append_right _ _ (by omega), hl, Nat.sub_self, drop_get (d := d) hi, ht, List.map_append, List.append_assoc]
  rfl
theorem map_len {α : Type} {F : α → α} {l : List α} {i : Nat} : ((l.take i).map F ++ l.drop i).length = l.length := by
  rw [List.length_append, List.length_map, List.length_take, List.length_drop]; omega
theorem has_one (x v : Int) : [x].contains v = decide (v = x) := by
  by_cases h : v = x <;> simp [h]
theorem filter_not {α : Type} (p : α → Bool) (l : List α) : (l.filter p).length + (l.filter fun v => !p v).length = l.length := by
  induction l with
  | nil => rfl
  | cons x l ih =>
    rw [List.filter_cons, List.filter_cons]
    cases p x <;> simp <;> omega
theorem set_getD_self {α : Type} {l : List α} {i : Nat} {d : α} (hi : i < l.length) : l.set i (l.getD i d) = l := by
  rw [getD_is hi]; exact List.set_getElem_self hi

noncomputable def better (a b : Entry) : Entry := if a.2.1 < b.2.1 then b else a
/-- An entry among entries: the better one at its place, else ahead of the first at a greater place. -/
noncomputable def keepL : List Entry → Entry → List Entry
  | [], e => [e]
  | y :: l, e => if y.1 = e.1 then better y e :: l else if e.1 < y.1 then e :: y :: l else y :: keepL l e
theorem keepL_len (l : List Entry) (e : Entry) : (keepL l e).length ≤ l.length + 1 := by
  induction l with
  | nil => exact Nat.le_refl _
  | cons y l ih =>
    unfold keepL
    split
    · simp
    · split
      · exact Nat.le_refl _
      · rw [List.length_cons, List.length_cons]; omega
theorem getD_cons_succ' {α : Type} {y d : α} {l : List α} {i : Nat} : (y :: l).getD (i + 1) d = l.getD i d := by simp
theorem keepL_ins {e : Entry} {d : Entry} : ∀ {l : List Entry} {i : Nat}, i ≤ l.length → (∀ q, q < i → (l.getD q d).1 < e.1) → (i < l.length → e.1 < (l.getD i d).1) → l.take i ++ [e] ++ l.drop i = keepL l e := by
  intro l
  induction l with
  | nil => intro i hi _ _; have : i = 0 := by simpa using hi
           subst this; rfl
  | cons y l ih =>
    intro i hi h1 h2
    cases i with
    | zero =>
      have h : e.1 < y.1 := h2 (Nat.zero_lt_succ _)
      have hn : ¬ y.1 = e.1 := by omega
      unfold keepL; rw [if_neg hn, if_pos h]; rfl
    | succ i =>
      have h : y.1 < e.1 := h1 0 (Nat.zero_lt_succ _)
      have hn : ¬ y.1 = e.1 := by omega
      have hn2 : ¬ e.1 < y.1 := by omega
      unfold keepL; rw [if_neg hn, if_neg hn2]
      show y :: (l.take i ++ [e] ++ l.drop i) = _
      rw [ih (by simpa using hi) (fun q hq => by have := h1 (q + 1) (by omega); rwa [getD_cons_succ'] at this) (fun h => by have := h2 (by simp; omega); rwa [getD_cons_succ'] at this)]
theorem keepL_set {e : Entry} {d : Entry} : ∀ {l : List Entry} {i : Nat}, i < l.length → (∀ q, q < i → (l.getD q d).1 < e.1) → (l.getD i d).1 = e.1 → l.set i (better (l.getD i d) e) = keepL l e := by
  intro l
  induction l with
  | nil => intro i hi; exact absurd hi (Nat.not_lt_zero _)
  | cons y l ih =>
    intro i hi h1 h2
    cases i with
    | zero =>
      have h : y.1 = e.1 := h2
      unfold keepL; rw [if_pos h]; rfl
    | succ i =>
      have h : y.1 < e.1 := h1 0 (Nat.zero_lt_succ _)
      have hn : ¬ y.1 = e.1 := by omega
      have hn2 : ¬ e.1 < y.1 := by omega
      rw [getD_cons_succ'] at h2
      unfold keepL; rw [if_neg hn, if_neg hn2, List.set_cons_succ, getD_cons_succ']
      rw [ih (by simpa using hi) (fun q hq => by have := h1 (q + 1) (by omega); rwa [getD_cons_succ'] at this) h2]
noncomputable def zEnt : Entry := ((0 : Int), ((0 : Int), (false, ((⟨#[]⟩ : ByteArray), ()))))
noncomputable def ascE (l : List Entry) : Bool := (List.range' 0 l.length).all fun i => !(decide (0 < i) && decide ((l.getD i zEnt).1 ≤ (l.getD (i - 1) zEnt).1))
/-- Rows of entries whose places are numbers of 64 bits. -/
def EG (n : Nat) (l : List Entry) : Prop := l.length ≤ n ∧ ∀ e ∈ l, InR e.1
theorem EG.at {n : Nat} {l : List Entry} (h : EG n l) : ∀ i, i < l.length → InR (l.getD i zEnt).1 := fun i hi => h.2 _ (getD_mem hi)
theorem EG.get {n : Nat} {l : List Entry} (h : EG n l) (i : Nat) : InR (l.getD i zEnt).1 := by
  by_cases hi : i < l.length
  · exact h.at i hi
  · rw [List.getD_eq_getElem?_getD, List.getElem?_eq_none (by omega)]; show InR (0 : Int); unfold InR; decide
theorem EG.nil {n : Nat} : EG n [] := ⟨Nat.zero_le _, fun e he => by cases he⟩
theorem EG.mono {n m : Nat} {l : List Entry} (h : EG n l) (hm : n ≤ m) : EG m l := ⟨by have := h.1; omega, h.2⟩
theorem EG.app {n : Nat} {l : List Entry} {e : Entry} (h : EG n l) (he : InR e.1) : EG (n + 1) (l ++ [e]) := by
  refine ⟨by have := h.1; simp; omega, fun x hx => ?_⟩
  rcases List.mem_append.1 hx with h' | h'
  · exact h.2 x h'
  · rw [List.mem_singleton] at h'; subst h'; exact he
/-- Entries whose places ascend. -/
def AscE (l : List Entry) : Prop := ∀ q r, q < r → r < l.length → (l.getD q ((0 : Int), ((0 : Int), (false, ((⟨#[]⟩ : ByteArray), ()))))).1 < (l.getD r ((0 : Int), ((0 : Int), (false, ((⟨#[]⟩ : ByteArray), ()))))).1
theorem AscE.of {l : List Entry} (h : ∀ q, q + 1 < l.length → (l.getD q ((0 : Int), ((0 : Int), (false, ((⟨#[]⟩ : ByteArray), ()))))).1 < (l.getD (q + 1) ((0 : Int), ((0 : Int), (false, ((⟨#[]⟩ : ByteArray), ()))))).1) : AscE l := by
  intro q r hqr hr
  induction r with
  | zero => omega
  | succ r ih =>
    have h1 := h r hr
    by_cases hq : q = r
    · subst hq; exact h1
    · have := ih (by omega) (by omega); omega
theorem AscE.pw {l : List Entry} (h : AscE l) : l.Pairwise (fun a b => a.1 < b.1) :=
  List.pairwise_iff_getElem.2 fun i j hi hj hij => by have := h i j hij hj; rwa [getD_is hi, getD_is hj] at this
theorem AscE.of_pw {l : List Entry} (h : l.Pairwise (fun a b => a.1 < b.1)) : AscE l := fun q r hqr hr => by
  rw [getD_is (by omega), getD_is hr]; exact List.pairwise_iff_getElem.1 h q r (by omega) hr hqr
theorem ascE_Asc {l : List Entry} (h : ascE l = true) : AscE l := AscE.of fun q hq => by
  simp only [ascE, List.all_eq_true, List.mem_range'_1] at h
  have := h (q + 1) (by omega)
  simp only [Nat.add_sub_cancel, Bool.not_eq_true', Bool.and_eq_false_iff, decide_eq_false_iff_not] at this
  rcases this with h | h
  · omega
  · unfold zEnt at h; omega
theorem Asc_ascE {l : List Entry} (h : AscE l) : ascE l = true := by
  simp only [ascE, List.all_eq_true, List.mem_range'_1]
  intro i hi
  simp only [Bool.not_eq_true', Bool.and_eq_false_iff, decide_eq_false_iff_not]
  by_cases h0 : 0 < i
  · refine .inr ?_
    have := h (i - 1) i (by omega) (by omega)
    unfold zEnt; omega
  · exact .inl h0
theorem better_at {a b : Entry} (h : a.1 = b.1) : (better a b).1 = a.1 := by unfold better; split <;> simp [h]
theorem better_or (a b : Entry) : better a b = a ∨ better a b = b := by unfold better; split <;> simp
theorem keepL_at {l : List Entry} {e z : Entry} (h : z ∈ keepL l e) : z.1 = e.1 ∨ ∃ y ∈ l, y.1 = z.1 := by
  induction l with
  | nil => simp [keepL] at h; subst h; exact .inl rfl
  | cons y l ih =>
    unfold keepL at h
    split at h
    · rename_i hy
      rcases List.mem_cons.1 h with rfl | h
      · exact .inl ((better_at hy).trans hy)
      · exact .inr ⟨z, List.mem_cons_of_mem _ h, rfl⟩
    · split at h
      · rcases List.mem_cons.1 h with rfl | h
        · exact .inl rfl
        · exact .inr ⟨z, h, rfl⟩
      · rcases List.mem_cons.1 h with rfl | h
        · exact .inr ⟨z, List.mem_cons_self, rfl⟩
        · rcases ih h with h | ⟨y', h1, h2⟩
          · exact .inl h
          · exact .inr ⟨y', List.mem_cons_of_mem _ h1, h2⟩
theorem keepL_mem {l : List Entry} {e z : Entry} (h : z ∈ keepL l e) : z = e ∨ z ∈ l := by
  induction l with
  | nil => simp [keepL] at h; exact .inl h
  | cons y l ih =>
    unfold keepL at h
    split at h
    · rcases List.mem_cons.1 h with rfl | h
      · rcases better_or y e with h | h
        · exact .inr (by rw [h]; exact List.mem_cons_self)
        · exact .inl h
      · exact .inr (List.mem_cons_of_mem _ h)
    · split at h
      · rcases List.mem_cons.1 h with rfl | h
        · exact .inl rfl
        · exact .inr h
      · rcases List.mem_cons.1 h with rfl | h
        · exact .inr List.mem_cons_self
        · exact (ih h).imp id (List.mem_cons_of_mem _)
theorem keepL_pw {l : List Entry} {e : Entry} (h : l.Pairwise (fun a b => a.1 < b.1)) : (keepL l e).Pairwise (fun a b => a.1 < b.1) := by
  induction l with
  | nil => simp [keepL]
  | cons y l ih =>
    rw [List.pairwise_cons] at h
    unfold keepL
    split
    · rename_i hy
      exact List.pairwise_cons.2 ⟨fun z hz => by rw [better_at hy]; exact h.1 z hz, h.2⟩
    · rename_i hy
      split
      · rename_i hlt
        refine List.pairwise_cons.2 ⟨fun z hz => ?_, List.pairwise_cons.2 h⟩
        rcases List.mem_cons.1 hz with rfl | hz
        · exact hlt
        · have := h.1 z hz; omega
      · rename_i hlt
        refine List.pairwise_cons.2 ⟨fun z hz => ?_, ih h.2⟩
        rcases keepL_at hz with hz | ⟨u, h1, h2⟩
        · omega
        · have := h.1 u h1; omega
theorem AscE.keep {l : List Entry} {e : Entry} (h : AscE l) : AscE (keepL l e) := AscE.of_pw (keepL_pw h.pw)
theorem EG.keep {n : Nat} {l : List Entry} {e : Entry} (h : EG n l) (he : InR e.1) : EG (n + 1) (keepL l e) :=
  ⟨by have := keepL_len l e; have := h.1; omega, fun z hz => by
    rcases keepL_mem hz with rfl | hz
    · exact he
    · exact h.2 z hz⟩
theorem ents_small {l : List Entry} (h : Gd (.sl tEntry) l) : EG l.length l := ⟨Nat.le_refl _, fun e he => InR_of (h.2 e he).1⟩
theorem cnt_len {t : Ty} (xs : (Ty.sl t).den) : List.length xs ≤ cnt (.sl t) xs := by
  show List.length xs ≤ List.length xs + _
  omega
theorem ents_cnt (l : List Entry) : cnt (.sl tEntry) l = l.length + (l.map fun x => cnt tEntry x).sum := rfl
theorem keepL_cnt (l : List Entry) (e : Entry) : cnt (.sl tEntry) (keepL l e) ≤ cnt (.sl tEntry) l + cnt tEntry e + 1 := by
  rw [ents_cnt, ents_cnt]
  induction l with
  | nil => simp [keepL]; omega
  | cons y l ih =>
    unfold keepL
    split
    · have : cnt tEntry (better y e) ≤ cnt tEntry y + cnt tEntry e := by
        rcases better_or y e with h | h <;> rw [h] <;> omega
      simp only [List.length_cons, List.map_cons, List.sum_cons]; omega
    · split
      · simp only [List.length_cons, List.map_cons, List.sum_cons]; omega
      · simp only [List.length_cons, List.map_cons, List.sum_cons]; omega
/-- The entry of a place. -/
noncomputable def getF : List Entry → Int → Entry × Bool
  | [], _ => (((0 : Int), ((0 : Int), (false, ((⟨#[]⟩ : ByteArray), ())))), false)
  | y :: l, x => if y.1 = x then (y, true) else getF l x
theorem getF_none {x : Int} : ∀ {l : List Entry}, (∀ y ∈ l, ¬ y.1 = x) → getF l x = (((0 : Int), ((0 : Int), (false, ((⟨#[]⟩ : ByteArray), ())))), false) := by
  intro l
  induction l with
  | nil => intro _; rfl
  | cons y l ih =>
    intro h
    unfold getF
    rw [if_neg (h y List.mem_cons_self)]
    exact ih fun z hz => h z (List.mem_cons_of_mem _ hz)
theorem getF_some {x : Int} : ∀ {l : List Entry} {i : Nat}, i < l.length → (∀ q, q < i → ¬ (l.getD q zEnt).1 = x) → (l.getD i zEnt).1 = x → getF l x = (l.getD i zEnt, true) := by
  intro l
  induction l with
  | nil => intro i h; exact absurd h (Nat.not_lt_zero _)
  | cons y l ih =>
    intro i hi h1 h2
    unfold getF
    cases i with
    | zero =>
      have h2' : y.1 = x := h2
      rw [if_pos h2']; rfl
    | succ i =>
      have h0 : ¬ y.1 = x := h1 0 (Nat.zero_lt_succ _)
      rw [if_neg h0, getD_cons_succ']
      rw [getD_cons_succ'] at h2
      exact ih (by simpa using hi) (fun q hq => by have := h1 (q + 1) (by omega); rwa [getD_cons_succ'] at this) h2
theorem getF_true {x : Int} {l : List Entry} {e : Entry} (h : getF l x = (e, true)) : e ∈ l ∧ e.1 = x := by
  induction l with
  | nil => simp [getF] at h
  | cons y l ih =>
    unfold getF at h
    split at h
    · rename_i hy
      have : y = e := congrArg Prod.fst h
      subst this
      exact ⟨List.mem_cons_self, hy⟩
    · exact ⟨List.mem_cons_of_mem _ (ih h).1, (ih h).2⟩

def SG (n m : Nat) (s : Store) : Prop := EG n s.1 ∧ EG m s.2.1 ∧ InR s.2.2.1
theorem SG.zero {n m : Nat} : SG n m (([] : List Entry), (([] : List Entry), ((0 : Int), ()))) := ⟨EG.nil, EG.nil, by show InR (0 : Int); unfold InR; decide⟩
noncomputable def keepsL (s l : List Entry) : List Entry := l.foldl keepL s
theorem keepsL_len : ∀ (l s : List Entry), (keepsL s l).length ≤ s.length + l.length := by
  intro l
  induction l with
  | nil => intro s; exact Nat.le_refl _
  | cons e l ih => intro s; have := ih (keepL s e); have := keepL_len s e; show (keepsL (keepL s e) l).length ≤ _; simp only [List.length_cons]; omega
theorem keepsL_asc : ∀ (l s : List Entry), AscE s → AscE (keepsL s l) := by
  intro l
  induction l with
  | nil => intro s h; exact h
  | cons e l ih => intro s h; exact ih _ h.keep
noncomputable def unionL (s : List Entry) (l : List Store) : List Entry := l.foldl (fun s t => keepsL s t.1) s
def ktS (l : List Store) : Nat := (l.map fun s => s.1.length).sum
/-- Stores whose places are numbers of 64 bits. -/
def StG (l : List Store) : Prop := l.length ≤ 1048576 ∧ ∀ s ∈ l, EG 1048576 s.1 ∧ EG 1048576 s.2.1 ∧ InR s.2.2.1
noncomputable def zSto : Store := (([] : List Entry), (([] : List Entry), ((0 : Int), ())))
theorem ktS_cons (s : Store) (l : List Store) : ktS (s :: l) = s.1.length + ktS l := by simp [ktS]
theorem unionL_asc : ∀ (l : List Store) (s : List Entry), AscE s → AscE (unionL s l) := by
  intro l
  induction l with
  | nil => intro s h; exact h
  | cons t l ih => intro s h; exact ih _ (keepsL_asc _ _ h)
theorem unionL_len : ∀ (l : List Store) (s : List Entry), (unionL s l).length ≤ s.length + ktS l := by
  intro l
  induction l with
  | nil => intro s; exact Nat.le_add_right _ _
  | cons t l ih => intro s; have := ih (keepsL s t.1); have := keepsL_len t.1 s; rw [ktS_cons]; show (unionL (keepsL s t.1) l).length ≤ _; omega
/-- The stores of those that are not lost. -/
noncomputable def othersL (lost : List Int) : Nat → List Store → List Store
  | _, [] => []
  | i, s :: l => if lost.contains (i : Int) = true then othersL lost (i + 1) l else s :: othersL lost (i + 1) l
theorem othersL_cons {lost : List Int} {i : Nat} {s : Store} {l : List Store} : othersL lost i (s :: l) = if lost.contains (i : Int) = true then othersL lost (i + 1) l else s :: othersL lost (i + 1) l := rfl
theorem othersL_mem {lost : List Int} {x : Store} : ∀ {l : List Store} {i : Nat}, x ∈ othersL lost i l → x ∈ l := by
  intro l
  induction l with
  | nil => intro i h; exact h
  | cons s l ih =>
    intro i h
    unfold othersL at h
    split at h
    · exact List.mem_cons_of_mem _ (ih h)
    · rcases List.mem_cons.1 h with rfl | h
      · exact List.mem_cons_self
      · exact List.mem_cons_of_mem _ (ih h)
theorem othersL_len {lost : List Int} : ∀ {l : List Store} {i : Nat}, (othersL lost i l).length ≤ l.length ∧ ktS (othersL lost i l) ≤ ktS l := by
  intro l
  induction l with
  | nil => intro i; exact ⟨Nat.le_refl _, Nat.le_refl _⟩
  | cons s l ih =>
    intro i
    have h1 := (ih (i := i + 1)).1
    have h2 := (ih (i := i + 1)).2
    unfold othersL
    split
    · rw [ktS_cons, List.length_cons]; omega
    · rw [ktS_cons, ktS_cons, List.length_cons, List.length_cons]; omega
theorem StG.others {lost : List Int} {l : List Store} (h : StG l) (i : Nat) : StG (othersL lost i l) := ⟨Nat.le_trans othersL_len.1 h.1, fun s hs => h.2 s (othersL_mem hs)⟩

def MG (s n h w : Nat) (m : Mend) : Prop := m.2.2.1.length ≤ s ∧ EG n m.2.2.2.1 ∧ (m.2.2.2.2.2.1.length ≤ h ∧ ∀ l ∈ m.2.2.2.2.2.1, l.length ≤ w) ∧ InR m.1 ∧ InR m.2.1
theorem MG.mono {s n h w s' n' h' w' : Nat} {m : Mend} (g : MG s n h w m) (h1 : s ≤ s') (h2 : n ≤ n') (h3 : h ≤ h') (h4 : w ≤ w') : MG s' n' h' w' m :=
  ⟨by have := g.1; omega, g.2.1.mono h2, ⟨by have := g.2.2.1.1; omega, fun l hl => by have := g.2.2.1.2 l hl; omega⟩, g.2.2.2⟩
theorem MG.get {s n h w : Nat} {m : Mend} (g : MG s n h w m) (i : Nat) : (m.2.2.2.2.2.1.getD i []).length ≤ w := by
  by_cases hi : i < m.2.2.2.2.2.1.length
  · exact g.2.2.1.2 _ (getD_mem hi)
  · rw [List.getD_eq_getElem?_getD, List.getElem?_eq_none (by omega)]; exact Nat.zero_le _
theorem mend_small {m : Mend} (h : Gd tMend m) (hc : cnt tMend m ≤ 1048576) : MG m.2.2.1.length m.2.2.2.1.length m.2.2.2.2.2.1.length 1048576 m := by
  have hc : 0 + (0 + (cnt (.sl (.int .i64)) m.2.2.1 + (cnt (.sl tEntry) m.2.2.2.1 + (0 + (cnt (.sl (.sl (.int .i64))) m.2.2.2.2.2.1 + 0))))) ≤ 1048576 := hc
  refine ⟨Nat.le_refl _, ents_small h.2.2.2.1, ⟨Nat.le_refl _, fun l hl => ?_⟩, InR_of h.1, InR_of h.2.1⟩
  have hw : cnt (.sl (.sl (.int .i64))) m.2.2.2.2.2.1 = m.2.2.2.2.2.1.length + (m.2.2.2.2.2.1.map fun x => cnt (.sl (.int .i64)) x).sum := rfl
  have := sum_mem (f := fun x => cnt (.sl (.int .i64)) x) hl
  have h2 : cnt (.sl (.int .i64)) l = l.length := cnt_ints l
  have this : cnt (.sl (.int .i64)) l ≤ (m.2.2.2.2.2.1.map fun x => cnt (.sl (.int .i64)) x).sum := this
  omega
theorem mend_cnt (m : Mend) : cnt tMend m = m.2.2.1.length + (cnt (.sl tEntry) m.2.2.2.1 + cnt (.sl (.sl (.int .i64))) m.2.2.2.2.2.1) := by
  show 0 + (0 + (cnt (.sl (.int .i64)) m.2.2.1 + (cnt (.sl tEntry) m.2.2.2.1 + (0 + (cnt (.sl (.sl (.int .i64))) m.2.2.2.2.2.1 + 0))))) = _
  rw [cnt_ints]; omega

/-- A cursor over bytes: where it stands. -/
def Cu (c : l1Cur) : Prop := c.1.length ≤ 1048576 ∧ 0 ≤ c.2.1
theorem spec_l1New_l (b : List Int) (hb : b.length ≤ 1048576) : ∀ (m i : Nat) (h : Int), i + m = b.length → Evp (fun k => spec_l1New.p7 k b h (i : Int)) Cu := by
  intro m
  induction m with
  | zero =>
    intro i h hi
    refine Evp.succ ?_
    simp only [spec_l1New.p7]
    exact Evp.neg (by omega) (Evp.ret ⟨hb, Int.le_refl _⟩)
  | succ m ih =>
    intro i h hi
    refine Evp.succ ?_
    simp only [spec_l1New.p7]
    refine Evp.pos (by omega) (Evp.ite (fun _ => Evp.pos (by omega) ?_) (fun _ => Evp.ret ⟨hb, Int.le_refl _⟩))
    rw [wrap_up (i := i) (n := b.length) (by omega) (by omega)]
    exact ih (i + 1) _ (by omega)
theorem spec_l1New_d (b : List Int) (hb : b.length ≤ 1048576) : Evp (fun k => spec_l1New.f k b) Cu := spec_l1New_l b hb b.length 0 _ (by omega)

theorem and255 (x : Int) : 0 ≤ andK .i64 x 255 ∧ andK .i64 x 255 ≤ 255 := by
  have e : andK .i64 x 255 = wrap64 (((BitVec.ofInt 64 x &&& BitVec.ofInt 64 255).toNat : Nat) : Int) := rfl
  have h : (BitVec.ofInt 64 x &&& BitVec.ofInt 64 255).toNat ≤ 255 := by
    rw [BitVec.toNat_and]
    exact Nat.le_trans Nat.and_le_right (by decide)
  rw [e, wrap64_id (by omega) (by omega)]
  omega
theorem spec_l1Byte_d (c : l1Cur) (h : Cu c) : Op (spec_l1Byte.f c) (fun r => 0 ≤ r.1 ∧ r.1 ≤ 255 ∧ Cu r.2) := by
  obtain ⟨h1, h2⟩ := h
  unfold spec_l1Byte.f
  refine Op.ite (fun hl => Op.pos ⟨h2, hl⟩ (Op.ret ⟨(and255 _).1, (and255 _).2, h1, ?_⟩)) (fun hl => Op.ret ⟨(and255 _).1, (and255 _).2, h1, h2⟩)
  show (0 : Int) ≤ wrap64 (c.2.1 + 1)
  rw [wrap64_id (by omega) (by omega)]; omega

theorem spec_l1Below_d (c : l1Cur) (n : Int) (h : Cu c) : Op (spec_l1Below.f c n) (fun r => 0 ≤ r.1 ∧ (0 < n → r.1 < n) ∧ (n ≤ 0 → r.1 = 0) ∧ Cu r.2) := by
  unfold spec_l1Below.f
  refine Op.ite (fun h0 => Op.ret ⟨by show (0 : Int) ≤ 0; omega, fun h1 => by omega, fun _ => rfl, h⟩) (fun h0 => Op.ite (fun h1 => Op.bind (spec_l1Byte_d c h) fun r hr => ?_) (fun h1 => ?_))
  · refine Op.neg (by omega) (Op.ret ?_)
    show 0 ≤ Int.tmod r.1 n ∧ (0 < n → Int.tmod r.1 n < n) ∧ (n ≤ 0 → Int.tmod r.1 n = 0) ∧ Cu r.2
    rw [Int.tmod_eq_emod_of_nonneg hr.1]
    exact ⟨Int.emod_nonneg _ (by omega), fun _ => Int.emod_lt_of_pos _ (by omega), fun _ => by omega, hr.2.2⟩
  · refine Op.bind (spec_l1Byte_d c h) fun r hr => Op.bind (spec_l1Byte_d _ hr.2.2) fun s hs => Op.bind (spec_l1Byte_d _ hs.2.2) fun t ht => Op.bind (spec_l1Byte_d _ ht.2.2) fun u hu => Op.neg (by omega) (Op.ret ?_)
    obtain ⟨a1, a2, _⟩ := hr
    obtain ⟨b1, b2, _⟩ := hs
    obtain ⟨c1, c2, _⟩ := ht
    obtain ⟨d1, d2, d3⟩ := hu
    rw [wrap64_id (x := r.1 * 16777216) (by omega) (by omega), wrap64_id (x := s.1 * 65536) (by omega) (by omega), wrap64_id (x := r.1 * 16777216 + s.1 * 65536) (by omega) (by omega), wrap64_id (x := t.1 * 256) (by omega) (by omega), wrap64_id (x := r.1 * 16777216 + s.1 * 65536 + t.1 * 256) (by omega) (by omega), wrap64_id (x := r.1 * 16777216 + s.1 * 65536 + t.1 * 256 + u.1) (by omega) (by omega)]
    have hz : (0 : Int) ≤ r.1 * 16777216 + s.1 * 65536 + t.1 * 256 + u.1 := by omega
    show 0 ≤ Int.tmod _ n ∧ (0 < n → Int.tmod _ n < n) ∧ (n ≤ 0 → Int.tmod _ n = 0) ∧ Cu u.2
    rw [Int.tmod_eq_emod_of_nonneg hz]
    exact ⟨Int.emod_nonneg _ (by omega), fun _ => Int.emod_lt_of_pos _ (by omega), fun _ => by omega, d3⟩

theorem spec_l1Once_d (c : l1Cur) (n : Int) (h : Cu c) : Op (spec_l1Once.f c n) (fun r => Cu r.2) := by
  unfold spec_l1Once.f
  exact Op.bind (spec_l1Below_d c n h) fun r hr => Op.ret hr.2.2.2

theorem spec_l4DrawRight_l (n : Int) (h3 : 0 ≤ n) (hn : n ≤ 8) (z : Config) : ∀ (m i : Nat) (a : Config) (c : l1Cur), (i : Int) + m = n → a.1.length = i → (∀ x ∈ a.1, 0 ≤ x ∧ x ≤ 4) → Cu c →
    Evp (fun k => spec_l4DrawRight.p9 k n (i : Int) z a c) (fun r => (r.1.1.length : Int) = n ∧ (∀ x ∈ r.1.1, 0 ≤ x ∧ x ≤ 4) ∧ (r.1.2.1 = a.2.1 ∨ r.1.2.1 = 2) ∧ Cu r.2) := by
  intro m
  induction m with
  | zero =>
    intro i a c hi ha hx hc
    refine Evp.succ ?_
    simp only [spec_l4DrawRight.p9]
    refine Evp.neg (by omega) (Evp.bindc (spec_l1Once_d c 2 hc) fun r hr => Evp.ite (fun _ => Evp.ret ⟨by show (a.1.length : Int) = n; omega, hx, .inr rfl, hr⟩) (fun _ => Evp.ret ⟨by show (a.1.length : Int) = n; omega, hx, .inl rfl, hr⟩))
  | succ m ih =>
    intro i a c hi ha hx hc
    refine Evp.succ ?_
    simp only [spec_l4DrawRight.p9]
    refine Evp.pos (by omega) (Evp.bindc (spec_l1Below_d c 5 hc) fun r hr => Evp.pos (by simp only [lim_eq, List.length_cons, List.length_nil]; omega) ?_)
    rw [wrap_up (i := i) (n := 8) (by omega) (by omega)]
    exact ih (i + 1) (a.1 ++ [r.1], a.2) r.2 (by omega) (by show (a.1 ++ [r.1]).length = i + 1; simp [ha]) (fun x hm => by
      rcases List.mem_append.1 hm with h | h
      · exact hx x h
      · rw [List.mem_singleton] at h; subst h; have := hr.2.1 (by omega); exact ⟨hr.1, by omega⟩) hr.2.2.2
theorem spec_l4DrawRight_d (c : l1Cur) (h : Cu c) : Evp (fun k => spec_l4DrawRight.f k c) (fun r => 3 ≤ r.1.1.length ∧ r.1.1.length ≤ 8 ∧ (∀ x ∈ r.1.1, 0 ≤ x ∧ x ≤ 4) ∧ 1 ≤ r.1.2.1 ∧ r.1.2.1 ≤ 3 ∧ Cu r.2) := by
  simp only [spec_l4DrawRight.f]
  refine Evp.bindc (spec_l1Below_d c 3 h) fun r hr => Evp.bindc (spec_l1Below_d _ 5 hr.2.2.2) fun s hs => ?_
  have h1 := hr.2.1 (by omega)
  have h2 := hs.2.1 (by omega)
  have h0 := hr.1
  have h0' := hs.1
  rw [wrap64_id (x := 3 + s.1) (by omega) (by omega), wrap64_id (x := 1 + r.1) (by omega) (by omega)]
  refine (spec_l4DrawRight_l (3 + s.1) (by omega) (by omega) _ (3 + s.1).toNat 0 _ _ (by omega) rfl (fun x hx => by cases hx) hs.2.2.2).mono fun q hq => ?_
  obtain ⟨q1, q2, q3, q4⟩ := hq
  have q3 : q.1.2.1 = 1 + r.1 ∨ q.1.2.1 = 2 := q3
  exact ⟨by omega, by omega, q2, by omega, by omega, q4⟩

theorem InR_wrap (x : Int) : InR (wrap64 x) := by
  have h : wrap64 x = (if (true && decide (x % 2 ^ 64 ≥ 2 ^ (64 - 1))) = true then x % 2 ^ 64 - 2 ^ 64 else x % 2 ^ 64) := rfl
  rw [h]
  have h1 : 0 ≤ x % 2 ^ 64 := Int.emod_nonneg _ (by decide)
  have h2 : x % 2 ^ 64 < 2 ^ 64 := Int.emod_lt_of_pos _ (by decide)
  unfold InR
  split
  · rename_i h; simp at h; omega
  · rename_i h; simp at h; omega
theorem spec_l1Place_is (a b : Int) : Op (spec_l1Place.f a b) InR := ⟨_, rfl, InR_wrap _⟩

theorem spec_l1Pick_d (c : l1Cur) (l : List ByteArray) (h : Cu c) (hl : 0 < l.length) : Op (spec_l1Pick.f c l) (fun r => Cu r.2) := by
  unfold spec_l1Pick.f
  refine Op.bind (spec_l1Below_d c _ h) fun r hr => ?_
  have h1 := hr.2.1 (by omega)
  exact Op.pos ⟨hr.1, h1⟩ (Op.ret hr.2.2.2)

theorem spec_l1In_is (x a b : Int) : spec_l1In.f x a b = some (inB x a b) := ite_inB x a b

/-- A place: its epoch, its offset. -/
def placeOk (x : Int) : Bool := decide (0 < x) && (inB (x / 4294967296) 1 30 && inB (x % 4294967296) 1 60)
def epochOf (x : Int) : Int := if placeOk x = true then x / 4294967296 else 0
def offOf (x : Int) : Int := if placeOk x = true then x % 4294967296 else 0
theorem tdiv_pos {x : Int} (h : 0 ≤ x) : Int.tdiv x 4294967296 = x / 4294967296 := Int.tdiv_eq_ediv_of_nonneg h
theorem tmod_pos {x : Int} (h : 0 ≤ x) : Int.tmod x 4294967296 = x % 4294967296 := Int.tmod_eq_emod_of_nonneg h
theorem tdiv_neg' {x : Int} (h : x ≤ 0) : Int.tdiv x 4294967296 = -((-x) / 4294967296) := by
  have h1 : Int.tdiv (-x) 4294967296 = (-x) / 4294967296 := Int.tdiv_eq_ediv_of_nonneg (by omega)
  have h2 := Int.neg_tdiv (-x) 4294967296
  rw [Int.neg_neg] at h2
  rw [h2, h1]
theorem placeOk_pos {x : Int} (h : placeOk x = true) : 0 < x ∧ (1 ≤ x / 4294967296 ∧ x / 4294967296 ≤ 30) ∧ (1 ≤ x % 4294967296 ∧ x % 4294967296 ≤ 60) := by
  simpa only [placeOk, Bool.and_eq_true, inB_true, decide_eq_true_eq] using h
theorem epochOf_pos {x : Int} (h : placeOk x = true) : epochOf x = x / 4294967296 ∧ 1 ≤ epochOf x ∧ epochOf x ≤ 30 := by
  have h' := placeOk_pos h
  unfold epochOf
  rw [if_pos h]
  omega
theorem spec_PlaceOk_is (x : Int) (hx : InR x) : spec_PlaceOk.f x = some (placeOk x) := by
  have h2 := hx.2
  simp only [spec_PlaceOk.f, placeOk, spec_l1In_is]
  by_cases h : 0 < x
  · rw [if_pos h, tdiv_pos (by omega), tmod_pos (by omega), wrap64_id (by omega) (by omega)]
    cases inB (x / 4294967296) 1 30 <;> simp [h]
  · rw [if_neg h]
    simp [h]

theorem spec_EpochOf_is (x : Int) (hx : InR x) : spec_EpochOf.f x = some (epochOf x) := by
  have h2 := hx.2
  simp only [spec_EpochOf.f, spec_PlaceOk_is x hx, Option.bind_some, epochOf]
  by_cases h : placeOk x = true
  · have := placeOk_pos h
    rw [if_pos h, if_pos h, tdiv_pos (by omega), wrap64_id (by omega) (by omega)]
  · rw [if_neg h, if_neg h]

theorem spec_l3DrawRight_d (c : l1Cur) (h : Cu c) : Op (spec_l3DrawRight.f c) (fun r => InR r.1.1 ∧ Cu r.2) := by
  unfold spec_l3DrawRight.f
  refine Op.bind (spec_l1Below_d c 3 h) fun r hr => Op.bind (spec_l1Below_d _ 6 hr.2.2.2) fun s hs => Op.bind (spec_l1Place_is _ _) fun p hp => Op.bind (spec_l1Pick_d _ _ hs.2.2.2 (by decide)) fun t ht => Op.bind (spec_l1Once_d _ 3 ht) fun u hu => ?_
  refine Op.ite (fun _ => Op.bind (P := fun _ => True) ⟨_, spec_EpochOf_is p hp, trivial⟩ fun e _ => Op.bind (spec_l1Below_d _ 3 hu) fun v hv => Op.bind (spec_l1Once_d _ 2 hv.2.2.2) fun w hw => Op.ite (fun _ => Op.ret ⟨hp, hw⟩) (fun _ => Op.ret ⟨hp, hw⟩)) (fun _ => Op.ret ⟨hp, hu⟩)

/-- An entry that is right. -/
noncomputable def entB (e : Entry) : Bool := placeOk e.1 && (inB e.2.1 0 30 && (!(decide (0 < e.2.1) && decide (e.2.1 ≤ epochOf e.1)) && (decide (((e.2.2.2.1.size : Nat) : Int) ≤ 40) && (!e.2.2.1 || (decide (0 < e.2.1) && decide (e.2.2.2.1 = (⟨#[]⟩ : ByteArray)))))))
theorem spec_EntryOk_ev (e : Entry) (ha : InR e.1) : Ev (fun k => spec_EntryOk.f k e) (entB e) := by
  have tail : Ev (fun k => spec_EntryOk.p6 k e) (!e.2.2.1 || (decide (0 < e.2.1) && decide (e.2.2.2.1 = (⟨#[]⟩ : ByteArray)))) := by
    refine Ev.succ ?_
    simp only [spec_EntryOk.p6]
    cases hc : e.2.2.1 with
    | true => exact Ev.pos rfl (Ev.andc fun _ => Ev.ret)
    | false => exact Ev.neg (by decide) Ev.ret
  have tail2 : Ev (fun k => if (40 : Int) < ((e.2.2.2.1.size : Nat) : Int) then some false else spec_EntryOk.p6 k e) (decide (((e.2.2.2.1.size : Nat) : Int) ≤ 40) && (!e.2.2.1 || (decide (0 < e.2.1) && decide (e.2.2.2.1 = (⟨#[]⟩ : ByteArray))))) :=
    (Ev.nand fun _ => tail).eq (by
      by_cases h : (40 : Int) < ((e.2.2.2.1.size : Nat) : Int)
      · rw [decide_eq_true h, decide_eq_false (show ¬ ((e.2.2.2.1.size : Nat) : Int) ≤ 40 by omega)]; rfl
      · rw [decide_eq_false h, decide_eq_true (show ((e.2.2.2.1.size : Nat) : Int) ≤ 40 by omega)]; rfl)
  simp only [spec_EntryOk.f, spec_PlaceOk_is _ ha, spec_EpochOf_is _ ha, spec_l1In_is, Option.bind_some, entB]
  refine Ev.and fun _ => Ev.and fun _ => ?_
  by_cases h0 : (0 : Int) < e.2.1
  · refine (Ev.pos h0 (Ev.nand fun _ => tail2)).eq ?_
    simp only [decide_eq_true h0, Bool.true_and]
  · rw [show (decide ((0 : Int) < e.2.1) && decide (e.2.1 ≤ epochOf e.1)) = false by rw [decide_eq_false h0]; rfl, Bool.not_false, Bool.true_and]
    exact Ev.neg h0 tail2

noncomputable def entsB (l : List Entry) : Bool := (List.range' 0 l.length).all fun i => entB (l.getD i zEnt)
theorem spec_l6List_ev (l : List Entry) (n : Int) (hl : l.length ≤ 1048576) (ha : ∀ i, i < l.length → InR (l.getD i zEnt).1) : Ev (fun k => spec_l6List.f k l n) (!decide (n < ((l.length : Nat) : Int)) && entsB l) := by
  have h := all_loop (n := l.length) (p := fun k i => spec_l6List.p9 k l i) (q := fun i => entB (l.getD i zEnt)) (zb := true) (fun i hi b hb => by
    simp only [spec_l6List.p9, Int.toNat_natCast]
    rw [wrap_up hi (by omega)]
    exact Ev.pos (by omega) (Ev.pos (by omega) (Ev.bind (spec_EntryOk_ev _ (ha i hi)) (Ev.and fun _ => hb)))) (by
    simp only [spec_l6List.p9]
    exact Ev.neg (by omega) Ev.ret) l.length 0 (by omega)
  rw [Bool.and_true] at h
  simp only [spec_l6List.f]
  exact Ev.nand fun _ => h

theorem spec_l6Asc_ev (l : List Entry) (hl : l.length ≤ 1048576) : Ev (fun k => spec_l6Asc.f k l) (ascE l) := by
  have h := all_loop (n := l.length) (p := fun k i => if i = 0 then spec_l6Asc.p5 k l 1 else spec_l6Asc.p5 k l i) (q := fun i => !(decide (0 < i) && decide ((l.getD i zEnt).1 ≤ (l.getD (i - 1) zEnt).1))) (zb := true) (fun i hi b hb => by
    by_cases h0 : i = 0
    · subst h0
      refine (Ev.pos rfl ?_).eq (v := b) (by rfl)
      have hb' : Ev (fun k => spec_l6Asc.p5 k l 1) b := hb.cg fun k => (if_neg (by decide)).symm
      obtain ⟨K, hK⟩ := hb'
      exact ⟨K, fun k hk => hK (k + 1) (by omega)⟩
    · refine Ev.neg (by omega) ?_
      have hb' : Ev (fun k => spec_l6Asc.p5 k l (((i + 1 : Nat)) : Int)) b := hb.cg fun k => (if_neg (by omega)).symm
      have e2 : wrap64 ((i : Int) - 1) = ((i - 1 : Nat) : Int) := by rw [wrap64_id (by omega) (by omega)]; omega
      simp only [spec_l6Asc.p5, e2, Int.toNat_natCast]
      rw [wrap_up hi (by omega), decide_eq_true (show 0 < i by omega), Bool.true_and]
      exact Ev.pos (by omega) (Ev.pos (by omega) (Ev.pos (by omega) (Ev.nand fun _ => hb')))) (by
    by_cases h0 : l.length = 0
    · refine Ev.pos (by omega) ?_
      simp only [spec_l6Asc.p5]
      exact Ev.neg (by omega) Ev.ret
    · refine Ev.neg (by omega) ?_
      simp only [spec_l6Asc.p5]
      exact Ev.neg (by omega) Ev.ret) l.length 0 (by omega)
  rw [Bool.and_true] at h
  exact h.cg fun k => (if_pos rfl).symm

noncomputable def storeB (s : Store) : Bool := decide (((s.1.length : Nat) : Int) ≤ 200) && (entsB s.1 && (decide (((s.2.1.length : Nat) : Int) ≤ 20) && (entsB s.2.1 && (ascE s.1 && inB s.2.2.1 0 30))))
theorem ndec (a b : Int) : (!decide (a < b)) = decide (b ≤ a) := by
  by_cases h : a < b
  · rw [decide_eq_true h, decide_eq_false (by omega)]; rfl
  · rw [decide_eq_false h, decide_eq_true (by omega)]; rfl
theorem spec_StoreOk_ev (s : Store) (h1 : s.1.length ≤ 1048576) (h2 : s.2.1.length ≤ 1048576) (a1 : ∀ i, i < s.1.length → InR (s.1.getD i zEnt).1) (a2 : ∀ i, i < s.2.1.length → InR (s.2.1.getD i zEnt).1) : Ev (fun k => spec_StoreOk.f k s) (storeB s) := by
  have e1 := spec_l6List_ev s.1 200 h1 a1
  have e2 := spec_l6List_ev s.2.1 20 h2 a2
  simp only [spec_StoreOk.f, spec_l1In_is, Option.bind_some, storeB]
  rw [ndec] at e1 e2
  refine (Ev.bind e1 (Ev.and fun _ => Ev.bind e2 (Ev.and fun _ => Ev.bind (spec_l6Asc_ev s.1 h1) (Ev.and fun _ => Ev.ret)))).eq ?_
  simp only [Bool.and_assoc]
noncomputable def unionF (l : List Store) : List Entry := if l.all storeB = true then unionL [] l else []
theorem StG.ok {l : List Store} (h : StG l) {i : Nat} (hi : i < l.length) : Ev (fun k => spec_StoreOk.f k (l.getD i zSto)) (storeB (l.getD i zSto)) := by
  have := h.2 _ (getD_mem (d := zSto) hi)
  exact spec_StoreOk_ev _ this.1.1 this.2.1.1 this.1.at this.2.1.at
noncomputable def fillS (l : List Store) (upto : Int) : Store := (unionL [] l, (([] : List Entry), (upto, ())))
noncomputable def fillG (l : List Store) (upto : Int) : Store × Bool := if l.all storeB = true then (if storeB (fillS l upto) = true then (fillS l upto, true) else (zSto, false)) else (zSto, false)
theorem unionL_EG (l : List Store) (h : StG l) (hk : ktS l ≤ 1048576) : EG 1048576 (unionL [] l) := by
  refine ⟨by have := unionL_len l []; simp at this; omega, ?_⟩
  have key : ∀ (l : List Store) (s : List Entry), (∀ t ∈ l, ∀ e ∈ t.1, InR e.1) → (∀ e ∈ s, InR e.1) → ∀ e ∈ unionL s l, InR e.1 := by
    intro l
    induction l with
    | nil => intro s _ hs; exact hs
    | cons t l ih =>
      intro s hl hs
      refine ih _ (fun t ht => hl t (List.mem_cons_of_mem _ ht)) ?_
      have hk : ∀ (r s : List Entry), (∀ e ∈ r, InR e.1) → (∀ e ∈ s, InR e.1) → ∀ e ∈ keepsL s r, InR e.1 := by
        intro r
        induction r with
        | nil => intro s _ hs; exact hs
        | cons x r ihr =>
          intro s hr hs
          refine ihr _ (fun e he => hr e (List.mem_cons_of_mem _ he)) fun e he => ?_
          rcases keepL_mem he with rfl | he
          · exact hr _ List.mem_cons_self
          · exact hs e he
      exact hk t.1 s (hl t List.mem_cons_self) hs
  exact key l [] (fun t ht => (h.2 t ht).1.2) (fun e he => by cases he)

theorem spec_l6Copy_is (s : Store) (h1 : s.1.length ≤ 1048576) (h2 : s.2.1.length ≤ 1048576) : spec_l6Copy.f s = some s := by
  unfold spec_l6Copy.f
  rw [if_pos (by simp only [lim_eq, List.length_nil]; omega), if_pos (by simp only [lim_eq, List.length_nil]; omega)]
  rfl

theorem spec_l6Takes_d (s : Store) (e : Entry) (h : InR e.1) : Op (spec_l6Takes.f s e) (fun _ => True) := by
  unfold spec_l6Takes.f
  exact Op.ite (fun _ => Op.bind (P := fun _ => True) ⟨_, spec_EpochOf_is _ h, trivial⟩ fun _ _ => Op.ret trivial) (fun _ => Op.ret trivial)

theorem spec_StorePut_d {n m : Nat} (s : Store) (e : Entry) (hn : n ≤ 4096) (hm : m ≤ 4096) (h : SG n m s) (he : InR e.1) : Evp (fun k => spec_StorePut.f k s e) (fun q => SG n (m + 1) q.1) := by
  obtain ⟨h1, h2, h3⟩ := h
  have l1 := h1.1; have l2 := h2.1
  have same : SG n (m + 1) s := ⟨h1, h2.mono (by omega), h3⟩
  simp only [spec_StorePut.f]
  refine Evp.bindv (spec_StoreOk_ev s (by omega) (by omega) h1.at h2.at) (Evp.ite (fun _ => Evp.bindv (Ev.of (spec_l6Copy_is s (by omega) (by omega))) (Evp.bindv (spec_EntryOk_ev e he) (Evp.ite (fun _ => Evp.bindc (spec_l6Takes_d s e he) fun _ _ => Evp.ite (fun _ => Evp.ite (fun _ => Evp.ret same) (fun _ => Evp.pos (by simp only [lim_eq, List.length_cons, List.length_nil]; omega) (Evp.ret ⟨h1, h2.app he, h3⟩))) (fun _ => Evp.ret same)) (fun _ => Evp.ret same)))) (fun _ => Evp.ret SG.zero))

theorem spec_l6Keep_l (l : List Entry) (e : Entry) (hl : EG 16384 l) (he : InR e.1) : ∀ (m i : Nat) (o : List Entry) (b : Bool), i + m = l.length → EG (i + (if b = true then 1 else 0)) o → Evp (fun k => spec_l6Keep.p9 k l o b (i : Int) e) (fun r => EG (l.length + 1) r) := by
  intro m
  have hll := hl.1
  induction m with
  | zero =>
    intro i o b h ho
    refine Evp.succ ?_
    simp only [spec_l6Keep.p9]
    refine Evp.neg (by omega) ?_
    cases b with
    | true => exact Evp.pos rfl (Evp.ret (ho.mono (by simp; omega)))
    | false => have := ho.1; simp at this; exact Evp.neg (by decide) (Evp.pos (by simp only [lim_eq, List.length_cons, List.length_nil]; omega) (Evp.ret ((ho.app he).mono (by simp; omega))))
  | succ m ih =>
    intro i o b h ho
    have hol := ho.1
    have hob : i + (if b = true then 1 else 0) ≤ i + 1 := by split <;> omega
    have ew : wrap64 ((i : Int) + 1) = ((i + 1 : Nat) : Int) := wrap_up (n := l.length) (by omega) (by omega)
    have h18 : Evp (fun k => spec_l6Keep.p18 k l o b (i : Int) e) (fun r => EG (l.length + 1) r) := by
      refine Evp.succ ?_
      simp only [spec_l6Keep.p18, ew, Int.toNat_natCast]
      cases b with
      | true =>
        refine Evp.pos rfl (Evp.pos (by omega) (Evp.pos (by simp only [lim_eq, List.length_cons, List.length_nil]; omega) ?_))
        exact ih (i + 1) _ true (by omega) ((ho.app (hl.at i (by omega))).mono (by simp))
      | false =>
        refine Evp.neg (by decide) (Evp.pos (by omega) (Evp.ite (fun _ => Evp.pos (by simp only [lim_eq, List.length_cons, List.length_nil]; omega) (Evp.pos (by omega) (Evp.pos (by simp only [lim_eq, List.length_append, List.length_cons, List.length_nil]; omega) ?_))) (fun _ => Evp.pos (by omega) (Evp.pos (by simp only [lim_eq, List.length_cons, List.length_nil]; omega) ?_))))
        · exact ih (i + 1) _ true (by omega) (((ho.app he).app (hl.at i (by omega))).mono (by simp))
        · exact ih (i + 1) _ false (by omega) ((ho.app (hl.at i (by omega))).mono (by simp))
    refine Evp.succ ?_
    simp only [spec_l6Keep.p9, ew, Int.toNat_natCast]
    refine Evp.pos (by omega) (Evp.ite (fun _ => h18) (fun hb => Evp.pos (by omega) (Evp.ite (fun hp => Evp.pos (by omega) ?_) (fun _ => h18))))
    have hbt : ∃ z : Entry, spec_Better.f (l.getD i ((0 : Int), ((0 : Int), (false, ((⟨#[]⟩ : ByteArray), ()))))) e = some z ∧ InR z.1 := by
      unfold spec_Better.f
      split
      · exact ⟨_, rfl, he⟩
      · exact ⟨_, rfl, hl.at i (by omega)⟩
    obtain ⟨z, hz, hzr⟩ := hbt
    refine Evp.bindv (Ev.of hz) (Evp.pos (by simp only [lim_eq, List.length_cons, List.length_nil]; omega) ?_)
    exact ih (i + 1) _ true (by omega) ((ho.app hzr).mono (by simp; split <;> omega))
theorem spec_l6Keep_d (l : List Entry) (e : Entry) (hl : EG 16384 l) (he : InR e.1) : Evp (fun k => spec_l6Keep.f k l e) (fun r => EG (l.length + 1) r) := spec_l6Keep_l l e hl he l.length 0 [] false (by omega) EG.nil
theorem spec_l6Keep_ll (l : List Entry) (e : Entry) (hl : l.length ≤ 1048576) : ∀ (m i : Nat) (o : List Entry) (b : Bool), i + m = l.length → o.length ≤ i + (if b = true then 1 else 0) → Ev (fun k => spec_l6Keep.p9 k l o b (i : Int) e) (o ++ if b = true then l.drop i else keepL (l.drop i) e) := by
  intro m
  induction m with
  | zero =>
    intro i o b h ho
    refine Ev.succ ?_
    simp only [spec_l6Keep.p9]
    rw [List.drop_eq_nil_of_le (by omega)]
    refine Ev.neg (by omega) ?_
    cases b with
    | true => exact Ev.pos (by trivial) (Ev.ret.eq (by simp))
    | false => simp at ho; exact Ev.neg (by decide) (Ev.pos (by simp only [lim_eq, List.length_cons, List.length_nil]; omega) (Ev.ret.eq (by simp [keepL])))
  | succ m ih =>
    intro i o b h ho
    have ew : wrap64 ((i : Int) + 1) = ((i + 1 : Nat) : Int) := wrap_up (n := l.length) (by omega) (by omega)
    have hd := drop_get (d := ((0 : Int), ((0 : Int), (false, ((⟨#[]⟩ : ByteArray), ()))))) (by omega : i < l.length)
    refine Ev.succ ?_
    cases b with
    | true =>
      simp at ho
      simp only [spec_l6Keep.p9]
      refine Ev.pos (by omega) (Ev.pos (by trivial) (Ev.succ ?_))
      simp only [spec_l6Keep.p18, ew, Int.toNat_natCast]
      refine Ev.pos (by trivial) (Ev.pos (by omega) (Ev.pos (by simp only [lim_eq, List.length_cons, List.length_nil]; omega) ?_))
      exact (ih (i + 1) _ true (by omega) (by simp; omega)).eq (by rw [hd]; simp)
    | false =>
      simp at ho
      have h18 : ¬ (l.getD i ((0 : Int), ((0 : Int), (false, ((⟨#[]⟩ : ByteArray), ()))))).1 = e.1 → Ev (fun k => spec_l6Keep.p18 k l o false (i : Int) e) (o ++ keepL (l.drop i) e) := fun hne => by
        refine Ev.succ ?_
        simp only [spec_l6Keep.p18, ew, Int.toNat_natCast]
        refine Ev.neg (by decide) (Ev.pos (by omega) ?_)
        rw [hd]
        by_cases hx : e.1 < (l.getD i ((0 : Int), ((0 : Int), (false, ((⟨#[]⟩ : ByteArray), ()))))).1
        · refine Ev.pos hx (Ev.pos (by simp only [lim_eq, List.length_cons, List.length_nil]; omega) (Ev.pos (by omega) (Ev.pos (by simp only [lim_eq, List.length_append, List.length_cons, List.length_nil]; omega) ?_)))
          exact (ih (i + 1) _ true (by omega) (by simp; omega)).eq (by unfold keepL; rw [if_neg hne, if_pos hx]; simp)
        · refine Ev.neg hx (Ev.pos (by omega) (Ev.pos (by simp only [lim_eq, List.length_cons, List.length_nil]; omega) ?_))
          exact (ih (i + 1) _ false (by omega) (by simp; omega)).eq (by (conv => rhs; unfold keepL); rw [if_neg hne, if_neg hx]; simp)
      simp only [spec_l6Keep.p9, ew, Int.toNat_natCast]
      refine Ev.pos (by omega) (Ev.neg (by decide) (Ev.pos (by omega) ?_))
      by_cases hq : (l.getD i ((0 : Int), ((0 : Int), (false, ((⟨#[]⟩ : ByteArray), ()))))).1 = e.1
      · refine Ev.pos hq (Ev.pos (by omega) (Ev.bindc (a := better (l.getD i ((0 : Int), ((0 : Int), (false, ((⟨#[]⟩ : ByteArray), ()))))) e) ?_ (Ev.pos (by simp only [lim_eq, List.length_cons, List.length_nil]; omega) ?_)))
        · unfold spec_Better.f better; split <;> rfl
        · exact (ih (i + 1) _ true (by omega) (by simp; omega)).eq (by rw [hd]; unfold keepL; rw [if_pos hq]; simp)
      · exact Ev.neg hq (h18 hq)
theorem spec_l6Keep_ev (l : List Entry) (e : Entry) (hl : l.length ≤ 1048576) : Ev (fun k => spec_l6Keep.f k l e) (keepL l e) := (spec_l6Keep_ll l e hl l.length 0 [] false (by omega) (by simp)).eq (by simp)

theorem spec_StoreCrash_l {n : Nat} (x0 : Int) (s z : Store) (hs : SG n n s) (hn : n ≤ 4096) : ∀ (m i : Nat) (t : Store), i + m = s.2.1.length → SG (s.1.length + i) 0 t → Evp (fun k => spec_StoreCrash.p11 k x0 (i : Int) s z t) (fun q => q.2 = true → SG (s.1.length + s.2.1.length) 0 q.1) := by
  obtain ⟨h1, h2, h3⟩ := hs
  have l1 := h1.1; have l2 := h2.1
  intro m
  induction m with
  | zero =>
    intro i t hi ht
    refine Evp.succ ?_
    simp only [spec_StoreCrash.p11, spec_l1In_is, Option.bind_some, spec_l6Copy_is s (by omega) (by omega)]
    refine Evp.neg (by omega) (Evp.ite (fun _ => Evp.ite (fun _ => Evp.ret (fun h => by cases h)) (fun _ => Evp.ret (fun _ => ?_))) (fun _ => Evp.ret (fun h => by cases h)))
    have : i = s.2.1.length := by omega
    subst this; exact ht
  | succ m ih =>
    intro i t hi ht
    refine Evp.succ ?_
    simp only [spec_StoreCrash.p11, Int.toNat_natCast]
    rw [wrap_up (i := i) (n := s.2.1.length) (by omega) (by omega)]
    refine Evp.pos (by omega) (Evp.pos (by omega) (Evp.ite (fun _ => Evp.pos (by omega) (Evp.bind (spec_l6Keep_d t.1 _ (ht.1.mono (by omega)) (h2.at i (by omega))) fun r hr => ?_)) (fun _ => ?_)))
    · exact ih (i + 1) _ (by omega) ⟨hr.mono (by have := ht.1.1; omega), ht.2.1, ht.2.2⟩
    · exact ih (i + 1) _ (by omega) ⟨ht.1.mono (by omega), ht.2.1, ht.2.2⟩
theorem spec_StoreCrash_d {n : Nat} (s : Store) (x0 : Int) (hs : SG n n s) (hn : n ≤ 4096) : Evp (fun k => spec_StoreCrash.f k s x0) (fun q => q.2 = true → SG (s.1.length + s.2.1.length) 0 q.1) := by
  have hs' := hs
  obtain ⟨h1, h2, h3⟩ := hs'
  have l1 := h1.1; have l2 := h2.1
  simp only [spec_StoreCrash.f]
  refine Evp.bindv (spec_StoreOk_ev s (by omega) (by omega) h1.at h2.at) (Evp.ite (fun _ => Evp.pos (by simp only [lim_eq, List.length_nil]; omega) ?_) (fun _ => Evp.ret (fun h => by cases h)))
  exact spec_StoreCrash_l x0 s _ hs hn s.2.1.length 0 _ (by omega) ⟨⟨by show s.1.length ≤ _; omega, h1.2⟩, EG.nil, h3⟩

theorem spec_StoreSync_d {n : Nat} (s : Store) (hs : SG n n s) (hn : n ≤ 4096) : Evp (fun k => spec_StoreSync.f k s) (fun q => q.2 = true → SG (s.1.length + s.2.1.length) 0 q.1) := by
  simp only [spec_StoreSync.f]
  exact Evp.bind (spec_StoreCrash_d s _ hs hn) fun r hr => Evp.ret hr

theorem spec_l1Max_d (a b : Int) : Op (spec_l1Max.f a b) (fun r => a ≤ r ∧ b ≤ r ∧ (r = a ∨ r = b)) := by
  unfold spec_l1Max.f
  exact Op.ite (fun h => Op.ret ⟨by omega, by omega, .inl rfl⟩) (fun h => Op.ret ⟨by omega, by omega, .inr rfl⟩)

theorem spec_StoreSeal_d {n : Nat} (s : Store) (x : Int) (hs : SG n n s) (hn : n ≤ 4096) (hx : InR x) : Evp (fun k => spec_StoreSeal.f k s x) (fun q => q.2 = true → SG (s.1.length + s.2.1.length) 0 q.1) := by
  have hs' := hs
  obtain ⟨h1, h2, h3⟩ := hs'
  have l1 := h1.1; have l2 := h2.1
  simp only [spec_StoreSeal.f, spec_l1In_is, Option.bind_some, spec_l6Copy_is s (by omega) (by omega), spec_l1Max.f]
  refine Evp.bindv (spec_StoreOk_ev s (by omega) (by omega) h1.at h2.at) (Evp.ite (fun _ => Evp.bind (spec_StoreSync_d s hs hn) fun r hr => Evp.ite (fun ht => Evp.ite (fun _ => ?_) (fun _ => Evp.ret (fun h => by cases h))) (fun _ => Evp.ret (fun h => by cases h))) (fun _ => Evp.ret (fun h => by cases h)))
  have g := hr ht
  by_cases hm : x < r.1.2.2.1
  · simp only [if_pos hm, Option.bind_some]
    exact Evp.ret (fun _ => g)
  · simp only [if_neg hm, Option.bind_some]
    exact Evp.ret (fun _ => ⟨g.1, g.2.1, hx⟩)

/-- At most n entries in all. -/
def TG (n : Nat) (s : Store) : Prop := SG n n s ∧ s.1.length + s.2.1.length ≤ n
theorem TG.mono {n m : Nat} {s : Store} (h : TG n s) (hm : n ≤ m) : TG m s := ⟨⟨h.1.1.mono hm, h.1.2.1.mono hm, h.1.2.2⟩, by have := h.2; omega⟩
theorem TG.of {n : Nat} {s t : Store} (h : TG n s) (ht : SG (s.1.length + s.2.1.length) 0 t) : TG n t := by
  have := h.2
  have h1 := ht.1.1; have h2 := ht.2.1.1
  exact ⟨⟨ht.1.mono (by omega), ht.2.1.mono (by omega), ht.2.2⟩, by omega⟩
theorem TG.put {n : Nat} {s t : Store} (h : TG n s) (ht : SG s.1.length (s.2.1.length + 1) t) : TG (n + 1) t := by
  have := h.2
  have h1 := ht.1.1; have h2 := ht.2.1.1
  exact ⟨⟨ht.1.mono (by omega), ht.2.1.mono (by omega), ht.2.2⟩, by omega⟩
theorem spec_l6DrawRight_e (z : Store) (a : Int) : ∀ (m i : Nat) (s : Store) (c : l1Cur) (N : Nat), i + m = 51 → s.1.length + m ≤ N → N ≤ 4096 → EG 4096 s.1 → EG 4096 s.2.1 → InR s.2.2.1 → Cu c →
    (∀ (t : Store) (c : l1Cur), t.1.length ≤ N → EG 4096 t.1 → t.2 = s.2 → Cu c → Evp (fun k => spec_l6DrawRight.p41 k (wrap64 (a + 1)) z t c) (fun q => EG 4096 q.1.1 ∧ EG 4096 q.1.2.1 ∧ InR q.1.2.2.1 ∧ Cu q.2)) →
    Evp (fun k => spec_l6DrawRight.p47 k a (i : Int) z s c) (fun q => EG 4096 q.1.1 ∧ EG 4096 q.1.2.1 ∧ InR q.1.2.2.1 ∧ Cu q.2) := by
  intro m
  induction m with
  | zero =>
    intro i s c N hi hN hN2 h1 h2 h3 hc hk
    refine Evp.succ ?_
    simp only [spec_l6DrawRight.p47]
    exact Evp.neg (by omega) (hk s c (by omega) h1 rfl hc)
  | succ m ih =>
    intro i s c N hi hN hN2 h1 h2 h3 hc hk
    have hl := h1.1
    refine Evp.succ ?_
    simp only [spec_l6DrawRight.p47]
    rw [wrap_up (i := i) (n := 51) (by omega) (by omega)]
    refine Evp.pos (by omega) (Evp.bindc (spec_l1Place_is _ _) fun p hp => Evp.pos (by simp only [lim_eq, List.length_cons, List.length_nil]; omega) ?_)
    exact ih (i + 1) (s.1 ++ [(p, ((0 : Int), (false, ((⟨#[]⟩ : ByteArray), ()))))], s.2) c N (by omega) (by simp; omega) hN2 ⟨by simp; omega, ((EG.app (n := s.1.length) ⟨Nat.le_refl _, h1.2⟩ hp)).2⟩ h2 h3 hc hk
theorem spec_l6DrawRight_g (z : Store) : ∀ (m i : Nat) (s : Store) (c : l1Cur), i + m = 5 → s.1.length + 51 * m ≤ 255 → EG 4096 s.1 → EG 4096 s.2.1 → InR s.2.2.1 → Cu c →
    Evp (fun k => spec_l6DrawRight.p41 k (i : Int) z s c) (fun q => EG 4096 q.1.1 ∧ EG 4096 q.1.2.1 ∧ InR q.1.2.2.1 ∧ Cu q.2) := by
  intro m
  induction m with
  | zero =>
    intro i s c hi hl h1 h2 h3 hc
    refine Evp.succ ?_
    simp only [spec_l6DrawRight.p41]
    exact Evp.neg (by omega) (Evp.ret ⟨h1, h2, h3, hc⟩)
  | succ m ih =>
    intro i s c hi hl h1 h2 h3 hc
    refine Evp.succ ?_
    simp only [spec_l6DrawRight.p41]
    refine Evp.pos (by omega) ?_
    refine spec_l6DrawRight_e z (i : Int) 50 1 s c (s.1.length + 50) (by omega) (by omega) (by omega) h1 h2 h3 hc (fun t c' ht h1' h2' hc' => ?_)
    rw [wrap_up (i := i) (n := 5) (by omega) (by omega)]
    exact ih (i + 1) t c' (by omega) (by omega) h1' (by rw [h2']; exact h2) (by rw [h2']; exact h3) hc'
theorem spec_l6DrawRight_l (n : Int) (hn : n ≤ 8) (z : Store) (hz : SG 0 0 z) : ∀ (m i : Nat) (s : Store) (c : l1Cur), (i : Int) + m = max n i → i ≤ 8 → TG i s → Cu c →
    Evp (fun k => spec_l6DrawRight.p9 k n (i : Int) z s c) (fun q => EG 4096 q.1.1 ∧ EG 4096 q.1.2.1 ∧ InR q.1.2.2.1 ∧ Cu q.2) := by
  intro m
  induction m with
  | zero =>
    intro i s c hi h8 hs hc
    refine Evp.succ ?_
    simp only [spec_l6DrawRight.p9]
    refine Evp.neg (by omega) (Evp.bindc (spec_l1Once_d c 40 hc) fun r hr => Evp.ite (fun _ => ?_) (fun _ => Evp.ret ⟨hs.1.1.mono (by omega), hs.1.2.1.mono (by omega), hs.1.2.2, hr⟩))
    exact spec_l6DrawRight_g z 4 1 _ _ (by omega) (by show (0 : Nat) + 51 * 4 ≤ 255; omega) EG.nil (hs.1.2.1.mono (by omega)) hs.1.2.2 hr
  | succ m ih =>
    intro i s c hi h8 hs hc
    have hT := hs.2
    have hlt : (i : Int) < n := by omega
    have ew : wrap64 ((i : Int) + 1) = ((i + 1 : Nat) : Int) := wrap_up (n := 8) (by omega) (by omega)
    have go : ∀ (t : Store) (c' : l1Cur), TG (i + 1) t → Cu c' → Evp (fun k => spec_l6DrawRight.p9 k n (wrap64 ((i : Int) + 1)) z t c') (fun q => EG 4096 q.1.1 ∧ EG 4096 q.1.2.1 ∧ InR q.1.2.2.1 ∧ Cu q.2) := fun t c' h1 h2 => by
      rw [ew]; exact ih (i + 1) t c' (by omega) (by omega) h1 h2
    have same : TG (i + 1) s := hs.mono (by omega)
    have hSG : SG s.1.length s.2.1.length s := ⟨⟨Nat.le_refl _, hs.1.1.2⟩, ⟨Nat.le_refl _, hs.1.2.1.2⟩, hs.1.2.2⟩
    refine Evp.succ ?_
    simp only [spec_l6DrawRight.p9]
    refine Evp.pos hlt (Evp.bindc (spec_l3DrawRight_d c hc) fun e he => Evp.bind (spec_StorePut_d s e.1 (by omega) (by omega) hSG he.1) fun p hp => Evp.bindc (spec_l1Below_d _ 6 he.2) fun b hb => ?_)
    have hput : TG (i + 1) p.1 := hs.put hp
    refine Evp.ite (fun _ => Evp.bind (spec_StoreSync_d s hs.1 (by omega)) fun y hy => Evp.ite (fun ht => go _ _ (same.of (hy ht)) hb.2.2.2) (fun _ => go _ _ same hb.2.2.2)) (fun _ => ?_)
    refine Evp.ite (fun _ => Evp.bind (spec_StoreSync_d p.1 hput.1 (by omega)) fun y hy => Evp.ite (fun ht => go _ _ (hput.of (hy ht)) hb.2.2.2) (fun _ => go _ _ same hb.2.2.2)) (fun _ => ?_)
    refine Evp.ite (fun _ => Evp.bindc (spec_l1Once_d _ 3 hb.2.2.2) fun o ho => Evp.ite (fun _ => Evp.bindc (spec_l1Below_d _ 4 ho) fun x hx => Evp.bind (spec_StoreSeal_d s x.1 hs.1 (by omega) (by have := hx.1; have := hx.2.1 (by omega); unfold InR; omega)) fun y hy => Evp.ite (fun ht => go _ _ (same.of (hy ht)) hx.2.2.2) (fun _ => go _ _ same hx.2.2.2)) (fun _ => Evp.ite (fun _ => go _ _ hput ho) (fun _ => go _ _ same ho))) (fun _ => Evp.ite (fun _ => go _ _ hput hb.2.2.2) (fun _ => go _ _ same hb.2.2.2))
theorem spec_l6DrawRight_d (c : l1Cur) (h : Cu c) : Evp (fun k => spec_l6DrawRight.f k c) (fun q => EG 4096 q.1.1 ∧ EG 4096 q.1.2.1 ∧ InR q.1.2.2.1 ∧ Cu q.2) := by
  simp only [spec_l6DrawRight.f]
  refine Evp.bindc (spec_l1Below_d c 8 h) fun b hb => ?_
  have h1 := hb.2.1 (by omega); have h0 := hb.1
  exact spec_l6DrawRight_l b.1 (by omega) _ SG.zero b.1.toNat 0 _ _ (by omega) (by omega) ⟨SG.zero, by show (0 : Nat) + 0 ≤ 0; omega⟩ hb.2.2.2

theorem spec_l1PickInt_d (c : l1Cur) (l : List Int) (h : Cu c) (hl : 0 < l.length) : Op (spec_l1PickInt.f c l) (fun r => r.1 ∈ l ∧ Cu r.2) := by
  unfold spec_l1PickInt.f
  refine Op.bind (spec_l1Below_d c _ h) fun r hr => ?_
  have h1 := hr.2.1 (by omega)
  exact Op.pos ⟨hr.1, h1⟩ (Op.ret ⟨getD_mem (by omega), hr.2.2.2⟩)

theorem spec_l1DrawPlace_d (c : l1Cur) (h : Cu c) : Op (spec_l1DrawPlace.f c) (fun r => InR r.1 ∧ Cu r.2) := by
  unfold spec_l1DrawPlace.f
  refine Op.bind (spec_l1Below_d c 3 h) fun r hr => Op.bind (spec_l1Below_d _ 6 hr.2.2.2) fun s hs => Op.bind (spec_l1Place_is _ _) fun p hp => Op.bind (spec_l1Below_d _ 15 hs.2.2.2) fun t ht => ?_
  refine Op.ite (fun _ => Op.bind (spec_l1PickInt_d _ _ ht.2.2.2 (by decide)) fun u hu => Op.ret ⟨?_, hu.2⟩) (fun _ => Op.ite (fun _ => Op.bind (spec_l1PickInt_d _ _ ht.2.2.2 (by decide)) fun u hu => Op.bind (spec_l1PickInt_d _ _ hu.2 (by decide)) fun v hv => Op.bind (spec_l1Place_is _ _) fun q hq => Op.ret ⟨hq, hv.2⟩) (fun _ => Op.ret ⟨hp, ht.2.2.2⟩))
  have := hu.1
  simp only [List.mem_cons, List.not_mem_nil, or_false] at this
  unfold InR
  rcases this with h | h | h | h | h | h <;> rw [h] <;> decide

theorem spec_l3Draw_d (c : l1Cur) (h : Cu c) : Op (spec_l3Draw.f c) (fun r => InR r.1.1 ∧ Cu r.2) := by
  unfold spec_l3Draw.f
  refine Op.bind (spec_l3DrawRight_d c h) fun r hr => Op.bind (spec_l1Below_d _ 15 hr.2) fun s hs => ?_
  refine Op.ite (fun _ => Op.bind (spec_l1DrawPlace_d _ hs.2.2.2) fun p hp => Op.ret ⟨hp.1, hp.2⟩) (fun _ => Op.ite (fun _ => Op.bind (spec_l1PickInt_d _ _ hs.2.2.2 (by decide)) fun p hp => Op.ret ⟨hr.1, hp.2⟩) (fun _ => Op.ite (fun _ => Op.ret ⟨hr.1, hs.2.2.2⟩) (fun _ => Op.ite (fun _ => Op.bind (spec_l1Below_d _ 2 hs.2.2.2) fun p hp => ?_) (fun _ => Op.ret ⟨hr.1, hs.2.2.2⟩))))
  have h1 := hp.2.1 (by omega); have h0 := hp.1
  rw [wrap64_id (by omega) (by omega)]
  exact Op.pos (by rw [lim_eq]; omega) (Op.ret ⟨hr.1, hp.2.2.2⟩)

def DG (n : Nat) (s : Store) : Prop := EG n s.1 ∧ EG n s.2.1 ∧ InR s.2.2.1
theorem spec_l6Draw_l (z : Store) : ∀ (d : Nat) (s : Store) (c : l1Cur), 21 - s.2.1.length ≤ d → DG 4096 s → Cu c → Evp (fun k => spec_l6Draw.p21 k z s c) (fun q => DG 4097 q.1 ∧ Cu q.2) := by
  intro d
  induction d with
  | zero =>
    intro s c hd hs hc
    refine Evp.succ ?_
    simp only [spec_l6Draw.p21]
    refine Evp.bindc (spec_l1Below_d c 2 hc) fun r hr => ?_
    have h1 := hr.2.1 (by omega)
    have h0 := hr.1
    rw [wrap64_id (x := 20 + r.1) (by omega) (by omega)]
    exact Evp.neg (by omega) (Evp.ret ⟨⟨hs.1.mono (by omega), hs.2.1.mono (by omega), hs.2.2⟩, hr.2.2.2⟩)
  | succ d ih =>
    intro s c hd hs hc
    refine Evp.succ ?_
    simp only [spec_l6Draw.p21]
    refine Evp.bindc (spec_l1Below_d c 2 hc) fun r hr => ?_
    have h1 := hr.2.1 (by omega)
    have h0 := hr.1
    rw [wrap64_id (x := 20 + r.1) (by omega) (by omega)]
    refine Evp.ite (fun hl => Evp.bindc (spec_l1Place_is _ _) fun p hp => Evp.pos (by simp only [lim_eq, List.length_cons, List.length_nil]; omega) ?_) (fun _ => Evp.ret ⟨⟨hs.1.mono (by omega), hs.2.1.mono (by omega), hs.2.2⟩, hr.2.2.2⟩)
    have hx : EG s.2.1.length s.2.1 := ⟨Nat.le_refl _, hs.2.1.2⟩
    refine ih _ _ ?_ ⟨hs.1, (hx.app (e := (p, ((0 : Int), (false, ((⟨#[]⟩ : ByteArray), ()))))) hp).mono (by omega), hs.2.2⟩ hr.2.2.2
    show 21 - (s.2.1 ++ [_]).length ≤ d
    rw [List.length_append, List.length_singleton]; omega
theorem spec_l6Draw_d (c : l1Cur) (hc : Cu c) : Evp (fun k => spec_l6Draw.f k c) (fun q => DG 4097 q.1 ∧ Cu q.2) := by
  simp only [spec_l6Draw.f]
  refine Evp.bind (spec_l6DrawRight_d c hc) fun r hr => Evp.bindc (spec_l1Below_d _ 25 hr.2.2.2) fun s hs => ?_
  have g : DG 4096 r.1 := ⟨hr.1, hr.2.1, hr.2.2.1⟩
  have g' : DG 4097 r.1 := ⟨hr.1.mono (by omega), hr.2.1.mono (by omega), hr.2.2.1⟩
  have l1 := hr.1.1
  have l2 := hr.2.1.1
  refine Evp.ite (fun _ => Evp.bindc (spec_l1PickInt_d _ _ hs.2.2.2 (by simp)) fun p hp => Evp.ret ⟨⟨g'.1, g'.2.1, ?_⟩, hp.2⟩) (fun _ => Evp.ite (fun _ => Evp.bindc (spec_l3Draw_d _ hs.2.2.2) fun e he => Evp.pos (by simp only [lim_eq, List.length_cons, List.length_nil]; omega) (Evp.ret ⟨⟨g.1.app he.1, g'.2.1, g'.2.2⟩, he.2⟩)) (fun _ => Evp.ite (fun _ => Evp.bindc (spec_l3Draw_d _ hs.2.2.2) fun e he => Evp.pos (by simp only [lim_eq, List.length_cons, List.length_nil]; omega) (Evp.ret ⟨⟨g'.1, g.2.1.app he.1, g'.2.2⟩, he.2⟩)) (fun _ => Evp.ite (fun _ => spec_l6Draw_l _ 21 r.1 _ (by omega) g hs.2.2.2) (fun _ => Evp.ret ⟨g', hs.2.2.2⟩))))
  show InR p.1
  have := hp.1
  simp only [List.mem_cons, List.not_mem_nil, or_false] at this
  unfold InR; omega

/-- Drawn stores. -/
def DS (n : Nat) (l : List Store) : Prop := l.length = n ∧ ∀ s ∈ l, DG 4097 s
theorem DS.app {n : Nat} {l : List Store} {s : Store} (h : DS n l) (hs : DG 4097 s) : DS (n + 1) (l ++ [s]) := by
  refine ⟨by have := h.1; rw [List.length_append, List.length_singleton]; omega, fun y hy => ?_⟩
  rcases List.mem_append.1 hy with h' | h'
  · exact h.2 y h'
  · rw [List.mem_singleton] at h'; subst h'; exact hs
theorem DS.kt : ∀ {l : List Store}, (∀ s ∈ l, DG 4097 s) → ktS l ≤ 4097 * l.length := by
  intro l
  induction l with
  | nil => intro _; exact Nat.le_refl _
  | cons s l ih =>
    intro h
    have h1 := (h s List.mem_cons_self).1.1
    have h2 := ih fun t ht => h t (List.mem_cons_of_mem _ ht)
    rw [ktS_cons, List.length_cons]; omega
theorem DS.st {n : Nat} {l : List Store} (h : DS n l) (hn : n ≤ 100) : StG l ∧ ktS l ≤ 1048576 := by
  have h1 := h.1
  have h2 := DS.kt h.2
  refine ⟨⟨by omega, fun s hs => ?_⟩, by omega⟩
  have g := h.2 s hs
  exact ⟨g.1.mono (by omega), g.2.1.mono (by omega), g.2.2⟩
theorem spec_l11DrawStores_l (n : Int) (hn : n ≤ 100) : ∀ (d i : Nat) (l : List Store) (c : l1Cur), (i : Int) + d = max n i → i ≤ 100 → (0 ≤ n → (i : Int) ≤ n) → DS i l → Cu c → Evp (fun k => spec_l11DrawStores.p7 k n l (i : Int) c) (fun q => DS (i + d) q.1 ∧ Cu q.2) := by
  intro d
  induction d with
  | zero =>
    intro i l c hi h1 h2 hl hc
    have hl1 := hl.1
    refine Evp.succ ?_
    simp only [spec_l11DrawStores.p7]
    refine Evp.neg (by omega) (Evp.ite (fun h0 => Evp.bindc (spec_l1Once_d c 20 hc) fun o ho => Evp.ite (fun _ => Evp.bindc (spec_l1Below_d _ n ho) fun p hp => Evp.bind (spec_l6Draw_d _ hp.2.2.2) fun s hs => ?_) (fun _ => Evp.ret ⟨hl, ho⟩)) (fun _ => Evp.ret ⟨hl, hc⟩))
    have hp1 := hp.2.1 (by omega)
    have hp0 := hp.1
    have hni := h2 (by omega)
    refine Evp.pos (by omega) (Evp.ret ⟨⟨by show (l.set _ _).length = _; rw [List.length_set]; exact hl1, fun y hy => ?_⟩, hs.2⟩)
    rcases List.mem_or_eq_of_mem_set hy with h' | h'
    · exact hl.2 y h'
    · subst h'; exact hs.1
  | succ d ih =>
    intro i l c hi h1 h2 hl hc
    have hl1 := hl.1
    refine Evp.succ ?_
    simp only [spec_l11DrawStores.p7]
    rw [wrap_up (i := i) (n := 101) (by omega) (by omega)]
    refine Evp.pos (by omega) (Evp.bind (spec_l6DrawRight_d c hc) fun s hs => Evp.pos (by simp only [lim_eq, List.length_cons, List.length_nil]; omega) ?_)
    have := ih (i + 1) _ s.2 (by omega) (by omega) (fun _ => by omega) (hl.app (s := s.1) ⟨hs.1.mono (by omega), hs.2.1.mono (by omega), hs.2.2.1⟩) hs.2.2.2
    rwa [show i + 1 + d = i + (d + 1) by omega] at this
theorem spec_l11DrawStores_d (c : l1Cur) (n : Int) (hc : Cu c) (h0 : 0 ≤ n) (hn : n ≤ 100) : Evp (fun k => spec_l11DrawStores.f k c n) (fun q => DS n.toNat q.1 ∧ Cu q.2) := by
  simp only [spec_l11DrawStores.f]
  have := spec_l11DrawStores_l n hn n.toNat 0 [] c (by omega) (by omega) (fun h => h) ⟨rfl, fun x hx => by cases hx⟩ hc
  rwa [Nat.zero_add] at this

theorem spec_l4Has_l (l : List Int) (x : Int) (hl : l.length ≤ 1048576) : ∀ (m i : Nat), i + m = l.length → Ev (fun k => spec_l4Has.p5 k l x (i : Int)) ((l.drop i).contains x) := by
  intro m
  induction m with
  | zero =>
    intro i h
    refine Ev.succ ?_
    simp only [spec_l4Has.p5]
    rw [List.drop_eq_nil_of_le (by omega)]
    exact Ev.neg (by omega) Ev.ret
  | succ m ih =>
    intro i h
    refine Ev.succ ?_
    simp only [spec_l4Has.p5, Int.toNat_natCast]
    rw [drop_get (d := (0 : Int)) (i := i) (l := l) (by omega), List.contains_cons, wrap_up (i := i) (n := l.length) (by omega) (by omega)]
    refine Ev.pos (by omega) (Ev.pos (by omega) ?_)
    by_cases hx : l.getD i 0 = x
    · exact (Ev.pos hx Ev.ret).eq (by rw [hx]; simp)
    · refine (Ev.neg hx (ih (i + 1) (by omega))).eq ?_
      rw [show (x == l.getD i 0) = false by simpa using fun e => hx e.symm, Bool.false_or]
theorem spec_l4Has_ev (l : List Int) (x : Int) (hl : l.length ≤ 1048576) : Ev (fun k => spec_l4Has.f k l x) (l.contains x) := spec_l4Has_l l x hl l.length 0 (by omega)

theorem spec_l4Put_l (l : List Int) (x : Int) (hl : l.length ≤ 1048576) : ∀ (m i : Nat) (o : List Int) (b : Bool), i + m = l.length → o.length ≤ i + (if b = true then 1 else 0) → Evp (fun k => spec_l4Put.p9 k l x o b (i : Int)) (fun r => r.length ≤ o.length + m + (if b = true then 0 else 1)) := by
  intro m
  induction m with
  | zero =>
    intro i o b h ho
    refine Evp.succ ?_
    simp only [spec_l4Put.p9]
    refine Evp.neg (by omega) ?_
    cases b with
    | true => exact Evp.pos rfl (Evp.ret (by simp))
    | false => simp at ho; exact Evp.neg (by decide) (Evp.pos (by simp only [lim_eq, List.length_cons, List.length_nil]; omega) (Evp.ret (by simp)))
  | succ m ih =>
    intro i o b h ho
    refine Evp.succ ?_
    simp only [spec_l4Put.p9]
    rw [wrap_up (i := i) (n := l.length) (by omega) (by omega)]
    refine Evp.pos (by omega) ?_
    cases b with
    | true =>
      simp at ho
      refine Evp.pos rfl (Evp.pos (by omega) (Evp.pos (by simp only [lim_eq, List.length_cons, List.length_nil]; omega) ?_))
      exact (ih (i + 1) _ true (by omega) (by simp; omega)).mono fun r hr => by simp at hr ⊢; omega
    | false =>
      simp at ho
      refine Evp.neg (by decide) (Evp.pos (by omega) (Evp.ite (fun _ => Evp.pos (by simp only [lim_eq, List.length_cons, List.length_nil]; omega) (Evp.pos (by omega) (Evp.pos (by simp only [lim_eq, List.length_append, List.length_cons, List.length_nil]; omega) ?_))) (fun _ => Evp.pos (by omega) (Evp.pos (by simp only [lim_eq, List.length_cons, List.length_nil]; omega) ?_))))
      · exact (ih (i + 1) _ true (by omega) (by simp; omega)).mono fun r hr => by simp at hr ⊢; omega
      · exact (ih (i + 1) _ false (by omega) (by simp; omega)).mono fun r hr => by simp at hr ⊢; omega
theorem spec_l4Put_d (l : List Int) (x : Int) (hl : l.length ≤ 1048576) : Evp (fun k => spec_l4Put.f k l x) (fun r => r.length ≤ l.length + 1) := by
  simp only [spec_l4Put.f]
  refine Evp.bindv (spec_l4Has_ev l x hl) ((spec_l4Put_l l x hl l.length 0 [] (l.contains x) (by omega) (by simp)).mono fun r hr => ?_)
  have h2 : (if l.contains x = true then 0 else 1) ≤ 1 := by split <;> omega
  simp only [List.length_nil] at hr
  omega
theorem spec_l4Put_ll (l : List Int) (x : Int) (hl : l.length ≤ 1048576) : ∀ (m i : Nat) (o : List Int) (b : Bool), i + m = l.length → o.length ≤ i + (if b = true then 1 else 0) → Ev (fun k => spec_l4Put.p9 k l x o b (i : Int)) (o ++ if b = true then l.drop i else insB (l.drop i) x) := by
  intro m
  induction m with
  | zero =>
    intro i o b h ho
    refine Ev.succ ?_
    simp only [spec_l4Put.p9]
    rw [List.drop_eq_nil_of_le (by omega)]
    refine Ev.neg (by omega) ?_
    cases b with
    | true => exact Ev.pos rfl (Ev.ret.eq (by simp))
    | false => simp at ho; exact Ev.neg (by decide) (Ev.pos (by simp only [lim_eq, List.length_cons, List.length_nil]; omega) (Ev.ret.eq (by simp [insB])))
  | succ m ih =>
    intro i o b h ho
    refine Ev.succ ?_
    simp only [spec_l4Put.p9, Int.toNat_natCast]
    rw [wrap_up (i := i) (n := l.length) (by omega) (by omega), drop_get (d := 0) (by omega : i < l.length)]
    refine Ev.pos (by omega) ?_
    cases b with
    | true =>
      simp at ho
      refine Ev.pos rfl (Ev.pos (by omega) (Ev.pos (by simp only [lim_eq, List.length_cons, List.length_nil]; omega) ?_))
      exact (ih (i + 1) _ true (by omega) (by simp; omega)).eq (by simp)
    | false =>
      simp at ho
      refine Ev.neg (by decide) (Ev.pos (by omega) ?_)
      by_cases hx : x < l.getD i 0
      · refine Ev.pos hx (Ev.pos (by simp only [lim_eq, List.length_cons, List.length_nil]; omega) (Ev.pos (by omega) (Ev.pos (by simp only [lim_eq, List.length_append, List.length_cons, List.length_nil]; omega) ?_)))
        exact (ih (i + 1) _ true (by omega) (by simp; omega)).eq (by (conv => rhs; unfold insB); rw [if_pos hx]; simp)
      · refine Ev.neg hx (Ev.pos (by omega) (Ev.pos (by simp only [lim_eq, List.length_cons, List.length_nil]; omega) ?_))
        exact (ih (i + 1) _ false (by omega) (by simp; omega)).eq (by (conv => rhs; unfold insB); rw [if_neg hx]; simp)
theorem spec_l4Put_ev (l : List Int) (x : Int) (hl : l.length ≤ 1048576) : Ev (fun k => spec_l4Put.f k l x) (insL l x) := by
  simp only [spec_l4Put.f]
  refine Ev.bind (spec_l4Has_ev l x hl) ((spec_l4Put_ll l x hl l.length 0 [] (l.contains x) (by omega) (by simp)).eq ?_)
  unfold insL
  simp

def FG (q : Config × List Store × List Int × Int × Int) : Prop := q.1.1.length ≤ 9 ∧ (∃ n, n ≤ 100 ∧ DS n q.2.1) ∧ q.2.2.1.length ≤ 4
theorem spec_DrawFill_l (z a : Config) (l : List Store) (lost : List Int) (c : l1Cur) (ha : a.1.length ≤ 9) (hl : ∃ n, n ≤ 100 ∧ DS n l) (h0 : 0 < lost.length) (h4 : lost.length ≤ 4) (hc : Cu c) : Evp (fun k => spec_DrawFill.p16 k l lost z a c) FG := by
  have fin : ∀ (x : Int) (c : l1Cur), Cu c → Evp (fun k => spec_DrawFill.p22 k l lost x z a c) FG := fun x c hc => by
    refine Evp.succ ?_
    simp only [spec_DrawFill.p22]
    exact Evp.bindc (spec_l1PickInt_d _ _ hc (by simp)) fun p hp => Evp.ret ⟨ha, hl, h4⟩
  refine Evp.succ ?_
  simp only [spec_DrawFill.p16]
  refine Evp.bindc (spec_l1Below_d _ _ hc) fun r hr => Evp.pos ⟨hr.1, hr.2.1 (by omega)⟩ (Evp.bindc (spec_l1Once_d _ 9 hr.2.2.2) fun o ho => Evp.ite (fun _ => Evp.bindc (spec_l1Below_d _ _ ho) fun p hp => fin _ _ hp.2.2.2) (fun _ => fin _ _ ho))
theorem spec_DrawFill_d (b : List Int) (hb : b.length ≤ 1048576) : Evp (fun k => spec_DrawFill.f k b) FG := by
  simp only [spec_DrawFill.f]
  refine Evp.bind (spec_l1New_d b hb) fun c hc => Evp.bind (spec_l4DrawRight_d c hc) fun a ha => Evp.bindc (spec_l1Below_d _ 20 ha.2.2.2.2.2) fun r hr => ?_
  have h1 := hr.2.1 (by omega)
  have h0 := hr.1
  have ha2 := ha.2.1
  rw [Int.tdiv_eq_ediv_of_nonneg hr.1, wrap64_id (x := r.1 / 19) (by omega) (by omega), wrap64_id (x := ((a.1.1.length : Nat) : Int) + r.1 / 19) (by omega) (by omega)]
  refine Evp.bind (spec_l11DrawStores_d _ _ hr.2.2.2 (by omega) (by omega)) fun l hl => Evp.bindc (spec_l1Below_d _ _ hl.2) fun p hp => Evp.bindc (spec_l1Once_d _ 2 hp.2.2.2) fun o ho => Evp.ite (fun _ => Evp.bindc (spec_l1Below_d _ _ ho) fun q hq => Evp.bindv (spec_l4Put_ev [p.1] q.1 (by simp)) ?_) (fun _ => spec_DrawFill_l _ _ _ _ _ (by omega) ⟨_, by omega, hl.1⟩ (by simp) (by simp) ho)
  have hin := insL_len [p.1] q.1
  exact spec_DrawFill_l _ _ _ _ _ (by omega) ⟨_, by omega, hl.1⟩ (List.length_pos_of_mem (mem_insL.2 (.inl rfl))) (by simp only [List.length_cons, List.length_nil] at hin; omega) hq.2.2.2

/-- A config that is right: its domains, its copies. -/
noncomputable def cfgB (a : Config) : Bool := inB ((a.1.length : Nat) : Int) 1 8 && (inB a.2.1 1 4 && (List.range' 0 a.1.length).all fun i => inB (a.1.getD i 0) 0 7)
theorem cfgB_len {a : Config} (h : cfgB a = true) : 1 ≤ a.1.length ∧ a.1.length ≤ 8 ∧ 1 ≤ a.2.1 ∧ a.2.1 ≤ 4 ∧ ∀ i, i < a.1.length → 0 ≤ a.1.getD i 0 ∧ a.1.getD i 0 ≤ 7 := by
  simp only [cfgB, Bool.and_eq_true, inB_true, List.all_eq_true, List.mem_range'_1] at h
  obtain ⟨h1, h2, h3⟩ := h
  exact ⟨by omega, by omega, h2.1, h2.2, fun i hi => h3 i (by omega)⟩
theorem spec_ConfigOk_ev (a : Config) (hl : a.1.length ≤ 1048576) : Ev (fun k => spec_ConfigOk.f k a) (cfgB a) := by
  have h := all_loop (n := a.1.length) (p := fun k i => spec_ConfigOk.p9 k i a) (q := fun i => inB (a.1.getD i 0) 0 7) (zb := true) (fun i hi b hb => by
    simp only [spec_ConfigOk.p9, spec_l1In_is]
    refine Ev.pos (by omega) (Ev.pos (by omega) (Ev.bindc rfl (Ev.and fun _ => ?_)))
    rw [wrap_up hi (by omega)]; exact hb) (by
    simp only [spec_ConfigOk.p9]
    exact Ev.neg (by omega) Ev.ret) a.1.length 0 (by omega)
  simp only [spec_ConfigOk.f, spec_l1In_is, cfgB]
  refine Ev.bindc rfl (Ev.and fun _ => Ev.bindc rfl (Ev.and fun _ => ?_))
  simpa using h

/-- Ascending numbers from lo to hi. -/
noncomputable def ascB (l : List Int) (lo hi : Int) : Bool := (List.range' 0 l.length).all fun i => inB (l.getD i 0) lo hi && (decide (i = 0) || !decide (l.getD i 0 ≤ l.getD (i - 1) 0))
theorem ascB_mem {l : List Int} {lo hi : Int} (h : ascB l lo hi = true) {i : Nat} (hi' : i < l.length) : lo ≤ l.getD i 0 ∧ l.getD i 0 ≤ hi := by
  simp only [ascB, List.all_eq_true, List.mem_range'_1, Bool.and_eq_true, inB_true] at h
  exact (h i (by omega)).1
theorem spec_l4Asc_ev (l : List Int) (lo hi : Int) (hl : l.length ≤ 1048576) : Ev (fun k => spec_l4Asc.f k l lo hi) (ascB l lo hi) := by
  have h := all_loop (n := l.length) (p := fun k i => spec_l4Asc.p5 k l lo hi i) (q := fun i => inB (l.getD i 0) lo hi && (decide (i = 0) || !decide (l.getD i 0 ≤ l.getD (i - 1) 0))) (zb := true) (fun i hi' b hb => by
    simp only [spec_l4Asc.p5, spec_l1In_is]
    refine Ev.pos (by omega) (Ev.pos (by omega) (Ev.bindc rfl ?_))
    rw [Bool.and_assoc]
    refine Ev.and fun _ => ?_
    rw [wrap_up hi' (by omega)]
    by_cases h0 : i = 0
    · subst h0
      exact (Ev.neg (by omega) hb).eq (by simp)
    · have e : wrap64 ((i : Int) - 1) = ((i - 1 : Nat) : Int) := by rw [wrap64_id (by omega) (by omega)]; omega
      rw [e]
      refine Ev.pos (by omega) (Ev.pos (by omega) (Ev.pos (by omega) ?_))
      rw [decide_eq_false h0, Bool.false_or]
      exact Ev.nand fun _ => hb) (by
    simp only [spec_l4Asc.p5]
    exact Ev.neg (by omega) Ev.ret) l.length 0 (by omega)
  exact (Ev.cg h fun k => rfl).eq (by unfold ascB; rw [Bool.and_true])
theorem ascB_Asc {l : List Int} {lo hi : Int} (h : ascB l lo hi = true) : Asc l := Asc.of fun q hq => by
  simp only [ascB, List.all_eq_true, List.mem_range'_1, Bool.and_eq_true, Bool.or_eq_true, decide_eq_true_eq, Bool.not_eq_true', decide_eq_false_iff_not] at h
  have := (h (q + 1) (by omega)).2
  simp only [Nat.add_sub_cancel] at this
  omega
theorem ascB_iff {l : List Int} {lo hi : Int} : ascB l lo hi = true ↔ (∀ x ∈ l, lo ≤ x ∧ x ≤ hi) ∧ l.Pairwise (· < ·) := by
  constructor
  · intro h
    refine ⟨fun x hx => ?_, (ascB_Asc h).pw⟩
    obtain ⟨q, hq, rfl⟩ := getD_of_mem hx
    exact ascB_mem h hq
  · rintro ⟨h1, h2⟩
    simp only [ascB, List.all_eq_true, List.mem_range'_1, Bool.and_eq_true, Bool.or_eq_true, decide_eq_true_eq, Bool.not_eq_true', decide_eq_false_iff_not, inB_true]
    intro i hi
    refine ⟨h1 _ (getD_mem (by omega)), ?_⟩
    by_cases h0 : i = 0
    · exact .inl h0
    · have := Asc.of_pw h2 (i - 1) i (by omega) (by omega)
      exact .inr (by omega)
theorem ascB_len {l : List Int} {lo hi : Int} (h : ascB l lo hi = true) : l.length = 0 ∨ (l.length : Int) ≤ hi - lo + 1 := by
  have ha := ascB_Asc h
  have key : ∀ q, q < l.length → lo + (q : Int) ≤ l.getD q 0 := by
    intro q
    induction q with
    | zero => intro hq; have := (ascB_mem h hq).1; omega
    | succ q ih => intro hq; have := ih (by omega); have := ha q (q + 1) (by omega) hq; omega
  by_cases h0 : l.length = 0
  · exact .inl h0
  · have := key (l.length - 1) (by omega)
    have := (ascB_mem h (i := l.length - 1) (by omega)).2
    exact .inr (by omega)

noncomputable def nodesB (a : Config) (l : List Int) : Bool := cfgB a && ascB l 0 (((a.1.length : Nat) : Int) - 1)
theorem spec_NodesOk_ev (a : Config) (l : List Int) (ha : a.1.length ≤ 1048576) (hl : l.length ≤ 1048576) : Ev (fun k => spec_NodesOk.f k a l) (nodesB a l) := by
  simp only [spec_NodesOk.f, nodesB]
  refine Ev.bind (spec_ConfigOk_ev a ha) (Ev.and fun _ => ?_)
  rw [wrap64_id (by omega) (by omega)]
  exact Ev.bind (spec_l4Asc_ev l 0 _ hl) Ev.ret
theorem nodesB_len {a : Config} {l : List Int} (h : nodesB a l = true) : l.length ≤ 8 := by
  simp only [nodesB, Bool.and_eq_true] at h
  have := cfgB_len h.1
  have := ascB_len h.2
  omega
theorem nodesB_Asc {a : Config} {l : List Int} (h : nodesB a l = true) : Asc l := by
  simp only [nodesB, Bool.and_eq_true] at h
  exact ascB_Asc h.2
theorem nodesB_filter {a : Config} {l : List Int} (p : Int → Bool) (h : nodesB a l = true) : nodesB a (l.filter p) = true := by
  simp only [nodesB, Bool.and_eq_true, ascB_iff] at h ⊢
  exact ⟨h.1, fun x hx => h.2.1 x (List.mem_filter.1 hx).1, h.2.2.filter _⟩
theorem nodesB_ins {a : Config} {l : List Int} {x : Int} (h : nodesB a l = true) (h0 : 0 ≤ x) (h1 : x ≤ ((a.1.length : Nat) : Int) - 1) : nodesB a (insL l x) = true := by
  simp only [nodesB, Bool.and_eq_true, ascB_iff] at h ⊢
  refine ⟨h.1, fun y hy => ?_, insL_pw h.2.2⟩
  rcases mem_insL.1 hy with rfl | hy
  · exact ⟨h0, h1⟩
  · exact h.2.1 y hy

/-- The domains of nodes, each once, behind those that were met. -/
noncomputable def domsOf (a : Config) : List Int → List Int → List Int
  | [], acc => acc
  | n :: l, acc => domsOf a l (if acc.contains (a.1.getD n.toNat 0) then acc else acc ++ [a.1.getD n.toNat 0])
noncomputable def spanOf (a : Config) (l : List Int) : Int := ((domsOf a l []).length : Int)
theorem spec_l4Span_l (a : Config) (l : List Int) (hdom : ∀ i, i < a.1.length → 0 ≤ a.1.getD i 0 ∧ a.1.getD i 0 ≤ 7) (hl : l.length ≤ 1048576) (hmem : ∀ i, i < l.length → 0 ≤ l.getD i 0 ∧ l.getD i 0 < ((a.1.length : Nat) : Int)) :
    ∀ (m i : Nat) (seen : List Bool) (acc : List Int), i + m = l.length → seen.length = 8 → acc.length ≤ i → (∀ x : Int, 0 ≤ x → x ≤ 7 → (seen.getD x.toNat false = acc.contains x)) →
    Ev (fun k => spec_l4Span.p9 k l seen (acc.length : Int) (i : Int) a) ((domsOf a (l.drop i) acc).length : Int) := by
  intro m
  induction m with
  | zero =>
    intro i seen acc h hs ha hx
    refine Ev.succ ?_
    simp only [spec_l4Span.p9]
    rw [List.drop_eq_nil_of_le (by omega)]
    exact Ev.neg (by omega) Ev.ret
  | succ m ih =>
    intro i seen acc h hs ha hx
    have hi : i < l.length := by omega
    have hn := hmem i hi
    have hv := hdom (l.getD i 0).toNat (by omega)
    refine Ev.succ ?_
    simp only [spec_l4Span.p9, Int.toNat_natCast]
    rw [drop_get (d := (0 : Int)) hi]
    simp only [domsOf]
    generalize hw : a.1.getD (l.getD i 0).toNat 0 = x at *
    refine Ev.pos (by omega) (Ev.pos (by omega) (Ev.pos (by omega) (Ev.pos (by omega) ?_)))
    rw [hx _ hv.1 hv.2, wrap_up hi (by omega)]
    by_cases hc : acc.contains x = true
    · rw [if_pos hc]
      exact Ev.pos hc (ih (i + 1) seen acc (by omega) hs (by omega) hx)
    · rw [if_neg hc]
      refine Ev.neg hc (Ev.pos (by omega) ?_)
      have := ih (i + 1) (seen.set x.toNat true) (acc ++ [x]) (by omega) (by simp [hs]) (by simp; omega) (by
        intro y h0 h7
        by_cases e : y = x
        · subst e
          simp [List.getD_eq_getElem?_getD, List.getElem?_set, hs, show y.toNat < 8 by omega]
        · have he : x.toNat ≠ y.toNat := by omega
          have := hx y h0 h7
          rw [List.getD_eq_getElem?_getD, List.getElem?_set, if_neg he, ← List.getD_eq_getElem?_getD, this]
          simp [e])
      have e1 : wrap64 ((acc.length : Int) + 1) = ((acc ++ [x]).length : Int) := by rw [wrap64_id (by omega) (by omega)]; simp
      rw [e1]; exact this
theorem spec_l4Span_ev (a : Config) (l : List Int) (hok : nodesB a l = true) (hl : l.length ≤ 1048576) : Ev (fun k => spec_l4Span.f k a l) (spanOf a l) := by
  simp only [nodesB, Bool.and_eq_true] at hok
  obtain ⟨h1, h2, _, _, h5⟩ := cfgB_len hok.1
  simp only [spec_l4Span.f]
  refine Ev.pos (by simp [lim_eq]) ?_
  have := spec_l4Span_l a l h5 hl (fun i hi => by have := ascB_mem hok.2 hi; omega) l.length 0 (List.replicate 8 false) [] (by omega) (by simp) (by simp) (by
    intro x h0 h7
    rw [List.getD_eq_getElem?_getD, List.getElem?_replicate, if_pos (by omega)]
    rfl)
  rw [List.drop_zero] at this
  exact this
theorem nodup_len {l m : List Int} (h : l.Nodup) (hs : ∀ x ∈ l, x ∈ m) : l.length ≤ m.length := by
  induction l generalizing m with
  | nil => exact Nat.zero_le _
  | cons x l ih =>
    rw [List.nodup_cons] at h
    have hx := hs x List.mem_cons_self
    have := ih (m := m.erase x) h.2 fun y hy => by
      have hne : y ≠ x := fun e => h.1 (e ▸ hy)
      exact (List.mem_erase_of_ne hne).2 (hs y (List.mem_cons_of_mem _ hy))
    rw [List.length_erase_of_mem hx] at this
    have hp := List.length_pos_of_mem hx
    rw [List.length_cons]; omega
theorem domsOf_nodup (a : Config) : ∀ (l acc : List Int), acc.Nodup → (domsOf a l acc).Nodup := by
  intro l
  induction l with
  | nil => intro acc h; exact h
  | cons n l ih =>
    intro acc h
    unfold domsOf
    refine ih _ ?_
    split
    · exact h
    · rename_i hc
      rw [List.contains_iff_mem] at hc
      refine List.nodup_append.2 ⟨h, by simp, fun x hx y hy => ?_⟩
      rw [List.mem_singleton] at hy
      intro e
      exact hc (hy ▸ e ▸ hx)
theorem domsOf_mem (a : Config) : ∀ (l acc : List Int) (x : Int), x ∈ domsOf a l acc ↔ x ∈ acc ∨ ∃ n ∈ l, a.1.getD n.toNat 0 = x := by
  intro l
  induction l with
  | nil => intro acc x; simp [domsOf]
  | cons n l ih =>
    intro acc x
    unfold domsOf
    rw [ih]
    split
    · rename_i hc
      rw [List.contains_iff_mem] at hc
      constructor
      · rintro (h | ⟨m, h1, h2⟩)
        · exact .inl h
        · exact .inr ⟨m, List.mem_cons_of_mem _ h1, h2⟩
      · rintro (h | ⟨m, h1, h2⟩)
        · exact .inl h
        · rcases List.mem_cons.1 h1 with rfl | h1
          · exact .inl (h2 ▸ hc)
          · exact .inr ⟨m, h1, h2⟩
    · constructor
      · rintro (h | ⟨m, h1, h2⟩)
        · rcases List.mem_append.1 h with h | h
          · exact .inl h
          · rw [List.mem_singleton] at h
            exact .inr ⟨n, List.mem_cons_self, h.symm⟩
        · exact .inr ⟨m, List.mem_cons_of_mem _ h1, h2⟩
      · rintro (h | ⟨m, h1, h2⟩)
        · exact .inl (List.mem_append_left _ h)
        · rcases List.mem_cons.1 h1 with rfl | h1
          · exact .inl (List.mem_append_right _ (List.mem_singleton.2 h2.symm))
          · exact .inr ⟨m, h1, h2⟩
theorem spanOf_mono (a : Config) {l m : List Int} (h : ∀ x ∈ l, x ∈ m) : spanOf a l ≤ spanOf a m := by
  unfold spanOf
  have := nodup_len (domsOf_nodup a l [] List.nodup_nil) (m := domsOf a m []) fun x hx => by
    rw [domsOf_mem] at hx ⊢
    rcases hx with hx | ⟨n, h1, h2⟩
    · exact .inl hx
    · exact .inr ⟨n, h n h1, h2⟩
  omega

noncomputable def holdsB (a : Config) (l : List Int) : Bool := nodesB a l && decide (a.2.1 ≤ spanOf a l)
theorem spec_Holds_ev (a : Config) (l : List Int) (ha : a.1.length ≤ 1048576) (hl : l.length ≤ 1048576) : Ev (fun k => spec_Holds.f k a l) (holdsB a l) := by
  simp only [spec_Holds.f, holdsB]
  exact Ev.bind (spec_NodesOk_ev a l ha hl) (Ev.and fun h => Ev.bind (spec_l4Span_ev a l h hl) Ev.ret)
theorem holdsB_mono {a : Config} {l m : List Int} (hm : nodesB a m = true) (h : ∀ x ∈ l, x ∈ m) (hl : holdsB a l = true) : holdsB a m = true := by
  unfold holdsB at *
  rw [hm, Bool.true_and, decide_eq_true_eq]
  have := spanOf_mono a h
  simp only [Bool.and_eq_true, decide_eq_true_eq] at hl
  omega

noncomputable def lostB (a : Config) (l : List Int) : Bool := nodesB a l && !holdsB a l
theorem spec_LostOk_ev (a : Config) (l : List Int) (ha : a.1.length ≤ 1048576) (hl : l.length ≤ 1048576) : Ev (fun k => spec_LostOk.f k a l) (lostB a l) := by
  simp only [spec_LostOk.f]
  unfold lostB
  exact Ev.bind (spec_NodesOk_ev a l ha hl) (Ev.and fun _ => Ev.bind (spec_Holds_ev a l ha hl) (Ev.ret.eq (by cases holdsB a l <;> rfl)))

theorem spec_l11Union_ll (x0 : List Store) (hx : StG x0) : ∀ (m i : Nat) (acc : List Entry), i + m = x0.length → acc.length + ktS (x0.drop i) ≤ 1048576 → Ev (fun k => spec_l11Union.p7 k x0 acc (i : Int)) (unionL acc (x0.drop i)) := by
  have hxl := hx.1
  intro m
  induction m with
  | zero =>
    intro i acc hi ha
    refine Ev.succ ?_
    simp only [spec_l11Union.p7]
    rw [List.drop_eq_nil_of_le (by omega)]
    exact Ev.neg (by omega) Ev.ret
  | succ m ih =>
    intro i acc hi ha
    have hlt : i < x0.length := by omega
    rw [drop_get (d := zSto) hlt, ktS_cons] at ha
    have hin : ∀ (d j : Nat) (acc : List Entry), j + d = (x0.getD i zSto).1.length → acc.length + d + ktS (x0.drop (i + 1)) ≤ 1048576 → Ev (fun k => spec_l11Union.p13 k x0 acc (i : Int) (j : Int)) (unionL (keepsL acc ((x0.getD i zSto).1.drop j)) (x0.drop (i + 1))) := by
      have hsl := (hx.2 _ (getD_mem (d := zSto) hlt)).1.1
      intro d
      induction d with
      | zero =>
        intro j acc hj hacc
        refine Ev.succ ?_
        simp only [spec_l11Union.p13, Int.toNat_natCast]
        rw [wrap_up hlt (by omega), List.drop_eq_nil_of_le (by omega)]
        exact Ev.pos (by omega) (Ev.neg (show ¬ (j : Int) < (((x0.getD i zSto).1.length : Nat) : Int) by omega) (ih (i + 1) acc (by omega) (by omega)))
      | succ d ihd =>
        intro j acc hj hacc
        have hkl := keepL_len acc ((x0.getD i zSto).1.getD j zEnt)
        refine Ev.succ ?_
        simp only [spec_l11Union.p13, Int.toNat_natCast]
        rw [wrap_up (i := j) (n := (x0.getD i zSto).1.length) (by omega) (by omega), drop_get (d := zEnt) (by omega : j < (x0.getD i zSto).1.length)]
        refine Ev.pos (by omega) (Ev.pos (show (j : Int) < (((x0.getD i zSto).1.length : Nat) : Int) by omega) (Ev.pos (by omega) (Ev.pos (show (0 : Int) ≤ (j : Int) ∧ (j : Int) < (((x0.getD i zSto).1.length : Nat) : Int) by omega) (Ev.bind (spec_l6Keep_ev acc _ (by omega)) ?_))))
        exact ihd (j + 1) _ (by omega) (by show (keepL acc ((x0.getD i zSto).1.getD j zEnt)).length + d + _ ≤ _; omega)
    refine Ev.succ ?_
    simp only [spec_l11Union.p7]
    rw [drop_get (d := zSto) hlt]
    exact Ev.pos (by omega) (hin (x0.getD i zSto).1.length 0 acc (by omega) (by omega))
theorem spec_l11Union_ev (x0 : List Store) (hx : StG x0) (hk : ktS x0 ≤ 1048576) : Ev (fun k => spec_l11Union.f k x0) (unionL [] x0) :=
  spec_l11Union_ll x0 hx x0.length 0 [] (by omega) (by simpa using hk)

noncomputable def fillF (a : Config) (l : List Store) (lost : List Int) (node upto : Int) : Store × Bool :=
  if ((l.length : Nat) : Int) = ((a.1.length : Nat) : Int) ∧ lostB a lost = true ∧ lost.contains node = true then fillG (othersL lost 0 l) upto else (zSto, false)
theorem spec_Fill_b (x1 : List Store) (upto : Int) (h : StG x1) (hk : ktS x1 ≤ 1048576) (z : Store) : ∀ (m i : Nat), i + m = x1.length → Ev (fun k => spec_Fill.p23 k upto x1 (i : Int) z zSto) (if (x1.drop i).all storeB = true then (if storeB (fillS x1 upto) = true then (fillS x1 upto, true) else (zSto, false)) else (zSto, false)) := by
  have hxl := h.1
  intro m
  induction m with
  | zero =>
    intro i hi
    refine Ev.succ ?_
    simp only [spec_Fill.p23]
    rw [List.drop_eq_nil_of_le (by omega)]
    have hu := unionL_EG x1 h hk
    refine Ev.neg (by omega) (Ev.bind (spec_l11Union_ev x1 h hk) (Ev.bind (spec_StoreOk_ev (fillS x1 upto) hu.1 (Nat.zero_le _) hu.at (fun i hi => absurd hi (Nat.not_lt_zero _))) ?_))
    exact Ev.ite (fun _ => Ev.ret) (fun _ => Ev.ret)
  | succ m ih =>
    intro i hi
    have hlt : i < x1.length := by omega
    refine Ev.succ ?_
    simp only [spec_Fill.p23, Int.toNat_natCast]
    rw [wrap_up hlt (by omega), drop_get (d := zSto) hlt, List.all_cons]
    refine Ev.pos (by omega) (Ev.pos (by omega) (Ev.bind (h.ok hlt) ?_))
    by_cases hb : storeB (x1.getD i zSto) = true
    · rw [hb, Bool.true_and]; exact Ev.pos rfl (ih (i + 1) (by omega))
    · rw [Bool.not_eq_true] at hb
      rw [hb, Bool.false_and]; exact Ev.neg (by decide) Ev.ret
theorem spec_Fill_l (x0 : List Store) (lost : List Int) (upto : Int) (h : StG x0) (hk : ktS x0 ≤ 1048576) (hl : lost.length ≤ 1048576) (z : Store) : ∀ (m i : Nat) (o : List Store), i + m = x0.length → o.length ≤ i → o ++ othersL lost i (x0.drop i) = othersL lost 0 x0 → Ev (fun k => spec_Fill.p13 k x0 lost upto o (i : Int) z zSto) (fillG (othersL lost 0 x0) upto) := by
  have hxl := h.1
  intro m
  induction m with
  | zero =>
    intro i o hi ho he
    refine Ev.succ ?_
    simp only [spec_Fill.p13]
    rw [List.drop_eq_nil_of_le (by omega)] at he
    have he : o = othersL lost 0 x0 := by rw [← he]; simp [othersL]
    rw [he]
    exact Ev.neg (by omega) (spec_Fill_b _ upto (h.others 0) (Nat.le_trans othersL_len.2 hk) z _ 0 (Nat.zero_add _))
  | succ m ih =>
    intro i o hi ho he
    have hlt : i < x0.length := by omega
    refine Ev.succ ?_
    simp only [spec_Fill.p13, Int.toNat_natCast]
    rw [wrap_up hlt (by omega)]
    rw [drop_get (d := zSto) hlt] at he
    refine Ev.pos (by omega) (Ev.bind (spec_l4Has_ev lost (i : Int) hl) ?_)
    rw [othersL_cons] at he
    by_cases hc : lost.contains (i : Int) = true
    · rw [if_pos hc] at he
      exact Ev.pos hc (ih (i + 1) o (by omega) (by omega) he)
    · rw [if_neg hc] at he
      exact Ev.neg hc (Ev.pos (by omega) (Ev.pos (by simp only [lim_eq, List.length_cons, List.length_nil]; omega) (ih (i + 1) _ (by omega) (by simp; omega) (by rw [List.append_assoc]; exact he))))
theorem spec_Fill_ev (a : Config) (l : List Store) (lost : List Int) (node upto : Int) (ha : a.1.length ≤ 1048576) (h : StG l) (hk : ktS l ≤ 1048576) (hl : lost.length ≤ 1048576) : Ev (fun k => spec_Fill.f k a l lost node upto) (fillF a l lost node upto) := by
  simp only [spec_Fill.f]
  unfold fillF
  refine Ev.bind (spec_ConfigOk_ev a ha) ?_
  by_cases hc : cfgB a = true
  case neg =>
    have : ¬ lostB a lost = true := fun h => by
      simp only [lostB, nodesB, Bool.and_eq_true] at h
      exact hc h.1.1
    rw [if_neg (fun h => this h.2.1)]
    exact Ev.neg hc Ev.ret
  refine Ev.pos hc ?_
  by_cases h1 : ((l.length : Nat) : Int) = ((a.1.length : Nat) : Int)
  case neg => rw [if_neg (fun h => h1 h.1)]; exact Ev.neg h1 Ev.ret
  refine Ev.pos h1 (Ev.bind (spec_LostOk_ev a lost ha hl) ?_)
  by_cases h2 : lostB a lost = true
  case neg => rw [if_neg (fun h => h2 h.2.1)]; exact Ev.neg h2 Ev.ret
  refine Ev.pos h2 (Ev.bind (spec_l4Has_ev lost node hl) ?_)
  by_cases h3 : lost.contains node = true
  case neg => rw [if_neg (fun h => h3 h.2.2)]; exact Ev.neg h3 Ev.ret
  rw [if_pos ⟨h1, h2, h3⟩]
  exact Ev.pos h3 (spec_Fill_l l lost upto h hk hl _ l.length 0 [] (by omega) (by simp) rfl)

theorem laws_big_is (b : List Int) : laws_big.f b = some (decide ((1048576 : Int) < ((b.length : Nat) : Int))) := rfl

theorem impl_within_is (x a b : Int) : impl_within.f x a b = some (inB x a b) := ite_inB x a b

theorem impl_ConfigOk_ev (a : Config) (hl : a.1.length ≤ 1048576) : Ev (fun k => impl_ConfigOk.f k a) (cfgB a) := by
  have h := all_loop (n := a.1.length) (p := fun k i => impl_ConfigOk.p5 k a.1 ((a.1.length : Nat) : Int) i a) (q := fun i => inB (a.1.getD i 0) 0 7) (zb := inB ((a.1.length : Nat) : Int) 1 8 && (inB a.2.1 1 4 && true)) (fun i hi b hb => by
    simp only [impl_ConfigOk.p5, impl_within_is]
    refine Ev.pos (by omega) (Ev.pos (by omega) (Ev.bindc rfl (Ev.and fun _ => ?_)))
    rw [wrap_up hi (by omega)]; exact hb) (by
    simp only [impl_ConfigOk.p5, impl_within_is]
    refine Ev.neg (by omega) (Ev.bindc rfl (Ev.and fun _ => Ev.bindc rfl (Ev.ret.eq (by simp))))) a.1.length 0 (by omega)
  refine (Ev.cg h fun k => rfl).eq ?_
  unfold cfgB
  cases inB ((a.1.length : Nat) : Int) 1 8 <;> cases inB a.2.1 1 4 <;> simp

theorem impl_ascends_ev (l : List Int) (hi : Int) (hl : l.length ≤ 1048576) : Ev (fun k => impl_ascends.f k l hi) (ascB l 0 hi) := by
  have h := all_loop (n := l.length) (p := fun k i => impl_ascends.p5 k l hi l ((l.length : Nat) : Int) i) (q := fun i => inB (l.getD i 0) 0 hi && (decide (i = 0) || !decide (l.getD i 0 ≤ l.getD (i - 1) 0))) (zb := true) (fun i hi' b hb => by
    simp only [impl_ascends.p5, impl_within_is]
    refine Ev.pos (by omega) (Ev.pos (by omega) (Ev.bindc rfl ?_))
    rw [Bool.and_assoc]
    refine Ev.and fun _ => ?_
    rw [wrap_up hi' (by omega)]
    by_cases h0 : i = 0
    · subst h0
      exact (Ev.neg (by omega) hb).eq (by simp)
    · have e : wrap64 ((i : Int) - 1) = ((i - 1 : Nat) : Int) := by rw [wrap64_id (by omega) (by omega)]; omega
      rw [e]
      refine Ev.pos (by omega) (Ev.pos (by omega) ?_)
      rw [decide_eq_false h0, Bool.false_or]
      exact Ev.nand fun _ => hb) (by
    simp only [impl_ascends.p5]
    exact Ev.neg (by omega) Ev.ret) l.length 0 (by omega)
  exact (Ev.cg h fun k => rfl).eq (by unfold ascB; rw [Bool.and_true])

theorem impl_NodesOk_ev (a : Config) (l : List Int) (ha : a.1.length ≤ 1048576) (hl : l.length ≤ 1048576) : Ev (fun k => impl_NodesOk.f k a l) (nodesB a l) := by
  simp only [impl_NodesOk.f, nodesB]
  refine Ev.bind (impl_ConfigOk_ev a ha) (Ev.and fun _ => ?_)
  rw [wrap64_id (by omega) (by omega)]
  exact Ev.bind (impl_ascends_ev l _ hl) Ev.ret

theorem slices_Index_l (l : List Int) (x : Int) (hl : l.length ≤ 1048576) : ∀ (m i : Nat), i + m = l.length → ∃ r : Int, Ev (fun k => slices_Index_int_int.p5 k l x ((l.length : Nat) : Int) (i : Int)) r ∧ (decide (0 ≤ r) = (l.drop i).contains x) := by
  intro m
  induction m with
  | zero =>
    intro i h
    refine ⟨-1, Ev.succ ?_, by rw [List.drop_eq_nil_of_le (by omega)]; rfl⟩
    simp only [slices_Index_int_int.p5]
    exact Ev.neg (by omega) Ev.ret
  | succ m ih =>
    intro i h
    have hi : i < l.length := by omega
    rw [drop_get (d := (0 : Int)) hi]
    by_cases hx : x = l.getD i 0
    · refine ⟨i, Ev.succ ?_, by simp [hx]⟩
      simp only [slices_Index_int_int.p5, Int.toNat_natCast]
      exact Ev.pos (by omega) (Ev.pos (by omega) (Ev.pos hx Ev.ret))
    · obtain ⟨r, h1, h2⟩ := ih (i + 1) (by omega)
      refine ⟨r, Ev.succ ?_, by rw [h2, List.contains_cons, beq_eq_false_iff_ne.2 hx, Bool.false_or]⟩
      simp only [slices_Index_int_int.p5, Int.toNat_natCast]
      refine Ev.pos (by omega) (Ev.pos (by omega) (Ev.neg hx ?_))
      rw [wrap_up hi (by omega)]; exact h1

theorem slices_Contains_ev (l : List Int) (x : Int) (hl : l.length ≤ 1048576) : Ev (fun k => slices_Contains_int_int.f k l x) (l.contains x) := by
  obtain ⟨r, h1, h2⟩ := slices_Index_l l x hl l.length 0 (by omega)
  simp only [slices_Contains_int_int.f, slices_Index_int_int.f]
  exact (Ev.bind h1 (Ev.ret (v := decide (0 ≤ r)))).eq (by rw [h2, List.drop_zero])

theorem impl_SpanOf_l (a : Config) (l : List Int) (hl : l.length ≤ 1048576) (hmem : ∀ i, i < l.length → 0 ≤ l.getD i 0 ∧ l.getD i 0 < ((a.1.length : Nat) : Int)) :
    ∀ (m i : Nat) (acc : List Int), i + m = l.length → acc.length ≤ i → Ev (fun k => impl_SpanOf.p11 k acc l ((l.length : Nat) : Int) (i : Int) a) ((domsOf a (l.drop i) acc).length : Int) := by
  intro m
  induction m with
  | zero =>
    intro i acc h ha
    refine Ev.succ ?_
    simp only [impl_SpanOf.p11]
    rw [List.drop_eq_nil_of_le (by omega)]
    exact Ev.neg (by omega) Ev.ret
  | succ m ih =>
    intro i acc h ha
    have hi : i < l.length := by omega
    have hn := hmem i hi
    refine Ev.succ ?_
    simp only [impl_SpanOf.p11, Int.toNat_natCast]
    rw [drop_get (d := (0 : Int)) hi]
    simp only [domsOf]
    generalize hw : a.1.getD (l.getD i 0).toNat 0 = x at *
    refine Ev.pos (by omega) (Ev.pos (by omega) (Ev.pos (by omega) (Ev.bind (slices_Contains_ev acc x (by omega)) ?_)))
    rw [wrap_up hi (by omega)]
    by_cases hc : acc.contains x = true
    · rw [if_pos hc]
      exact Ev.pos hc (ih (i + 1) acc (by omega) (by omega))
    · rw [if_neg hc]
      refine Ev.neg hc (Ev.pos (by omega) (Ev.pos (by simp [lim_eq]; omega) ?_))
      exact ih (i + 1) (acc ++ [x]) (by omega) (by simp; omega)
theorem impl_SpanOf_ev (a : Config) (l : List Int) (ha : a.1.length ≤ 1048576) (hl : l.length ≤ 1048576) : Ev (fun k => impl_SpanOf.f k a l) (if nodesB a l = true then spanOf a l else -1) := by
  simp only [impl_SpanOf.f]
  refine Ev.bind (impl_NodesOk_ev a l ha hl) (Ev.ite (fun h => ?_) fun _ => Ev.ret)
  simp only [nodesB, Bool.and_eq_true] at h
  have := impl_SpanOf_l a l hl (fun i hi => by have := ascB_mem h.2 hi; omega) l.length 0 [] (by omega) (by simp)
  rw [List.drop_zero] at this
  exact this

theorem impl_Holds_ev (a : Config) (l : List Int) (ha : a.1.length ≤ 1048576) (hl : l.length ≤ 1048576) : Ev (fun k => impl_Holds.f k a l) (holdsB a l) := by
  simp only [impl_Holds.f, holdsB]
  refine Ev.bind (impl_NodesOk_ev a l ha hl) (Ev.and fun h => Ev.bind (impl_SpanOf_ev a l ha hl) ?_)
  rw [if_pos h]; exact Ev.ret

theorem impl_LostOk_ev (a : Config) (l : List Int) (ha : a.1.length ≤ 1048576) (hl : l.length ≤ 1048576) : Ev (fun k => impl_LostOk.f k a l) (lostB a l) := by
  simp only [impl_LostOk.f]
  unfold lostB
  exact Ev.bind (impl_NodesOk_ev a l ha hl) (Ev.and fun _ => Ev.bind (impl_Holds_ev a l ha hl) (Ev.ret.eq (by cases holdsB a l <;> rfl)))

theorem impl_PlaceOk_is (x : Int) (hx : InR x) : impl_PlaceOk.f x = some (placeOk x) := by
  have h1 := hx.1; have h2 := hx.2
  simp only [impl_PlaceOk.f, placeOk, impl_isEpoch.f, impl_isOff.f, impl_within_is]
  by_cases h : 0 < x
  · rw [tdiv_pos (by omega), tmod_pos (by omega), wrap64_id (by omega) (by omega)]
    cases inB (x / 4294967296) 1 30 <;> simp [h]
  · rw [tdiv_neg' (by omega), wrap64_id (by omega) (by omega), show inB (-(-x / 4294967296)) 1 30 = false by
      rw [Bool.eq_false_iff]
      intro he
      rw [inB_true] at he
      omega]
    simp [h]

theorem impl_dataOk_is (s : ByteArray) : impl_dataOk.f s = some (!decide ((40 : Int) < ((s.size : Nat) : Int))) := by
  simp only [impl_dataOk.f]
  by_cases h : ((s.size : Nat) : Int) ≤ 40
  · rw [decide_eq_true h, decide_eq_false (by omega)]; rfl
  · rw [decide_eq_false h, decide_eq_true (by omega)]; rfl

theorem impl_EpochOf_is (x : Int) (hx : InR x) : impl_EpochOf.f x = some (epochOf x) := by
  have h2 := hx.2
  simp only [impl_EpochOf.f, impl_PlaceOk_is x hx, Option.bind_some, epochOf]
  by_cases h : placeOk x = true
  · have := placeOk_pos h
    rw [if_pos h, if_pos h, tdiv_pos (by omega), wrap64_id (by omega) (by omega)]
  · rw [if_neg h, if_neg h]

theorem impl_EntryOk_ev (e : Entry) (ha : InR e.1) : Ev (fun k => impl_EntryOk.f k e) (entB e) := by
  have h6 : ∀ p q : Bool, Ev (fun k => impl_EntryOk.p6 k p q e) (placeOk e.1 && (p && (q && decide (((e.2.2.2.1.size : Nat) : Int) ≤ 40)))) := fun p q => by
    refine Ev.succ ?_
    simp only [impl_EntryOk.p6, impl_PlaceOk_is _ ha, impl_dataOk.f, Option.bind_some]
    exact Ev.and fun _ => Ev.and fun _ => Ev.and fun _ => Ev.ret
  have h4 : ∀ p : Bool, Ev (fun k => impl_EntryOk.p4 k p e) (placeOk e.1 && (p && ((!e.2.2.1 || (decide (0 < e.2.1) && decide (e.2.2.2.1 = (⟨#[]⟩ : ByteArray)))) && decide (((e.2.2.2.1.size : Nat) : Int) ≤ 40)))) := fun p => by
    refine Ev.succ ?_
    simp only [impl_EntryOk.p4]
    cases hc : e.2.2.1 with
    | true =>
      refine Ev.pos rfl ?_
      by_cases h0 : (0 : Int) < e.2.1
      · exact (Ev.pos h0 (h6 p _)).eq (by rw [decide_eq_true h0]; simp)
      · exact (Ev.neg h0 (h6 p _)).eq (by rw [decide_eq_false h0]; simp)
    | false => exact (Ev.neg (by decide) (h6 p _)).eq (by simp)
  simp only [impl_EntryOk.f, impl_EpochOf_is _ ha, impl_within_is, Option.bind_some]
  have key : ∀ v : Bool, v = (inB e.2.1 0 30 && !(decide (0 < e.2.1) && decide (e.2.1 ≤ epochOf e.1))) → Ev (fun k => impl_EntryOk.p4 k v e) (entB e) := fun v hv => (h4 v).eq (by
    unfold entB
    rw [hv]
    cases placeOk e.1 <;> cases inB e.2.1 0 30 <;> cases decide ((0 : Int) < e.2.1) <;> cases decide (e.2.1 ≤ epochOf e.1) <;> cases e.2.2.1 <;> cases decide (((e.2.2.2.1.size : Nat) : Int) ≤ 40) <;> cases decide (e.2.2.2.1 = (⟨#[]⟩ : ByteArray)) <;> rfl)
  by_cases hi : inB e.2.1 0 30 = true
  · have hb := inB_true.1 hi
    refine Ev.pos hi ?_
    by_cases h0 : e.2.1 = 0
    · exact Ev.pos h0 (key true (by rw [hi, decide_eq_false (show ¬ (0 : Int) < e.2.1 by omega)]; rfl))
    · refine Ev.neg h0 (key _ ?_)
      rw [hi, decide_eq_true (show (0 : Int) < e.2.1 by omega)]
      by_cases h1 : epochOf e.1 < e.2.1
      · rw [decide_eq_true h1, decide_eq_false (by omega)]; rfl
      · rw [decide_eq_false h1, decide_eq_true (by omega)]; rfl
  · exact Ev.neg hi (key false (by rw [Bool.not_eq_true] at hi; rw [hi]; rfl))

theorem impl_entriesOk_ev (l : List Entry) (hl : l.length ≤ 1048576) (ha : ∀ i, i < l.length → InR (l.getD i zEnt).1) : Ev (fun k => impl_entriesOk.f k l) (entsB l) := by
  have h := all_loop (n := l.length) (p := fun k i => impl_entriesOk.p5 k l ((l.length : Nat) : Int) i) (q := fun i => entB (l.getD i zEnt)) (zb := true) (fun i hi b hb => by
    simp only [impl_entriesOk.p5, Int.toNat_natCast]
    rw [wrap_up hi (by omega)]
    exact Ev.pos (by omega) (Ev.pos (by omega) (Ev.bind (impl_EntryOk_ev _ (ha i hi)) (Ev.and fun _ => hb)))) (by
    simp only [impl_entriesOk.p5]
    exact Ev.neg (by omega) Ev.ret) l.length 0 (by omega)
  rw [Bool.and_true] at h
  exact h

theorem impl_placesAscend_ev (l : List Entry) (hl : l.length ≤ 1048576) : Ev (fun k => impl_placesAscend.f k l) (ascE l) := by
  have h := all_loop (n := l.length) (p := fun k i => impl_placesAscend.p5 k l l ((l.length : Nat) : Int) i) (q := fun i => !(decide (0 < i) && decide ((l.getD i zEnt).1 ≤ (l.getD (i - 1) zEnt).1))) (zb := true) (fun i hi b hb => by
    simp only [impl_placesAscend.p5, Int.toNat_natCast]
    rw [wrap_up hi (by omega)]
    refine Ev.pos (by omega) (Ev.pos (by omega) ?_)
    by_cases h0 : i = 0
    · subst h0
      exact (Ev.neg (by omega) hb).eq (by rfl)
    · have e2 : wrap64 ((i : Int) - 1) = ((i - 1 : Nat) : Int) := by rw [wrap64_id (by omega) (by omega)]; omega
      rw [e2, decide_eq_true (show 0 < i by omega), Bool.true_and, Int.toNat_natCast]
      exact Ev.pos (by omega) (Ev.pos (by omega) (Ev.nand fun _ => hb))) (by
    simp only [impl_placesAscend.p5]
    exact Ev.neg (by omega) Ev.ret) l.length 0 (by omega)
  rw [Bool.and_true] at h
  exact h

theorem impl_StoreOk_ev (s : Store) (h1 : s.1.length ≤ 1048576) (h2 : s.2.1.length ≤ 1048576) (a1 : ∀ i, i < s.1.length → InR (s.1.getD i zEnt).1) (a2 : ∀ i, i < s.2.1.length → InR (s.2.1.getD i zEnt).1) : Ev (fun k => impl_StoreOk.f k s) (storeB s) := by
  simp only [impl_StoreOk.f, impl_within_is, Option.bind_some, storeB]
  refine (Ev.nand fun _ => Ev.nand fun _ => Ev.bind (impl_entriesOk_ev s.1 h1 a1) (Ev.and fun _ => Ev.bind (impl_entriesOk_ev s.2.1 h2 a2) (Ev.and fun _ => Ev.bind (impl_placesAscend_ev s.1 h1) (Ev.and fun _ => Ev.ret)))).eq ?_
  rw [ndec, ndec]
  cases decide (((s.1.length : Nat) : Int) ≤ 200) <;> cases entsB s.1 <;> cases decide (((s.2.1.length : Nat) : Int) ≤ 20) <;> cases entsB s.2.1 <;> simp
theorem StG.ok' {l : List Store} (h : StG l) {i : Nat} (hi : i < l.length) : Ev (fun k => impl_StoreOk.f k (l.getD i zSto)) (storeB (l.getD i zSto)) := by
  have := h.2 _ (getD_mem (d := zSto) hi)
  exact impl_StoreOk_ev _ this.1.1 this.2.1.1 this.1.at this.2.1.at

theorem slices_BinarySearchFunc_ev (l : List Entry) (x : Int) (hl : l.length ≤ 1048576) (ha : AscE l) : ∃ i : Nat, i ≤ l.length ∧ (∀ q, q < i → (l.getD q ((0 : Int), ((0 : Int), (false, ((⟨#[]⟩ : ByteArray), ()))))).1 < x) ∧ (∀ q, i ≤ q → q < l.length → x ≤ (l.getD q ((0 : Int), ((0 : Int), (false, ((⟨#[]⟩ : ByteArray), ()))))).1) ∧
    Ev (fun k => slices_BinarySearchFunc_impl_Entry_impl_Entry_int_impl_placeIn_1.f k l x ()) ((i : Int), decide (i < l.length ∧ (l.getD i ((0 : Int), ((0 : Int), (false, ((⟨#[]⟩ : ByteArray), ()))))).1 = x)) := by
  let g : Nat → Int := fun q => (l.getD q ((0 : Int), ((0 : Int), (false, ((⟨#[]⟩ : ByteArray), ()))))).1
  have hex : ∃ i : Nat, i ≤ l.length ∧ (∀ q, q < i → g q < x) ∧ (∀ q, i ≤ q → q < l.length → x ≤ g q) := by
    have : ∀ d : Nat, d ≤ l.length → (∀ q, d ≤ q → q < l.length → x ≤ g q) → ∃ i : Nat, i ≤ l.length ∧ (∀ q, q < i → g q < x) ∧ (∀ q, i ≤ q → q < l.length → x ≤ g q) := by
      intro d
      induction d with
      | zero => intro _ h; exact ⟨0, by omega, fun q hq => absurd hq (Nat.not_lt_zero _), h⟩
      | succ d ih =>
        intro hd h
        by_cases hx : x ≤ g d
        · exact ih (by omega) fun q hq hql => by
            by_cases e : q = d
            · subst e; exact hx
            · exact h q (by omega) hql
        · exact ⟨d + 1, hd, fun q hq => by
            by_cases e : q = d
            · subst e; omega
            · have : g q < g d := ha q d (by omega) (by omega)
              omega, h⟩
    exact this l.length (Nat.le_refl _) fun q h1 h2 => absurd h2 (by omega)
  obtain ⟨i0, h1, h2, h3⟩ := hex
  refine ⟨i0, h1, h2, h3, ?_⟩
  have cmp : ∀ q, ∃ r : Int, impl_placeIn_1.f (l.getD q ((0 : Int), ((0 : Int), (false, ((⟨#[]⟩ : ByteArray), ()))))) x = some r ∧ decide (r < 0) = decide (g q < x) ∧ decide (r = 0) = decide (g q = x) := fun q => by
    simp only [impl_placeIn_1.f]
    by_cases c1 : g q < x
    · exact ⟨-1, by rw [if_pos c1], by simp [c1], by have : ¬ g q = x := (by omega); simp [this]⟩
    · rw [if_neg c1]
      by_cases c2 : x < g q
      · exact ⟨1, by rw [if_pos c2], by simp [c1], by have : ¬ g q = x := (by omega); simp [this]⟩
      · exact ⟨0, by rw [if_neg c2], by simp [c1], by have : g q = x := (by omega); simp [this]⟩
  refine Ev.cg (bs_loop (n := l.length) (p := fun k i j => slices_BinarySearchFunc_impl_Entry_impl_Entry_int_impl_placeIn_1.p7 k l x () ((l.length : Nat) : Int) i j) (lt := fun q => decide (g q < x)) (fun q r hqr hr h => ?_) (fun i j hij hj b ht hf => ?_) (fun i hi ht hf => ?_) l.length 0 l.length (by omega) (by omega) (Nat.le_refl _) (fun q hq => absurd hq (Nat.not_lt_zero _)) (fun q h1 h2 => absurd h2 (by omega))) fun k => rfl
  · simp only [decide_eq_true_eq] at h ⊢
    by_cases e : q = r
    · subst e; exact h
    · have : g q < g r := ha q r (by omega) hr
      omega
  · simp only [slices_BinarySearchFunc_impl_Entry_impl_Entry_int_impl_placeIn_1.p7, mid_is hij hj (by omega : l.length ≤ _), Int.toNat_natCast]
    rw [wrap_up (i := (i + j) / 2) (n := l.length) (by omega) (by omega)]
    obtain ⟨r, k1, k2, _⟩ := cmp ((i + j) / 2)
    refine Ev.pos (by omega) (Ev.pos (by omega) (Ev.bindc k1 ?_))
    by_cases hc : g ((i + j) / 2) < x
    · have hr : r < 0 := by rw [decide_eq_true hc] at k2; simpa using k2
      exact Ev.pos hr (ht (by simpa using hc))
    · have hr : ¬ r < 0 := by rw [decide_eq_false hc] at k2; simpa using k2
      exact Ev.neg hr (hf (by simpa using hc))
  · have e : i = i0 := by
      simp only [decide_eq_true_eq, decide_eq_false_iff_not] at ht hf
      rcases Nat.lt_trichotomy i i0 with h | h | h
      · exact absurd (h2 i h) (hf i (Nat.le_refl _) (by omega))
      · exact h
      · have := ht i0 h; have := h3 i0 (Nat.le_refl _) (by omega); omega
    subst e
    simp only [slices_BinarySearchFunc_impl_Entry_impl_Entry_int_impl_placeIn_1.p7, Int.toNat_natCast]
    refine Ev.neg (by omega) ?_
    by_cases hl2 : i < l.length
    · obtain ⟨r, k1, _, k3⟩ := cmp i
      exact Ev.pos (by omega) (Ev.pos (by omega) (Ev.bindc k1 (Ev.ret.eq (by rw [k3, show decide (g i = x) = decide (i < l.length ∧ g i = x) by by_cases q : g i = x <;> simp [hl2, q]]))))
    · exact Ev.neg (by omega) (Ev.ret.eq (by rw [decide_eq_false (fun h => hl2 h.1)]))

theorem impl_placeIn_ev (l : List Entry) (x : Int) (hl : l.length ≤ 1048576) (ha : AscE l) : ∃ i : Nat, i ≤ l.length ∧ (∀ q, q < i → (l.getD q ((0 : Int), ((0 : Int), (false, ((⟨#[]⟩ : ByteArray), ()))))).1 < x) ∧ (∀ q, i ≤ q → q < l.length → x ≤ (l.getD q ((0 : Int), ((0 : Int), (false, ((⟨#[]⟩ : ByteArray), ()))))).1) ∧
    Ev (fun k => impl_placeIn.f k l x) ((i : Int), decide (i < l.length ∧ (l.getD i ((0 : Int), ((0 : Int), (false, ((⟨#[]⟩ : ByteArray), ()))))).1 = x)) := by
  obtain ⟨i, h1, h2, h3, h4⟩ := slices_BinarySearchFunc_ev l x hl ha
  exact ⟨i, h1, h2, h3, Ev.bind h4 Ev.ret⟩

theorem impl_kept_ev (l : List Entry) (e : Entry) (hl : l.length ≤ 1048576) (ha : AscE l) : Ev (fun k => impl_kept.f k l e) (keepL l e) := by
  obtain ⟨i, h1, h2, h3, h4⟩ := impl_placeIn_ev l e.1 hl ha
  simp only [impl_kept.f]
  refine Ev.bind h4 ?_
  simp only [Int.toNat_natCast]
  by_cases hc : i < l.length ∧ (l.getD i ((0 : Int), ((0 : Int), (false, ((⟨#[]⟩ : ByteArray), ()))))).1 = e.1
  · refine Ev.pos (by simpa using hc) (Ev.pos (by omega) (Ev.bindc (a := better (l.getD i ((0 : Int), ((0 : Int), (false, ((⟨#[]⟩ : ByteArray), ()))))) e) ?_ (Ev.pos (by omega) (Ev.ret.eq (keepL_set hc.1 h2 hc.2)))))
    unfold impl_Better.f better; split <;> rfl
  · refine Ev.neg (by simpa using hc) ?_
    simp only [slices_Insert_impl_Entry_impl_Entry.f, Int.toNat_natCast]
    refine Ev.bindc (a := keepL l e) ?_ Ev.ret
    rw [if_pos ⟨by omega, by omega, rfl, by rw [lim_eq]; omega⟩, keepL_ins h1 h2 (fun h => by
      have := h3 i (Nat.le_refl _) h
      by_cases q : (l.getD i ((0 : Int), ((0 : Int), (false, ((⟨#[]⟩ : ByteArray), ()))))).1 = e.1
      · exact absurd ⟨h, q⟩ hc
      · omega)]

theorem impl_Union_ll (x0 : List Store) (hx : StG x0) : ∀ (m i : Nat) (acc : List Entry), i + m = x0.length → acc.length + ktS (x0.drop i) ≤ 1048576 → AscE acc → Ev (fun k => impl_Union.p7 k acc x0 ((x0.length : Nat) : Int) (i : Int)) (if (x0.drop i).all storeB = true then unionL acc (x0.drop i) else []) := by
  have hxl := hx.1
  intro m
  induction m with
  | zero =>
    intro i acc hi ha hA
    refine Ev.succ ?_
    simp only [impl_Union.p7]
    rw [List.drop_eq_nil_of_le (by omega)]
    exact Ev.neg (by omega) Ev.ret
  | succ m ih =>
    intro i acc hi ha hA
    have hlt : i < x0.length := by omega
    rw [drop_get (d := zSto) hlt, ktS_cons] at ha
    have hin : ∀ (d j : Nat) (acc : List Entry), j + d = (x0.getD i zSto).1.length → acc.length + d + ktS (x0.drop (i + 1)) ≤ 1048576 → AscE acc → Ev (fun k => impl_Union.p17 k acc x0 ((x0.length : Nat) : Int) (i : Int) (x0.getD i zSto).1 (((x0.getD i zSto).1.length : Nat) : Int) (j : Int)) (if (x0.drop (i + 1)).all storeB = true then unionL (keepsL acc ((x0.getD i zSto).1.drop j)) (x0.drop (i + 1)) else []) := by
      have hsl := (hx.2 _ (getD_mem (d := zSto) hlt)).1.1
      intro d
      induction d with
      | zero =>
        intro j acc hj hacc hA
        refine Ev.succ ?_
        simp only [impl_Union.p17]
        rw [wrap_up hlt (by omega), @List.drop_eq_nil_of_le _ (x0.getD i zSto).1 j (by omega)]
        exact Ev.neg (by omega) (ih (i + 1) acc (by omega) (by omega) hA)
      | succ d ihd =>
        intro j acc hj hacc hA
        have hkl := keepL_len acc ((x0.getD i zSto).1.getD j zEnt)
        refine Ev.succ ?_
        simp only [impl_Union.p17, Int.toNat_natCast]
        rw [wrap_up (i := j) (n := (x0.getD i zSto).1.length) (by omega) (by omega), drop_get (d := zEnt) (by omega : j < (x0.getD i zSto).1.length)]
        refine Ev.pos (by omega) (Ev.pos (by omega) (Ev.bind (impl_kept_ev acc _ (by omega) hA) ?_))
        exact ihd (j + 1) _ (by omega) (by show (keepL acc ((x0.getD i zSto).1.getD j zEnt)).length + d + _ ≤ _; omega) hA.keep
    refine Ev.succ ?_
    simp only [impl_Union.p7, Int.toNat_natCast]
    rw [drop_get (d := zSto) hlt, List.all_cons]
    refine Ev.pos (by omega) (Ev.pos (by omega) (Ev.bind (hx.ok' hlt) ?_))
    by_cases hb : storeB (x0.getD i zSto) = true
    · rw [hb, Bool.true_and]; exact Ev.pos rfl (hin (x0.getD i zSto).1.length 0 acc (by omega) (by omega) hA)
    · rw [Bool.not_eq_true] at hb
      rw [hb, Bool.false_and]; exact Ev.neg (by decide) Ev.ret
theorem impl_Union_ev (x0 : List Store) (hx : StG x0) (hk : ktS x0 ≤ 1048576) : Ev (fun k => impl_Union.f k x0) (unionF x0) :=
  impl_Union_ll x0 hx x0.length 0 [] (by omega) (by simpa using hk) (fun q r _ h => by simp at h)

theorem impl_Fill_l (x0 : List Store) (lost : List Int) (upto : Int) (h : StG x0) (hk : ktS x0 ≤ 1048576) (hl : lost.length ≤ 1048576) (z : Store) : ∀ (m i : Nat) (o : List Store), i + m = x0.length → o.length ≤ i → o.all storeB = true → o ++ othersL lost i (x0.drop i) = othersL lost 0 x0 → Ev (fun k => impl_Fill.p11 k lost upto o x0 ((x0.length : Nat) : Int) (i : Int) z) (fillG (othersL lost 0 x0) upto) := by
  have hxl := h.1
  intro m
  induction m with
  | zero =>
    intro i o hi ho hall he
    refine Ev.succ ?_
    simp only [impl_Fill.p11]
    rw [List.drop_eq_nil_of_le (by omega)] at he
    have he : o = othersL lost 0 x0 := by rw [← he]; simp [othersL]
    subst he
    have ho2 := h.others (lost := lost) 0
    have hk2 := Nat.le_trans (othersL_len (lost := lost) (l := x0) (i := 0)).2 hk
    have hu := unionL_EG _ ho2 hk2
    have hun := impl_Union_ev _ ho2 hk2
    unfold unionF at hun
    rw [if_pos hall] at hun
    unfold fillG
    rw [if_pos hall]
    refine Ev.neg (by omega) (Ev.bind hun (Ev.bind (impl_StoreOk_ev (fillS (othersL lost 0 x0) upto) hu.1 (Nat.zero_le _) hu.at (fun i hi => absurd hi (Nat.not_lt_zero _))) ?_))
    exact Ev.ite (fun _ => Ev.ret) (fun _ => Ev.ret)
  | succ m ih =>
    intro i o hi ho hall he
    have hlt : i < x0.length := by omega
    refine Ev.succ ?_
    simp only [impl_Fill.p11, Int.toNat_natCast]
    rw [wrap_up hlt (by omega)]
    rw [drop_get (d := zSto) hlt] at he
    refine Ev.pos (by omega) (Ev.pos (by omega) (Ev.bind (slices_Contains_ev lost (i : Int) hl) ?_))
    rw [othersL_cons] at he
    by_cases hc : lost.contains (i : Int) = true
    · rw [if_pos hc] at he
      exact Ev.pos hc (ih (i + 1) o (by omega) (by omega) hall he)
    · rw [if_neg hc] at he
      refine Ev.neg hc (Ev.bind (h.ok' hlt) ?_)
      by_cases hb : storeB (x0.getD i zSto) = true
      · refine Ev.pos hb (Ev.pos (by simp only [lim_eq, List.length_cons, List.length_nil]; omega) (ih (i + 1) _ (by omega) (by simp; omega) ?_ (by rw [List.append_assoc]; exact he)))
        rw [List.all_append, hall, List.all_cons]
        have hb' : storeB (x0.getD i (([] : List Entry), (([] : List Entry), ((0 : Int), ())))) = true := hb
        rw [hb']; rfl
      · refine Ev.neg hb (Ev.ret.eq ?_)
        have : ¬ (othersL lost 0 x0).all storeB = true := fun h => hb (List.all_eq_true.1 h _ (by rw [← he]; exact List.mem_append_right _ List.mem_cons_self))
        unfold fillG
        rw [if_neg this]; rfl
theorem impl_Fill_ev (a : Config) (l : List Store) (lost : List Int) (node upto : Int) (ha : a.1.length ≤ 1048576) (h : StG l) (hk : ktS l ≤ 1048576) (hl : lost.length ≤ 1048576) : Ev (fun k => impl_Fill.f k a l lost node upto) (fillF a l lost node upto) := by
  simp only [impl_Fill.f]
  unfold fillF
  by_cases h1 : ((l.length : Nat) : Int) = ((a.1.length : Nat) : Int)
  case neg => rw [if_neg (fun h => h1 h.1)]; exact Ev.neg h1 Ev.ret
  refine Ev.pos h1 (Ev.bind (impl_LostOk_ev a lost ha hl) ?_)
  by_cases h2 : lostB a lost = true
  case neg => rw [if_neg (fun h => h2 h.2.1)]; exact Ev.neg h2 Ev.ret
  refine Ev.pos h2 (Ev.bind (slices_Contains_ev lost node hl) ?_)
  by_cases h3 : lost.contains node = true
  case neg => rw [if_neg (fun h => h3 h.2.2)]; exact Ev.neg h3 Ev.ret
  rw [if_pos ⟨h1, h2, h3⟩]
  exact Ev.pos h3 (impl_Fill_l l lost upto h hk hl _ l.length 0 [] (by omega) (by simp) rfl rfl)

theorem laws_within_ev (l : List Int) (x : Int) (hl : l.length ≤ 1048576) : Ev (fun k => laws_within.f k l x) (l.contains x) := by
  have h : ∀ (d i : Nat), i + d = l.length → Ev (fun k => laws_within.p5 k l x (i : Int)) ((l.drop i).contains x) := by
    intro d
    induction d with
    | zero =>
      intro i hi
      refine Ev.succ ?_
      simp only [laws_within.p5]
      rw [List.drop_eq_nil_of_le (by omega)]
      exact Ev.neg (by omega) Ev.ret
    | succ d ih =>
      intro i hi
      have hlt : i < l.length := by omega
      refine Ev.succ ?_
      simp only [laws_within.p5, Int.toNat_natCast]
      rw [wrap_up hlt (by omega), drop_get (d := (0 : Int)) hlt, List.contains_cons]
      refine Ev.pos (by omega) (Ev.pos (by omega) ?_)
      by_cases hq : l.getD i 0 = x
      · exact Ev.pos hq (Ev.ret.eq (by rw [hq]; simp))
      · exact Ev.neg hq ((ih (i + 1) (by omega)).eq (by
          have : ¬ x = l.getD i 0 := fun e => hq e.symm
          rw [show (x == l.getD i 0) = false by simpa using this, Bool.false_or]))
  have := h l.length 0 (by omega)
  rw [List.drop_zero] at this
  exact Ev.cg this fun k => rfl

theorem impl_StoreGet_ev (s : Store) (x : Int) (h1 : s.1.length ≤ 1048576) (h2 : s.2.1.length ≤ 1048576) (a1 : ∀ i, i < s.1.length → InR (s.1.getD i zEnt).1) (a2 : ∀ i, i < s.2.1.length → InR (s.2.1.getD i zEnt).1) : Ev (fun k => impl_StoreGet.f k s x) (if storeB s = true then getF s.1 x else (zEnt, false)) := by
  simp only [impl_StoreGet.f]
  refine Ev.bind (impl_StoreOk_ev s h1 h2 a1 a2) (Ev.ite (fun hs => ?_) (fun _ => Ev.ret))
  have hA : AscE s.1 := by
    simp only [storeB, Bool.and_eq_true] at hs
    exact ascE_Asc hs.2.2.2.2.1
  obtain ⟨i, k1, k2, k3, k4⟩ := impl_placeIn_ev s.1 x h1 hA
  refine Ev.bind k4 ?_
  simp only [Int.toNat_natCast]
  by_cases hc : i < s.1.length ∧ (s.1.getD i zEnt).1 = x
  · refine Ev.pos (decide_eq_true hc) (Ev.pos (by omega) (Ev.ret.eq ?_))
    rw [getF_some hc.1 (fun q hq h => by have := k2 q hq; unfold zEnt at h; omega) hc.2]; rfl
  · refine Ev.neg (by rw [decide_eq_true_eq]; exact hc) (Ev.ret.eq ?_)
    rw [getF_none fun y hy h => ?_]
    obtain ⟨q, hq, e⟩ := List.getElem_of_mem hy
    have e' : s.1.getD q zEnt = y := (getD_is hq).trans e
    unfold zEnt at e'
    rcases Nat.lt_trichotomy q i with c | c | c
    · have := k2 q c; rw [e'] at this; omega
    · subst c; exact hc ⟨hq, by unfold zEnt; rw [e']; exact h⟩
    · have h5 := hA i q c hq; have h6 := k3 i (Nat.le_refl _) (by omega); rw [e'] at h5; omega


/-- Seen at its place, or something better there. -/
def Has (l : List Entry) (e : Entry) : Prop := ∃ y ∈ l, y.1 = e.1 ∧ e.2.1 ≤ y.2.1
theorem better_wave (a b : Entry) : a.2.1 ≤ (better a b).2.1 ∧ b.2.1 ≤ (better a b).2.1 := by
  unfold better
  split <;> omega
theorem keepL_new (l : List Entry) (e : Entry) : Has (keepL l e) e := by
  induction l with
  | nil => exact ⟨e, List.mem_cons_self, rfl, by omega⟩
  | cons y l ih =>
    unfold keepL
    split
    · rename_i h
      exact ⟨better y e, List.mem_cons_self, (better_at h).trans h, (better_wave y e).2⟩
    · split
      · exact ⟨e, List.mem_cons_self, rfl, by omega⟩
      · obtain ⟨z, h1, h2⟩ := ih
        exact ⟨z, List.mem_cons_of_mem _ h1, h2⟩
theorem keepL_old {l : List Entry} {x : Entry} (e : Entry) (h : Has l x) : Has (keepL l e) x := by
  obtain ⟨u, hu, hx, hw⟩ := h
  suffices hs : ∃ z ∈ keepL l e, z.1 = u.1 ∧ u.2.1 ≤ z.2.1 by
    obtain ⟨z, h1, h2, h3⟩ := hs
    exact ⟨z, h1, h2.trans hx, by omega⟩
  clear hx hw
  induction l with
  | nil => cases hu
  | cons y l ih =>
    unfold keepL
    split
    · rename_i h
      rcases List.mem_cons.1 hu with rfl | hu
      · exact ⟨better u e, List.mem_cons_self, better_at h, (better_wave u e).1⟩
      · exact ⟨u, List.mem_cons_of_mem _ hu, rfl, by omega⟩
    · split
      · exact ⟨u, List.mem_cons_of_mem _ hu, rfl, by omega⟩
      · rcases List.mem_cons.1 hu with rfl | hu
        · exact ⟨u, List.mem_cons_self, rfl, by omega⟩
        · obtain ⟨z, h1, h2⟩ := ih hu
          exact ⟨z, List.mem_cons_of_mem _ h1, h2⟩
theorem keepsL_old : ∀ (l s : List Entry) {x : Entry}, Has s x → Has (keepsL s l) x := by
  intro l
  induction l with
  | nil => intro s x h; exact h
  | cons e l ih => intro s x h; exact ih _ (keepL_old e h)
theorem keepsL_new : ∀ (l s : List Entry) {x : Entry}, x ∈ l → Has (keepsL s l) x := by
  intro l
  induction l with
  | nil => intro s x h; cases h
  | cons e l ih =>
    intro s x h
    rcases List.mem_cons.1 h with rfl | h
    · exact keepsL_old l _ (keepL_new s x)
    · exact ih _ h
theorem keepsL_mem : ∀ (l s : List Entry) {x : Entry}, x ∈ keepsL s l → x ∈ s ∨ x ∈ l := by
  intro l
  induction l with
  | nil => intro s x h; exact .inl h
  | cons e l ih =>
    intro s x h
    rcases ih (keepL s e) h with h | h
    · rcases keepL_mem h with rfl | h
      · exact .inr List.mem_cons_self
      · exact .inl h
    · exact .inr (List.mem_cons_of_mem _ h)
theorem unionL_old : ∀ (l : List Store) (s : List Entry) {x : Entry}, Has s x → Has (unionL s l) x := by
  intro l
  induction l with
  | nil => intro s x h; exact h
  | cons t l ih => intro s x h; exact ih _ (keepsL_old t.1 s h)
theorem unionL_new : ∀ (l : List Store) (s : List Entry) {t : Store} {x : Entry}, t ∈ l → x ∈ t.1 → Has (unionL s l) x := by
  intro l
  induction l with
  | nil => intro s t x h; cases h
  | cons u l ih =>
    intro s t x h hx
    rcases List.mem_cons.1 h with rfl | h
    · exact unionL_old l _ (keepsL_new t.1 s hx)
    · exact ih _ h hx
theorem unionL_mem : ∀ (l : List Store) (s : List Entry) {x : Entry}, x ∈ unionL s l → x ∈ s ∨ ∃ t ∈ l, x ∈ t.1 := by
  intro l
  induction l with
  | nil => intro s x h; exact .inl h
  | cons u l ih =>
    intro s x h
    rcases ih (keepsL s u.1) h with h | ⟨t, ht, hx⟩
    · rcases keepsL_mem u.1 s h with h | h
      · exact .inl h
      · exact .inr ⟨u, List.mem_cons_self, h⟩
    · exact .inr ⟨t, List.mem_cons_of_mem _ ht, hx⟩
theorem getF_asc {l : List Entry} (h : AscE l) {y : Entry} (hy : y ∈ l) : getF l y.1 = (y, true) := by
  obtain ⟨q, hq, e⟩ := List.getElem_of_mem hy
  have hg : l.getD q zEnt = y := by rw [getD_is hq]; exact e
  have := getF_some (l := l) (x := y.1) hq (fun r hr hh => by
    have h1 := h r q hr hq
    have h2 : (l.getD r zEnt).1 < (l.getD q zEnt).1 := h1
    rw [hg] at h2; omega) (by rw [hg])
  rw [hg] at this; exact this
theorem asc_uniq {l : List Entry} (h : AscE l) {x y : Entry} (hx : x ∈ l) (hy : y ∈ l) (he : x.1 = y.1) : x = y := by
  have h1 := getF_asc h hx
  have h2 := getF_asc h hy
  rw [he, h2] at h1
  exact (congrArg Prod.fst h1).symm
theorem storeB_asc {s : Store} (h : storeB s = true) : AscE s.1 := by
  simp only [storeB, Bool.and_eq_true] at h
  exact ascE_Asc h.2.2.2.2.1
theorem others_in {lost : List Int} : ∀ {l : List Store} {i j : Nat}, j < l.length → ¬ lost.contains (((i + j : Nat)) : Int) = true → l.getD j zSto ∈ othersL lost i l := by
  intro l
  induction l with
  | nil => intro i j h; exact absurd h (Nat.not_lt_zero _)
  | cons s l ih =>
    intro i j hj hc
    rw [othersL_cons]
    cases j with
    | zero =>
      rw [if_neg (by simpa using hc)]
      exact List.mem_cons_self
    | succ j =>
      have h1 : l.getD j zSto ∈ othersL lost (i + 1) l := ih (by simpa using hj) (by rwa [show i + 1 + j = i + (j + 1) by omega])
      have h2 : (s :: l).getD (j + 1) zSto = l.getD j zSto := getD_cons_succ'
      rw [h2]
      split
      · exact h1
      · exact List.mem_cons_of_mem _ h1
theorem laws_FnFilled_l (a : Config) (l : List Store) (lost : List Int) (upto : Int) (S : Store) (hl : StG l) (hlo : lost.length ≤ 1048576) (ha : a.1.length ≤ 1048576) (hS : DG 1048576 S) (hok : storeB S = true) (hu : S.2.2.1 = upto) (hz : S.2.1.length = 0) (hh : holdsB a lost = false)
    (h1 : ∀ i, i < l.length → ¬ lost.contains (i : Int) = true → ∀ e ∈ (l.getD i zSto).1, Has S.1 e) : ∀ (d i : Nat), i + d = l.length → Ev (fun k => laws_FnFilled.p23 k l lost upto (i : Int) a S) true := by
  have hl1 := hl.1
  have hA := storeB_asc hok
  intro d
  induction d with
  | zero =>
    intro i hi
    have s1 := impl_StoreOk_ev S hS.1.1 hS.2.1.1 hS.1.at hS.2.1.at
    have s2 := impl_Holds_ev a lost ha hlo
    rw [hok] at s1
    rw [hh] at s2
    refine Ev.succ ?_
    simp only [laws_FnFilled.p23]
    exact Ev.neg (by omega) (Ev.pos hu (Ev.pos (by omega) (Ev.bind s1 (Ev.pos rfl (Ev.bind s2 (Ev.ret.eq rfl))))))
  | succ d ih =>
    intro i hi
    have hlt : i < l.length := by omega
    have hmem := getD_mem (d := zSto) hlt
    have hsl := (hl.2 _ hmem).1.1
    have hnx := ih (i + 1) (by omega)
    rw [← wrap_up (i := i) (n := i + 1) (by omega) (by omega)] at hnx
    have hin : ∀ (e j : Nat), j + e = (l.getD i zSto).1.length → Ev (fun k => laws_FnFilled.p29 k l lost upto (i : Int) (j : Int) a S) true := by
      intro e
      induction e with
      | zero =>
        intro j hj
        refine Ev.succ ?_
        simp only [laws_FnFilled.p29, Int.toNat_natCast]
        exact Ev.pos (by omega) (Ev.neg (show ¬ (j : Int) < (((l.getD i zSto).1.length : Nat) : Int) by omega) hnx)
      | succ e ihe =>
        intro j hj
        have hjl : j < (l.getD i zSto).1.length := by omega
        have hm := getD_mem (d := zEnt) hjl
        refine Ev.succ ?_
        simp only [laws_FnFilled.p29, Int.toNat_natCast]
        rw [wrap_up hjl (by omega)]
        refine Ev.pos (by omega) (Ev.pos (show (j : Int) < (((l.getD i zSto).1.length : Nat) : Int) by omega) (Ev.bind (laws_within_ev lost (i : Int) hlo) ?_))
        by_cases hc : lost.contains (i : Int) = true
        · exact Ev.pos hc hnx
        · obtain ⟨y, hy, h2, h3⟩ := h1 i hlt hc _ hm
          have hg := impl_StoreGet_ev S ((l.getD i zSto).1.getD j zEnt).1 hS.1.1 hS.2.1.1 hS.1.at hS.2.1.at
          rw [if_pos hok, ← h2, getF_asc hA hy, h2] at hg
          refine Ev.neg hc (Ev.pos (by omega) (Ev.pos (show (0 : Int) ≤ (j : Int) ∧ (j : Int) < (((l.getD i zSto).1.length : Nat) : Int) by omega) (Ev.bind hg (Ev.pos rfl (Ev.pos (by omega) (Ev.pos (show (0 : Int) ≤ (j : Int) ∧ (j : Int) < (((l.getD i zSto).1.length : Nat) : Int) by omega) (Ev.neg ?_ (ihe (j + 1) (by omega)))))))))
          show ¬ y.2.1 < ((l.getD i zSto).1.getD j zEnt).2.1
          omega
    refine Ev.succ ?_
    simp only [laws_FnFilled.p23]
    exact Ev.pos (by omega) (hin (l.getD i zSto).1.length 0 (by omega))
theorem fillF_Q (a : Config) (l : List Store) (lost : List Int) (node upto : Int) : fillF a l lost node upto = (zSto, false) ∨ (fillF a l lost node upto = (fillS (othersL lost 0 l) upto, true) ∧ lostB a lost = true ∧ storeB (fillS (othersL lost 0 l) upto) = true) := by
  unfold fillF
  split
  · rename_i h
    unfold fillG
    split
    · split
      · rename_i hs
        exact .inr ⟨rfl, h.2.1, hs⟩
      · exact .inl rfl
    · exact .inl rfl
  · exact .inl rfl
theorem pureL (a0 : List Int) (h0 : Gd (.sl (.int .u8)) a0) : ∃ k, laws_FnFilled.f k a0 = some true := by
  refine Ev.get (v := true) ?_
  simp only [laws_FnFilled.f, laws_big_is, Option.bind_some]
  by_cases hb : (1048576 : Int) < ((a0.length : Nat) : Int)
  · exact Ev.pos (by simpa using hb) Ev.ret
  refine Ev.neg (by simpa using hb) ?_
  obtain ⟨⟨a, l, lost, node, upto⟩, e0, ha, ⟨n, hn, hd⟩, hlo⟩ := spec_DrawFill_d a0 (by omega)
  have ha : a.1.length ≤ 9 := ha
  have hd : DS n l := hd
  have hlo : lost.length ≤ 4 := hlo
  obtain ⟨hl, hk⟩ := hd.st hn
  have e1 := impl_Fill_ev a l lost node upto (by omega) hl hk (by omega)
  have e2 := spec_Fill_ev a l lost node upto (by omega) hl hk (by omega)
  have e3 := impl_LostOk_ev a lost (by omega) (by omega)
  have e4 := spec_LostOk_ev a lost (by omega) (by omega)
  refine Ev.bind e0 (Ev.bind e1 (Ev.bind e2 (Ev.pos rfl (Ev.bind e3 (Ev.bind e4 (Ev.pos rfl ?_))))))
  have hq := fillF_Q a l lost node upto
  generalize fillF a l lost node upto = q at hq ⊢
  rcases hq with rfl | ⟨rfl, hL, hS⟩
  · exact Ev.neg nft (Ev.pos rfl (Ev.ret.eq rfl))
  · refine Ev.pos rfl ?_
    have hko : ktS (othersL lost 0 l) ≤ 1048576 := Nat.le_trans othersL_len.2 hk
    have hu := unionL_EG (othersL lost 0 l) (hl.others 0) hko
    have hup : InR upto := by
      simp only [storeB, Bool.and_eq_true] at hS
      have := inB_true.1 hS.2.2.2.2.2
      have h2 : 0 ≤ upto ∧ upto ≤ 30 := this
      unfold InR; omega
    simp only [lostB, Bool.and_eq_true, Bool.not_eq_true'] at hL
    exact laws_FnFilled_l a l lost upto (fillS (othersL lost 0 l) upto) hl (by omega) (by omega) ⟨hu, EG.nil, hup⟩ hS rfl rfl hL.2 (fun i hi hc e he => unionL_new (othersL lost 0 l) [] (others_in (i := 0) hi (by rwa [Nat.zero_add])) he) l.length 0 (by omega)

end Go.Proofs.Ythgnikafeamidaa.OmFnFilled
