/- The plain law: who holds a place is told in the same way by the program and by the reference, and the list is the caller's own. Conditions: what is known of a value that came in. -/
import Derived.Test.YthgnikafeamidacGreatFamFnExactHoldersOf
set_option linter.unusedVariables false
set_option linter.unusedSimpArgs false
set_option linter.unusedSectionVars false
namespace Go.Proofs.YthgnikafeamidacGreat.OmFnExactHoldersOf
open Go Go.OM
/-- x lies between a and b. -/
def inB (x a b : Int) : Bool := decide (a ≤ x) && decide (x ≤ b)
theorem inB_true {x a b : Int} : inB x a b = true ↔ a ≤ x ∧ x ≤ b := by simp [inB]
theorem ite_inB (x a b : Int) : (if a ≤ x then some (decide (x ≤ b)) else some false) = some (inB x a b) := by
  unfold inB
  by_cases h : a ≤ x <;> simp [h]
def InR (x : Int) : Prop := -9223372036854775808 ≤ x ∧ x ≤ 9223372036854775807
theorem InR_of {x : Int} (h : Gd (.int .i64) x) : InR x := by
  have h : (Lit.int .i64 x).wf = true := h
  simp [Lit.wf, IntKind.min, IntKind.max, IntKind.signed, IntKind.bits] at h
  exact ⟨by omega, by omega⟩
theorem Ev.and {q b : Bool} {A : Nat → Option Bool} (h : q = true → Ev A b) : Ev (fun k => if q = true then A k else some false) (q && b) := by
  cases q with
  | false => exact Ev.neg (by decide) Ev.ret
  | true => exact Ev.pos rfl (h rfl)
theorem Ev.andc {c : Prop} [Decidable c] {b : Bool} {A : Nat → Option Bool} (h : c → Ev A b) : Ev (fun k => if c then A k else some false) (decide c && b) := by
  by_cases hc : c
  · rw [decide_eq_true hc]; exact Ev.pos hc (h hc)
  · rw [decide_eq_false hc]; exact Ev.neg hc Ev.ret
theorem Ev.nand {c : Prop} [Decidable c] {b : Bool} {A : Nat → Option Bool} (h : ¬ c → Ev A b) : Ev (fun k => if c then some false else A k) (!decide c && b) := by
  by_cases hc : c
  · rw [decide_eq_true hc]; exact Ev.pos hc Ev.ret
  · rw [decide_eq_false hc]; exact Ev.neg hc (h hc)
theorem Ev.ite {c : Prop} [Decidable c] {α : Type} {A B : Nat → Option α} {v u : α} (h1 : c → Ev A v) (h2 : ¬ c → Ev B u) : Ev (fun k => if c then A k else B k) (if c then v else u) := by
  by_cases hc : c
  · rw [if_pos hc]; exact Ev.pos hc (h1 hc)
  · rw [if_neg hc]; exact Ev.neg hc (h2 hc)
theorem all_loop {n : Nat} {p : Nat → Int → Option Bool} {q : Nat → Bool} {zb : Bool} (hp : ∀ (i : Nat), i < n → ∀ b, Ev (fun k => p k (((i + 1 : Nat)) : Int)) b → Ev (fun k => p (k + 1) (i : Int)) (q i && b)) (h0 : Ev (fun k => p (k + 1) (n : Int)) zb) :
    ∀ (m i : Nat), i + m = n → Ev (fun k => p k (i : Int)) ((List.range' i m).all q && zb) := by
  intro m
  induction m with
  | zero => intro i h; rw [show i = n by omega]; exact Ev.succ h0
  | succ m ih =>
    intro i h
    refine (Ev.succ (hp i (by omega) _ (ih (i + 1) (by omega)))).eq ?_
    rw [List.range'_succ, List.all_cons, Bool.and_assoc]
theorem wrap_up {i n : Nat} (h : i < n) (hn : n ≤ 4611686018427387904) : wrap64 ((i : Int) + (1 : Int)) = ((i + 1 : Nat) : Int) := wrap64_id (by omega) (by omega)
theorem cnt_ints (l : List Int) : cnt (.sl (.int .i64)) l = l.length := by
  show l.length + (l.map fun _ => 0).sum = l.length
  have : (l.map fun _ => 0).sum = 0 := by induction l with
    | nil => rfl
    | cons x l ih => simpa using ih
  omega
/-- It comes to something with P. -/
def Evp {α : Type} (f : Nat → Option α) (P : α → Prop) : Prop := ∃ v, Ev f v ∧ P v
def Op {α : Type} (f : Option α) (P : α → Prop) : Prop := ∃ v, f = some v ∧ P v
section
variable {α β : Type} {P : α → Prop} {Q : β → Prop}
theorem Evp.ret {v : α} (h : P v) : Evp (fun _ => some v) P := ⟨v, Ev.ret, h⟩
theorem Evp.of {f : Nat → Option α} {v : α} (h : Ev f v) (hp : P v) : Evp f P := ⟨v, h, hp⟩
theorem Evp.bind {f : Nat → Option α} {g : Nat → α → Option β} (h : Evp f P) (hg : ∀ a, P a → Evp (fun k => g k a) Q) : Evp (fun k => (f k).bind (g k)) Q := by
  obtain ⟨a, h1, h2⟩ := h
  obtain ⟨b, h3, h4⟩ := hg a h2
  exact ⟨b, h1.bind h3, h4⟩
theorem Evp.bindv {f : Nat → Option α} {g : Nat → α → Option β} {a : α} (h : Ev f a) (hg : Evp (fun k => g k a) Q) : Evp (fun k => (f k).bind (g k)) Q := by
  obtain ⟨b, h3, h4⟩ := hg
  exact ⟨b, h.bind h3, h4⟩
theorem Evp.bindc {f : Option α} {g : Nat → α → Option β} (h : Op f P) (hg : ∀ a, P a → Evp (fun k => g k a) Q) : Evp (fun k => f.bind (g k)) Q := by
  obtain ⟨a, h1, h2⟩ := h
  obtain ⟨b, h3, h4⟩ := hg a h2
  exact ⟨b, Ev.bindc h1 h3, h4⟩
theorem Evp.succ {f : Nat → Option α} (h : Evp (fun k => f (k + 1)) P) : Evp f P := by
  obtain ⟨a, h1, h2⟩ := h
  exact ⟨a, Ev.succ h1, h2⟩
theorem Evp.pos {c : Prop} [Decidable c] {f g : Nat → Option α} (hc : c) (h : Evp f P) : Evp (fun k => if c then f k else g k) P := by
  obtain ⟨a, h1, h2⟩ := h
  exact ⟨a, Ev.pos hc h1, h2⟩
theorem Evp.neg {c : Prop} [Decidable c] {f g : Nat → Option α} (hc : ¬ c) (h : Evp g P) : Evp (fun k => if c then f k else g k) P := by
  obtain ⟨a, h1, h2⟩ := h
  exact ⟨a, Ev.neg hc h1, h2⟩
theorem Evp.ite {c : Prop} [Decidable c] {f g : Nat → Option α} (h1 : c → Evp f P) (h2 : ¬ c → Evp g P) : Evp (fun k => if c then f k else g k) P := by
  by_cases hc : c
  · exact Evp.pos hc (h1 hc)
  · exact Evp.neg hc (h2 hc)
theorem Evp.mono {f : Nat → Option α} {P' : α → Prop} (h : Evp f P) (hp : ∀ a, P a → P' a) : Evp f P' := by
  obtain ⟨a, h1, h2⟩ := h
  exact ⟨a, h1, hp a h2⟩
theorem Evp.opt {f : Option α} (h : Op f P) : Evp (fun _ => f) P := by
  obtain ⟨a, h1, h2⟩ := h
  exact ⟨a, Ev.of h1, h2⟩
theorem Evp.cg {f g : Nat → Option α} (h : Evp g P) (e : ∀ k, f k = g k) : Evp f P := by
  obtain ⟨a, h1, h2⟩ := h
  exact ⟨a, h1.cg e, h2⟩
theorem Op.ret {v : α} (h : P v) : Op (some v) P := ⟨v, rfl, h⟩
theorem Op.bind {f : Option α} {g : α → Option β} (h : Op f P) (hg : ∀ a, P a → Op (g a) Q) : Op (f.bind g) Q := by
  obtain ⟨a, h1, h2⟩ := h
  obtain ⟨b, h3, h4⟩ := hg a h2
  exact ⟨b, by rw [h1, Option.bind_some, h3], h4⟩
theorem Op.pos {c : Prop} [Decidable c] {f g : Option α} (hc : c) (h : Op f P) : Op (if c then f else g) P := by rw [if_pos hc]; exact h
theorem Op.neg {c : Prop} [Decidable c] {f g : Option α} (hc : ¬ c) (h : Op g P) : Op (if c then f else g) P := by rw [if_neg hc]; exact h
theorem Op.ite {c : Prop} [Decidable c] {f g : Option α} (h1 : c → Op f P) (h2 : ¬ c → Op g P) : Op (if c then f else g) P := by
  by_cases hc : c
  · exact Op.pos hc (h1 hc)
  · exact Op.neg hc (h2 hc)
end
theorem nft : ¬ (false = true) := by decide
/-- x among numbers: ahead of the first greater one. -/
noncomputable def insB : List Int → Int → List Int
  | [], x => [x]
  | y :: l, x => if x < y then x :: y :: l else y :: insB l x
noncomputable def insL (l : List Int) (x : Int) : List Int := if l.contains x = true then l else insB l x
theorem insB_len (l : List Int) (x : Int) : (insB l x).length = l.length + 1 := by
  induction l with
  | nil => rfl
  | cons y l ih =>
    unfold insB
    split
    · rfl
    · rw [List.length_cons, List.length_cons, ih]
theorem insL_len (l : List Int) (x : Int) : (insL l x).length ≤ l.length + 1 := by
  unfold insL
  split
  · omega
  · rw [insB_len]; omega
theorem insB_at {x : Int} : ∀ {l : List Int} {i : Nat}, i ≤ l.length → (∀ q, q < i → l.getD q 0 < x) → (i < l.length → x < l.getD i 0) → l.take i ++ [x] ++ l.drop i = insB l x := by
  intro l
  induction l with
  | nil => intro i hi _ _; have : i = 0 := by simpa using hi
           subst this; rfl
  | cons y l ih =>
    intro i hi h1 h2
    cases i with
    | zero =>
      have : x < y := h2 (Nat.zero_lt_succ _)
      unfold insB; rw [if_pos this]; rfl
    | succ i =>
      have : ¬ x < y := by have := h1 0 (Nat.zero_lt_succ _); change y < x at this; omega
      unfold insB; rw [if_neg this]
      show y :: (l.take i ++ [x] ++ l.drop i) = _
      rw [ih (by simpa using hi) (fun q hq => by have := h1 (q + 1) (by omega); simpa using this) (fun h => by have := h2 (by simp; omega); simpa using this)]
theorem wrapu (x : Int) (h0 : 0 ≤ x) (h1 : x ≤ 9223372036854775807) : IntKind.wrap .u64 x = x := by
  show (if (false && decide (x % 2 ^ 64 ≥ 2 ^ (64 - 1))) = true then x % 2 ^ 64 - 2 ^ 64 else x % 2 ^ 64) = x
  rw [Bool.false_and, if_neg (by decide)]
  exact Int.emod_eq_of_lt h0 (by omega)
theorem mid_is {i j n : Nat} (h : i < j) (hj : j ≤ n) (hn : n ≤ 4611686018427387904) : wrap64 (shrK .u64 (IntKind.wrap .u64 (wrap64 ((i : Int) + (j : Int)))) (1 : Int)) = (((i + j) / 2 : Nat) : Int) := by
  rw [wrap64_id (x := (i : Int) + (j : Int)) (by omega) (by omega), wrapu _ (by omega) (by omega)]
  have e : shrK .u64 ((i : Int) + (j : Int)) 1 = (((i + j) / 2 : Nat) : Int) := by
    show Int.fdiv ((i : Int) + (j : Int)) (2 ^ 1) = _
    rw [Int.fdiv_eq_ediv_of_nonneg _ (by decide)]
    omega
  rw [e, wrap64_id (by omega) (by omega)]
/-- A search by halves. -/
theorem bs_loop {β : Type} {n : Nat} {p : Nat → Int → Int → Option β} {lt : Nat → Bool} {v : β} (hm : ∀ q r, q ≤ r → r < n → lt r = true → lt q = true)
    (hp : ∀ i j : Nat, i < j → j ≤ n → ∀ b, (lt ((i + j) / 2) = true → Ev (fun k => p k (((i + j) / 2 + 1 : Nat) : Int) (j : Int)) b) → (lt ((i + j) / 2) = false → Ev (fun k => p k (i : Int) (((i + j) / 2 : Nat) : Int)) b) → Ev (fun k => p (k + 1) (i : Int) (j : Int)) b)
    (h0 : ∀ i : Nat, i ≤ n → (∀ q, q < i → lt q = true) → (∀ q, i ≤ q → q < n → lt q = false) → Ev (fun k => p (k + 1) (i : Int) (i : Int)) v) :
    ∀ (d i j : Nat), j - i ≤ d → i ≤ j → j ≤ n → (∀ q, q < i → lt q = true) → (∀ q, j ≤ q → q < n → lt q = false) → Ev (fun k => p k (i : Int) (j : Int)) v := by
  intro d
  induction d with
  | zero =>
    intro i j hd hij hj h1 h2
    have : i = j := by omega
    subst this
    exact Ev.succ (h0 i hj h1 h2)
  | succ d ih =>
    intro i j hd hij hj h1 h2
    by_cases hlt : i < j
    · refine Ev.succ (hp i j hlt hj v (fun hb => ?_) (fun hb => ?_))
      · exact ih _ _ (by omega) (by omega) hj (fun q hq => hm q _ (by omega) (by omega) hb) h2
      · refine ih _ _ (by omega) (by omega) (by omega) h1 (fun q hq hqn => ?_)
        cases hc : lt q with
        | false => rfl
        | true => exact absurd (hm _ q hq hqn hc) (by rw [hb]; decide)
    · have : i = j := by omega
      subst this
      exact Ev.succ (h0 i hj h1 h2)
/-- Numbers that ascend. -/
def Asc (l : List Int) : Prop := ∀ q r, q < r → r < l.length → l.getD q 0 < l.getD r 0
theorem Asc.of {l : List Int} (h : ∀ q, q + 1 < l.length → l.getD q 0 < l.getD (q + 1) 0) : Asc l := by
  intro q r hqr hr
  induction r with
  | zero => omega
  | succ r ih =>
    have h1 := h r hr
    by_cases hq : q = r
    · subst hq; exact h1
    · have := ih (by omega) (by omega); omega
theorem getD_of_mem {l : List Int} {x : Int} (h : x ∈ l) : ∃ q, q < l.length ∧ l.getD q 0 = x := by
  obtain ⟨q, hq, e⟩ := List.getElem_of_mem h
  exact ⟨q, hq, by rw [List.getD_eq_getElem?_getD, List.getElem?_eq_getElem hq]; exact e⟩
theorem getD_is {α : Type} {l : List α} {q : Nat} {d : α} (hq : q < l.length) : l.getD q d = l[q] := by
  rw [List.getD_eq_getElem?_getD, List.getElem?_eq_getElem hq]; rfl
theorem Asc.pw {l : List Int} (h : Asc l) : l.Pairwise (· < ·) :=
  List.pairwise_iff_getElem.2 fun i j hi hj hij => by have := h i j hij hj; rwa [getD_is hi, getD_is hj] at this
theorem Asc.of_pw {l : List Int} (h : l.Pairwise (· < ·)) : Asc l := fun q r hqr hr => by
  rw [getD_is (by omega), getD_is hr]; exact List.pairwise_iff_getElem.1 h q r (by omega) hr hqr
theorem mem_insB {l : List Int} {x y : Int} : y ∈ insB l x ↔ y = x ∨ y ∈ l := by
  induction l with
  | nil => simp [insB]
  | cons z l ih =>
    unfold insB
    split
    · simp
    · rw [List.mem_cons, ih, List.mem_cons]
      exact ⟨fun h => h.elim (fun h => .inr (.inl h)) (fun h => h.elim .inl (fun h => .inr (.inr h))), fun h => h.elim (fun h => .inr (.inl h)) (fun h => h.elim .inl (fun h => .inr (.inr h)))⟩
theorem mem_insL {l : List Int} {x y : Int} : y ∈ insL l x ↔ y = x ∨ y ∈ l := by
  unfold insL
  split
  · rename_i h
    rw [List.contains_iff_mem] at h
    exact ⟨.inr, fun h' => h'.elim (fun e => e ▸ h) id⟩
  · exact mem_insB
theorem insB_pw {l : List Int} {x : Int} (h : l.Pairwise (· < ·)) (hx : x ∉ l) : (insB l x).Pairwise (· < ·) := by
  induction l with
  | nil => simp [insB]
  | cons z l ih =>
    rw [List.pairwise_cons] at h
    unfold insB
    split
    · rename_i hz
      refine List.pairwise_cons.2 ⟨fun y hy => ?_, List.pairwise_cons.2 h⟩
      rcases List.mem_cons.1 hy with rfl | hy
      · exact hz
      · have := h.1 y hy; omega
    · rename_i hz
      have hne : x ≠ z := fun e => hx (e ▸ List.mem_cons_self)
      refine List.pairwise_cons.2 ⟨fun y hy => ?_, ih h.2 (fun h => hx (List.mem_cons_of_mem _ h))⟩
      rcases mem_insB.1 hy with rfl | hy
      · omega
      · exact h.1 y hy
theorem insL_pw {l : List Int} {x : Int} (h : l.Pairwise (· < ·)) : (insL l x).Pairwise (· < ·) := by
  unfold insL
  split
  · exact h
  · rename_i hc
    exact insB_pw h (fun hm => hc (List.contains_iff_mem.2 hm))
/-- A row whose first elements are told anew. -/
theorem map_get {α : Type} {F : α → α} {l : List α} {i : Nat} {d : α} (hi : i < l.length) : ((l.take i).map F ++ l.drop i).getD i d = l.getD i d := by
  have hl : ((l.take i).map F).length = i := by rw [List.length_map, List.length_take]; omega
  rw [List.getD_eq_getElem?_getD, List.getElem?_append_right (by omega), hl, Nat.sub_self, List.getElem?_drop, Nat.add_zero, ← List.getD_eq_getElem?_getD]
theorem map_step {α : Type} {F : α → α} {l : List α} {i : Nat} {d : α} (hi : i < l.length) : ((l.take i).map F ++ l.drop i).set i (F (l.getD i d)) = (l.take (i + 1)).map F ++ l.drop (i + 1) := by
  have hl : ((l.take i).map F).length = i := by rw [List.length_map, List.length_take]; omega
  have ht : l.take (i + 1) = l.take i ++ [l.getD i d] := by
    rw [List.take_add_one, List.getElem?_eq_getElem hi, getD_is hi]; rfl
  rw [List.set_append_right _ _ (by omega), hl, Nat.sub_self, drop_get (d := d) hi, ht, List.map_append, List.append_assoc]
  rfl
theorem map_len {α : Type} {F : α → α} {l : List α} {i : Nat} : ((l.take i).map F ++ l.drop i).length = l.length := by
  rw [List.length_append, List.length_map, List.length_take, List.length_drop]; omega
theorem has_one (x v : Int) : [x].contains v = decide (v = x) := by
  by_cases h : v = x <;> simp [h]
theorem filter_not {α : Type} (p : α → Bool) (l : List α) : (l.filter p).length + (l.filter fun v => !p v).length = l.length := by
  induction l with
  | nil => rfl
  | cons x l ih =>
    rw [List.filter_cons, List.filter_cons]
    cases p x <;> simp <;> omega
theorem set_getD_self {α : Type} {l : List α} {i : Nat} {d : α} (hi : i < l.length) : l.set i (l.getD i d) = l := by
  rw [getD_is hi]; exact List.set_getElem_self hi

noncomputable def better (a b : Entry) : Entry := if a.2.1 < b.2.1 then b else a
/-- An entry among entries: the better one at its place, else ahead of the first at a greater place. -/
noncomputable def keepL : List Entry → Entry → List Entry
  | [], e => [e]
  | y :: l, e => if y.1 = e.1 then better y e :: l else if e.1 < y.1 then e :: y :: l else y :: keepL l e
theorem keepL_len (l : List Entry) (e : Entry) : (keepL l e).length ≤ l.length + 1 := by
  induction l with
  | nil => exact Nat.le_refl _
  | cons y l ih =>
    unfold keepL
    split
    · simp
    · split
      · exact Nat.le_refl _
      · rw [List.length_cons, List.length_cons]; omega
theorem getD_cons_succ' {α : Type} {y d : α} {l : List α} {i : Nat} : (y :: l).getD (i + 1) d = l.getD i d := by simp
theorem keepL_ins {e : Entry} {d : Entry} : ∀ {l : List Entry} {i : Nat}, i ≤ l.length → (∀ q, q < i → (l.getD q d).1 < e.1) → (i < l.length → e.1 < (l.getD i d).1) → l.take i ++ [e] ++ l.drop i = keepL l e := by
  intro l
  induction l with
  | nil => intro i hi _ _; have : i = 0 := by simpa using hi
           subst this; rfl
  | cons y l ih =>
    intro i hi h1 h2
    cases i with
    | zero =>
      have h : e.1 < y.1 := h2 (Nat.zero_lt_succ _)
      have hn : ¬ y.1 = e.1 := by omega
      unfold keepL; rw [if_neg hn, if_pos h]; rfl
    | succ i =>
      have h : y.1 < e.1 := h1 0 (Nat.zero_lt_succ _)
      have hn : ¬ y.1 = e.1 := by omega
      have hn2 : ¬ e.1 < y.1 := by omega
      unfold keepL; rw [if_neg hn, if_neg hn2]
      show y :: (l.take i ++ [e] ++ l.drop i) = _
      rw [ih (by simpa using hi) (fun q hq => by have := h1 (q + 1) (by omega); rwa [getD_cons_succ'] at this) (fun h => by have := h2 (by simp; omega); rwa [getD_cons_succ'] at this)]
theorem keepL_set {e : Entry} {d : Entry} : ∀ {l : List Entry} {i : Nat}, i < l.length → (∀ q, q < i → (l.getD q d).1 < e.1) → (l.getD i d).1 = e.1 → l.set i (better (l.getD i d) e) = keepL l e := by
  intro l
  induction l with
  | nil => intro i hi; exact absurd hi (Nat.not_lt_zero _)
  | cons y l ih =>
    intro i hi h1 h2
    cases i with
    | zero =>
      have h : y.1 = e.1 := h2
      unfold keepL; rw [if_pos h]; rfl
    | succ i =>
      have h : y.1 < e.1 := h1 0 (Nat.zero_lt_succ _)
      have hn : ¬ y.1 = e.1 := by omega
      have hn2 : ¬ e.1 < y.1 := by omega
      rw [getD_cons_succ'] at h2
      unfold keepL; rw [if_neg hn, if_neg hn2, List.set_cons_succ, getD_cons_succ']
      rw [ih (by simpa using hi) (fun q hq => by have := h1 (q + 1) (by omega); rwa [getD_cons_succ'] at this) h2]
noncomputable def zEnt : Entry := ((0 : Int), ((0 : Int), (false, ((⟨#[]⟩ : ByteArray), ()))))
noncomputable def ascE (l : List Entry) : Bool := (List.range' 0 l.length).all fun i => !(decide (0 < i) && decide ((l.getD i zEnt).1 ≤ (l.getD (i - 1) zEnt).1))
/-- Rows of entries whose places are numbers of 64 bits. -/
def EG (n : Nat) (l : List Entry) : Prop := l.length ≤ n ∧ ∀ e ∈ l, InR e.1
theorem EG.at {n : Nat} {l : List Entry} (h : EG n l) : ∀ i, i < l.length → InR (l.getD i zEnt).1 := fun i hi => h.2 _ (getD_mem hi)
theorem EG.get {n : Nat} {l : List Entry} (h : EG n l) (i : Nat) : InR (l.getD i zEnt).1 := by
  by_cases hi : i < l.length
  · exact h.at i hi
  · rw [List.getD_eq_getElem?_getD, List.getElem?_eq_none (by omega)]; show InR (0 : Int); unfold InR; decide
theorem EG.nil {n : Nat} : EG n [] := ⟨Nat.zero_le _, fun e he => by cases he⟩
theorem EG.mono {n m : Nat} {l : List Entry} (h : EG n l) (hm : n ≤ m) : EG m l := ⟨by have := h.1; omega, h.2⟩
theorem EG.app {n : Nat} {l : List Entry} {e : Entry} (h : EG n l) (he : InR e.1) : EG (n + 1) (l ++ [e]) := by
  refine ⟨by have := h.1; simp; omega, fun x hx => ?_⟩
  rcases List.mem_append.1 hx with h' | h'
  · exact h.2 x h'
  · rw [List.mem_singleton] at h'; subst h'; exact he
/-- Entries whose places ascend. -/
def AscE (l : List Entry) : Prop := ∀ q r, q < r → r < l.length → (l.getD q ((0 : Int), ((0 : Int), (false, ((⟨#[]⟩ : ByteArray), ()))))).1 < (l.getD r ((0 : Int), ((0 : Int), (false, ((⟨#[]⟩ : ByteArray), ()))))).1
theorem AscE.of {l : List Entry} (h : ∀ q, q + 1 < l.length → (l.getD q ((0 : Int), ((0 : Int), (false, ((⟨#[]⟩ : ByteArray), ()))))).1 < (l.getD (q + 1) ((0 : Int), ((0 : Int), (false, ((⟨#[]⟩ : ByteArray), ()))))).1) : AscE l := by
  intro q r hqr hr
  induction r with
  | zero => omega
  | succ r ih =>
    have h1 := h r hr
    by_cases hq : q = r
    · subst hq; exact h1
    · have := ih (by omega) (by omega); omega
theorem AscE.pw {l : List Entry} (h : AscE l) : l.Pairwise (fun a b => a.1 < b.1) :=
  List.pairwise_iff_getElem.2 fun i j hi hj hij => by have := h i j hij hj; rwa [getD_is hi, getD_is hj] at this
theorem AscE.of_pw {l : List Entry} (h : l.Pairwise (fun a b => a.1 < b.1)) : AscE l := fun q r hqr hr => by
  rw [getD_is (by omega), getD_is hr]; exact List.pairwise_iff_getElem.1 h q r (by omega) hr hqr
theorem ascE_Asc {l : List Entry} (h : ascE l = true) : AscE l := AscE.of fun q hq => by
  simp only [ascE, List.all_eq_true, List.mem_range'_1] at h
  have := h (q + 1) (by omega)
  simp only [Nat.add_sub_cancel, Bool.not_eq_true', Bool.and_eq_false_iff, decide_eq_false_iff_not] at this
  rcases this with h | h
  · omega
  · unfold zEnt at h; omega
theorem Asc_ascE {l : List Entry} (h : AscE l) : ascE l = true := by
  simp only [ascE, List.all_eq_true, List.mem_range'_1]
  intro i hi
  simp only [Bool.not_eq_true', Bool.and_eq_false_iff, decide_eq_false_iff_not]
  by_cases h0 : 0 < i
  · refine .inr ?_
    have := h (i - 1) i (by omega) (by omega)
    unfold zEnt; omega
  · exact .inl h0
theorem better_at {a b : Entry} (h : a.1 = b.1) : (better a b).1 = a.1 := by unfold better; split <;> simp [h]
theorem better_or (a b : Entry) : better a b = a ∨ better a b = b := by unfold better; split <;> simp
theorem keepL_at {l : List Entry} {e z : Entry} (h : z ∈ keepL l e) : z.1 = e.1 ∨ ∃ y ∈ l, y.1 = z.1 := by
  induction l with
  | nil => simp [keepL] at h; subst h; exact .inl rfl
  | cons y l ih =>
    unfold keepL at h
    split at h
    · rename_i hy
      rcases List.mem_cons.1 h with rfl | h
      · exact .inl ((better_at hy).trans hy)
      · exact .inr ⟨z, List.mem_cons_of_mem _ h, rfl⟩
    · split at h
      · rcases List.mem_cons.1 h with rfl | h
        · exact .inl rfl
        · exact .inr ⟨z, h, rfl⟩
      · rcases List.mem_cons.1 h with rfl | h
        · exact .inr ⟨z, List.mem_cons_self, rfl⟩
        · rcases ih h with h | ⟨y', h1, h2⟩
          · exact .inl h
          · exact .inr ⟨y', List.mem_cons_of_mem _ h1, h2⟩
theorem keepL_mem {l : List Entry} {e z : Entry} (h : z ∈ keepL l e) : z = e ∨ z ∈ l := by
  induction l with
  | nil => simp [keepL] at h; exact .inl h
  | cons y l ih =>
    unfold keepL at h
    split at h
    · rcases List.mem_cons.1 h with rfl | h
      · rcases better_or y e with h | h
        · exact .inr (by rw [h]; exact List.mem_cons_self)
        · exact .inl h
      · exact .inr (List.mem_cons_of_mem _ h)
    · split at h
      · rcases List.mem_cons.1 h with rfl | h
        · exact .inl rfl
        · exact .inr h
      · rcases List.mem_cons.1 h with rfl | h
        · exact .inr List.mem_cons_self
        · exact (ih h).imp id (List.mem_cons_of_mem _)
theorem keepL_pw {l : List Entry} {e : Entry} (h : l.Pairwise (fun a b => a.1 < b.1)) : (keepL l e).Pairwise (fun a b => a.1 < b.1) := by
  induction l with
  | nil => simp [keepL]
  | cons y l ih =>
    rw [List.pairwise_cons] at h
    unfold keepL
    split
    · rename_i hy
      exact List.pairwise_cons.2 ⟨fun z hz => by rw [better_at hy]; exact h.1 z hz, h.2⟩
    · rename_i hy
      split
      · rename_i hlt
        refine List.pairwise_cons.2 ⟨fun z hz => ?_, List.pairwise_cons.2 h⟩
        rcases List.mem_cons.1 hz with rfl | hz
        · exact hlt
        · have := h.1 z hz; omega
      · rename_i hlt
        refine List.pairwise_cons.2 ⟨fun z hz => ?_, ih h.2⟩
        rcases keepL_at hz with hz | ⟨u, h1, h2⟩
        · omega
        · have := h.1 u h1; omega
theorem AscE.keep {l : List Entry} {e : Entry} (h : AscE l) : AscE (keepL l e) := AscE.of_pw (keepL_pw h.pw)
theorem EG.keep {n : Nat} {l : List Entry} {e : Entry} (h : EG n l) (he : InR e.1) : EG (n + 1) (keepL l e) :=
  ⟨by have := keepL_len l e; have := h.1; omega, fun z hz => by
    rcases keepL_mem hz with rfl | hz
    · exact he
    · exact h.2 z hz⟩
theorem ents_small {l : List Entry} (h : Gd (.sl tEntry) l) : EG l.length l := ⟨Nat.le_refl _, fun e he => InR_of (h.2 e he).1⟩
theorem cnt_len {t : Ty} (xs : (Ty.sl t).den) : List.length xs ≤ cnt (.sl t) xs := by
  show List.length xs ≤ List.length xs + _
  omega
theorem ents_cnt (l : List Entry) : cnt (.sl tEntry) l = l.length + (l.map fun x => cnt tEntry x).sum := rfl
theorem keepL_cnt (l : List Entry) (e : Entry) : cnt (.sl tEntry) (keepL l e) ≤ cnt (.sl tEntry) l + cnt tEntry e + 1 := by
  rw [ents_cnt, ents_cnt]
  induction l with
  | nil => simp [keepL]; omega
  | cons y l ih =>
    unfold keepL
    split
    · have : cnt tEntry (better y e) ≤ cnt tEntry y + cnt tEntry e := by
        rcases better_or y e with h | h <;> rw [h] <;> omega
      simp only [List.length_cons, List.map_cons, List.sum_cons]; omega
    · split
      · simp only [List.length_cons, List.map_cons, List.sum_cons]; omega
      · simp only [List.length_cons, List.map_cons, List.sum_cons]; omega
/-- The entry of a place. -/
noncomputable def getF : List Entry → Int → Entry × Bool
  | [], _ => (((0 : Int), ((0 : Int), (false, ((⟨#[]⟩ : ByteArray), ())))), false)
  | y :: l, x => if y.1 = x then (y, true) else getF l x
theorem getF_none {x : Int} : ∀ {l : List Entry}, (∀ y ∈ l, ¬ y.1 = x) → getF l x = (((0 : Int), ((0 : Int), (false, ((⟨#[]⟩ : ByteArray), ())))), false) := by
  intro l
  induction l with
  | nil => intro _; rfl
  | cons y l ih =>
    intro h
    unfold getF
    rw [if_neg (h y List.mem_cons_self)]
    exact ih fun z hz => h z (List.mem_cons_of_mem _ hz)
theorem getF_some {x : Int} : ∀ {l : List Entry} {i : Nat}, i < l.length → (∀ q, q < i → ¬ (l.getD q zEnt).1 = x) → (l.getD i zEnt).1 = x → getF l x = (l.getD i zEnt, true) := by
  intro l
  induction l with
  | nil => intro i h; exact absurd h (Nat.not_lt_zero _)
  | cons y l ih =>
    intro i hi h1 h2
    unfold getF
    cases i with
    | zero =>
      have h2' : y.1 = x := h2
      rw [if_pos h2']; rfl
    | succ i =>
      have h0 : ¬ y.1 = x := h1 0 (Nat.zero_lt_succ _)
      rw [if_neg h0, getD_cons_succ']
      rw [getD_cons_succ'] at h2
      exact ih (by simpa using hi) (fun q hq => by have := h1 (q + 1) (by omega); rwa [getD_cons_succ'] at this) h2
theorem getF_true {x : Int} {l : List Entry} {e : Entry} (h : getF l x = (e, true)) : e ∈ l ∧ e.1 = x := by
  induction l with
  | nil => simp [getF] at h
  | cons y l ih =>
    unfold getF at h
    split at h
    · rename_i hy
      have : y = e := congrArg Prod.fst h
      subst this
      exact ⟨List.mem_cons_self, hy⟩
    · exact ⟨List.mem_cons_of_mem _ (ih h).1, (ih h).2⟩

def SG (n m : Nat) (s : Store) : Prop := EG n s.1 ∧ EG m s.2.1 ∧ InR s.2.2.1
theorem SG.zero {n m : Nat} : SG n m (([] : List Entry), (([] : List Entry), ((0 : Int), ()))) := ⟨EG.nil, EG.nil, by show InR (0 : Int); unfold InR; decide⟩
noncomputable def keepsL (s l : List Entry) : List Entry := l.foldl keepL s
theorem keepsL_len : ∀ (l s : List Entry), (keepsL s l).length ≤ s.length + l.length := by
  intro l
  induction l with
  | nil => intro s; exact Nat.le_refl _
  | cons e l ih => intro s; have := ih (keepL s e); have := keepL_len s e; show (keepsL (keepL s e) l).length ≤ _; simp only [List.length_cons]; omega
theorem keepsL_asc : ∀ (l s : List Entry), AscE s → AscE (keepsL s l) := by
  intro l
  induction l with
  | nil => intro s h; exact h
  | cons e l ih => intro s h; exact ih _ h.keep
noncomputable def unionL (s : List Entry) (l : List Store) : List Entry := l.foldl (fun s t => keepsL s t.1) s
def ktS (l : List Store) : Nat := (l.map fun s => s.1.length).sum
/-- Stores whose places are numbers of 64 bits. -/
def StG (l : List Store) : Prop := l.length ≤ 1048576 ∧ ∀ s ∈ l, EG 1048576 s.1 ∧ EG 1048576 s.2.1 ∧ InR s.2.2.1
noncomputable def zSto : Store := (([] : List Entry), (([] : List Entry), ((0 : Int), ())))
theorem ktS_cons (s : Store) (l : List Store) : ktS (s :: l) = s.1.length + ktS l := by simp [ktS]
theorem unionL_asc : ∀ (l : List Store) (s : List Entry), AscE s → AscE (unionL s l) := by
  intro l
  induction l with
  | nil => intro s h; exact h
  | cons t l ih => intro s h; exact ih _ (keepsL_asc _ _ h)
theorem unionL_len : ∀ (l : List Store) (s : List Entry), (unionL s l).length ≤ s.length + ktS l := by
  intro l
  induction l with
  | nil => intro s; exact Nat.le_add_right _ _
  | cons t l ih => intro s; have := ih (keepsL s t.1); have := keepsL_len t.1 s; rw [ktS_cons]; show (unionL (keepsL s t.1) l).length ≤ _; omega
/-- The stores of those that are not lost. -/
noncomputable def othersL (lost : List Int) : Nat → List Store → List Store
  | _, [] => []
  | i, s :: l => if lost.contains (i : Int) = true then othersL lost (i + 1) l else s :: othersL lost (i + 1) l
theorem othersL_cons {lost : List Int} {i : Nat} {s : Store} {l : List Store} : othersL lost i (s :: l) = if lost.contains (i : Int) = true then othersL lost (i + 1) l else s :: othersL lost (i + 1) l := rfl
theorem othersL_mem {lost : List Int} {x : Store} : ∀ {l : List Store} {i : Nat}, x ∈ othersL lost i l → x ∈ l := by
  intro l
  induction l with
  | nil => intro i h; exact h
  | cons s l ih =>
    intro i h
    unfold othersL at h
    split at h
    · exact List.mem_cons_of_mem _ (ih h)
    · rcases List.mem_cons.1 h with rfl | h
      · exact List.mem_cons_self
      · exact List.mem_cons_of_mem _ (ih h)
theorem othersL_len {lost : List Int} : ∀ {l : List Store} {i : Nat}, (othersL lost i l).length ≤ l.length ∧ ktS (othersL lost i l) ≤ ktS l := by
  intro l
  induction l with
  | nil => intro i; exact ⟨Nat.le_refl _, Nat.le_refl _⟩
  | cons s l ih =>
    intro i
    have h1 := (ih (i := i + 1)).1
    have h2 := (ih (i := i + 1)).2
    unfold othersL
    split
    · rw [ktS_cons, List.length_cons]; omega
    · rw [ktS_cons, ktS_cons, List.length_cons, List.length_cons]; omega
theorem StG.others {lost : List Int} {l : List Store} (h : StG l) (i : Nat) : StG (othersL lost i l) := ⟨Nat.le_trans othersL_len.1 h.1, fun s hs => h.2 s (othersL_mem hs)⟩

def MG (s n h w : Nat) (m : Mend) : Prop := m.2.2.1.length ≤ s ∧ EG n m.2.2.2.1 ∧ (m.2.2.2.2.2.1.length ≤ h ∧ ∀ l ∈ m.2.2.2.2.2.1, l.length ≤ w) ∧ InR m.1 ∧ InR m.2.1
theorem MG.mono {s n h w s' n' h' w' : Nat} {m : Mend} (g : MG s n h w m) (h1 : s ≤ s') (h2 : n ≤ n') (h3 : h ≤ h') (h4 : w ≤ w') : MG s' n' h' w' m :=
  ⟨by have := g.1; omega, g.2.1.mono h2, ⟨by have := g.2.2.1.1; omega, fun l hl => by have := g.2.2.1.2 l hl; omega⟩, g.2.2.2⟩
theorem MG.get {s n h w : Nat} {m : Mend} (g : MG s n h w m) (i : Nat) : (m.2.2.2.2.2.1.getD i []).length ≤ w := by
  by_cases hi : i < m.2.2.2.2.2.1.length
  · exact g.2.2.1.2 _ (getD_mem hi)
  · rw [List.getD_eq_getElem?_getD, List.getElem?_eq_none (by omega)]; exact Nat.zero_le _
theorem mend_small {m : Mend} (h : Gd tMend m) (hc : cnt tMend m ≤ 1048576) : MG m.2.2.1.length m.2.2.2.1.length m.2.2.2.2.2.1.length 1048576 m := by
  have hc : 0 + (0 + (cnt (.sl (.int .i64)) m.2.2.1 + (cnt (.sl tEntry) m.2.2.2.1 + (0 + (cnt (.sl (.sl (.int .i64))) m.2.2.2.2.2.1 + 0))))) ≤ 1048576 := hc
  refine ⟨Nat.le_refl _, ents_small h.2.2.2.1, ⟨Nat.le_refl _, fun l hl => ?_⟩, InR_of h.1, InR_of h.2.1⟩
  have hw : cnt (.sl (.sl (.int .i64))) m.2.2.2.2.2.1 = m.2.2.2.2.2.1.length + (m.2.2.2.2.2.1.map fun x => cnt (.sl (.int .i64)) x).sum := rfl
  have := sum_mem (f := fun x => cnt (.sl (.int .i64)) x) hl
  have h2 : cnt (.sl (.int .i64)) l = l.length := cnt_ints l
  have this : cnt (.sl (.int .i64)) l ≤ (m.2.2.2.2.2.1.map fun x => cnt (.sl (.int .i64)) x).sum := this
  omega
theorem mend_cnt (m : Mend) : cnt tMend m = m.2.2.1.length + (cnt (.sl tEntry) m.2.2.2.1 + cnt (.sl (.sl (.int .i64))) m.2.2.2.2.2.1) := by
  show 0 + (0 + (cnt (.sl (.int .i64)) m.2.2.1 + (cnt (.sl tEntry) m.2.2.2.1 + (0 + (cnt (.sl (.sl (.int .i64))) m.2.2.2.2.2.1 + 0))))) = _
  rw [cnt_ints]; omega

noncomputable def zRd : Reader := ((0 : Int), ((0 : Int), (([] : List Event), ())))
noncomputable def readerB (r : Reader) : Bool := inB r.1 1 31 && (inB r.2.1 1 61 && decide (((r.2.2.1.length : Nat) : Int) ≤ 120))

noncomputable def zAns : Answer := ((0 : Int), (false, (((0 : Int), ((0 : Int), (false, ((⟨#[]⟩ : ByteArray), ())))), ())))
noncomputable def evOf (place : Int) (q : Entry × Bool) : Event := if q.2 = true then (if q.1.2.2.1 = true then ((2 : Int), (place, ((⟨#[]⟩ : ByteArray), ()))) else ((1 : Int), (place, (q.1.2.2.2.1, ())))) else ((3 : Int), (place, ((⟨#[]⟩ : ByteArray), ())))
/-- Answers of at most n nodes, whose places are numbers of 64 bits. -/
def AnG (l : List Answer) : Prop := l.length ≤ 1048576 ∧ ∀ x ∈ l, InR x.2.2.1.1

noncomputable def zWr : Writer := ((0 : Int), (([] : List Word), ()))
noncomputable def zMd : Mend := ((0 : Int), ((0 : Int), (([] : List Int), (([] : List Entry), (false, (([] : List (List Int)), ()))))))
noncomputable def zSn : Sent := ((0 : Int), ((⟨#[]⟩ : ByteArray), (false, ())))
/-- A world that is not too large, its places numbers of 64 bits. -/
structure WG (w : World) : Prop where
  c : w.1.1.length ≤ 1048576
  st : StG w.2.1
  lo : w.2.2.1.length ≤ 1048576
  rt : InR w.2.2.2.1.2.1
  rl : w.2.2.2.1.1.length ≤ 1048576
  re : ∀ e ∈ w.2.2.2.1.1, e.1.length ≤ 1048576
  wl : w.2.2.2.2.1.length ≤ 1048576
  we : ∀ x ∈ w.2.2.2.2.1, x.2.1.length ≤ 1048576 ∧ ∀ y ∈ x.2.1, y.2.1.length ≤ 1048576
  ml : w.2.2.2.2.2.1.length ≤ 1048576
  me : ∀ m ∈ w.2.2.2.2.2.1, MG 1048576 1048576 1048576 1048576 m
  dl : w.2.2.2.2.2.2.1.length ≤ 1048576
  sl : w.2.2.2.2.2.2.2.1.length ≤ 1048576
  se : ∀ x ∈ w.2.2.2.2.2.2.2.1, InR x.1
theorem cnt_elem {t : Ty} {xs : (Ty.sl t).den} {x : t.den} (h : x ∈ (xs : List t.den)) : cnt t x ≤ cnt (.sl t) xs := by
  have : cnt t x ≤ ((xs : List t.den).map fun x => cnt t x).sum := sum_mem (f := fun x => cnt t x) h
  show cnt t x ≤ List.length xs + _
  omega
theorem world_cnt (w : World) : cnt tWorld w = cnt tConfig w.1 + (cnt (.sl tStore) w.2.1 + (cnt (.sl (.int .i64)) w.2.2.1 + (cnt tRegister w.2.2.2.1 + (cnt (.sl tWriter) w.2.2.2.2.1 + (cnt (.sl tMend) w.2.2.2.2.2.1 + (cnt (.sl tReader) w.2.2.2.2.2.2.1 + (cnt (.sl tSent) w.2.2.2.2.2.2.2.1 + (0 + 0)))))))) := rfl
theorem world_small {w : World} (h : Gd tWorld w) (hc : cnt tWorld w ≤ 1048576) : WG w := by
  rw [world_cnt] at hc
  have l1 := cnt_len (t := tStore) w.2.1
  have l2 := cnt_ints w.2.2.1
  have l3 := cnt_len (t := tWriter) w.2.2.2.2.1
  have l4 := cnt_len (t := tMend) w.2.2.2.2.2.1
  have l5 := cnt_len (t := tReader) w.2.2.2.2.2.2.1
  have l6 := cnt_len (t := tSent) w.2.2.2.2.2.2.2.1
  have cc : cnt tConfig w.1 = cnt (.sl (.int .i64)) w.1.1 + (0 + 0) := rfl
  rw [cnt_ints] at cc
  have cr : cnt tRegister w.2.2.2.1 = cnt (.sl tEra) w.2.2.2.1.1 + (0 + 0) := rfl
  have l7 := cnt_len (t := tEra) w.2.2.2.1.1
  refine ⟨by omega, ⟨by omega, fun s hs => ?_⟩, by omega, InR_of h.2.2.2.1.2.1, by omega, fun e he => ?_, by omega, fun x hx => ⟨?_, fun y hy => ?_⟩, by omega, fun m hm => ?_, by omega, by omega, fun x hx => InR_of (h.2.2.2.2.2.2.2.1.2 x hx).1⟩
  · have h1 := cnt_elem (t := tStore) hs
    have h2 : cnt tStore s = cnt (.sl tEntry) s.1 + (cnt (.sl tEntry) s.2.1 + (0 + 0)) := rfl
    have h3 := cnt_len (t := tEntry) s.1
    have h4 := cnt_len (t := tEntry) s.2.1
    have hg := h.2.1.2 s hs
    exact ⟨(ents_small hg.1).mono (by omega), (ents_small hg.2.1).mono (by omega), InR_of hg.2.2.1⟩
  · have h1 := cnt_elem (t := tEra) he
    have h2 : cnt tEra e = cnt (.sl (.int .i64)) e.1 + (0 + (0 + 0)) := rfl
    rw [cnt_ints] at h2; omega
  · have h1 := cnt_elem (t := tWriter) hx
    have h2 : cnt tWriter x = 0 + (cnt (.sl tWord) x.2.1 + 0) := rfl
    have h3 := cnt_len (t := tWord) x.2.1
    omega
  · have h1 := cnt_elem (t := tWriter) hx
    have h2 : cnt tWriter x = 0 + (cnt (.sl tWord) x.2.1 + 0) := rfl
    have h3 := cnt_elem (t := tWord) hy
    have h4 : cnt tWord y = y.1.size + (cnt (.sl (.int .i64)) y.2.1 + (0 + 0)) := rfl
    rw [cnt_ints] at h4; omega
  · have h1 := cnt_elem (t := tMend) hm
    have g := mend_small (h.2.2.2.2.2.1.2 m hm) (by omega)
    have h2 := mend_cnt m
    have h3 := cnt_len (t := tEntry) m.2.2.2.1
    have h4 := cnt_len (t := .sl (.int .i64)) m.2.2.2.2.2.1
    exact g.mono (by omega) (by omega) (by omega) (Nat.le_refl _)

theorem spec_l1In_is (x a b : Int) : spec_l1In.f x a b = some (inB x a b) := ite_inB x a b

/-- A config that is right: its domains, its copies. -/
noncomputable def cfgB (a : Config) : Bool := inB ((a.1.length : Nat) : Int) 1 8 && (inB a.2.1 1 4 && (List.range' 0 a.1.length).all fun i => inB (a.1.getD i 0) 0 7)
theorem cfgB_len {a : Config} (h : cfgB a = true) : 1 ≤ a.1.length ∧ a.1.length ≤ 8 ∧ 1 ≤ a.2.1 ∧ a.2.1 ≤ 4 ∧ ∀ i, i < a.1.length → 0 ≤ a.1.getD i 0 ∧ a.1.getD i 0 ≤ 7 := by
  simp only [cfgB, Bool.and_eq_true, inB_true, List.all_eq_true, List.mem_range'_1] at h
  obtain ⟨h1, h2, h3⟩ := h
  exact ⟨by omega, by omega, h2.1, h2.2, fun i hi => h3 i (by omega)⟩
theorem spec_ConfigOk_ev (a : Config) (hl : a.1.length ≤ 1048576) : Ev (fun k => spec_ConfigOk.f k a) (cfgB a) := by
  have h := all_loop (n := a.1.length) (p := fun k i => spec_ConfigOk.p9 k i a) (q := fun i => inB (a.1.getD i 0) 0 7) (zb := true) (fun i hi b hb => by
    simp only [spec_ConfigOk.p9, spec_l1In_is]
    refine Ev.pos (by omega) (Ev.pos (by omega) (Ev.bindc rfl (Ev.and fun _ => ?_)))
    rw [wrap_up hi (by omega)]; exact hb) (by
    simp only [spec_ConfigOk.p9]
    exact Ev.neg (by omega) Ev.ret) a.1.length 0 (by omega)
  simp only [spec_ConfigOk.f, spec_l1In_is, cfgB]
  refine Ev.bindc rfl (Ev.and fun _ => Ev.bindc rfl (Ev.and fun _ => ?_))
  simpa using h

/-- Ascending numbers from lo to hi. -/
noncomputable def ascB (l : List Int) (lo hi : Int) : Bool := (List.range' 0 l.length).all fun i => inB (l.getD i 0) lo hi && (decide (i = 0) || !decide (l.getD i 0 ≤ l.getD (i - 1) 0))
theorem ascB_mem {l : List Int} {lo hi : Int} (h : ascB l lo hi = true) {i : Nat} (hi' : i < l.length) : lo ≤ l.getD i 0 ∧ l.getD i 0 ≤ hi := by
  simp only [ascB, List.all_eq_true, List.mem_range'_1, Bool.and_eq_true, inB_true] at h
  exact (h i (by omega)).1
theorem spec_l4Asc_ev (l : List Int) (lo hi : Int) (hl : l.length ≤ 1048576) : Ev (fun k => spec_l4Asc.f k l lo hi) (ascB l lo hi) := by
  have h := all_loop (n := l.length) (p := fun k i => spec_l4Asc.p5 k l lo hi i) (q := fun i => inB (l.getD i 0) lo hi && (decide (i = 0) || !decide (l.getD i 0 ≤ l.getD (i - 1) 0))) (zb := true) (fun i hi' b hb => by
    simp only [spec_l4Asc.p5, spec_l1In_is]
    refine Ev.pos (by omega) (Ev.pos (by omega) (Ev.bindc rfl ?_))
    rw [Bool.and_assoc]
    refine Ev.and fun _ => ?_
    rw [wrap_up hi' (by omega)]
    by_cases h0 : i = 0
    · subst h0
      exact (Ev.neg (by omega) hb).eq (by simp)
    · have e : wrap64 ((i : Int) - 1) = ((i - 1 : Nat) : Int) := by rw [wrap64_id (by omega) (by omega)]; omega
      rw [e]
      refine Ev.pos (by omega) (Ev.pos (by omega) (Ev.pos (by omega) ?_))
      rw [decide_eq_false h0, Bool.false_or]
      exact Ev.nand fun _ => hb) (by
    simp only [spec_l4Asc.p5]
    exact Ev.neg (by omega) Ev.ret) l.length 0 (by omega)
  exact (Ev.cg h fun k => rfl).eq (by unfold ascB; rw [Bool.and_true])
theorem ascB_Asc {l : List Int} {lo hi : Int} (h : ascB l lo hi = true) : Asc l := Asc.of fun q hq => by
  simp only [ascB, List.all_eq_true, List.mem_range'_1, Bool.and_eq_true, Bool.or_eq_true, decide_eq_true_eq, Bool.not_eq_true', decide_eq_false_iff_not] at h
  have := (h (q + 1) (by omega)).2
  simp only [Nat.add_sub_cancel] at this
  omega
theorem ascB_iff {l : List Int} {lo hi : Int} : ascB l lo hi = true ↔ (∀ x ∈ l, lo ≤ x ∧ x ≤ hi) ∧ l.Pairwise (· < ·) := by
  constructor
  · intro h
    refine ⟨fun x hx => ?_, (ascB_Asc h).pw⟩
    obtain ⟨q, hq, rfl⟩ := getD_of_mem hx
    exact ascB_mem h hq
  · rintro ⟨h1, h2⟩
    simp only [ascB, List.all_eq_true, List.mem_range'_1, Bool.and_eq_true, Bool.or_eq_true, decide_eq_true_eq, Bool.not_eq_true', decide_eq_false_iff_not, inB_true]
    intro i hi
    refine ⟨h1 _ (getD_mem (by omega)), ?_⟩
    by_cases h0 : i = 0
    · exact .inl h0
    · have := Asc.of_pw h2 (i - 1) i (by omega) (by omega)
      exact .inr (by omega)
theorem ascB_len {l : List Int} {lo hi : Int} (h : ascB l lo hi = true) : l.length = 0 ∨ (l.length : Int) ≤ hi - lo + 1 := by
  have ha := ascB_Asc h
  have key : ∀ q, q < l.length → lo + (q : Int) ≤ l.getD q 0 := by
    intro q
    induction q with
    | zero => intro hq; have := (ascB_mem h hq).1; omega
    | succ q ih => intro hq; have := ih (by omega); have := ha q (q + 1) (by omega) hq; omega
  by_cases h0 : l.length = 0
  · exact .inl h0
  · have := key (l.length - 1) (by omega)
    have := (ascB_mem h (i := l.length - 1) (by omega)).2
    exact .inr (by omega)

noncomputable def nodesB (a : Config) (l : List Int) : Bool := cfgB a && ascB l 0 (((a.1.length : Nat) : Int) - 1)
theorem spec_NodesOk_ev (a : Config) (l : List Int) (ha : a.1.length ≤ 1048576) (hl : l.length ≤ 1048576) : Ev (fun k => spec_NodesOk.f k a l) (nodesB a l) := by
  simp only [spec_NodesOk.f, nodesB]
  refine Ev.bind (spec_ConfigOk_ev a ha) (Ev.and fun _ => ?_)
  rw [wrap64_id (by omega) (by omega)]
  exact Ev.bind (spec_l4Asc_ev l 0 _ hl) Ev.ret
theorem nodesB_len {a : Config} {l : List Int} (h : nodesB a l = true) : l.length ≤ 8 := by
  simp only [nodesB, Bool.and_eq_true] at h
  have := cfgB_len h.1
  have := ascB_len h.2
  omega
theorem nodesB_Asc {a : Config} {l : List Int} (h : nodesB a l = true) : Asc l := by
  simp only [nodesB, Bool.and_eq_true] at h
  exact ascB_Asc h.2
theorem nodesB_filter {a : Config} {l : List Int} (p : Int → Bool) (h : nodesB a l = true) : nodesB a (l.filter p) = true := by
  simp only [nodesB, Bool.and_eq_true, ascB_iff] at h ⊢
  exact ⟨h.1, fun x hx => h.2.1 x (List.mem_filter.1 hx).1, h.2.2.filter _⟩
theorem nodesB_ins {a : Config} {l : List Int} {x : Int} (h : nodesB a l = true) (h0 : 0 ≤ x) (h1 : x ≤ ((a.1.length : Nat) : Int) - 1) : nodesB a (insL l x) = true := by
  simp only [nodesB, Bool.and_eq_true, ascB_iff] at h ⊢
  refine ⟨h.1, fun y hy => ?_, insL_pw h.2.2⟩
  rcases mem_insL.1 hy with rfl | hy
  · exact ⟨h0, h1⟩
  · exact h.2.1 y hy

/-- The domains of nodes, each once, behind those that were met. -/
noncomputable def domsOf (a : Config) : List Int → List Int → List Int
  | [], acc => acc
  | n :: l, acc => domsOf a l (if acc.contains (a.1.getD n.toNat 0) then acc else acc ++ [a.1.getD n.toNat 0])
noncomputable def spanOf (a : Config) (l : List Int) : Int := ((domsOf a l []).length : Int)
theorem spec_l4Span_l (a : Config) (l : List Int) (hdom : ∀ i, i < a.1.length → 0 ≤ a.1.getD i 0 ∧ a.1.getD i 0 ≤ 7) (hl : l.length ≤ 1048576) (hmem : ∀ i, i < l.length → 0 ≤ l.getD i 0 ∧ l.getD i 0 < ((a.1.length : Nat) : Int)) :
    ∀ (m i : Nat) (seen : List Bool) (acc : List Int), i + m = l.length → seen.length = 8 → acc.length ≤ i → (∀ x : Int, 0 ≤ x → x ≤ 7 → (seen.getD x.toNat false = acc.contains x)) →
    Ev (fun k => spec_l4Span.p9 k l seen (acc.length : Int) (i : Int) a) ((domsOf a (l.drop i) acc).length : Int) := by
  intro m
  induction m with
  | zero =>
    intro i seen acc h hs ha hx
    refine Ev.succ ?_
    simp only [spec_l4Span.p9]
    rw [List.drop_eq_nil_of_le (by omega)]
    exact Ev.neg (by omega) Ev.ret
  | succ m ih =>
    intro i seen acc h hs ha hx
    have hi : i < l.length := by omega
    have hn := hmem i hi
    have hv := hdom (l.getD i 0).toNat (by omega)
    refine Ev.succ ?_
    simp only [spec_l4Span.p9, Int.toNat_natCast]
    rw [drop_get (d := (0 : Int)) hi]
    simp only [domsOf]
    generalize hw : a.1.getD (l.getD i 0).toNat 0 = x at *
    refine Ev.pos (by omega) (Ev.pos (by omega) (Ev.pos (by omega) (Ev.pos (by omega) ?_)))
    rw [hx _ hv.1 hv.2, wrap_up hi (by omega)]
    by_cases hc : acc.contains x = true
    · rw [if_pos hc]
      exact Ev.pos hc (ih (i + 1) seen acc (by omega) hs (by omega) hx)
    · rw [if_neg hc]
      refine Ev.neg hc (Ev.pos (by omega) ?_)
      have := ih (i + 1) (seen.set x.toNat true) (acc ++ [x]) (by omega) (by simp [hs]) (by simp; omega) (by
        intro y h0 h7
        by_cases e : y = x
        · subst e
          simp [List.getD_eq_getElem?_getD, List.getElem?_set, hs, show y.toNat < 8 by omega]
        · have he : x.toNat ≠ y.toNat := by omega
          have := hx y h0 h7
          rw [List.getD_eq_getElem?_getD, List.getElem?_set, if_neg he, ← List.getD_eq_getElem?_getD, this]
          simp [e])
      have e1 : wrap64 ((acc.length : Int) + 1) = ((acc ++ [x]).length : Int) := by rw [wrap64_id (by omega) (by omega)]; simp
      rw [e1]; exact this
theorem spec_l4Span_ev (a : Config) (l : List Int) (hok : nodesB a l = true) (hl : l.length ≤ 1048576) : Ev (fun k => spec_l4Span.f k a l) (spanOf a l) := by
  simp only [nodesB, Bool.and_eq_true] at hok
  obtain ⟨h1, h2, _, _, h5⟩ := cfgB_len hok.1
  simp only [spec_l4Span.f]
  refine Ev.pos (by simp [lim_eq]) ?_
  have := spec_l4Span_l a l h5 hl (fun i hi => by have := ascB_mem hok.2 hi; omega) l.length 0 (List.replicate 8 false) [] (by omega) (by simp) (by simp) (by
    intro x h0 h7
    rw [List.getD_eq_getElem?_getD, List.getElem?_replicate, if_pos (by omega)]
    rfl)
  rw [List.drop_zero] at this
  exact this
theorem nodup_len {l m : List Int} (h : l.Nodup) (hs : ∀ x ∈ l, x ∈ m) : l.length ≤ m.length := by
  induction l generalizing m with
  | nil => exact Nat.zero_le _
  | cons x l ih =>
    rw [List.nodup_cons] at h
    have hx := hs x List.mem_cons_self
    have := ih (m := m.erase x) h.2 fun y hy => by
      have hne : y ≠ x := fun e => h.1 (e ▸ hy)
      exact (List.mem_erase_of_ne hne).2 (hs y (List.mem_cons_of_mem _ hy))
    rw [List.length_erase_of_mem hx] at this
    have hp := List.length_pos_of_mem hx
    rw [List.length_cons]; omega
theorem domsOf_nodup (a : Config) : ∀ (l acc : List Int), acc.Nodup → (domsOf a l acc).Nodup := by
  intro l
  induction l with
  | nil => intro acc h; exact h
  | cons n l ih =>
    intro acc h
    unfold domsOf
    refine ih _ ?_
    split
    · exact h
    · rename_i hc
      rw [List.contains_iff_mem] at hc
      refine List.nodup_append.2 ⟨h, by simp, fun x hx y hy => ?_⟩
      rw [List.mem_singleton] at hy
      intro e
      exact hc (hy ▸ e ▸ hx)
theorem domsOf_mem (a : Config) : ∀ (l acc : List Int) (x : Int), x ∈ domsOf a l acc ↔ x ∈ acc ∨ ∃ n ∈ l, a.1.getD n.toNat 0 = x := by
  intro l
  induction l with
  | nil => intro acc x; simp [domsOf]
  | cons n l ih =>
    intro acc x
    unfold domsOf
    rw [ih]
    split
    · rename_i hc
      rw [List.contains_iff_mem] at hc
      constructor
      · rintro (h | ⟨m, h1, h2⟩)
        · exact .inl h
        · exact .inr ⟨m, List.mem_cons_of_mem _ h1, h2⟩
      · rintro (h | ⟨m, h1, h2⟩)
        · exact .inl h
        · rcases List.mem_cons.1 h1 with rfl | h1
          · exact .inl (h2 ▸ hc)
          · exact .inr ⟨m, h1, h2⟩
    · constructor
      · rintro (h | ⟨m, h1, h2⟩)
        · rcases List.mem_append.1 h with h | h
          · exact .inl h
          · rw [List.mem_singleton] at h
            exact .inr ⟨n, List.mem_cons_self, h.symm⟩
        · exact .inr ⟨m, List.mem_cons_of_mem _ h1, h2⟩
      · rintro (h | ⟨m, h1, h2⟩)
        · exact .inl (List.mem_append_left _ h)
        · rcases List.mem_cons.1 h1 with rfl | h1
          · exact .inl (List.mem_append_right _ (List.mem_singleton.2 h2.symm))
          · exact .inr ⟨m, h1, h2⟩
theorem spanOf_mono (a : Config) {l m : List Int} (h : ∀ x ∈ l, x ∈ m) : spanOf a l ≤ spanOf a m := by
  unfold spanOf
  have := nodup_len (domsOf_nodup a l [] List.nodup_nil) (m := domsOf a m []) fun x hx => by
    rw [domsOf_mem] at hx ⊢
    rcases hx with hx | ⟨n, h1, h2⟩
    · exact .inl hx
    · exact .inr ⟨n, h n h1, h2⟩
  omega

noncomputable def holdsB (a : Config) (l : List Int) : Bool := nodesB a l && decide (a.2.1 ≤ spanOf a l)
theorem spec_Holds_ev (a : Config) (l : List Int) (ha : a.1.length ≤ 1048576) (hl : l.length ≤ 1048576) : Ev (fun k => spec_Holds.f k a l) (holdsB a l) := by
  simp only [spec_Holds.f, holdsB]
  exact Ev.bind (spec_NodesOk_ev a l ha hl) (Ev.and fun h => Ev.bind (spec_l4Span_ev a l h hl) Ev.ret)
theorem holdsB_mono {a : Config} {l m : List Int} (hm : nodesB a m = true) (h : ∀ x ∈ l, x ∈ m) (hl : holdsB a l = true) : holdsB a m = true := by
  unfold holdsB at *
  rw [hm, Bool.true_and, decide_eq_true_eq]
  have := spanOf_mono a h
  simp only [Bool.and_eq_true, decide_eq_true_eq] at hl
  omega

/-- A place: its epoch, its offset. -/
def placeOk (x : Int) : Bool := decide (0 < x) && (inB (x / 4294967296) 1 30 && inB (x % 4294967296) 1 60)
def epochOf (x : Int) : Int := if placeOk x = true then x / 4294967296 else 0
def offOf (x : Int) : Int := if placeOk x = true then x % 4294967296 else 0
theorem tdiv_pos {x : Int} (h : 0 ≤ x) : Int.tdiv x 4294967296 = x / 4294967296 := Int.tdiv_eq_ediv_of_nonneg h
theorem tmod_pos {x : Int} (h : 0 ≤ x) : Int.tmod x 4294967296 = x % 4294967296 := Int.tmod_eq_emod_of_nonneg h
theorem tdiv_neg' {x : Int} (h : x ≤ 0) : Int.tdiv x 4294967296 = -((-x) / 4294967296) := by
  have h1 : Int.tdiv (-x) 4294967296 = (-x) / 4294967296 := Int.tdiv_eq_ediv_of_nonneg (by omega)
  have h2 := Int.neg_tdiv (-x) 4294967296
  rw [Int.neg_neg] at h2
  rw [h2, h1]
theorem placeOk_pos {x : Int} (h : placeOk x = true) : 0 < x ∧ (1 ≤ x / 4294967296 ∧ x / 4294967296 ≤ 30) ∧ (1 ≤ x % 4294967296 ∧ x % 4294967296 ≤ 60) := by
  simpa only [placeOk, Bool.and_eq_true, inB_true, decide_eq_true_eq] using h
theorem epochOf_pos {x : Int} (h : placeOk x = true) : epochOf x = x / 4294967296 ∧ 1 ≤ epochOf x ∧ epochOf x ≤ 30 := by
  have h' := placeOk_pos h
  unfold epochOf
  rw [if_pos h]
  omega
theorem spec_PlaceOk_is (x : Int) (hx : InR x) : spec_PlaceOk.f x = some (placeOk x) := by
  have h2 := hx.2
  simp only [spec_PlaceOk.f, placeOk, spec_l1In_is]
  by_cases h : 0 < x
  · rw [if_pos h, tdiv_pos (by omega), tmod_pos (by omega), wrap64_id (by omega) (by omega)]
    cases inB (x / 4294967296) 1 30 <;> simp [h]
  · rw [if_neg h]
    simp [h]

theorem spec_EpochOf_is (x : Int) (hx : InR x) : spec_EpochOf.f x = some (epochOf x) := by
  have h2 := hx.2
  simp only [spec_EpochOf.f, spec_PlaceOk_is x hx, Option.bind_some, epochOf]
  by_cases h : placeOk x = true
  · have := placeOk_pos h
    rw [if_pos h, if_pos h, tdiv_pos (by omega), wrap64_id (by omega) (by omega)]
  · rw [if_neg h, if_neg h]

/-- An entry that is right. -/
noncomputable def entB (e : Entry) : Bool := placeOk e.1 && (inB e.2.1 0 30 && (!(decide (0 < e.2.1) && decide (e.2.1 ≤ epochOf e.1)) && (decide (((e.2.2.2.1.size : Nat) : Int) ≤ 40) && (!e.2.2.1 || (decide (0 < e.2.1) && decide (e.2.2.2.1 = (⟨#[]⟩ : ByteArray)))))))
theorem spec_EntryOk_ev (e : Entry) (ha : InR e.1) : Ev (fun k => spec_EntryOk.f k e) (entB e) := by
  have tail : Ev (fun k => spec_EntryOk.p6 k e) (!e.2.2.1 || (decide (0 < e.2.1) && decide (e.2.2.2.1 = (⟨#[]⟩ : ByteArray)))) := by
    refine Ev.succ ?_
    simp only [spec_EntryOk.p6]
    cases hc : e.2.2.1 with
    | true => exact Ev.pos rfl (Ev.andc fun _ => Ev.ret)
    | false => exact Ev.neg (by decide) Ev.ret
  have tail2 : Ev (fun k => if (40 : Int) < ((e.2.2.2.1.size : Nat) : Int) then some false else spec_EntryOk.p6 k e) (decide (((e.2.2.2.1.size : Nat) : Int) ≤ 40) && (!e.2.2.1 || (decide (0 < e.2.1) && decide (e.2.2.2.1 = (⟨#[]⟩ : ByteArray))))) :=
    (Ev.nand fun _ => tail).eq (by
      by_cases h : (40 : Int) < ((e.2.2.2.1.size : Nat) : Int)
      · rw [decide_eq_true h, decide_eq_false (show ¬ ((e.2.2.2.1.size : Nat) : Int) ≤ 40 by omega)]; rfl
      · rw [decide_eq_false h, decide_eq_true (show ((e.2.2.2.1.size : Nat) : Int) ≤ 40 by omega)]; rfl)
  simp only [spec_EntryOk.f, spec_PlaceOk_is _ ha, spec_EpochOf_is _ ha, spec_l1In_is, Option.bind_some, entB]
  refine Ev.and fun _ => Ev.and fun _ => ?_
  by_cases h0 : (0 : Int) < e.2.1
  · refine (Ev.pos h0 (Ev.nand fun _ => tail2)).eq ?_
    simp only [decide_eq_true h0, Bool.true_and]
  · rw [show (decide ((0 : Int) < e.2.1) && decide (e.2.1 ≤ epochOf e.1)) = false by rw [decide_eq_false h0]; rfl, Bool.not_false, Bool.true_and]
    exact Ev.neg h0 tail2

noncomputable def entsB (l : List Entry) : Bool := (List.range' 0 l.length).all fun i => entB (l.getD i zEnt)
theorem spec_l6List_ev (l : List Entry) (n : Int) (hl : l.length ≤ 1048576) (ha : ∀ i, i < l.length → InR (l.getD i zEnt).1) : Ev (fun k => spec_l6List.f k l n) (!decide (n < ((l.length : Nat) : Int)) && entsB l) := by
  have h := all_loop (n := l.length) (p := fun k i => spec_l6List.p9 k l i) (q := fun i => entB (l.getD i zEnt)) (zb := true) (fun i hi b hb => by
    simp only [spec_l6List.p9, Int.toNat_natCast]
    rw [wrap_up hi (by omega)]
    exact Ev.pos (by omega) (Ev.pos (by omega) (Ev.bind (spec_EntryOk_ev _ (ha i hi)) (Ev.and fun _ => hb)))) (by
    simp only [spec_l6List.p9]
    exact Ev.neg (by omega) Ev.ret) l.length 0 (by omega)
  rw [Bool.and_true] at h
  simp only [spec_l6List.f]
  exact Ev.nand fun _ => h

theorem spec_l6Asc_ev (l : List Entry) (hl : l.length ≤ 1048576) : Ev (fun k => spec_l6Asc.f k l) (ascE l) := by
  have h := all_loop (n := l.length) (p := fun k i => if i = 0 then spec_l6Asc.p5 k l 1 else spec_l6Asc.p5 k l i) (q := fun i => !(decide (0 < i) && decide ((l.getD i zEnt).1 ≤ (l.getD (i - 1) zEnt).1))) (zb := true) (fun i hi b hb => by
    by_cases h0 : i = 0
    · subst h0
      refine (Ev.pos rfl ?_).eq (v := b) (by rfl)
      have hb' : Ev (fun k => spec_l6Asc.p5 k l 1) b := hb.cg fun k => (if_neg (by decide)).symm
      obtain ⟨K, hK⟩ := hb'
      exact ⟨K, fun k hk => hK (k + 1) (by omega)⟩
    · refine Ev.neg (by omega) ?_
      have hb' : Ev (fun k => spec_l6Asc.p5 k l (((i + 1 : Nat)) : Int)) b := hb.cg fun k => (if_neg (by omega)).symm
      have e2 : wrap64 ((i : Int) - 1) = ((i - 1 : Nat) : Int) := by rw [wrap64_id (by omega) (by omega)]; omega
      simp only [spec_l6Asc.p5, e2, Int.toNat_natCast]
      rw [wrap_up hi (by omega), decide_eq_true (show 0 < i by omega), Bool.true_and]
      exact Ev.pos (by omega) (Ev.pos (by omega) (Ev.pos (by omega) (Ev.nand fun _ => hb')))) (by
    by_cases h0 : l.length = 0
    · refine Ev.pos (by omega) ?_
      simp only [spec_l6Asc.p5]
      exact Ev.neg (by omega) Ev.ret
    · refine Ev.neg (by omega) ?_
      simp only [spec_l6Asc.p5]
      exact Ev.neg (by omega) Ev.ret) l.length 0 (by omega)
  rw [Bool.and_true] at h
  exact h.cg fun k => (if_pos rfl).symm

noncomputable def storeB (s : Store) : Bool := decide (((s.1.length : Nat) : Int) ≤ 200) && (entsB s.1 && (decide (((s.2.1.length : Nat) : Int) ≤ 20) && (entsB s.2.1 && (ascE s.1 && inB s.2.2.1 0 30))))
theorem ndec (a b : Int) : (!decide (a < b)) = decide (b ≤ a) := by
  by_cases h : a < b
  · rw [decide_eq_true h, decide_eq_false (by omega)]; rfl
  · rw [decide_eq_false h, decide_eq_true (by omega)]; rfl
theorem spec_StoreOk_ev (s : Store) (h1 : s.1.length ≤ 1048576) (h2 : s.2.1.length ≤ 1048576) (a1 : ∀ i, i < s.1.length → InR (s.1.getD i zEnt).1) (a2 : ∀ i, i < s.2.1.length → InR (s.2.1.getD i zEnt).1) : Ev (fun k => spec_StoreOk.f k s) (storeB s) := by
  have e1 := spec_l6List_ev s.1 200 h1 a1
  have e2 := spec_l6List_ev s.2.1 20 h2 a2
  simp only [spec_StoreOk.f, spec_l1In_is, Option.bind_some, storeB]
  rw [ndec] at e1 e2
  refine (Ev.bind e1 (Ev.and fun _ => Ev.bind e2 (Ev.and fun _ => Ev.bind (spec_l6Asc_ev s.1 h1) (Ev.and fun _ => Ev.ret)))).eq ?_
  simp only [Bool.and_assoc]
noncomputable def unionF (l : List Store) : List Entry := if l.all storeB = true then unionL [] l else []
theorem StG.ok {l : List Store} (h : StG l) {i : Nat} (hi : i < l.length) : Ev (fun k => spec_StoreOk.f k (l.getD i zSto)) (storeB (l.getD i zSto)) := by
  have := h.2 _ (getD_mem (d := zSto) hi)
  exact spec_StoreOk_ev _ this.1.1 this.2.1.1 this.1.at this.2.1.at
noncomputable def fillS (l : List Store) (upto : Int) : Store := (unionL [] l, (([] : List Entry), (upto, ())))
noncomputable def fillG (l : List Store) (upto : Int) : Store × Bool := if l.all storeB = true then (if storeB (fillS l upto) = true then (fillS l upto, true) else (zSto, false)) else (zSto, false)
theorem unionL_EG (l : List Store) (h : StG l) (hk : ktS l ≤ 1048576) : EG 1048576 (unionL [] l) := by
  refine ⟨by have := unionL_len l []; simp at this; omega, ?_⟩
  have key : ∀ (l : List Store) (s : List Entry), (∀ t ∈ l, ∀ e ∈ t.1, InR e.1) → (∀ e ∈ s, InR e.1) → ∀ e ∈ unionL s l, InR e.1 := by
    intro l
    induction l with
    | nil => intro s _ hs; exact hs
    | cons t l ih =>
      intro s hl hs
      refine ih _ (fun t ht => hl t (List.mem_cons_of_mem _ ht)) ?_
      have hk : ∀ (r s : List Entry), (∀ e ∈ r, InR e.1) → (∀ e ∈ s, InR e.1) → ∀ e ∈ keepsL s r, InR e.1 := by
        intro r
        induction r with
        | nil => intro s _ hs; exact hs
        | cons x r ihr =>
          intro s hr hs
          refine ihr _ (fun e he => hr e (List.mem_cons_of_mem _ he)) fun e he => ?_
          rcases keepL_mem he with rfl | he
          · exact hr _ List.mem_cons_self
          · exact hs e he
      exact hk t.1 s (hl t List.mem_cons_self) hs
  exact key l [] (fun t ht => (h.2 t ht).1.2) (fun e he => by cases he)

theorem spec_l4Has_l (l : List Int) (x : Int) (hl : l.length ≤ 1048576) : ∀ (m i : Nat), i + m = l.length → Ev (fun k => spec_l4Has.p5 k l x (i : Int)) ((l.drop i).contains x) := by
  intro m
  induction m with
  | zero =>
    intro i h
    refine Ev.succ ?_
    simp only [spec_l4Has.p5]
    rw [List.drop_eq_nil_of_le (by omega)]
    exact Ev.neg (by omega) Ev.ret
  | succ m ih =>
    intro i h
    refine Ev.succ ?_
    simp only [spec_l4Has.p5, Int.toNat_natCast]
    rw [drop_get (d := (0 : Int)) (i := i) (l := l) (by omega), List.contains_cons, wrap_up (i := i) (n := l.length) (by omega) (by omega)]
    refine Ev.pos (by omega) (Ev.pos (by omega) ?_)
    by_cases hx : l.getD i 0 = x
    · exact (Ev.pos hx Ev.ret).eq (by rw [hx]; simp)
    · refine (Ev.neg hx (ih (i + 1) (by omega))).eq ?_
      rw [show (x == l.getD i 0) = false by simpa using fun e => hx e.symm, Bool.false_or]
theorem spec_l4Has_ev (l : List Int) (x : Int) (hl : l.length ≤ 1048576) : Ev (fun k => spec_l4Has.f k l x) (l.contains x) := spec_l4Has_l l x hl l.length 0 (by omega)

noncomputable def zeroB (s : Store) : Bool := decide (s.1.length = 0) && (decide (s.2.1.length = 0) && decide (s.2.2.1 = 0))
theorem spec_l12Zero_is (s : Store) : spec_l12Zero.f s = some (zeroB s) := by
  simp only [spec_l12Zero.f]
  unfold zeroB
  by_cases h1 : s.1.length = 0
  · rw [if_pos (by omega), decide_eq_true h1, Bool.true_and]
    by_cases h2 : s.2.1.length = 0
    · rw [if_pos (by omega), decide_eq_true h2, Bool.true_and]
    · rw [if_neg (by omega), decide_eq_false h2, Bool.false_and]
  · rw [if_neg (by omega), decide_eq_false h1, Bool.false_and]

noncomputable def storeAt (w : World) (i : Nat) : Bool := storeB (w.2.1.getD i zSto) && (!w.2.2.1.contains (i : Int) || zeroB (w.2.1.getD i zSto))
noncomputable def nodesW (w : World) : Bool := cfgB w.1 && (decide (w.2.1.length = w.1.1.length) && (nodesB w.1 w.2.2.1 && ((!holdsB w.1 w.2.2.1 || w.2.2.2.2.2.2.2.2.1) && (List.range' 0 w.2.1.length).all (storeAt w))))
theorem Ev.orb {b c : Bool} {A : Nat → Option Bool} {B : Nat → Option Bool} {v : Bool} (h1 : b = true → Ev A (c && v)) (h2 : b = false → Ev B v) : Ev (fun k => if b = true then A k else B k) ((!b || c) && v) := by
  cases b with
  | true => exact (Ev.pos rfl (h1 rfl)).eq (by simp)
  | false => exact (Ev.neg (by decide) (h2 rfl)).eq (by simp)
theorem spec_l12Nodes_ev (w : World) (g : WG w) : Ev (fun k => spec_l12Nodes.f k w) (nodesW w) := by
  have hl := g.st.1
  have h9 : Ev (fun k => spec_l12Nodes.p9 k (0 : Int) w) ((List.range' 0 w.2.1.length).all (storeAt w)) :=
    (all_loop (n := w.2.1.length) (p := fun k i => spec_l12Nodes.p9 k i w) (q := storeAt w) (zb := true) (fun i hi b hb => by
      simp only [spec_l12Nodes.p9, Int.toNat_natCast, spec_l12Zero_is, Option.bind_some]
      rw [wrap_up hi (by omega)]
      unfold storeAt
      rw [Bool.and_assoc]
      refine Ev.pos (by omega) (Ev.pos (by omega) (Ev.bind (g.st.ok hi) (Ev.and fun _ => Ev.bind (spec_l4Has_ev w.2.2.1 (i : Int) g.lo) (Ev.orb (fun _ => Ev.pos (by omega) (Ev.and fun _ => hb)) (fun _ => hb)))))) (by
      simp only [spec_l12Nodes.p9]
      exact Ev.neg (by omega) Ev.ret) w.2.1.length 0 (by omega)).eq (Bool.and_true _)
  have h6 : Ev (fun k => spec_l12Nodes.p6 k w) ((List.range' 0 w.2.1.length).all (storeAt w)) := Ev.succ (by simp only [spec_l12Nodes.p6]; exact h9)
  simp only [spec_l12Nodes.f]
  unfold nodesW
  refine Ev.bind (spec_ConfigOk_ev w.1 g.c) (Ev.and fun _ => ?_)
  by_cases he : w.2.1.length = w.1.1.length
  · rw [decide_eq_true he, Bool.true_and]
    refine Ev.pos (by omega) (Ev.bind (spec_NodesOk_ev w.1 w.2.2.1 g.c g.lo) (Ev.and fun _ => Ev.bind (spec_Holds_ev w.1 w.2.2.1 g.c g.lo) (Ev.orb (fun _ => ?_) (fun _ => h6))))
    exact Ev.and fun _ => h6
  · rw [decide_eq_false he, Bool.false_and]
    exact Ev.neg (by omega) Ev.ret

/-- An era that is right by itself; one of a register; what is given up. -/
noncomputable def zEra : Era := (([] : List Int), (false, ((0 : Int), ())))
noncomputable def eraB (a : Config) (e : Era) : Bool := holdsB a e.1 && (inB e.2.2.1 0 60 && (e.2.1 || decide (e.2.2.1 = 0)))
noncomputable def eraAt (a : Config) (l : List Era) (i : Nat) : Bool := eraB a (l.getD i zEra) && (!(l.getD i zEra).2.1 || (!decide (i = l.length - 1) && (decide (i = 0) || (l.getD (i - 1) zEra).2.1)))
noncomputable def erasB (a : Config) (l : List Era) : Bool := (List.range' 0 l.length).all (eraAt a l)
noncomputable def trimB (n : Nat) (t : Int) : Bool := decide (t = 0) || inB (epochOf t) 1 n
noncomputable def regB (a : Config) (r : Register) : Bool := cfgB a && (decide (((r.1.length : Nat) : Int) ≤ 30) && (trimB r.1.length r.2.1 && erasB a r.1))
theorem trimB_is (n : Nat) (t : Int) : trimB n t = (decide (t = 0) || (placeOk t && !decide ((n : Int) < epochOf t))) := by
  unfold trimB
  by_cases h : placeOk t = true
  · obtain ⟨_, h1, h2⟩ := epochOf_pos h
    rw [h]
    by_cases h3 : (n : Int) < epochOf t
    · rw [decide_eq_true h3, show inB (epochOf t) 1 n = false by rw [Bool.eq_false_iff]; intro he; rw [inB_true] at he; omega]
      simp
    · rw [decide_eq_false h3, show inB (epochOf t) 1 n = true by rw [inB_true]; omega]
      simp
  · have h0 : epochOf t = 0 := by unfold epochOf; rw [if_neg h]
    rw [h0, show inB 0 1 n = false by rw [Bool.eq_false_iff]; intro he; rw [inB_true] at he; omega]
    cases hp : placeOk t
    · simp
    · exact absurd hp h
theorem spec_RegOk_l (a : Config) (r : Register) (ha : a.1.length ≤ 1048576) (hl : r.1.length ≤ 1048576) (he : ∀ i, i < r.1.length → (r.1.getD i zEra).1.length ≤ 1048576) : Ev (fun k => spec_RegOk.p11 k ((r.1.length : Nat) : Int) ((0 : Nat) : Int) a r) (erasB a r.1) := by
  have h := all_loop (n := r.1.length) (p := fun k i => spec_RegOk.p11 k ((r.1.length : Nat) : Int) i a r) (q := eraAt a r.1) (zb := true) (fun i hi b hb => by
    simp only [spec_RegOk.p11, spec_l1In_is, Int.toNat_natCast]
    have hz := he i hi
    have hw : wrap64 ((i : Int) + 1) = ((i + 1 : Nat) : Int) := wrap_up hi (by omega)
    unfold eraAt eraB
    change Ev (fun k => if (i : Int) < ((r.1.length : Nat) : Int) then _ else _) _
    refine Ev.pos (by omega) (Ev.pos (by omega) (Ev.bind (spec_Holds_ev a _ ha hz) ?_))
    rw [Bool.and_assoc, Bool.and_assoc, Bool.and_assoc]
    change Ev (fun k => if holdsB a (r.1.getD i zEra).1 = true then _ else some false) _
    refine Ev.and fun _ => Ev.bindc rfl (Ev.and fun _ => ?_)
    -- behind the checks of the era itself
    have tail : ∀ (p q u v w x : Bool) (z : Int), Ev (fun k => spec_RegOk.p20 k ((r.1.length : Nat) : Int) (i : Int) z p q u v w x a r (r.1.getD i zEra)) ((!(r.1.getD i zEra).2.1 || (!decide (i = r.1.length - 1) && (decide (i = 0) || (r.1.getD (i - 1) zEra).2.1))) && b) := by
      intro p q u v w x z
      refine Ev.succ ?_
      simp only [spec_RegOk.p20, hw]
      by_cases hc : (r.1.getD i zEra).2.1 = true
      · refine Ev.pos hc ?_
        have e1 : wrap64 (((r.1.length : Nat) : Int) - 1) = ((r.1.length - 1 : Nat) : Int) := by rw [wrap64_id (by omega) (by omega)]; omega
        rw [e1, hc, Bool.not_true, Bool.false_or, Bool.and_assoc]
        by_cases hq : i = r.1.length - 1
        · rw [decide_eq_true hq]
          exact Ev.pos (by omega) Ev.ret
        · rw [decide_eq_false hq]
          refine Ev.neg (by omega) ?_
          by_cases h0 : i = 0
          · subst h0
            exact (Ev.neg (by omega) hb).eq (by rfl)
          · have e2 : wrap64 ((i : Int) - 1) = ((i - 1 : Nat) : Int) := by rw [wrap64_id (by omega) (by omega)]; omega
            rw [e2, decide_eq_false h0]
            refine Ev.pos (by omega) (Ev.pos (by omega) ?_)
            exact (Ev.and fun _ => hb).eq (by rfl)
      · refine (Ev.neg hc hb).eq ?_
        simp only [Bool.not_eq_true] at hc
        rw [hc]; rfl
    by_cases hc : (r.1.getD i zEra).2.1 = true
    · exact (Ev.pos hc (tail _ _ _ _ _ _ _)).eq (by rw [hc]; rfl)
    · refine (Ev.neg hc (Ev.andc (b := (!(r.1.getD i zEra).2.1 || (!decide (i = r.1.length - 1) && (decide (i = 0) || (r.1.getD (i - 1) zEra).2.1))) && b) fun hz => tail _ _ _ _ _ _ _)).eq ?_
      simp only [Bool.not_eq_true] at hc
      rw [hc]; rfl) (by
    simp only [spec_RegOk.p11]
    exact Ev.neg (by omega) Ev.ret) r.1.length 0 (by omega)
  exact h.eq (by unfold erasB; rw [Bool.and_true])
theorem spec_RegOk_ev (a : Config) (r : Register) (ht : InR r.2.1) (ha : a.1.length ≤ 1048576) (hl : r.1.length ≤ 1048576) (he : ∀ i, i < r.1.length → (r.1.getD i zEra).1.length ≤ 1048576) : Ev (fun k => spec_RegOk.f k a r) (regB a r) := by
  have hp8 : Ev (fun k => spec_RegOk.p8 k ((r.1.length : Nat) : Int) a r) (erasB a r.1) := Ev.succ (Ev.cg (spec_RegOk_l a r ha hl he) fun k => rfl)
  simp only [spec_RegOk.f, regB, spec_PlaceOk_is _ ht, spec_EpochOf_is _ ht, Option.bind_some]
  refine Ev.bind (spec_ConfigOk_ev a ha) (Ev.and fun _ => ?_)
  by_cases h30 : (30 : Int) < ((r.1.length : Nat) : Int)
  · refine (Ev.pos h30 Ev.ret).eq ?_
    rw [decide_eq_false (by omega)]; rfl
  · refine Ev.neg h30 ?_
    rw [decide_eq_true (by omega), Bool.true_and, trimB_is]
    by_cases h0 : r.2.1 = 0
    · exact (Ev.pos h0 hp8).eq (by rw [decide_eq_true h0]; rfl)
    · refine Ev.neg h0 ?_
      rw [decide_eq_false h0, Bool.false_or, Bool.and_assoc]
      exact Ev.and fun _ => Ev.nand fun _ => hp8

noncomputable def zWord : Word := ((⟨#[]⟩ : ByteArray), (([] : List Int), (false, ())))
noncomputable def wordB (a : Config) (w : Word) : Bool := !decide ((40 : Int) < ((w.1.size : Nat) : Int)) && (nodesB a w.2.1 && decide (holdsB a w.2.1 = w.2.2.1))
noncomputable def undone : List Word → Int
  | [] => 0
  | w :: l => (if w.2.2.1 = true then 0 else 1) + undone l
theorem undone_t {w : Word} {l : List Word} (h : w.2.2.1 = true) : undone (w :: l) = undone l := by
  show (if w.2.2.1 = true then (0 : Int) else 1) + undone l = undone l
  rw [if_pos h, Int.zero_add]
theorem undone_f {w : Word} {l : List Word} (h : ¬ w.2.2.1 = true) : undone (w :: l) = 1 + undone l := by
  show (if w.2.2.1 = true then (0 : Int) else 1) + undone l = 1 + undone l
  rw [if_neg h]
noncomputable def writerB (a : Config) (w : Writer) : Bool := cfgB a && (inB w.1 1 30 && (!decide ((60 : Int) < ((w.2.1.length : Nat) : Int)) && (w.2.1.all (wordB a) && decide (undone w.2.1 ≤ 6))))
theorem spec_WriterOk_l (a : Config) (w : Writer) (ha : a.1.length ≤ 1048576) (hl : w.2.1.length ≤ 4194304) (he : ∀ i, i < w.2.1.length → (w.2.1.getD i zWord).2.1.length ≤ 1048576) : ∀ (m i : Nat) (n : Int), i + m = w.2.1.length → 0 ≤ n → n ≤ i →
    Ev (fun k => spec_WriterOk.p11 k n (i : Int) a w) ((w.2.1.drop i).all (wordB a) && decide (n + undone (w.2.1.drop i) ≤ 6)) := by
  intro m
  induction m with
  | zero =>
    intro i n h h0 h1
    refine Ev.succ ?_
    simp only [spec_WriterOk.p11]
    rw [List.drop_eq_nil_of_le (by omega)]
    exact (Ev.neg (by omega) Ev.ret).eq (by simp [undone])
  | succ m ih =>
    intro i n h h0 h1
    have hi : i < w.2.1.length := by omega
    have hz := he i hi
    refine Ev.succ ?_
    simp only [spec_WriterOk.p11, Int.toNat_natCast]
    rw [drop_get (d := zWord) hi, List.all_cons]
    simp only [wordB]
    rw [wrap_up hi (by omega), wrap64_id (x := n + 1) (by omega) (by omega), Bool.and_assoc, Bool.and_assoc, Bool.and_assoc]
    refine Ev.pos (by omega) (Ev.pos (by omega) ?_)
    change Ev (fun k => if (40 : Int) < (((w.2.1.getD i zWord).1.size : Nat) : Int) then some false else (spec_NodesOk.f k a (w.2.1.getD i zWord).2.1).bind fun r3 => if r3 = true then ((spec_Holds.f k a (w.2.1.getD i zWord).2.1).bind fun r4 => if r4 = (w.2.1.getD i zWord).2.2.1 then (if (w.2.1.getD i zWord).2.2.1 = true then spec_WriterOk.p11 k n ((i + 1 : Nat) : Int) a w else spec_WriterOk.p11 k (n + 1) ((i + 1 : Nat) : Int) a w) else some false) else some false) _
    refine Ev.nand fun _ => Ev.bind (spec_NodesOk_ev a _ ha hz) (Ev.and fun _ => Ev.bind (spec_Holds_ev a _ ha hz) (Ev.andc fun _ => ?_))
    by_cases hd : (w.2.1.getD i zWord).2.2.1 = true
    · refine Ev.pos hd ((ih (i + 1) n (by omega) h0 (by omega)).eq ?_)
      rw [undone_t hd]
    · refine Ev.neg hd ((ih (i + 1) (n + 1) (by omega) (by omega) (by omega)).eq ?_)
      rw [undone_f hd, Int.add_assoc]
theorem spec_WriterOk_ev (a : Config) (w : Writer) (ha : a.1.length ≤ 1048576) (hl : w.2.1.length ≤ 4194304) (he : ∀ i, i < w.2.1.length → (w.2.1.getD i zWord).2.1.length ≤ 1048576) : Ev (fun k => spec_WriterOk.f k a w) (writerB a w) := by
  simp only [spec_WriterOk.f, spec_l1In_is, writerB]
  refine Ev.bind (spec_ConfigOk_ev a ha) (Ev.and fun _ => Ev.bindc rfl (Ev.and fun _ => Ev.nand fun _ => ?_))
  have := spec_WriterOk_l a w ha hl he w.2.1.length 0 0 (by omega) (by omega) (by omega)
  rw [List.drop_zero, Int.zero_add] at this
  exact this

theorem spec_OffOf_is (x : Int) (hx : InR x) : spec_OffOf.f x = some (offOf x) := by
  simp only [spec_OffOf.f, spec_PlaceOk_is x hx, Option.bind_some, offOf]
  by_cases h : placeOk x = true
  · have := placeOk_pos h
    rw [if_pos h, if_pos h, tmod_pos (by omega)]
  · rw [if_neg h, if_neg h]

/-- The last offset seen. -/
noncomputable def lastB (m : Mend) : Int := if m.2.2.2.1.length = 0 then 0 else offOf (m.2.2.2.1.getD (m.2.2.2.1.length - 1) zEnt).1
theorem lastB_le (m : Mend) : 0 ≤ lastB m ∧ lastB m ≤ 60 := by
  unfold lastB
  split
  · omega
  · unfold offOf
    split
    · rename_i h; have := placeOk_pos h; omega
    · omega
theorem spec_l9Last_is (m : Mend) (hl : m.2.2.2.1.length ≤ 1048576) (h : ∀ i, InR (m.2.2.2.1.getD i zEnt).1) : spec_l9Last.f m = some (lastB m) := by
  unfold spec_l9Last.f lastB
  by_cases h0 : m.2.2.2.1.length = 0
  · rw [if_pos (by omega), if_pos h0]
  · have e : wrap64 (((m.2.2.2.1.length : Nat) : Int) - 1) = ((m.2.2.2.1.length - 1 : Nat) : Int) := by rw [wrap64_id (by omega) (by omega)]; omega
    rw [if_neg (by omega), if_neg h0, e, if_pos (by omega), Int.toNat_natCast]
    exact (congrArg (fun x => x.bind fun r => some r) (spec_OffOf_is _ (h _))).trans rfl

noncomputable def seenAt (m : Mend) (i : Nat) : Bool := entB (m.2.2.2.1.getD i zEnt) && (decide (epochOf (m.2.2.2.1.getD i zEnt).1 = m.2.1) && !decide (m.1 ≤ (m.2.2.2.1.getD i zEnt).2.1))
noncomputable def seenB (m : Mend) : Bool := (List.range' 0 m.2.2.2.1.length).all (seenAt m)
noncomputable def holdB (a : Config) (m : Mend) : Bool := (List.range' 0 m.2.2.2.2.2.1.length).all fun i => nodesB a (m.2.2.2.2.2.1.getD i [])
/-- A mend that is right. -/
noncomputable def mendB (a : Config) (m : Mend) : Bool := cfgB a && (inB m.2.1 1 30 && (inB m.1 (m.2.1 + 1) 30 && (nodesB a m.2.2.1 && (ascE m.2.2.2.1 && (seenB m && (holdB a m && decide (((m.2.2.2.2.2.1.length : Nat) : Int) = if m.2.2.2.2.1 = true then lastB m else 0)))))))
theorem spec_MendOk_ev {s n h w : Nat} (a : Config) (m : Mend) (ha : a.1.length ≤ 1048576) (hs : s ≤ 1048576) (hn : n ≤ 1048576) (hh : h ≤ 1048576) (hw : w ≤ 1048576) (g : MG s n h w m) : Ev (fun k => spec_MendOk.f k a m) (mendB a m) := by
  obtain ⟨g1, g2, g3, g4, g5⟩ := g
  have l2 := g2.1
  have h19 : Ev (fun k => spec_MendOk.p19 k (0 : Int) a m) (holdB a m && decide (((m.2.2.2.2.2.1.length : Nat) : Int) = if m.2.2.2.2.1 = true then lastB m else 0)) :=
    all_loop (n := m.2.2.2.2.2.1.length) (p := fun k i => spec_MendOk.p19 k i a m) (q := fun i => nodesB a (m.2.2.2.2.2.1.getD i [])) (fun i hi b hb => by
      simp only [spec_MendOk.p19, Int.toNat_natCast]
      rw [wrap_up hi (by omega)]
      exact Ev.pos (by omega) (Ev.pos (by omega) (Ev.bind (spec_NodesOk_ev a _ ha (by have := g3.2 _ (getD_mem (d := []) hi); omega)) (Ev.and fun _ => hb)))) (by
      simp only [spec_MendOk.p19, spec_l9Last_is m (by omega) g2.get, Option.bind_some]
      refine Ev.neg (by omega) ?_
      by_cases hp : m.2.2.2.2.1 = true
      · exact (Ev.pos hp Ev.ret).eq (by rw [if_pos hp])
      · exact (Ev.neg hp Ev.ret).eq (by rw [if_neg hp])) m.2.2.2.2.2.1.length 0 (by omega)
  have h9 : Ev (fun k => spec_MendOk.p9 k (0 : Int) a m) (seenB m && (holdB a m && decide (((m.2.2.2.2.2.1.length : Nat) : Int) = if m.2.2.2.2.1 = true then lastB m else 0))) :=
    all_loop (n := m.2.2.2.1.length) (p := fun k i => spec_MendOk.p9 k i a m) (q := seenAt m) (fun i hi b hb => by
      simp only [spec_MendOk.p9, Int.toNat_natCast]
      rw [wrap_up hi (by omega)]
      unfold seenAt
      rw [Bool.and_assoc, Bool.and_assoc]
      exact Ev.pos (by omega) (Ev.pos (by omega) (Ev.bind (spec_EntryOk_ev _ (g2.get i)) (Ev.and fun _ => Ev.pos (by omega) (Ev.bind (Ev.of (spec_EpochOf_is _ (g2.get i))) (Ev.andc fun _ => Ev.pos (by omega) (Ev.nand fun _ => hb)))))) ) (by
      simp only [spec_MendOk.p9]
      exact Ev.neg (by omega) h19) m.2.2.2.1.length 0 (by omega)
  simp only [spec_MendOk.f, spec_l1In_is, Option.bind_some, mendB]
  refine Ev.bind (spec_ConfigOk_ev a ha) (Ev.and fun _ => Ev.and fun h1 => ?_)
  rw [inB_true] at h1
  rw [wrap64_id (by omega) (by omega)]
  exact Ev.and fun _ => Ev.bind (spec_NodesOk_ev a _ ha (by omega)) (Ev.and fun _ => Ev.bind (spec_l6Asc_ev _ (by omega)) (Ev.and fun _ => h9))
theorem mendB_parts {a : Config} {m : Mend} (h : mendB a m = true) : cfgB a = true ∧ (1 ≤ m.2.1 ∧ m.2.1 ≤ 30) ∧ (m.2.1 + 1 ≤ m.1 ∧ m.1 ≤ 30) ∧ nodesB a m.2.2.1 = true ∧ ascE m.2.2.2.1 = true ∧ seenB m = true ∧ (∀ i, i < m.2.2.2.2.2.1.length → nodesB a (m.2.2.2.2.2.1.getD i []) = true) ∧ ((m.2.2.2.2.2.1.length : Nat) : Int) = if m.2.2.2.2.1 = true then lastB m else 0 := by
  simp only [mendB, Bool.and_eq_true, inB_true, decide_eq_true_eq] at h
  refine ⟨h.1, h.2.1, h.2.2.1, h.2.2.2.1, h.2.2.2.2.1, h.2.2.2.2.2.1, fun i hi => ?_, h.2.2.2.2.2.2.2⟩
  have := h.2.2.2.2.2.2.1
  simp only [holdB, List.all_eq_true, List.mem_range'_1] at this
  exact this i (by omega)
theorem mendB_wrote {a : Config} {m : Mend} {l : List (List Int)} (h : mendB a m = true) (hl : l.length = m.2.2.2.2.2.1.length) (hn : ∀ x ∈ l, nodesB a x = true) : mendB a (m.1, (m.2.1, (m.2.2.1, (m.2.2.2.1, (m.2.2.2.2.1, (l, ())))))) = true := by
  simp only [mendB, Bool.and_eq_true] at h ⊢
  refine ⟨h.1, h.2.1, h.2.2.1, h.2.2.2.1, h.2.2.2.2.1, h.2.2.2.2.2.1, ?_, ?_⟩
  · simp only [holdB, List.all_eq_true, List.mem_range'_1]
    intro i hi
    exact hn _ (getD_mem (by omega))
  · have h8 := h.2.2.2.2.2.2.2
    rw [decide_eq_true_eq] at h8 ⊢
    show ((l.length : Nat) : Int) = if m.2.2.2.2.1 = true then lastB m else 0
    rw [hl]; exact h8

/-- The first epoch that is open, counted from one. -/
noncomputable def fO : List Era → Int → Int
  | [], _ => 0
  | e :: l, i => if e.2.1 = true then fO l (i + 1) else i + 1
theorem fO_or : ∀ (l : List Era) (i : Int), 0 ≤ i → fO l i = 0 ∨ (i + 1 ≤ fO l i ∧ fO l i ≤ i + l.length) := by
  intro l
  induction l with
  | nil => intro i _; exact .inl rfl
  | cons e l ih =>
    intro i hi
    simp only [fO, List.length_cons]
    split
    · rcases ih (i + 1) (by omega) with h | h
      · exact .inl h
      · exact .inr ⟨by omega, by omega⟩
    · exact .inr ⟨by omega, by omega⟩
theorem spec_FirstOpen_l (r : Register) (hl : r.1.length ≤ 1048576) : ∀ (m i : Nat), i + m = r.1.length → Ev (fun k => spec_FirstOpen.p5 k (i : Int) r) (fO (r.1.drop i) i) := by
  intro m
  induction m with
  | zero =>
    intro i hi
    refine Ev.succ ?_
    simp only [spec_FirstOpen.p5]
    rw [List.drop_eq_nil_of_le (by omega)]
    exact Ev.neg (by omega) Ev.ret
  | succ m ih =>
    intro i hi
    refine Ev.succ ?_
    simp only [spec_FirstOpen.p5, Int.toNat_natCast]
    rw [drop_get (d := zEra) (i := i) (l := r.1) (by omega), wrap_up (i := i) (n := r.1.length) (by omega) (by omega)]
    exact Ev.pos (by omega) (Ev.pos (by omega) (Ev.ite (fun _ => ih (i + 1) (by omega)) (fun _ => Ev.ret)))
theorem spec_FirstOpen_ev (r : Register) (hl : r.1.length ≤ 1048576) : Ev (fun k => spec_FirstOpen.f k r) (fO r.1 0) := spec_FirstOpen_l r hl r.1.length 0 (by omega)

noncomputable def writerAt (w : World) (i : Nat) : Bool := writerB w.1 (w.2.2.2.2.1.getD i zWr) && (!decide (((w.2.2.2.1.1.length : Nat) : Int) < (w.2.2.2.2.1.getD i zWr).1) && (decide (i = 0) || !decide ((w.2.2.2.2.1.getD i zWr).1 ≤ (w.2.2.2.2.1.getD (i - 1) zWr).1)))
noncomputable def mendAt (w : World) (i : Nat) : Bool := mendB w.1 (w.2.2.2.2.2.1.getD i zMd) && (decide ((w.2.2.2.2.2.1.getD i zMd).1 = ((w.2.2.2.1.1.length : Nat) : Int)) && decide ((w.2.2.2.2.2.1.getD i zMd).2.1 = fO w.2.2.2.1.1 0))
noncomputable def epochsW (w : World) : Bool := regB w.1 w.2.2.2.1 && (!decide ((4 : Int) < ((w.2.2.2.2.1.length : Nat) : Int)) && (!decide ((1 : Int) < ((w.2.2.2.2.2.1.length : Nat) : Int)) && ((List.range' 0 w.2.2.2.2.1.length).all (writerAt w) && (List.range' 0 w.2.2.2.2.2.1.length).all (mendAt w))))
theorem WG.era {w : World} (g : WG w) : ∀ i, i < w.2.2.2.1.1.length → (w.2.2.2.1.1.getD i zEra).1.length ≤ 1048576 := fun i hi => g.re _ (getD_mem hi)
theorem WG.writer {w : World} (g : WG w) {i : Nat} (hi : i < w.2.2.2.2.1.length) : (w.2.2.2.2.1.getD i zWr).2.1.length ≤ 4194304 ∧ ∀ j, j < (w.2.2.2.2.1.getD i zWr).2.1.length → ((w.2.2.2.2.1.getD i zWr).2.1.getD j zWord).2.1.length ≤ 1048576 :=
  ⟨by have := (g.we _ (getD_mem (d := zWr) hi)).1; omega, fun j hj => (g.we _ (getD_mem (d := zWr) hi)).2 _ (getD_mem hj)⟩
/-- An element that must be greater than the one ahead of it. -/
theorem step_up {A : Nat → Option Bool} {i n : Nat} {x y : Int} {b : Bool} (hi : i < n) (hn : n ≤ 1048576) (hb : Ev A b) : Ev (fun k => if (0 : Int) < (i : Int) then (if (0 : Int) ≤ (wrap64 ((i : Int) - (1 : Int))) ∧ (wrap64 ((i : Int) - (1 : Int))) < ((n : Nat) : Int) then (if x ≤ y then some false else A k) else none) else A k) ((decide (i = 0) || !decide (x ≤ y)) && b) := by
  by_cases h0 : i = 0
  · exact (Ev.neg (by omega) hb).eq (by simp [h0])
  · rw [wrap64_id (x := (i : Int) - 1) (by omega) (by omega), decide_eq_false h0, Bool.false_or]
    exact Ev.pos (by omega) (Ev.pos (by omega) (Ev.nand fun _ => hb))
theorem wrap_dn {i n : Nat} (hi : i < n) (h0 : 0 < i) (hn : n ≤ 1048576) : (wrap64 ((i : Int) - (1 : Int))).toNat = i - 1 := by
  rw [wrap64_id (by omega) (by omega)]; omega
theorem spec_l12Epochs_ev (w : World) (g : WG w) : Ev (fun k => spec_l12Epochs.f k w) (epochsW w) := by
  have hwl := g.wl; have hml := g.ml; have hrl := g.rl
  have h21 : Ev (fun k => spec_l12Epochs.p21 k ((w.2.2.2.1.1.length : Nat) : Int) (0 : Int) w) ((List.range' 0 w.2.2.2.2.2.1.length).all (mendAt w)) :=
    (all_loop (n := w.2.2.2.2.2.1.length) (p := fun k i => spec_l12Epochs.p21 k ((w.2.2.2.1.1.length : Nat) : Int) i w) (q := mendAt w) (zb := true) (fun i hi b hb => by
      simp only [spec_l12Epochs.p21, Int.toNat_natCast]
      rw [wrap_up hi (by omega)]
      unfold mendAt
      rw [Bool.and_assoc, Bool.and_assoc]
      exact Ev.pos (by omega) (Ev.pos (by omega) (Ev.bind (spec_MendOk_ev w.1 (w.2.2.2.2.2.1.getD i zMd) g.c (Nat.le_refl _) (Nat.le_refl _) (Nat.le_refl _) (Nat.le_refl _) (g.me _ (getD_mem hi))) (Ev.and fun _ => Ev.andc fun _ => Ev.bind (spec_FirstOpen_ev w.2.2.2.1 g.rl) (Ev.andc fun _ => hb))))) (by
      simp only [spec_l12Epochs.p21]
      exact Ev.neg (by omega) Ev.ret) w.2.2.2.2.2.1.length 0 (by omega)).eq (Bool.and_true _)
  have h11 : Ev (fun k => spec_l12Epochs.p11 k ((w.2.2.2.1.1.length : Nat) : Int) (0 : Int) w) ((List.range' 0 w.2.2.2.2.1.length).all (writerAt w) && (List.range' 0 w.2.2.2.2.2.1.length).all (mendAt w)) :=
    all_loop (n := w.2.2.2.2.1.length) (p := fun k i => spec_l12Epochs.p11 k ((w.2.2.2.1.1.length : Nat) : Int) i w) (q := writerAt w) (zb := (List.range' 0 w.2.2.2.2.2.1.length).all (mendAt w)) (fun i hi b hb => by
      have hw := g.writer hi
      simp only [spec_l12Epochs.p11, Int.toNat_natCast]
      rw [wrap_up hi (by omega)]
      unfold writerAt
      rw [Bool.and_assoc, Bool.and_assoc]
      refine Ev.pos (by omega) (Ev.pos (by omega) (Ev.bind (spec_WriterOk_ev w.1 (w.2.2.2.2.1.getD i zWr) g.c hw.1 hw.2) (Ev.and fun _ => Ev.pos (by omega) (Ev.nand fun _ => ?_))))
      by_cases h0 : i = 0
      · exact (Ev.neg (by omega) hb).eq (by simp [h0])
      · rw [wrap64_id (x := (i : Int) - 1) (by omega) (by omega), decide_eq_false h0, Bool.false_or, show (((i : Int) - 1).toNat) = i - 1 by omega]
        exact Ev.pos (by omega) (Ev.pos (by omega) (Ev.pos (by omega) (Ev.nand fun _ => hb)))) (by
      simp only [spec_l12Epochs.p11]
      exact Ev.neg (by omega) h21) w.2.2.2.2.1.length 0 (by omega)
  simp only [spec_l12Epochs.f]
  unfold epochsW
  exact Ev.bind (spec_RegOk_ev w.1 w.2.2.2.1 g.rt g.c g.rl g.era) (Ev.and fun _ => Ev.nand fun _ => Ev.nand fun _ => h11)

theorem spec_ReaderOk_is (r : Reader) : spec_ReaderOk.f r = some (readerB r) := by
  simp only [spec_ReaderOk.f, spec_l1In_is, Option.bind_some, readerB]
  cases inB r.1 1 31 <;> cases inB r.2.1 1 61 <;> simp

noncomputable def sentAt (w : World) (i : Nat) : Bool := placeOk (w.2.2.2.2.2.2.2.1.getD i zSn).1 && (!decide (((w.2.2.2.1.1.length : Nat) : Int) < epochOf (w.2.2.2.2.2.2.2.1.getD i zSn).1) && (!decide ((40 : Int) < (((w.2.2.2.2.2.2.2.1.getD i zSn).2.1.size : Nat) : Int)) && (decide (i = 0) || !decide ((w.2.2.2.2.2.2.2.1.getD i zSn).1 ≤ (w.2.2.2.2.2.2.2.1.getD (i - 1) zSn).1))))
noncomputable def sentW (w : World) : Bool := !decide ((120 : Int) < ((w.2.2.2.2.2.2.2.1.length : Nat) : Int)) && (List.range' 0 w.2.2.2.2.2.2.2.1.length).all (sentAt w)
theorem spec_l12Sent_ev (w : World) (g : WG w) : Ev (fun k => spec_l12Sent.f k w) (sentW w) := by
  have hsl := g.sl
  have h9 : Ev (fun k => spec_l12Sent.p9 k (0 : Int) w) ((List.range' 0 w.2.2.2.2.2.2.2.1.length).all (sentAt w)) :=
    (all_loop (n := w.2.2.2.2.2.2.2.1.length) (p := fun k i => spec_l12Sent.p9 k i w) (q := sentAt w) (zb := true) (fun i hi b hb => by
      have hx : InR (w.2.2.2.2.2.2.2.1.getD i zSn).1 := g.se _ (getD_mem hi)
      simp only [spec_l12Sent.p9, Int.toNat_natCast]
      rw [wrap_up hi (by omega)]
      unfold sentAt
      rw [Bool.and_assoc, Bool.and_assoc, Bool.and_assoc]
      refine Ev.pos (by omega) (Ev.pos (by omega) (Ev.bindc (spec_PlaceOk_is _ hx) (Ev.and fun _ => Ev.bindc (spec_EpochOf_is _ hx) (Ev.nand fun _ => Ev.nand fun _ => ?_))))
      by_cases h0 : i = 0
      · exact (Ev.neg (by omega) hb).eq (by simp [h0])
      · rw [wrap64_id (x := (i : Int) - 1) (by omega) (by omega), decide_eq_false h0, Bool.false_or, show (((i : Int) - 1).toNat) = i - 1 by omega]
        exact Ev.pos (by omega) (Ev.pos (by omega) (Ev.nand fun _ => hb))) (by
      simp only [spec_l12Sent.p9]
      exact Ev.neg (by omega) Ev.ret) w.2.2.2.2.2.2.2.1.length 0 (by omega)).eq (Bool.and_true _)
  simp only [spec_l12Sent.f]
  unfold sentW
  exact Ev.nand fun _ => h9

noncomputable def readersW (w : World) : Bool := decide (w.2.2.2.2.2.2.1.length = 2) && (readerB (w.2.2.2.2.2.2.1.getD 0 zRd) && readerB (w.2.2.2.2.2.2.1.getD 1 zRd))
noncomputable def worldB (w : World) : Bool := nodesW w && (epochsW w && (readersW w && sentW w))
theorem spec_WorldOk_ev (w : World) (g : WG w) : Ev (fun k => spec_WorldOk.f k w) (worldB w) := by
  simp only [spec_WorldOk.f, spec_ReaderOk_is, Option.bind_some]
  unfold worldB
  refine Ev.bind (spec_l12Nodes_ev w g) (Ev.and fun _ => Ev.bind (spec_l12Epochs_ev w g) (Ev.and fun _ => ?_))
  unfold readersW
  by_cases h2 : w.2.2.2.2.2.2.1.length = 2
  · rw [decide_eq_true h2, Bool.true_and, Bool.and_assoc]
    refine Ev.pos (by omega) (Ev.pos (by omega) (Ev.and fun _ => Ev.pos (by omega) (Ev.and fun _ => Ev.bind (spec_l12Sent_ev w g) Ev.ret)))
  · rw [decide_eq_false h2, Bool.false_and, Bool.false_and]
    exact Ev.neg (by omega) Ev.ret

theorem spec_l6Get_ev (l : List Entry) (x : Int) (hl : l.length ≤ 1048576) : Ev (fun k => spec_l6Get.f k l x) (getF l x) := by
  have h : ∀ (m i : Nat) (z : Entry), i + m = l.length → Ev (fun k => spec_l6Get.p5 k l x (i : Int) z) (getF (l.drop i) x) := by
    intro m
    induction m with
    | zero =>
      intro i z hi
      refine Ev.succ ?_
      simp only [spec_l6Get.p5]
      rw [List.drop_eq_nil_of_le (by omega)]
      exact Ev.neg (by omega) Ev.ret
    | succ m ih =>
      intro i z hi
      have hlt : i < l.length := by omega
      refine Ev.succ ?_
      simp only [spec_l6Get.p5, Int.toNat_natCast]
      rw [wrap_up hlt (by omega), drop_get (d := zEnt) hlt]
      refine Ev.pos (by omega) (Ev.pos (by omega) ?_)
      unfold getF
      by_cases hq : (l.getD i zEnt).1 = x
      · rw [if_pos hq]; exact Ev.pos hq (Ev.pos (by omega) Ev.ret)
      · rw [if_neg hq]; exact Ev.neg hq (ih (i + 1) z (by omega))
  exact h l.length 0 _ (by omega)

noncomputable def holdL (x : Int) : Nat → List Store → List Int
  | _, [] => []
  | i, s :: l => if (getF s.1 x).2 = true then (i : Int) :: holdL x (i + 1) l else holdL x (i + 1) l
theorem holdL_cons {x : Int} {i : Nat} {s : Store} {l : List Store} : holdL x i (s :: l) = if (getF s.1 x).2 = true then (i : Int) :: holdL x (i + 1) l else holdL x (i + 1) l := rfl
theorem holdL_len {x : Int} : ∀ {l : List Store} {i : Nat}, (holdL x i l).length ≤ l.length := by
  intro l
  induction l with
  | nil => intro i; exact Nat.le_refl _
  | cons s l ih =>
    intro i
    have := ih (i := i + 1)
    rw [holdL_cons]
    split
    · rw [List.length_cons, List.length_cons]; omega
    · rw [List.length_cons]; omega
noncomputable def holdF (w : World) (x : Int) : List Int := if worldB w = true then holdL x 0 w.2.1 else []
theorem spec_HoldersOf_ev (w : World) (x : Int) (g : WG w) : Ev (fun k => spec_HoldersOf.f k w x) (holdF w x) := by
  have hl := g.st.1
  have h : ∀ (m i : Nat) (o : List Int), i + m = w.2.1.length → o.length ≤ i → worldB w = true → Ev (fun k => spec_HoldersOf.p7 k x o (i : Int) w) (o ++ holdL x i (w.2.1.drop i)) := by
    intro m
    induction m with
    | zero =>
      intro i o hi ho hw
      refine Ev.succ ?_
      simp only [spec_HoldersOf.p7]
      rw [List.drop_eq_nil_of_le (by omega)]
      exact Ev.neg (by omega) (Ev.ret.eq (by simp [holdL]))
    | succ m ih =>
      intro i o hi ho hw
      have hlt : i < w.2.1.length := by omega
      refine Ev.succ ?_
      simp only [spec_HoldersOf.p7, Int.toNat_natCast]
      rw [wrap_up hlt (by omega), drop_get (d := zSto) hlt, holdL_cons]
      refine Ev.pos (by omega) (Ev.bind (spec_WorldOk_ev w g) (Ev.pos hw (Ev.pos (by omega) (Ev.bind (spec_l6Get_ev (w.2.1.getD i zSto).1 x (g.st.2 _ (getD_mem hlt)).1.1) ?_))))
      by_cases hq : (getF (w.2.1.getD i zSto).1 x).2 = true
      · rw [if_pos hq]
        exact Ev.pos hq (Ev.pos (by simp only [lim_eq, List.length_cons, List.length_nil]; omega) ((ih (i + 1) _ (by omega) (by simp; omega) hw).eq (by simp)))
      · rw [if_neg hq]
        exact Ev.neg hq (ih (i + 1) o (by omega) (by omega) hw)
  unfold holdF
  by_cases hw : worldB w = true
  · rw [if_pos hw]
    exact h w.2.1.length 0 [] (by omega) (by simp) hw
  · rw [if_neg hw]
    refine Ev.cg (g := fun k => spec_HoldersOf.p7 k x [] (0 : Int) w) (Ev.succ ?_) fun k => rfl
    simp only [spec_HoldersOf.p7]
    by_cases h0 : (0 : Int) < ((w.2.1.length : Nat) : Int)
    · exact Ev.pos h0 (Ev.bind (spec_WorldOk_ev w g) (Ev.neg hw Ev.ret))
    · exact Ev.neg h0 Ev.ret

theorem impl_within_is (x a b : Int) : impl_within.f x a b = some (inB x a b) := ite_inB x a b

theorem impl_ConfigOk_ev (a : Config) (hl : a.1.length ≤ 1048576) : Ev (fun k => impl_ConfigOk.f k a) (cfgB a) := by
  have h := all_loop (n := a.1.length) (p := fun k i => impl_ConfigOk.p5 k a.1 ((a.1.length : Nat) : Int) i a) (q := fun i => inB (a.1.getD i 0) 0 7) (zb := inB ((a.1.length : Nat) : Int) 1 8 && (inB a.2.1 1 4 && true)) (fun i hi b hb => by
    simp only [impl_ConfigOk.p5, impl_within_is]
    refine Ev.pos (by omega) (Ev.pos (by omega) (Ev.bindc rfl (Ev.and fun _ => ?_)))
    rw [wrap_up hi (by omega)]; exact hb) (by
    simp only [impl_ConfigOk.p5, impl_within_is]
    refine Ev.neg (by omega) (Ev.bindc rfl (Ev.and fun _ => Ev.bindc rfl (Ev.ret.eq (by simp))))) a.1.length 0 (by omega)
  refine (Ev.cg h fun k => rfl).eq ?_
  unfold cfgB
  cases inB ((a.1.length : Nat) : Int) 1 8 <;> cases inB a.2.1 1 4 <;> simp

theorem impl_ascends_ev (l : List Int) (hi : Int) (hl : l.length ≤ 1048576) : Ev (fun k => impl_ascends.f k l hi) (ascB l 0 hi) := by
  have h := all_loop (n := l.length) (p := fun k i => impl_ascends.p5 k l hi l ((l.length : Nat) : Int) i) (q := fun i => inB (l.getD i 0) 0 hi && (decide (i = 0) || !decide (l.getD i 0 ≤ l.getD (i - 1) 0))) (zb := true) (fun i hi' b hb => by
    simp only [impl_ascends.p5, impl_within_is]
    refine Ev.pos (by omega) (Ev.pos (by omega) (Ev.bindc rfl ?_))
    rw [Bool.and_assoc]
    refine Ev.and fun _ => ?_
    rw [wrap_up hi' (by omega)]
    by_cases h0 : i = 0
    · subst h0
      exact (Ev.neg (by omega) hb).eq (by simp)
    · have e : wrap64 ((i : Int) - 1) = ((i - 1 : Nat) : Int) := by rw [wrap64_id (by omega) (by omega)]; omega
      rw [e]
      refine Ev.pos (by omega) (Ev.pos (by omega) ?_)
      rw [decide_eq_false h0, Bool.false_or]
      exact Ev.nand fun _ => hb) (by
    simp only [impl_ascends.p5]
    exact Ev.neg (by omega) Ev.ret) l.length 0 (by omega)
  exact (Ev.cg h fun k => rfl).eq (by unfold ascB; rw [Bool.and_true])

theorem impl_NodesOk_ev (a : Config) (l : List Int) (ha : a.1.length ≤ 1048576) (hl : l.length ≤ 1048576) : Ev (fun k => impl_NodesOk.f k a l) (nodesB a l) := by
  simp only [impl_NodesOk.f, nodesB]
  refine Ev.bind (impl_ConfigOk_ev a ha) (Ev.and fun _ => ?_)
  rw [wrap64_id (by omega) (by omega)]
  exact Ev.bind (impl_ascends_ev l _ hl) Ev.ret

theorem impl_PlaceOk_is (x : Int) (hx : InR x) : impl_PlaceOk.f x = some (placeOk x) := by
  have h1 := hx.1; have h2 := hx.2
  simp only [impl_PlaceOk.f, placeOk, impl_isEpoch.f, impl_isOff.f, impl_within_is]
  by_cases h : 0 < x
  · rw [tdiv_pos (by omega), tmod_pos (by omega), wrap64_id (by omega) (by omega)]
    cases inB (x / 4294967296) 1 30 <;> simp [h]
  · rw [tdiv_neg' (by omega), wrap64_id (by omega) (by omega), show inB (-(-x / 4294967296)) 1 30 = false by
      rw [Bool.eq_false_iff]
      intro he
      rw [inB_true] at he
      omega]
    simp [h]

theorem impl_dataOk_is (s : ByteArray) : impl_dataOk.f s = some (!decide ((40 : Int) < ((s.size : Nat) : Int))) := by
  simp only [impl_dataOk.f]
  by_cases h : ((s.size : Nat) : Int) ≤ 40
  · rw [decide_eq_true h, decide_eq_false (by omega)]; rfl
  · rw [decide_eq_false h, decide_eq_true (by omega)]; rfl

theorem impl_EpochOf_is (x : Int) (hx : InR x) : impl_EpochOf.f x = some (epochOf x) := by
  have h2 := hx.2
  simp only [impl_EpochOf.f, impl_PlaceOk_is x hx, Option.bind_some, epochOf]
  by_cases h : placeOk x = true
  · have := placeOk_pos h
    rw [if_pos h, if_pos h, tdiv_pos (by omega), wrap64_id (by omega) (by omega)]
  · rw [if_neg h, if_neg h]

theorem impl_EntryOk_ev (e : Entry) (ha : InR e.1) : Ev (fun k => impl_EntryOk.f k e) (entB e) := by
  have h6 : ∀ p q : Bool, Ev (fun k => impl_EntryOk.p6 k p q e) (placeOk e.1 && (p && (q && decide (((e.2.2.2.1.size : Nat) : Int) ≤ 40)))) := fun p q => by
    refine Ev.succ ?_
    simp only [impl_EntryOk.p6, impl_PlaceOk_is _ ha, impl_dataOk.f, Option.bind_some]
    exact Ev.and fun _ => Ev.and fun _ => Ev.and fun _ => Ev.ret
  have h4 : ∀ p : Bool, Ev (fun k => impl_EntryOk.p4 k p e) (placeOk e.1 && (p && ((!e.2.2.1 || (decide (0 < e.2.1) && decide (e.2.2.2.1 = (⟨#[]⟩ : ByteArray)))) && decide (((e.2.2.2.1.size : Nat) : Int) ≤ 40)))) := fun p => by
    refine Ev.succ ?_
    simp only [impl_EntryOk.p4]
    cases hc : e.2.2.1 with
    | true =>
      refine Ev.pos rfl ?_
      by_cases h0 : (0 : Int) < e.2.1
      · exact (Ev.pos h0 (h6 p _)).eq (by rw [decide_eq_true h0]; simp)
      · exact (Ev.neg h0 (h6 p _)).eq (by rw [decide_eq_false h0]; simp)
    | false => exact (Ev.neg (by decide) (h6 p _)).eq (by simp)
  simp only [impl_EntryOk.f, impl_EpochOf_is _ ha, impl_within_is, Option.bind_some]
  have key : ∀ v : Bool, v = (inB e.2.1 0 30 && !(decide (0 < e.2.1) && decide (e.2.1 ≤ epochOf e.1))) → Ev (fun k => impl_EntryOk.p4 k v e) (entB e) := fun v hv => (h4 v).eq (by
    unfold entB
    rw [hv]
    cases placeOk e.1 <;> cases inB e.2.1 0 30 <;> cases decide ((0 : Int) < e.2.1) <;> cases decide (e.2.1 ≤ epochOf e.1) <;> cases e.2.2.1 <;> cases decide (((e.2.2.2.1.size : Nat) : Int) ≤ 40) <;> cases decide (e.2.2.2.1 = (⟨#[]⟩ : ByteArray)) <;> rfl)
  by_cases hi : inB e.2.1 0 30 = true
  · have hb := inB_true.1 hi
    refine Ev.pos hi ?_
    by_cases h0 : e.2.1 = 0
    · exact Ev.pos h0 (key true (by rw [hi, decide_eq_false (show ¬ (0 : Int) < e.2.1 by omega)]; rfl))
    · refine Ev.neg h0 (key _ ?_)
      rw [hi, decide_eq_true (show (0 : Int) < e.2.1 by omega)]
      by_cases h1 : epochOf e.1 < e.2.1
      · rw [decide_eq_true h1, decide_eq_false (by omega)]; rfl
      · rw [decide_eq_false h1, decide_eq_true (by omega)]; rfl
  · exact Ev.neg hi (key false (by rw [Bool.not_eq_true] at hi; rw [hi]; rfl))

theorem impl_entriesOk_ev (l : List Entry) (hl : l.length ≤ 1048576) (ha : ∀ i, i < l.length → InR (l.getD i zEnt).1) : Ev (fun k => impl_entriesOk.f k l) (entsB l) := by
  have h := all_loop (n := l.length) (p := fun k i => impl_entriesOk.p5 k l ((l.length : Nat) : Int) i) (q := fun i => entB (l.getD i zEnt)) (zb := true) (fun i hi b hb => by
    simp only [impl_entriesOk.p5, Int.toNat_natCast]
    rw [wrap_up hi (by omega)]
    exact Ev.pos (by omega) (Ev.pos (by omega) (Ev.bind (impl_EntryOk_ev _ (ha i hi)) (Ev.and fun _ => hb)))) (by
    simp only [impl_entriesOk.p5]
    exact Ev.neg (by omega) Ev.ret) l.length 0 (by omega)
  rw [Bool.and_true] at h
  exact h

theorem impl_placesAscend_ev (l : List Entry) (hl : l.length ≤ 1048576) : Ev (fun k => impl_placesAscend.f k l) (ascE l) := by
  have h := all_loop (n := l.length) (p := fun k i => impl_placesAscend.p5 k l l ((l.length : Nat) : Int) i) (q := fun i => !(decide (0 < i) && decide ((l.getD i zEnt).1 ≤ (l.getD (i - 1) zEnt).1))) (zb := true) (fun i hi b hb => by
    simp only [impl_placesAscend.p5, Int.toNat_natCast]
    rw [wrap_up hi (by omega)]
    refine Ev.pos (by omega) (Ev.pos (by omega) ?_)
    by_cases h0 : i = 0
    · subst h0
      exact (Ev.neg (by omega) hb).eq (by rfl)
    · have e2 : wrap64 ((i : Int) - 1) = ((i - 1 : Nat) : Int) := by rw [wrap64_id (by omega) (by omega)]; omega
      rw [e2, decide_eq_true (show 0 < i by omega), Bool.true_and, Int.toNat_natCast]
      exact Ev.pos (by omega) (Ev.pos (by omega) (Ev.nand fun _ => hb))) (by
    simp only [impl_placesAscend.p5]
    exact Ev.neg (by omega) Ev.ret) l.length 0 (by omega)
  rw [Bool.and_true] at h
  exact h

theorem impl_StoreOk_ev (s : Store) (h1 : s.1.length ≤ 1048576) (h2 : s.2.1.length ≤ 1048576) (a1 : ∀ i, i < s.1.length → InR (s.1.getD i zEnt).1) (a2 : ∀ i, i < s.2.1.length → InR (s.2.1.getD i zEnt).1) : Ev (fun k => impl_StoreOk.f k s) (storeB s) := by
  simp only [impl_StoreOk.f, impl_within_is, Option.bind_some, storeB]
  refine (Ev.nand fun _ => Ev.nand fun _ => Ev.bind (impl_entriesOk_ev s.1 h1 a1) (Ev.and fun _ => Ev.bind (impl_entriesOk_ev s.2.1 h2 a2) (Ev.and fun _ => Ev.bind (impl_placesAscend_ev s.1 h1) (Ev.and fun _ => Ev.ret)))).eq ?_
  rw [ndec, ndec]
  cases decide (((s.1.length : Nat) : Int) ≤ 200) <;> cases entsB s.1 <;> cases decide (((s.2.1.length : Nat) : Int) ≤ 20) <;> cases entsB s.2.1 <;> simp
theorem StG.ok' {l : List Store} (h : StG l) {i : Nat} (hi : i < l.length) : Ev (fun k => impl_StoreOk.f k (l.getD i zSto)) (storeB (l.getD i zSto)) := by
  have := h.2 _ (getD_mem (d := zSto) hi)
  exact impl_StoreOk_ev _ this.1.1 this.2.1.1 this.1.at this.2.1.at

theorem impl_copyInts_is (l : List Int) (h : l.length ≤ 1048576) : impl_copyInts.f l = some l := by
  simp only [impl_copyInts.f]
  rw [if_pos (by simp [lim_eq]; omega)]; rfl

theorem impl_both_is (l o : List Int) (hl : l.length ≤ 1048576) (ho : o.length ≤ 1048576) : impl_both.f l o = some (l.filter fun v => o.contains v) := by
  simp only [impl_both.f, impl_copyInts_is l hl, Option.bind_some, slices_DeleteFunc_int_int_impl_both_1.f]
  rw [if_pos ⟨by rw [lim_eq]; omega, by show o.length ≤ _; omega⟩]
  show some (l.filter _) = _
  congr 1
  refine List.filter_congr fun v _ => ?_
  show (!(!(o.any fun u => decide (v = u)))) = _
  rw [Bool.not_not, Bool.eq_iff_iff, List.contains_iff_mem, List.any_eq_true]
  exact ⟨fun ⟨u, h1, h2⟩ => by rw [decide_eq_true_eq] at h2; exact h2 ▸ h1, fun h => ⟨v, h, by simp⟩⟩

theorem impl_World_isLost_is (w : World) (i : Int) (h : w.2.2.1.length ≤ 1048576) : impl_World_isLost.f w i = some (w.2.2.1.contains i) := by
  simp only [impl_World_isLost.f, impl_both_is [i] w.2.2.1 (by simp) h, Option.bind_some]
  congr 1
  cases hc : w.2.2.1.contains i <;> simp only [List.filter_cons, hc] <;> simp

theorem slices_Index_l (l : List Int) (x : Int) (hl : l.length ≤ 1048576) : ∀ (m i : Nat), i + m = l.length → ∃ r : Int, Ev (fun k => slices_Index_int_int.p5 k l x ((l.length : Nat) : Int) (i : Int)) r ∧ (decide (0 ≤ r) = (l.drop i).contains x) := by
  intro m
  induction m with
  | zero =>
    intro i h
    refine ⟨-1, Ev.succ ?_, by rw [List.drop_eq_nil_of_le (by omega)]; rfl⟩
    simp only [slices_Index_int_int.p5]
    exact Ev.neg (by omega) Ev.ret
  | succ m ih =>
    intro i h
    have hi : i < l.length := by omega
    rw [drop_get (d := (0 : Int)) hi]
    by_cases hx : x = l.getD i 0
    · refine ⟨i, Ev.succ ?_, by simp [hx]⟩
      simp only [slices_Index_int_int.p5, Int.toNat_natCast]
      exact Ev.pos (by omega) (Ev.pos (by omega) (Ev.pos hx Ev.ret))
    · obtain ⟨r, h1, h2⟩ := ih (i + 1) (by omega)
      refine ⟨r, Ev.succ ?_, by rw [h2, List.contains_cons, beq_eq_false_iff_ne.2 hx, Bool.false_or]⟩
      simp only [slices_Index_int_int.p5, Int.toNat_natCast]
      refine Ev.pos (by omega) (Ev.pos (by omega) (Ev.neg hx ?_))
      rw [wrap_up hi (by omega)]; exact h1

theorem slices_Contains_ev (l : List Int) (x : Int) (hl : l.length ≤ 1048576) : Ev (fun k => slices_Contains_int_int.f k l x) (l.contains x) := by
  obtain ⟨r, h1, h2⟩ := slices_Index_l l x hl l.length 0 (by omega)
  simp only [slices_Contains_int_int.f, slices_Index_int_int.f]
  exact (Ev.bind h1 (Ev.ret (v := decide (0 ≤ r)))).eq (by rw [h2, List.drop_zero])

theorem impl_SpanOf_l (a : Config) (l : List Int) (hl : l.length ≤ 1048576) (hmem : ∀ i, i < l.length → 0 ≤ l.getD i 0 ∧ l.getD i 0 < ((a.1.length : Nat) : Int)) :
    ∀ (m i : Nat) (acc : List Int), i + m = l.length → acc.length ≤ i → Ev (fun k => impl_SpanOf.p11 k acc l ((l.length : Nat) : Int) (i : Int) a) ((domsOf a (l.drop i) acc).length : Int) := by
  intro m
  induction m with
  | zero =>
    intro i acc h ha
    refine Ev.succ ?_
    simp only [impl_SpanOf.p11]
    rw [List.drop_eq_nil_of_le (by omega)]
    exact Ev.neg (by omega) Ev.ret
  | succ m ih =>
    intro i acc h ha
    have hi : i < l.length := by omega
    have hn := hmem i hi
    refine Ev.succ ?_
    simp only [impl_SpanOf.p11, Int.toNat_natCast]
    rw [drop_get (d := (0 : Int)) hi]
    simp only [domsOf]
    generalize hw : a.1.getD (l.getD i 0).toNat 0 = x at *
    refine Ev.pos (by omega) (Ev.pos (by omega) (Ev.pos (by omega) (Ev.bind (slices_Contains_ev acc x (by omega)) ?_)))
    rw [wrap_up hi (by omega)]
    by_cases hc : acc.contains x = true
    · rw [if_pos hc]
      exact Ev.pos hc (ih (i + 1) acc (by omega) (by omega))
    · rw [if_neg hc]
      refine Ev.neg hc (Ev.pos (by omega) (Ev.pos (by simp [lim_eq]; omega) ?_))
      exact ih (i + 1) (acc ++ [x]) (by omega) (by simp; omega)
theorem impl_SpanOf_ev (a : Config) (l : List Int) (ha : a.1.length ≤ 1048576) (hl : l.length ≤ 1048576) : Ev (fun k => impl_SpanOf.f k a l) (if nodesB a l = true then spanOf a l else -1) := by
  simp only [impl_SpanOf.f]
  refine Ev.bind (impl_NodesOk_ev a l ha hl) (Ev.ite (fun h => ?_) fun _ => Ev.ret)
  simp only [nodesB, Bool.and_eq_true] at h
  have := impl_SpanOf_l a l hl (fun i hi => by have := ascB_mem h.2 hi; omega) l.length 0 [] (by omega) (by simp)
  rw [List.drop_zero] at this
  exact this

theorem impl_Holds_ev (a : Config) (l : List Int) (ha : a.1.length ≤ 1048576) (hl : l.length ≤ 1048576) : Ev (fun k => impl_Holds.f k a l) (holdsB a l) := by
  simp only [impl_Holds.f, holdsB]
  refine Ev.bind (impl_NodesOk_ev a l ha hl) (Ev.and fun h => Ev.bind (impl_SpanOf_ev a l ha hl) ?_)
  rw [if_pos h]; exact Ev.ret

theorem impl_World_storesOk_ev (w : World) (g : WG w) : Ev (fun k => impl_World_storesOk.f k w) (decide (w.2.1.length = w.1.1.length) && (nodesB w.1 w.2.2.1 && ((List.range' 0 w.2.1.length).all (storeAt w) && (w.2.2.2.2.2.2.2.2.1 || !holdsB w.1 w.2.2.1)))) := by
  have hl := g.st.1
  have h9 : Ev (fun k => impl_World_storesOk.p9 k w w.2.1 ((w.2.1.length : Nat) : Int) (0 : Int)) ((List.range' 0 w.2.1.length).all (storeAt w) && (w.2.2.2.2.2.2.2.2.1 || !holdsB w.1 w.2.2.1)) :=
    all_loop (n := w.2.1.length) (p := fun k i => impl_World_storesOk.p9 k w w.2.1 ((w.2.1.length : Nat) : Int) i) (q := storeAt w) (zb := (w.2.2.2.2.2.2.2.2.1 || !holdsB w.1 w.2.2.1)) (fun i hi b hb => by
      simp only [impl_World_storesOk.p9, Int.toNat_natCast, impl_World_isLost_is w _ g.lo, Option.bind_some]
      rw [wrap_up hi (by omega)]
      unfold storeAt
      rw [Bool.and_assoc]
      refine Ev.pos (by omega) (Ev.pos (by omega) (Ev.bind (g.st.ok' hi) (Ev.and fun hs => Ev.orb (fun _ => ?_) (fun _ => hb))))
      have hs := hs
      simp only [storeB, Bool.and_eq_true, decide_eq_true_eq, inB_true] at hs
      obtain ⟨a1, _, a3, _, _, a6, a7⟩ := hs
      change Ev (fun k => if (0 : Int) < wrap64 (wrap64 ((((w.2.1.getD i zSto).1.length : Nat) : Int) + (((w.2.1.getD i zSto).2.1.length : Nat) : Int)) + (w.2.1.getD i zSto).2.2.1) then some false else impl_World_storesOk.p9 k w w.2.1 ((w.2.1.length : Nat) : Int) ((i + 1 : Nat) : Int)) _
      rw [wrap64_id (x := (((w.2.1.getD i zSto).1.length : Nat) : Int) + (((w.2.1.getD i zSto).2.1.length : Nat) : Int)) (by omega) (by omega), wrap64_id (by omega) (by omega)]
      refine (Ev.nand fun _ => hb).eq ?_
      congr 1
      unfold zeroB
      by_cases z : (0 : Int) < (((w.2.1.getD i zSto).1.length : Nat) : Int) + (((w.2.1.getD i zSto).2.1.length : Nat) : Int) + (w.2.1.getD i zSto).2.2.1
      · rw [decide_eq_true z]
        by_cases z1 : (w.2.1.getD i zSto).1.length = 0
        · by_cases z2 : (w.2.1.getD i zSto).2.1.length = 0
          · rw [decide_eq_false (show ¬ (w.2.1.getD i zSto).2.2.1 = 0 by omega)]; simp
          · rw [decide_eq_false z2]; simp
        · rw [decide_eq_false z1]; simp
      · rw [decide_eq_false z, decide_eq_true (show (w.2.1.getD i zSto).1.length = 0 by omega), decide_eq_true (show (w.2.1.getD i zSto).2.1.length = 0 by omega), decide_eq_true (show (w.2.1.getD i zSto).2.2.1 = 0 by omega)]; rfl) (by
      simp only [impl_World_storesOk.p9]
      refine Ev.neg (by omega) ?_
      cases ht : w.2.2.2.2.2.2.2.2.1 with
      | true => exact Ev.pos rfl Ev.ret
      | false => exact Ev.neg (by decide) (Ev.bind (impl_Holds_ev w.1 w.2.2.1 g.c g.lo) (Ev.ret.eq (by cases holdsB w.1 w.2.2.1 <;> rfl)))) w.2.1.length 0 (by omega)
  simp only [impl_World_storesOk.f]
  by_cases he : w.2.1.length = w.1.1.length
  · rw [decide_eq_true he, Bool.true_and]
    exact Ev.pos (by omega) (Ev.bind (impl_NodesOk_ev w.1 w.2.2.1 g.c g.lo) (Ev.and fun _ => h9))
  · rw [decide_eq_false he, Bool.false_and]
    exact Ev.neg (by omega) Ev.ret

theorem impl_eraOk_ev (a : Config) (e : Era) (ha : a.1.length ≤ 1048576) (he : e.1.length ≤ 1048576) : Ev (fun k => impl_eraOk.f k a e) (eraB a e) := by
  simp only [impl_eraOk.f, impl_within_is, eraB]
  refine Ev.bind (impl_Holds_ev a e.1 ha he) (Ev.and fun _ => Ev.bindc rfl (Ev.and fun _ => ?_))
  by_cases hc : e.2.1 = true
  · exact (Ev.pos hc Ev.ret).eq (by rw [hc]; rfl)
  · refine (Ev.neg hc Ev.ret).eq ?_
    simp only [Bool.not_eq_true] at hc
    rw [hc, Bool.false_or]

theorem impl_RegOk_ev (a : Config) (r : Register) (ht : InR r.2.1) (ha : a.1.length ≤ 1048576) (hl : r.1.length ≤ 1048576) (he : ∀ i, i < r.1.length → (r.1.getD i zEra).1.length ≤ 1048576) : Ev (fun k => impl_RegOk.f k a r) (regB a r) := by
  have hend : ∀ q : Bool, Ev (fun k => impl_RegOk.p16 k q a r) (cfgB a && (decide (((r.1.length : Nat) : Int) ≤ 30) && q)) := fun q => by
    refine Ev.succ ?_
    simp only [impl_RegOk.p16]
    exact Ev.bind (impl_ConfigOk_ev a ha) (Ev.and fun _ => Ev.andc fun _ => Ev.ret)
  have h := all_loop (n := r.1.length) (p := fun k i => impl_RegOk.p5 k r.1 ((r.1.length : Nat) : Int) i a r) (q := eraAt a r.1) (zb := cfgB a && (decide (((r.1.length : Nat) : Int) ≤ 30) && trimB r.1.length r.2.1)) (fun i hi b hb => by
    simp only [impl_RegOk.p5, Int.toNat_natCast]
    have hz := he i hi
    have hw : wrap64 ((i : Int) + 1) = ((i + 1 : Nat) : Int) := wrap_up hi (by omega)
    unfold eraAt
    refine Ev.pos (by omega) (Ev.pos (by omega) (Ev.bind (impl_eraOk_ev a (r.1.getD i zEra) ha hz) ?_))
    rw [Bool.and_assoc]
    refine Ev.and fun _ => ?_
    simp only [hw]
    by_cases hc : (r.1.getD i zEra).2.1 = true
    · refine Ev.pos hc ?_
      have e1 : wrap64 (((r.1.length : Nat) : Int) - 1) = ((r.1.length - 1 : Nat) : Int) := by rw [wrap64_id (by omega) (by omega)]; omega
      rw [e1, hc, Bool.not_true, Bool.false_or, Bool.and_assoc]
      by_cases hq : i = r.1.length - 1
      · rw [decide_eq_true hq]
        exact Ev.pos (by omega) Ev.ret
      · rw [decide_eq_false hq]
        refine Ev.neg (by omega) ?_
        by_cases h0 : i = 0
        · subst h0
          exact (Ev.neg (by omega) hb).eq (by rfl)
        · have e2 : wrap64 ((i : Int) - 1) = ((i - 1 : Nat) : Int) := by rw [wrap64_id (by omega) (by omega)]; omega
          rw [e2, decide_eq_false h0]
          refine Ev.pos (by omega) (Ev.pos (by omega) ?_)
          exact (Ev.and fun _ => hb).eq (by rfl)
    · refine (Ev.neg hc hb).eq ?_
      simp only [Bool.not_eq_true] at hc
      rw [hc]; rfl) (by
    simp only [impl_RegOk.p5, impl_EpochOf_is _ ht, impl_within_is, Option.bind_some]
    refine Ev.neg (by omega) ?_
    unfold trimB
    by_cases h0 : r.2.1 = 0
    · exact (Ev.pos h0 (hend true)).eq (by rw [decide_eq_true h0]; rfl)
    · exact (Ev.neg h0 (hend _)).eq (by rw [decide_eq_false h0]; rfl)) r.1.length 0 (by omega)
  refine (Ev.cg h fun k => rfl).eq ?_
  unfold regB erasB
  cases cfgB a <;> cases decide (((r.1.length : Nat) : Int) ≤ 30) <;> cases trimB r.1.length r.2.1 <;> simp

theorem impl_WriterOk_l (a : Config) (w : Writer) (ha : a.1.length ≤ 1048576) (hl : w.2.1.length ≤ 4194304) (he : ∀ i, i < w.2.1.length → (w.2.1.getD i zWord).2.1.length ≤ 1048576) : ∀ (m i : Nat) (n : Int), i + m = w.2.1.length → 0 ≤ n → n ≤ i →
    Ev (fun k => impl_WriterOk.p7 k n w.2.1 ((w.2.1.length : Nat) : Int) (i : Int) a w) ((w.2.1.drop i).all (wordB a) && (cfgB a && (inB w.1 1 30 && (decide (((w.2.1.length : Nat) : Int) ≤ 60) && decide (n + undone (w.2.1.drop i) ≤ 6))))) := by
  intro m
  induction m with
  | zero =>
    intro i n h h0 h1
    refine Ev.succ ?_
    simp only [impl_WriterOk.p7, impl_isEpoch.f, impl_within_is, Option.bind_some]
    rw [List.drop_eq_nil_of_le (by omega)]
    refine Ev.neg (by omega) (Ev.eq (v := cfgB a && (inB w.1 1 30 && (decide (((w.2.1.length : Nat) : Int) ≤ 60) && decide (n ≤ 6)))) (Ev.bind (impl_ConfigOk_ev a ha) (Ev.and fun _ => Ev.and fun _ => Ev.andc fun _ => Ev.ret)) (by simp [undone]))
  | succ m ih =>
    intro i n h h0 h1
    have hi : i < w.2.1.length := by omega
    have hz := he i hi
    refine Ev.succ ?_
    simp only [impl_WriterOk.p7, Int.toNat_natCast, impl_dataOk_is]
    rw [drop_get (d := zWord) hi, List.all_cons]
    simp only [wordB]
    rw [wrap_up hi (by omega), Bool.and_assoc, Bool.and_assoc, Bool.and_assoc]
    refine Ev.pos (by omega) (Ev.pos (by omega) ?_)
    change Ev (fun k => (some (!decide ((40 : Int) < (((w.2.1.getD i zWord).1.size : Nat) : Int)))).bind fun r1 => if r1 = true then ((impl_NodesOk.f k a (w.2.1.getD i zWord).2.1).bind fun r2 => if r2 = true then ((impl_Holds.f k a (w.2.1.getD i zWord).2.1).bind fun r3 => if (w.2.1.getD i zWord).2.2.1 = r3 then ((impl_flagNum.f (!(decide ((w.2.1.getD i zWord).2.2.1 = true)))).bind fun r4 => impl_WriterOk.p7 k (wrap64 (n + r4)) w.2.1 ((w.2.1.length : Nat) : Int) ((i + 1 : Nat) : Int) a w) else some false) else some false) else some false) _
    refine Ev.bindc rfl (Ev.and fun _ => Ev.bind (impl_NodesOk_ev a _ ha hz) (Ev.and fun _ => Ev.bind (impl_Holds_ev a _ ha hz) ?_))
    have e : decide (holdsB a (w.2.1.getD i zWord).2.1 = (w.2.1.getD i zWord).2.2.1) = decide ((w.2.1.getD i zWord).2.2.1 = holdsB a (w.2.1.getD i zWord).2.1) := by
      rw [decide_eq_decide]; exact ⟨fun h => h.symm, fun h => h.symm⟩
    rw [e]
    refine Ev.andc fun _ => ?_
    by_cases hd : (w.2.1.getD i zWord).2.2.1 = true
    · have e2 : impl_flagNum.f (!(decide ((w.2.1.getD i zWord).2.2.1 = true))) = some 0 := by rw [hd]; rfl
      refine Ev.bindc e2 ?_
      rw [Int.add_zero, wrap64_id (x := n) (by omega) (by omega)]
      refine (ih (i + 1) n (by omega) h0 (by omega)).eq ?_
      rw [undone_t hd]
    · have e2 : impl_flagNum.f (!(decide ((w.2.1.getD i zWord).2.2.1 = true))) = some 1 := by
        simp only [Bool.not_eq_true] at hd
        rw [hd]; rfl
      refine Ev.bindc e2 ?_
      rw [wrap64_id (x := n + 1) (by omega) (by omega)]
      refine (ih (i + 1) (n + 1) (by omega) (by omega) (by omega)).eq ?_
      rw [undone_f hd, Int.add_assoc]
theorem impl_WriterOk_ev (a : Config) (w : Writer) (ha : a.1.length ≤ 1048576) (hl : w.2.1.length ≤ 4194304) (he : ∀ i, i < w.2.1.length → (w.2.1.getD i zWord).2.1.length ≤ 1048576) : Ev (fun k => impl_WriterOk.f k a w) (writerB a w) := by
  have := impl_WriterOk_l a w ha hl he w.2.1.length 0 0 (by omega) (by omega) (by omega)
  rw [List.drop_zero, Int.zero_add] at this
  refine (Ev.cg this fun k => rfl).eq ?_
  have e : decide (((w.2.1.length : Nat) : Int) ≤ 60) = !decide ((60 : Int) < ((w.2.1.length : Nat) : Int)) := by
    by_cases h : ((w.2.1.length : Nat) : Int) ≤ 60
    · rw [decide_eq_true h, decide_eq_false (by omega)]; rfl
    · rw [decide_eq_false h, decide_eq_true (by omega)]; rfl
  unfold writerB
  rw [e]
  cases w.2.1.all (wordB a) <;> cases cfgB a <;> cases inB w.1 1 30 <;> cases decide ((60 : Int) < ((w.2.1.length : Nat) : Int)) <;> rfl

theorem impl_World_writersOk_ev (w : World) (g : WG w) : Ev (fun k => impl_World_writersOk.f k w) ((List.range' 0 w.2.2.2.2.1.length).all (writerAt w) && decide (((w.2.2.2.2.1.length : Nat) : Int) ≤ 4)) := by
  have hwl := g.wl; have hrl := g.rl
  exact all_loop (n := w.2.2.2.2.1.length) (p := fun k i => impl_World_writersOk.p5 k w w.2.2.2.2.1 ((w.2.2.2.2.1.length : Nat) : Int) i) (q := writerAt w) (zb := decide (((w.2.2.2.2.1.length : Nat) : Int) ≤ 4)) (fun i hi b hb => by
      have hw := g.writer hi
      simp only [impl_World_writersOk.p5, Int.toNat_natCast, impl_World_isThere.f, impl_within_is, Option.bind_some]
      rw [wrap_up hi (by omega)]
      unfold writerAt
      rw [Bool.and_assoc, Bool.and_assoc]
      refine Ev.pos (by omega) (Ev.pos (by omega) (Ev.bind (impl_WriterOk_ev w.1 (w.2.2.2.2.1.getD i zWr) g.c hw.1 hw.2) (Ev.and fun hok => ?_)))
      have h1 : 1 ≤ (w.2.2.2.2.1.getD i zWr).1 := by
        simp only [writerB, Bool.and_eq_true, inB_true] at hok
        exact hok.2.1.1
      have e1 : (!decide (((w.2.2.2.1.1.length : Nat) : Int) < (w.2.2.2.2.1.getD i zWr).1)) = inB (w.2.2.2.2.1.getD i zWr).1 1 ((w.2.2.2.1.1.length : Nat) : Int) := by
        unfold inB
        rw [decide_eq_true h1, Bool.true_and]
        by_cases c : ((w.2.2.2.1.1.length : Nat) : Int) < (w.2.2.2.2.1.getD i zWr).1
        · rw [decide_eq_true c, decide_eq_false (by omega)]; rfl
        · rw [decide_eq_false c, decide_eq_true (by omega)]; rfl
      rw [e1]
      refine Ev.and fun _ => ?_
      by_cases h0 : i = 0
      · exact (Ev.neg (by omega) hb).eq (by simp [h0])
      · rw [wrap64_id (x := (i : Int) - 1) (by omega) (by omega), decide_eq_false h0, Bool.false_or, show (((i : Int) - 1).toNat) = i - 1 by omega]
        exact Ev.pos (by omega) (Ev.pos (by omega) (Ev.nand fun _ => hb))) (by
      simp only [impl_World_writersOk.p5]
      exact Ev.neg (by omega) Ev.ret) w.2.2.2.2.1.length 0 (by omega)

theorem impl_OffOf_is (x : Int) (hx : InR x) : impl_OffOf.f x = some (offOf x) := by
  simp only [impl_OffOf.f, impl_PlaceOk_is x hx, Option.bind_some, offOf]
  by_cases h : placeOk x = true
  · have := placeOk_pos h
    rw [if_pos h, if_pos h, tmod_pos (by omega)]
  · rw [if_neg h, if_neg h]

theorem impl_lastOff_is (m : Mend) (hl : m.2.2.2.1.length ≤ 1048576) (h : ∀ i, InR (m.2.2.2.1.getD i zEnt).1) : impl_lastOff.f m = some (lastB m) := by
  unfold impl_lastOff.f lastB
  by_cases h0 : m.2.2.2.1.length = 0
  · rw [if_pos (by omega), if_pos h0]
  · have e : wrap64 (((m.2.2.2.1.length : Nat) : Int) - 1) = ((m.2.2.2.1.length - 1 : Nat) : Int) := by rw [wrap64_id (by omega) (by omega)]; omega
    rw [if_neg (by omega), if_neg h0, e, if_pos (by omega), Int.toNat_natCast]
    exact (congrArg (fun x => x.bind fun r => some r) (impl_OffOf_is _ (h _))).trans rfl

theorem impl_seenOk_ev {n : Nat} (m : Mend) (hn : n ≤ 1048576) (g2 : EG n m.2.2.2.1) : Ev (fun k => impl_seenOk.f k m) (seenB m && ascE m.2.2.2.1) := by
  have l2 := g2.1
  exact all_loop (n := m.2.2.2.1.length) (p := fun k i => impl_seenOk.p5 k m.2.2.2.1 ((m.2.2.2.1.length : Nat) : Int) i m) (q := seenAt m) (fun i hi b hb => by
      simp only [impl_seenOk.p5, Int.toNat_natCast]
      rw [wrap_up hi (by omega)]
      unfold seenAt
      rw [Bool.and_assoc, Bool.and_assoc]
      exact Ev.pos (by omega) (Ev.pos (by omega) (Ev.bind (impl_EntryOk_ev _ (g2.get i)) (Ev.and fun _ => Ev.bind (Ev.of (impl_EpochOf_is _ (g2.get i))) (Ev.andc fun _ => Ev.nand fun _ => hb))))) (by
      simp only [impl_seenOk.p5]
      exact Ev.neg (by omega) (Ev.bind (impl_placesAscend_ev _ (by omega)) Ev.ret)) m.2.2.2.1.length 0 (by omega)

theorem impl_MendOk_ev {s n h w : Nat} (a : Config) (m : Mend) (ha : a.1.length ≤ 1048576) (hs : s ≤ 1048576) (hn : n ≤ 1048576) (hh : h ≤ 1048576) (hw : w ≤ 1048576) (g : MG s n h w m) : Ev (fun k => impl_MendOk.f k a m) (mendB a m) := by
  obtain ⟨g1, g2, g3, g4, g5⟩ := g
  have l2 := g2.1
  have h22 : ∀ (x : Int) (b : Bool), Ev (fun k => impl_MendOk.p22 k x b a m) (cfgB a && (b && (nodesB a m.2.2.1 && ((seenB m && ascE m.2.2.2.1) && decide (((m.2.2.2.2.2.1.length : Nat) : Int) = x))))) := fun x b => by
    refine Ev.succ ?_
    simp only [impl_MendOk.p22]
    exact Ev.bind (impl_ConfigOk_ev a ha) (Ev.and fun _ => Ev.and fun _ => Ev.bind (impl_NodesOk_ev a _ ha (by omega)) (Ev.and fun _ => Ev.bind (impl_seenOk_ev m hn g2) (Ev.and fun _ => Ev.ret)))
  have h20 : ∀ (x : Int), Ev (fun k => impl_MendOk.p20 k x a m) (cfgB a && ((inB m.2.1 1 30 && inB m.1 (m.2.1 + 1) 30) && (nodesB a m.2.2.1 && ((seenB m && ascE m.2.2.2.1) && decide (((m.2.2.2.2.2.1.length : Nat) : Int) = x))))) := fun x => by
    refine Ev.succ ?_
    simp only [impl_MendOk.p20, impl_isEpoch.f, impl_within_is, Option.bind_some]
    cases hi : inB m.2.1 1 30 with
    | true =>
      have h1 := inB_true.1 hi
      rw [wrap64_id (by omega) (by omega), Bool.true_and]
      exact Ev.pos rfl (h22 x _)
    | false => exact (Ev.neg (by decide) (h22 x false)).eq (by simp)
  have h5 : Ev (fun k => impl_MendOk.p5 k m.2.2.2.2.2.1 ((m.2.2.2.2.2.1.length : Nat) : Int) (0 : Int) a m) (holdB a m && (cfgB a && ((inB m.2.1 1 30 && inB m.1 (m.2.1 + 1) 30) && (nodesB a m.2.2.1 && ((seenB m && ascE m.2.2.2.1) && decide (((m.2.2.2.2.2.1.length : Nat) : Int) = if m.2.2.2.2.1 = true then lastB m else 0)))))) :=
    all_loop (n := m.2.2.2.2.2.1.length) (p := fun k i => impl_MendOk.p5 k m.2.2.2.2.2.1 ((m.2.2.2.2.2.1.length : Nat) : Int) i a m) (q := fun i => nodesB a (m.2.2.2.2.2.1.getD i [])) (fun i hi b hb => by
      simp only [impl_MendOk.p5, Int.toNat_natCast]
      rw [wrap_up hi (by omega)]
      exact Ev.pos (by omega) (Ev.pos (by omega) (Ev.bind (impl_NodesOk_ev a _ ha (by have := g3.2 _ (getD_mem (d := []) hi); omega)) (Ev.and fun _ => hb)))) (by
      simp only [impl_MendOk.p5, impl_lastOff_is m (by omega) g2.get, Option.bind_some]
      refine Ev.neg (by omega) ?_
      by_cases hp : m.2.2.2.2.1 = true
      · rw [if_pos hp]; exact Ev.pos hp (h20 _)
      · rw [if_neg hp]; exact Ev.neg hp (h20 _)) m.2.2.2.2.2.1.length 0 (by omega)
  refine (Ev.cg h5 fun k => rfl).eq ?_
  unfold mendB
  generalize decide (((m.2.2.2.2.2.1.length : Nat) : Int) = if m.2.2.2.2.1 = true then lastB m else 0) = d
  cases holdB a m <;> cases cfgB a <;> cases inB m.2.1 1 30 <;> cases inB m.1 (m.2.1 + 1) 30 <;> cases nodesB a m.2.2.1 <;> cases seenB m <;> cases ascE m.2.2.2.1 <;> cases d <;> rfl

theorem impl_FirstOpen_l (l : List Era) (hl : l.length ≤ 1048576) : ∀ (m i : Nat), i + m = l.length → Ev (fun k => impl_FirstOpen.p5 k l ((l.length : Nat) : Int) (i : Int)) (fO (l.drop i) i) := by
  intro m
  induction m with
  | zero =>
    intro i hi
    refine Ev.succ ?_
    simp only [impl_FirstOpen.p5]
    rw [List.drop_eq_nil_of_le (by omega)]
    exact Ev.neg (by omega) Ev.ret
  | succ m ih =>
    intro i hi
    refine Ev.succ ?_
    simp only [impl_FirstOpen.p5, Int.toNat_natCast]
    rw [drop_get (d := zEra) (i := i) (l := l) (by omega), wrap_up (i := i) (n := l.length) (by omega) (by omega)]
    exact Ev.pos (by omega) (Ev.pos (by omega) (Ev.ite (fun _ => ih (i + 1) (by omega)) (fun _ => Ev.ret)))
theorem impl_FirstOpen_ev (r : Register) (hl : r.1.length ≤ 1048576) : Ev (fun k => impl_FirstOpen.f k r) (fO r.1 0) := impl_FirstOpen_l r.1 hl r.1.length 0 (by omega)

theorem impl_World_mendsOk_ev (w : World) (g : WG w) : Ev (fun k => impl_World_mendsOk.f k w) ((List.range' 0 w.2.2.2.2.2.1.length).all (mendAt w) && decide (((w.2.2.2.2.2.1.length : Nat) : Int) ≤ 1)) := by
  have hml := g.ml
  exact all_loop (n := w.2.2.2.2.2.1.length) (p := fun k i => impl_World_mendsOk.p5 k w w.2.2.2.2.2.1 ((w.2.2.2.2.2.1.length : Nat) : Int) i) (q := mendAt w) (zb := decide (((w.2.2.2.2.2.1.length : Nat) : Int) ≤ 1)) (fun i hi b hb => by
      simp only [impl_World_mendsOk.p5, Int.toNat_natCast]
      rw [wrap_up hi (by omega)]
      unfold mendAt
      rw [Bool.and_assoc, Bool.and_assoc]
      exact Ev.pos (by omega) (Ev.pos (by omega) (Ev.bind (impl_MendOk_ev w.1 (w.2.2.2.2.2.1.getD i zMd) g.c (Nat.le_refl _) (Nat.le_refl _) (Nat.le_refl _) (Nat.le_refl _) (g.me _ (getD_mem hi))) (Ev.and fun _ => Ev.andc fun _ => Ev.bind (impl_FirstOpen_ev w.2.2.2.1 g.rl) (Ev.andc fun _ => hb))))) (by
      simp only [impl_World_mendsOk.p5]
      exact Ev.neg (by omega) Ev.ret) w.2.2.2.2.2.1.length 0 (by omega)

theorem impl_ReaderOk_is (r : Reader) : impl_ReaderOk.f r = some (readerB r) := by
  simp only [impl_ReaderOk.f, impl_within_is, Option.bind_some, readerB]
  cases inB r.1 1 31 <;> cases inB r.2.1 1 61 <;> simp

theorem impl_World_readersOk_ev (w : World) (g : WG w) : Ev (fun k => impl_World_readersOk.f k w) (readersW w) := by
  have hdl := g.dl
  refine (all_loop (n := w.2.2.2.2.2.2.1.length) (p := fun k i => impl_World_readersOk.p5 k w w.2.2.2.2.2.2.1 ((w.2.2.2.2.2.2.1.length : Nat) : Int) i) (q := fun i => readerB (w.2.2.2.2.2.2.1.getD i zRd)) (zb := decide (((w.2.2.2.2.2.2.1.length : Nat) : Int) = 2)) (fun i hi b hb => by
      simp only [impl_World_readersOk.p5, Int.toNat_natCast, impl_ReaderOk_is, Option.bind_some]
      rw [wrap_up hi (by omega)]
      exact Ev.pos (by omega) (Ev.pos (by omega) (Ev.and fun _ => hb))) (by
      simp only [impl_World_readersOk.p5]
      exact Ev.neg (by omega) Ev.ret) w.2.2.2.2.2.2.1.length 0 (by omega)).eq ?_
  unfold readersW
  by_cases h2 : w.2.2.2.2.2.2.1.length = 2
  · rw [decide_eq_true h2, Bool.true_and, h2, decide_eq_true (by rfl), Bool.and_true]
    show (readerB (w.2.2.2.2.2.2.1.getD 0 zRd) && (readerB (w.2.2.2.2.2.2.1.getD 1 zRd) && true)) = _
    rw [Bool.and_true]
  · rw [decide_eq_false h2, Bool.false_and, decide_eq_false (by omega), Bool.and_false]

theorem impl_World_sentOk_ev (w : World) (g : WG w) : Ev (fun k => impl_World_sentOk.f k w) ((List.range' 0 w.2.2.2.2.2.2.2.1.length).all (sentAt w) && decide (((w.2.2.2.2.2.2.2.1.length : Nat) : Int) ≤ 120)) := by
  have hsl := g.sl
  exact all_loop (n := w.2.2.2.2.2.2.2.1.length) (p := fun k i => impl_World_sentOk.p5 k w w.2.2.2.2.2.2.2.1 ((w.2.2.2.2.2.2.2.1.length : Nat) : Int) i) (q := sentAt w) (zb := decide (((w.2.2.2.2.2.2.2.1.length : Nat) : Int) ≤ 120)) (fun i hi b hb => by
      have hx : InR (w.2.2.2.2.2.2.2.1.getD i zSn).1 := g.se _ (getD_mem hi)
      simp only [impl_World_sentOk.p5, Int.toNat_natCast, impl_World_isThere.f, impl_within_is, Option.bind_some, impl_dataOk_is]
      rw [wrap_up hi (by omega)]
      unfold sentAt
      refine Ev.pos (by omega) (Ev.pos (by omega) (Ev.bindc (impl_EpochOf_is _ hx) ?_))
      have e1 : (placeOk (w.2.2.2.2.2.2.2.1.getD i zSn).1 && !decide (((w.2.2.2.1.1.length : Nat) : Int) < epochOf (w.2.2.2.2.2.2.2.1.getD i zSn).1)) = inB (epochOf (w.2.2.2.2.2.2.2.1.getD i zSn).1) 1 ((w.2.2.2.1.1.length : Nat) : Int) := by
        unfold inB
        by_cases hp : placeOk (w.2.2.2.2.2.2.2.1.getD i zSn).1 = true
        · have := epochOf_pos hp
          rw [hp, Bool.true_and, decide_eq_true (by omega : 1 ≤ epochOf (w.2.2.2.2.2.2.2.1.getD i zSn).1), Bool.true_and]
          by_cases c : ((w.2.2.2.1.1.length : Nat) : Int) < epochOf (w.2.2.2.2.2.2.2.1.getD i zSn).1
          · rw [decide_eq_true c, decide_eq_false (by omega)]; rfl
          · rw [decide_eq_false c, decide_eq_true (by omega)]; rfl
        · have h0 : epochOf (w.2.2.2.2.2.2.2.1.getD i zSn).1 = 0 := by unfold epochOf; rw [if_neg hp]
          rw [Bool.not_eq_true] at hp
          rw [hp, Bool.false_and, h0, decide_eq_false (by omega), Bool.false_and]
      rw [← Bool.and_assoc (placeOk _), e1, Bool.and_assoc, Bool.and_assoc]
      refine Ev.and fun _ => Ev.and fun _ => ?_
      by_cases h0 : i = 0
      · exact (Ev.neg (by omega) hb).eq (by simp [h0])
      · rw [wrap64_id (x := (i : Int) - 1) (by omega) (by omega), decide_eq_false h0, Bool.false_or, show (((i : Int) - 1).toNat) = i - 1 by omega]
        exact Ev.pos (by omega) (Ev.pos (by omega) (Ev.nand fun _ => hb))) (by
      simp only [impl_World_sentOk.p5]
      exact Ev.neg (by omega) Ev.ret) w.2.2.2.2.2.2.2.1.length 0 (by omega)

theorem impl_WorldOk_ev (w : World) (g : WG w) : Ev (fun k => impl_WorldOk.f k w) (worldB w) := by
  have h4 : ∀ b : Bool, Ev (fun k => impl_WorldOk.p4 k b w) (b && (((List.range' 0 w.2.2.2.2.1.length).all (writerAt w) && decide (((w.2.2.2.2.1.length : Nat) : Int) ≤ 4)) && (((List.range' 0 w.2.2.2.2.2.1.length).all (mendAt w) && decide (((w.2.2.2.2.2.1.length : Nat) : Int) ≤ 1)) && (readersW w && ((List.range' 0 w.2.2.2.2.2.2.2.1.length).all (sentAt w) && decide (((w.2.2.2.2.2.2.2.1.length : Nat) : Int) ≤ 120)))))) := fun b => by
    refine Ev.succ ?_
    simp only [impl_WorldOk.p4]
    exact Ev.and fun _ => Ev.bind (impl_World_writersOk_ev w g) (Ev.and fun _ => Ev.bind (impl_World_mendsOk_ev w g) (Ev.and fun _ => Ev.bind (impl_World_readersOk_ev w g) (Ev.and fun _ => Ev.bind (impl_World_sentOk_ev w g) Ev.ret)))
  simp only [impl_WorldOk.f]
  refine (Ev.bind (impl_ConfigOk_ev w.1 g.c) (b := cfgB w.1 && ((decide (w.2.1.length = w.1.1.length) && (nodesB w.1 w.2.2.1 && ((List.range' 0 w.2.1.length).all (storeAt w) && (w.2.2.2.2.2.2.2.2.1 || !holdsB w.1 w.2.2.1)))) && (regB w.1 w.2.2.2.1 && (((List.range' 0 w.2.2.2.2.1.length).all (writerAt w) && decide (((w.2.2.2.2.1.length : Nat) : Int) ≤ 4)) && (((List.range' 0 w.2.2.2.2.2.1.length).all (mendAt w) && decide (((w.2.2.2.2.2.1.length : Nat) : Int) ≤ 1)) && (readersW w && ((List.range' 0 w.2.2.2.2.2.2.2.1.length).all (sentAt w) && decide (((w.2.2.2.2.2.2.2.1.length : Nat) : Int) ≤ 120)))))))) ?_).eq ?_
  · by_cases hc : cfgB w.1 = true
    · rw [hc, Bool.true_and]
      refine Ev.pos rfl (Ev.bind (impl_World_storesOk_ev w g) ?_)
      generalize (decide (w.2.1.length = w.1.1.length) && (nodesB w.1 w.2.2.1 && ((List.range' 0 w.2.1.length).all (storeAt w) && (w.2.2.2.2.2.2.2.2.1 || !holdsB w.1 w.2.2.1)))) = s
      cases s with
      | true => exact Ev.pos rfl (Ev.bind (impl_RegOk_ev w.1 w.2.2.2.1 g.rt g.c g.rl g.era) (h4 _))
      | false => exact Ev.neg (by decide) (h4 false)
    · rw [Bool.not_eq_true] at hc
      rw [hc, Bool.false_and]
      exact (Ev.neg (by decide) (h4 false)).eq rfl
  · unfold worldB nodesW epochsW sentW
    rw [ndec, ndec, ndec]
    generalize cfgB w.1 = x1
    generalize decide (w.2.1.length = w.1.1.length) = x2
    generalize nodesB w.1 w.2.2.1 = x3
    generalize (List.range' 0 w.2.1.length).all (storeAt w) = x4
    generalize holdsB w.1 w.2.2.1 = x5
    generalize w.2.2.2.2.2.2.2.2.1 = x6
    generalize regB w.1 w.2.2.2.1 = x7
    generalize (List.range' 0 w.2.2.2.2.1.length).all (writerAt w) = x8
    generalize decide (((w.2.2.2.2.1.length : Nat) : Int) ≤ 4) = x9
    generalize (List.range' 0 w.2.2.2.2.2.1.length).all (mendAt w) = x10
    generalize decide (((w.2.2.2.2.2.1.length : Nat) : Int) ≤ 1) = x11
    generalize readersW w = x12
    generalize (List.range' 0 w.2.2.2.2.2.2.2.1.length).all (sentAt w) = x13
    generalize decide (((w.2.2.2.2.2.2.2.1.length : Nat) : Int) ≤ 120) = x14
    cases x1 <;> cases x2 <;> cases x3 <;> simp only [Bool.true_and, Bool.false_and]
    cases x4 <;> cases x5 <;> cases x6 <;> simp only [Bool.true_and, Bool.false_and, Bool.and_false, Bool.not_true, Bool.not_false, Bool.or_true, Bool.or_false, Bool.true_or, Bool.false_or]
    all_goals (cases x7 <;> cases x8 <;> cases x9 <;> cases x10 <;> cases x11 <;> simp only [Bool.true_and, Bool.false_and, Bool.and_false, Bool.and_true])
    all_goals (cases x12 <;> cases x13 <;> cases x14 <;> rfl)

theorem slices_BinarySearchFunc_ev (l : List Entry) (x : Int) (hl : l.length ≤ 1048576) (ha : AscE l) : ∃ i : Nat, i ≤ l.length ∧ (∀ q, q < i → (l.getD q ((0 : Int), ((0 : Int), (false, ((⟨#[]⟩ : ByteArray), ()))))).1 < x) ∧ (∀ q, i ≤ q → q < l.length → x ≤ (l.getD q ((0 : Int), ((0 : Int), (false, ((⟨#[]⟩ : ByteArray), ()))))).1) ∧
    Ev (fun k => slices_BinarySearchFunc_impl_Entry_impl_Entry_int_impl_placeIn_1.f k l x ()) ((i : Int), decide (i < l.length ∧ (l.getD i ((0 : Int), ((0 : Int), (false, ((⟨#[]⟩ : ByteArray), ()))))).1 = x)) := by
  let g : Nat → Int := fun q => (l.getD q ((0 : Int), ((0 : Int), (false, ((⟨#[]⟩ : ByteArray), ()))))).1
  have hex : ∃ i : Nat, i ≤ l.length ∧ (∀ q, q < i → g q < x) ∧ (∀ q, i ≤ q → q < l.length → x ≤ g q) := by
    have : ∀ d : Nat, d ≤ l.length → (∀ q, d ≤ q → q < l.length → x ≤ g q) → ∃ i : Nat, i ≤ l.length ∧ (∀ q, q < i → g q < x) ∧ (∀ q, i ≤ q → q < l.length → x ≤ g q) := by
      intro d
      induction d with
      | zero => intro _ h; exact ⟨0, by omega, fun q hq => absurd hq (Nat.not_lt_zero _), h⟩
      | succ d ih =>
        intro hd h
        by_cases hx : x ≤ g d
        · exact ih (by omega) fun q hq hql => by
            by_cases e : q = d
            · subst e; exact hx
            · exact h q (by omega) hql
        · exact ⟨d + 1, hd, fun q hq => by
            by_cases e : q = d
            · subst e; omega
            · have : g q < g d := ha q d (by omega) (by omega)
              omega, h⟩
    exact this l.length (Nat.le_refl _) fun q h1 h2 => absurd h2 (by omega)
  obtain ⟨i0, h1, h2, h3⟩ := hex
  refine ⟨i0, h1, h2, h3, ?_⟩
  have cmp : ∀ q, ∃ r : Int, impl_placeIn_1.f (l.getD q ((0 : Int), ((0 : Int), (false, ((⟨#[]⟩ : ByteArray), ()))))) x = some r ∧ decide (r < 0) = decide (g q < x) ∧ decide (r = 0) = decide (g q = x) := fun q => by
    simp only [impl_placeIn_1.f]
    by_cases c1 : g q < x
    · exact ⟨-1, by rw [if_pos c1], by simp [c1], by have : ¬ g q = x := (by omega); simp [this]⟩
    · rw [if_neg c1]
      by_cases c2 : x < g q
      · exact ⟨1, by rw [if_pos c2], by simp [c1], by have : ¬ g q = x := (by omega); simp [this]⟩
      · exact ⟨0, by rw [if_neg c2], by simp [c1], by have : g q = x := (by omega); simp [this]⟩
  refine Ev.cg (bs_loop (n := l.length) (p := fun k i j => slices_BinarySearchFunc_impl_Entry_impl_Entry_int_impl_placeIn_1.p7 k l x () ((l.length : Nat) : Int) i j) (lt := fun q => decide (g q < x)) (fun q r hqr hr h => ?_) (fun i j hij hj b ht hf => ?_) (fun i hi ht hf => ?_) l.length 0 l.length (by omega) (by omega) (Nat.le_refl _) (fun q hq => absurd hq (Nat.not_lt_zero _)) (fun q h1 h2 => absurd h2 (by omega))) fun k => rfl
  · simp only [decide_eq_true_eq] at h ⊢
    by_cases e : q = r
    · subst e; exact h
    · have : g q < g r := ha q r (by omega) hr
      omega
  · simp only [slices_BinarySearchFunc_impl_Entry_impl_Entry_int_impl_placeIn_1.p7, mid_is hij hj (by omega : l.length ≤ _), Int.toNat_natCast]
    rw [wrap_up (i := (i + j) / 2) (n := l.length) (by omega) (by omega)]
    obtain ⟨r, k1, k2, _⟩ := cmp ((i + j) / 2)
    refine Ev.pos (by omega) (Ev.pos (by omega) (Ev.bindc k1 ?_))
    by_cases hc : g ((i + j) / 2) < x
    · have hr : r < 0 := by rw [decide_eq_true hc] at k2; simpa using k2
      exact Ev.pos hr (ht (by simpa using hc))
    · have hr : ¬ r < 0 := by rw [decide_eq_false hc] at k2; simpa using k2
      exact Ev.neg hr (hf (by simpa using hc))
  · have e : i = i0 := by
      simp only [decide_eq_true_eq, decide_eq_false_iff_not] at ht hf
      rcases Nat.lt_trichotomy i i0 with h | h | h
      · exact absurd (h2 i h) (hf i (Nat.le_refl _) (by omega))
      · exact h
      · have := ht i0 h; have := h3 i0 (Nat.le_refl _) (by omega); omega
    subst e
    simp only [slices_BinarySearchFunc_impl_Entry_impl_Entry_int_impl_placeIn_1.p7, Int.toNat_natCast]
    refine Ev.neg (by omega) ?_
    by_cases hl2 : i < l.length
    · obtain ⟨r, k1, _, k3⟩ := cmp i
      exact Ev.pos (by omega) (Ev.pos (by omega) (Ev.bindc k1 (Ev.ret.eq (by rw [k3, show decide (g i = x) = decide (i < l.length ∧ g i = x) by by_cases q : g i = x <;> simp [hl2, q]]))))
    · exact Ev.neg (by omega) (Ev.ret.eq (by rw [decide_eq_false (fun h => hl2 h.1)]))

theorem impl_placeIn_ev (l : List Entry) (x : Int) (hl : l.length ≤ 1048576) (ha : AscE l) : ∃ i : Nat, i ≤ l.length ∧ (∀ q, q < i → (l.getD q ((0 : Int), ((0 : Int), (false, ((⟨#[]⟩ : ByteArray), ()))))).1 < x) ∧ (∀ q, i ≤ q → q < l.length → x ≤ (l.getD q ((0 : Int), ((0 : Int), (false, ((⟨#[]⟩ : ByteArray), ()))))).1) ∧
    Ev (fun k => impl_placeIn.f k l x) ((i : Int), decide (i < l.length ∧ (l.getD i ((0 : Int), ((0 : Int), (false, ((⟨#[]⟩ : ByteArray), ()))))).1 = x)) := by
  obtain ⟨i, h1, h2, h3, h4⟩ := slices_BinarySearchFunc_ev l x hl ha
  exact ⟨i, h1, h2, h3, Ev.bind h4 Ev.ret⟩

theorem impl_StoreGet_ev (s : Store) (x : Int) (h1 : s.1.length ≤ 1048576) (h2 : s.2.1.length ≤ 1048576) (a1 : ∀ i, i < s.1.length → InR (s.1.getD i zEnt).1) (a2 : ∀ i, i < s.2.1.length → InR (s.2.1.getD i zEnt).1) : Ev (fun k => impl_StoreGet.f k s x) (if storeB s = true then getF s.1 x else (zEnt, false)) := by
  simp only [impl_StoreGet.f]
  refine Ev.bind (impl_StoreOk_ev s h1 h2 a1 a2) (Ev.ite (fun hs => ?_) (fun _ => Ev.ret))
  have hA : AscE s.1 := by
    simp only [storeB, Bool.and_eq_true] at hs
    exact ascE_Asc hs.2.2.2.2.1
  obtain ⟨i, k1, k2, k3, k4⟩ := impl_placeIn_ev s.1 x h1 hA
  refine Ev.bind k4 ?_
  simp only [Int.toNat_natCast]
  by_cases hc : i < s.1.length ∧ (s.1.getD i zEnt).1 = x
  · refine Ev.pos (decide_eq_true hc) (Ev.pos (by omega) (Ev.ret.eq ?_))
    rw [getF_some hc.1 (fun q hq h => by have := k2 q hq; unfold zEnt at h; omega) hc.2]; rfl
  · refine Ev.neg (by rw [decide_eq_true_eq]; exact hc) (Ev.ret.eq ?_)
    rw [getF_none fun y hy h => ?_]
    obtain ⟨q, hq, e⟩ := List.getElem_of_mem hy
    have e' : s.1.getD q zEnt = y := (getD_is hq).trans e
    unfold zEnt at e'
    rcases Nat.lt_trichotomy q i with c | c | c
    · have := k2 q c; rw [e'] at this; omega
    · subst c; exact hc ⟨hq, by unfold zEnt; rw [e']; exact h⟩
    · have h5 := hA i q c hq; have h6 := k3 i (Nat.le_refl _) (by omega); rw [e'] at h5; omega

theorem impl_HoldersOf_ev (w : World) (x : Int) (g : WG w) : Ev (fun k => impl_HoldersOf.f k w x) (holdF w x) := by
  have hl := g.st.1
  have h : worldB w = true → ∀ (m i : Nat) (o : List Int), i + m = w.2.1.length → o.length ≤ i → Ev (fun k => impl_HoldersOf.p11 k x o w.2.1 ((w.2.1.length : Nat) : Int) (i : Int)) (o ++ holdL x i (w.2.1.drop i)) := by
    intro hw m
    induction m with
    | zero =>
      intro i o hi ho
      refine Ev.succ ?_
      simp only [impl_HoldersOf.p11]
      rw [List.drop_eq_nil_of_le (by omega)]
      exact Ev.neg (by omega) (Ev.ret.eq (by simp [holdL]))
    | succ m ih =>
      intro i o hi ho
      have hlt : i < w.2.1.length := by omega
      have hs : storeB (w.2.1.getD i zSto) = true := by
        simp only [worldB, nodesW, Bool.and_eq_true, List.all_eq_true, List.mem_range'_1] at hw
        have := hw.1.2.2.2.2 i (by omega)
        unfold storeAt at this
        rw [Bool.and_eq_true] at this
        exact this.1
      have hg := g.st.2 _ (getD_mem (d := zSto) hlt)
      have hget := impl_StoreGet_ev (w.2.1.getD i zSto) x hg.1.1 hg.2.1.1 hg.1.at hg.2.1.at
      rw [if_pos hs] at hget
      refine Ev.succ ?_
      simp only [impl_HoldersOf.p11, Int.toNat_natCast]
      rw [wrap_up hlt (by omega), drop_get (d := zSto) hlt, holdL_cons]
      refine Ev.pos (by omega) (Ev.pos (by omega) (Ev.bind hget ?_))
      by_cases hq : (getF (w.2.1.getD i zSto).1 x).2 = true
      · rw [if_pos hq]
        exact Ev.pos hq (Ev.pos (by simp only [lim_eq, List.length_cons, List.length_nil]; omega) ((ih (i + 1) _ (by omega) (by simp; omega)).eq (by simp)))
      · rw [if_neg hq]
        exact Ev.neg hq (ih (i + 1) o (by omega) (by omega))
  simp only [impl_HoldersOf.f]
  unfold holdF
  exact Ev.bind (impl_WorldOk_ev w g) (Ev.ite (fun hw => h hw w.2.1.length 0 [] (by omega) (by simp)) (fun _ => Ev.ret))


theorem both (a0 : World) (a1 : Int) (h0 : Gd tWorld a0) (h1 : Gd (.int .i64) a1) (c0 : cnt tWorld a0 ≤ 1048576) (cs : cnt tWorld a0 ≤ 1048576) : ∃ q, Ev (fun k => spec_HoldersOf.f k a0 a1) q ∧ Ev (fun k => impl_HoldersOf.f k a0 a1) q ∧ cnt (.sl (.int .i64)) q ≤ 4194304 := by
  have g := world_small h0 c0
  refine ⟨holdF a0 a1, spec_HoldersOf_ev a0 a1 g, impl_HoldersOf_ev a0 a1 g, ?_⟩
  rw [cnt_ints]
  have h2 := holdL_len (x := a1) (l := a0.2.1) (i := 0)
  have h3 := g.st.1
  unfold holdF
  split
  · omega
  · exact Nat.zero_le _

set_option maxHeartbeats 4000000 in
theorem pureL (a0 : World) (a1 : Int) (h0 : Gd tWorld a0) (h1 : Gd (.int .i64) a1) : ∃ k, laws_FnExactHoldersOf.f k a0 a1 = some true := by
  refine Ev.get (v := true) ?_
  simp only [laws_FnExactHoldersOf.f]
  obtain ⟨v1, s1a, s1b, s1c⟩ := sz_World a0 (1048576 : Int) h0 (by omega) (by omega)
  refine Ev.bind s1a ?_
  by_cases hv1 : v1 < 0
  · exact Ev.pos hv1 Ev.ret
  refine Ev.neg hv1 ?_
  have c0 : cnt tWorld a0 ≤ 1048576 := by have := s1c (by omega); omega
  have cs : cnt tWorld a0 ≤ 1048576 := by have := s1c (by omega); omega
  have t0 := to_World a0 c0
  obtain ⟨q, e1, e2, e3_0⟩ := both a0 a1 h0 h1 c0 cs
  have qa0 := eq_World a0 (by omega)
  have qr0 := eq_IntS q (by omega)
  have wa0 := W_World_le a0
  have wr0 := W_IntS_le q
  obtain ⟨n1, x1, m1a, m1b, m1c⟩ := mk_World a0 1 (by omega) (by omega)
  obtain ⟨n2, x2, m2a, m2b, m2c, m2d⟩ := mk_IntS q 1 (by omega) (by omega)
  repeat first | exact Ev.ret | refine Ev.bind (by assumption) ?_ | refine Ev.bindc (by assumption) ?_ | refine Ev.pos (by first | trivial | omega) ?_ | refine Ev.neg (by omega) ?_

end Go.Proofs.YthgnikafeamidacGreat.OmFnExactHoldersOf
