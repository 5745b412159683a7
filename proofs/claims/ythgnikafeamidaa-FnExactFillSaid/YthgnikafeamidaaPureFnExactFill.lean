/- The plain law: a node that lost all is filled in the same way by the program and by the reference, and what it is filled with is the caller's own. Conditions: what is known of a value that came in. -/
import Derived.Test.YthgnikafeamidaaFamFnExactFill
set_option linter.unusedVariables false
set_option linter.unusedSimpArgs false
set_option linter.unusedSectionVars false
namespace Go.Proofs.Ythgnikafeamidaa.OmFnExactFill
open Go Go.OM
/-- x lies between a and b. -/
def inB (x a b : Int) : Bool := decide (a ≤ x) && decide (x ≤ b)
theorem inB_true {x a b : Int} : inB x a b = true ↔ a ≤ x ∧ x ≤ b := by simp [inB]
theorem ite_inB (x a b : Int) : (if a ≤ x then some (decide (x ≤ b)) else some false) = some (inB x a b) := by
  unfold inB
  by_cases h : a ≤ x <;> simp [h]
def InR (x : Int) : Prop := -9223372036854775808 ≤ x ∧ x ≤ 9223372036854775807
theorem InR_of {x : Int} (h : Gd (.int .i64) x) : InR x := by
  have h : (Lit.int .i64 x).wf = true := h
  simp [Lit.wf, IntKind.min, IntKind.max, IntKind.signed, IntKind.bits] at h
  exact ⟨by omega, by omega⟩
theorem Ev.and {q b : Bool} {A : Nat → Option Bool} (h : q = true → Ev A b) : Ev (fun k => if q = true then A k else some false) (q && b) := by
  cases q with
  | false => exact Ev.neg (by decide) Ev.ret
  | true => exact Ev.pos rfl (h rfl)
theorem Ev.andc {c : Prop} [Decidable c] {b : Bool} {A : Nat → Option Bool} (h : c → Ev A b) : Ev (fun k => if c then A k else some false) (decide c && b) := by
  by_cases hc : c
  · rw [decide_eq_true hc]; exact Ev.pos hc (h hc)
  · rw [decide_eq_false hc]; exact Ev.neg hc Ev.ret
theorem Ev.nand {c : Prop} [Decidable c] {b : Bool} {A : Nat → Option Bool} (h : ¬ c → Ev A b) : Ev (fun k => if c then some false else A k) (!decide c && b) := by
  by_cases hc : c
  · rw [decide_eq_true hc]; exact Ev.pos hc Ev.ret
  · rw [decide_eq_false hc]; exact Ev.neg hc (h hc)
theorem Ev.ite {c : Prop} [Decidable c] {α : Type} {A B : Nat → Option α} {v u : α} (h1 : c → Ev A v) (h2 : ¬ c → Ev B u) : Ev (fun k => if c then A k else B k) (if c then v else u) := by
  by_cases hc : c
  · rw [if_pos hc]; exact Ev.pos hc (h1 hc)
  · rw [if_neg hc]; exact Ev.neg hc (h2 hc)
theorem all_loop {n : Nat} {p : Nat → Int → Option Bool} {q : Nat → Bool} {zb : Bool} (hp : ∀ (i : Nat), i < n → ∀ b, Ev (fun k => p k (((i + 1 : Nat)) : Int)) b → Ev (fun k => p (k + 1) (i : Int)) (q i && b)) (h0 : Ev (fun k => p (k + 1) (n : Int)) zb) :
    ∀ (m i : Nat), i + m = n → Ev (fun k => p k (i : Int)) ((List.range' i m).all q && zb) := by
  intro m
  induction m with
  | zero => intro i h; rw [show i = n by omega]; exact Ev.succ h0
  | succ m ih =>
    intro i h
    refine (Ev.succ (hp i (by omega) _ (ih (i + 1) (by omega)))).eq ?_
    rw [List.range'_succ, List.all_cons, Bool.and_assoc]
theorem wrap_up {i n : Nat} (h : i < n) (hn : n ≤ 4611686018427387904) : wrap64 ((i : Int) + (1 : Int)) = ((i + 1 : Nat) : Int) := wrap64_id (by omega) (by omega)
theorem cnt_ints (l : List Int) : cnt (.sl (.int .i64)) l = l.length := by
  show l.length + (l.map fun _ => 0).sum = l.length
  have : (l.map fun _ => 0).sum = 0 := by induction l with
    | nil => rfl
    | cons x l ih => simpa using ih
  omega
/-- It comes to something with P. -/
def Evp {α : Type} (f : Nat → Option α) (P : α → Prop) : Prop := ∃ v, Ev f v ∧ P v
def Op {α : Type} (f : Option α) (P : α → Prop) : Prop := ∃ v, f = some v ∧ P v
section
variable {α β : Type} {P : α → Prop} {Q : β → Prop}
theorem Evp.ret {v : α} (h : P v) : Evp (fun _ => some v) P := ⟨v, Ev.ret, h⟩
theorem Evp.of {f : Nat → Option α} {v : α} (h : Ev f v) (hp : P v) : Evp f P := ⟨v, h, hp⟩
theorem Evp.bind {f : Nat → Option α} {g : Nat → α → Option β} (h : Evp f P) (hg : ∀ a, P a → Evp (fun k => g k a) Q) : Evp (fun k => (f k).bind (g k)) Q := by
  obtain ⟨a, h1, h2⟩ := h
  obtain ⟨b, h3, h4⟩ := hg a h2
  exact ⟨b, h1.bind h3, h4⟩
theorem Evp.bindv {f : Nat → Option α} {g : Nat → α → Option β} {a : α} (h : Ev f a) (hg : Evp (fun k => g k a) Q) : Evp (fun k => (f k).bind (g k)) Q := by
  obtain ⟨b, h3, h4⟩ := hg
  exact ⟨b, h.bind h3, h4⟩
theorem Evp.bindc {f : Option α} {g : Nat → α → Option β} (h : Op f P) (hg : ∀ a, P a → Evp (fun k => g k a) Q) : Evp (fun k => f.bind (g k)) Q := by
  obtain ⟨a, h1, h2⟩ := h
  obtain ⟨b, h3, h4⟩ := hg a h2
  exact ⟨b, Ev.bindc h1 h3, h4⟩
theorem Evp.succ {f : Nat → Option α} (h : Evp (fun k => f (k + 1)) P) : Evp f P := by
  obtain ⟨a, h1, h2⟩ := h
  exact ⟨a, Ev.succ h1, h2⟩
theorem Evp.pos {c : Prop} [Decidable c] {f g : Nat → Option α} (hc : c) (h : Evp f P) : Evp (fun k => if c then f k else g k) P := by
  obtain ⟨a, h1, h2⟩ := h
  exact ⟨a, Ev.pos hc h1, h2⟩
theorem Evp.neg {c : Prop} [Decidable c] {f g : Nat → Option α} (hc : ¬ c) (h : Evp g P) : Evp (fun k => if c then f k else g k) P := by
  obtain ⟨a, h1, h2⟩ := h
  exact ⟨a, Ev.neg hc h1, h2⟩
theorem Evp.ite {c : Prop} [Decidable c] {f g : Nat → Option α} (h1 : c → Evp f P) (h2 : ¬ c → Evp g P) : Evp (fun k => if c then f k else g k) P := by
  by_cases hc : c
  · exact Evp.pos hc (h1 hc)
  · exact Evp.neg hc (h2 hc)
theorem Evp.mono {f : Nat → Option α} {P' : α → Prop} (h : Evp f P) (hp : ∀ a, P a → P' a) : Evp f P' := by
  obtain ⟨a, h1, h2⟩ := h
  exact ⟨a, h1, hp a h2⟩
theorem Evp.opt {f : Option α} (h : Op f P) : Evp (fun _ => f) P := by
  obtain ⟨a, h1, h2⟩ := h
  exact ⟨a, Ev.of h1, h2⟩
theorem Evp.cg {f g : Nat → Option α} (h : Evp g P) (e : ∀ k, f k = g k) : Evp f P := by
  obtain ⟨a, h1, h2⟩ := h
  exact ⟨a, h1.cg e, h2⟩
theorem Op.ret {v : α} (h : P v) : Op (some v) P := ⟨v, rfl, h⟩
theorem Op.bind {f : Option α} {g : α → Option β} (h : Op f P) (hg : ∀ a, P a → Op (g a) Q) : Op (f.bind g) Q := by
  obtain ⟨a, h1, h2⟩ := h
  obtain ⟨b, h3, h4⟩ := hg a h2
  exact ⟨b, by rw [h1, Option.bind_some, h3], h4⟩
theorem Op.pos {c : Prop} [Decidable c] {f g : Option α} (hc : c) (h : Op f P) : Op (if c then f else g) P := by rw [if_pos hc]; exact h
theorem Op.neg {c : Prop} [Decidable c] {f g : Option α} (hc : ¬ c) (h : Op g P) : Op (if c then f else g) P := by rw [if_neg hc]; exact h
theorem Op.ite {c : Prop} [Decidable c] {f g : Option α} (h1 : c → Op f P) (h2 : ¬ c → Op g P) : Op (if c then f else g) P := by
  by_cases hc : c
  · exact Op.pos hc (h1 hc)
  · exact Op.neg hc (h2 hc)
end
theorem nft : ¬ (false = true) := by decide
/-- x among numbers: ahead of the first greater one. -/
noncomputable def insB : List Int → Int → List Int
  | [], x => [x]
  | y :: l, x => if x < y then x :: y :: l else y :: insB l x
noncomputable def insL (l : List Int) (x : Int) : List Int := if l.contains x = true then l else insB l x
theorem insB_len (l : List Int) (x : Int) : (insB l x).length = l.length + 1 := by
  induction l with
  | nil => rfl
  | cons y l ih =>
    unfold insB
    split
    · rfl
    · rw [List.length_cons, List.length_cons, ih]
theorem insL_len (l : List Int) (x : Int) : (insL l x).length ≤ l.length + 1 := by
  unfold insL
  split
  · omega
  · rw [insB_len]; omega
theorem insB_at {x : Int} : ∀ {l : List Int} {i : Nat}, i ≤ l.length → (∀ q, q < i → l.getD q 0 < x) → (i < l.length → x < l.getD i 0) → l.take i ++ [x] ++ l.drop i = insB l x := by
  intro l
  induction l with
  | nil => intro i hi _ _; have : i = 0 := by simpa using hi
           subst this; rfl
  | cons y l ih =>
    intro i hi h1 h2
    cases i with
    | zero =>
      have : x < y := h2 (Nat.zero_lt_succ _)
      unfold insB; rw [if_pos this]; rfl
    | succ i =>
      have : ¬ x < y := by have := h1 0 (Nat.zero_lt_succ _); change y < x at this; omega
      unfold insB; rw [if_neg this]
      show y :: (l.take i ++ [x] ++ l.drop i) = _
      rw [ih (by simpa using hi) (fun q hq => by have := h1 (q + 1) (by omega); simpa using this) (fun h => by have := h2 (by simp; omega); simpa using this)]
theorem wrapu (x : Int) (h0 : 0 ≤ x) (h1 : x ≤ 9223372036854775807) : IntKind.wrap .u64 x = x := by
  show (if (false && decide (x % 2 ^ 64 ≥ 2 ^ (64 - 1))) = true then x % 2 ^ 64 - 2 ^ 64 else x % 2 ^ 64) = x
  rw [Bool.false_and, if_neg (by decide)]
  exact Int.emod_eq_of_lt h0 (by omega)
theorem mid_is {i j n : Nat} (h : i < j) (hj : j ≤ n) (hn : n ≤ 4611686018427387904) : wrap64 (shrK .u64 (IntKind.wrap .u64 (wrap64 ((i : Int) + (j : Int)))) (1 : Int)) = (((i + j) / 2 : Nat) : Int) := by
  rw [wrap64_id (x := (i : Int) + (j : Int)) (by omega) (by omega), wrapu _ (by omega) (by omega)]
  have e : shrK .u64 ((i : Int) + (j : Int)) 1 = (((i + j) / 2 : Nat) : Int) := by
    show Int.fdiv ((i : Int) + (j : Int)) (2 ^ 1) = _
    rw [Int.fdiv_eq_ediv_of_nonneg _ (by decide)]
    omega
  rw [e, wrap64_id (by omega) (by omega)]
/-- A search by halves. -/
theorem bs_loop {β : Type} {n : Nat} {p : Nat → Int → Int → Option β} {lt : Nat → Bool} {v : β} (hm : ∀ q r, q ≤ r → r < n → lt r = true → lt q = true)
    (hp : ∀ i j : Nat, i < j → j ≤ n → ∀ b, (lt ((i + j) / 2) = true → Ev (fun k => p k (((i + j) / 2 + 1 : Nat) : Int) (j : Int)) b) → (lt ((i + j) / 2) = false → Ev (fun k => p k (i : Int) (((i + j) / 2 : Nat) : Int)) b) → Ev (fun k => p (k + 1) (i : Int) (j : Int)) b)
    (h0 : ∀ i : Nat, i ≤ n → (∀ q, q < i → lt q = true) → (∀ q, i ≤ q → q < n → lt q = false) → Ev (fun k => p (k + 1) (i : Int) (i : Int)) v) :
    ∀ (d i j : Nat), j - i ≤ d → i ≤ j → j ≤ n → (∀ q, q < i → lt q = true) → (∀ q, j ≤ q → q < n → lt q = false) → Ev (fun k => p k (i : Int) (j : Int)) v := by
  intro d
  induction d with
  | zero =>
    intro i j hd hij hj h1 h2
    have : i = j := by omega
    subst this
    exact Ev.succ (h0 i hj h1 h2)
  | succ d ih =>
    intro i j hd hij hj h1 h2
    by_cases hlt : i < j
    · refine Ev.succ (hp i j hlt hj v (fun hb => ?_) (fun hb => ?_))
      · exact ih _ _ (by omega) (by omega) hj (fun q hq => hm q _ (by omega) (by omega) hb) h2
      · refine ih _ _ (by omega) (by omega) (by omega) h1 (fun q hq hqn => ?_)
        cases hc : lt q with
        | false => rfl
        | true => exact absurd (hm _ q hq hqn hc) (by rw [hb]; decide)
    · have : i = j := by omega
      subst this
      exact Ev.succ (h0 i hj h1 h2)
/-- Numbers that ascend. -/
def Asc (l : List Int) : Prop := ∀ q r, q < r → r < l.length → l.getD q 0 < l.getD r 0
theorem Asc.of {l : List Int} (h : ∀ q, q + 1 < l.length → l.getD q 0 < l.getD (q + 1) 0) : Asc l := by
  intro q r hqr hr
  induction r with
  | zero => omega
  | succ r ih =>
    have h1 := h r hr
    by_cases hq : q = r
    · subst hq; exact h1
    · have := ih (by omega) (by omega); omega
theorem getD_of_mem {l : List Int} {x : Int} (h : x ∈ l) : ∃ q, q < l.length ∧ l.getD q 0 = x := by
  obtain ⟨q, hq, e⟩ := List.getElem_of_mem h
  exact ⟨q, hq, by rw [List.getD_eq_getElem?_getD, List.getElem?_eq_getElem hq]; exact e⟩
theorem getD_is {α : Type} {l : List α} {q : Nat} {d : α} (hq : q < l.length) : l.getD q d = l[q] := by
  rw [List.getD_eq_getElem?_getD, List.getElem?_eq_getElem hq]; rfl
theorem Asc.pw {l : List Int} (h : Asc l) : l.Pairwise (· < ·) :=
  List.pairwise_iff_getElem.2 fun i j hi hj hij => by have := h i j hij hj; rwa [getD_is hi, getD_is hj] at this
theorem Asc.of_pw {l : List Int} (h : l.Pairwise (· < ·)) : Asc l := fun q r hqr hr => by
  rw [getD_is (by omega), getD_is hr]; exact List.pairwise_iff_getElem.1 h q r (by omega) hr hqr
theorem mem_insB {l : List Int} {x y : Int} : y ∈ insB l x ↔ y = x ∨ y ∈ l := by
  induction l with
  | nil => simp [insB]
  | cons z l ih =>
    unfold insB
    split
    · simp
    · rw [List.mem_cons, ih, List.mem_cons]
      exact ⟨fun h => h.elim (fun h => .inr (.inl h)) (fun h => h.elim .inl (fun h => .inr (.inr h))), fun h => h.elim (fun h => .inr (.inl h)) (fun h => h.elim .inl (fun h => .inr (.inr h)))⟩
theorem mem_insL {l : List Int} {x y : Int} : y ∈ insL l x ↔ y = x ∨ y ∈ l := by
  unfold insL
  split
  · rename_i h
    rw [List.contains_iff_mem] at h
    exact ⟨.inr, fun h' => h'.elim (fun e => e ▸ h) id⟩
  · exact mem_insB
theorem insB_pw {l : List Int} {x : Int} (h : l.Pairwise (· < ·)) (hx : x ∉ l) : (insB l x).Pairwise (· < ·) := by
  induction l with
  | nil => simp [insB]
  | cons z l ih =>
    rw [List.pairwise_cons] at h
    unfold insB
    split
    · rename_i hz
      refine List.pairwise_cons.2 ⟨fun y hy => ?_, List.pairwise_cons.2 h⟩
      rcases List.mem_cons.1 hy with rfl | hy
      · exact hz
      · have := h.1 y hy; omega
    · rename_i hz
      have hne : x ≠ z := fun e => hx (e ▸ List.mem_cons_self)
      refine List.pairwise_cons.2 ⟨fun y hy => ?_, ih h.2 (fun h => hx (List.mem_cons_of_mem _ h))⟩
      rcases mem_insB.1 hy with rfl | hy
      · omega
      · exact h.1 y hy
theorem insL_pw {l : List Int} {x : Int} (h : l.Pairwise (· < ·)) : (insL l x).Pairwise (· < ·) := by
  unfold insL
  split
  · exact h
  · rename_i hc
    exact insB_pw h (fun hm => hc (List.contains_iff_mem.2 hm))
/-- A row whose first elements are told anew. -/
theorem map_get {α : Type} {F : α → α} {l : List α} {i : Nat} {d : α} (hi : i < l.length) : ((l.take i).map F ++ l.drop i).getD i d = l.getD i d := by
  have hl : ((l.take i).map F).length = i := by rw [List.length_map, List.length_take]; omega
  rw [List.getD_eq_getElem?_getD, List.getElem?_append_right (by omega), hl, Nat.sub_self, List.getElem?_drop, Nat.add_zero, ← List.getD_eq_getElem?_getD]
theorem map_step {α : Type} {F : α → α} {l : List α} {i : Nat} {d : α} (hi : i < l.length) : ((l.take i).map F ++ l.drop i).set i (F (l.getD i d)) = (l.take (i + 1)).map F ++ l.drop (i + 1) := by
  have hl : ((l.take i).map F).length = i := by rw [List.length_map, List.length_take]; omega
  have ht : l.take (i + 1) = l.take i ++ [l.getD i d] := by
    rw [List.take_add_one, List.getElem?_eq_getElem hi, getD_is hi]; rfl
  rw [List.set_append_right _ _ (by omega), hl, Nat.sub_self, drop_get (d := d) hi, ht, List.map_append, List.append_assoc]
  rfl
theorem map_len {α : Type} {F : α → α} {l : List α} {i : Nat} : ((l.take i).map F ++ l.drop i).length = l.length := by
  rw [List.length_append, List.length_map, List.length_take, List.length_drop]; omega
theorem has_one (x v : Int) : [x].contains v = decide (v = x) := by
  by_cases h : v = x <;> simp [h]
theorem filter_not {α : Type} (p : α → Bool) (l : List α) : (l.filter p).length + (l.filter fun v => !p v).length = l.length := by
  induction l with
  | nil => rfl
  | cons x l ih =>
    rw [List.filter_cons, List.filter_cons]
    cases p x <;> simp <;> omega
theorem set_getD_self {α : Type} {l : List α} {i : Nat} {d : α} (hi : i < l.length) : l.set i (l.getD i d) = l := by
  rw [getD_is hi]; exact List.set_getElem_self hi

noncomputable def better (a b : Entry) : Entry := if a.2.1 < b.2.1 then b else a
/-- An entry among entries: the better one at its place, else ahead of the first at a greater place. -/
noncomputable def keepL : List Entry → Entry → List Entry
  | [], e => [e]
  | y :: l, e => if y.1 = e.1 then better y e :: l else if e.1 < y.1 then e :: y :: l else y :: keepL l e
theorem keepL_len (l : List Entry) (e : Entry) : (keepL l e).length ≤ l.length + 1 := by
  induction l with
  | nil => exact Nat.le_refl _
  | cons y l ih =>
    unfold keepL
    split
    · simp
    · split
      · exact Nat.le_refl _
      · rw [List.length_cons, List.length_cons]; omega
theorem getD_cons_succ' {α : Type} {y d : α} {l : List α} {i : Nat} : (y :: l).getD (i + 1) d = l.getD i d := by simp
theorem keepL_ins {e : Entry} {d : Entry} : ∀ {l : List Entry} {i : Nat}, i ≤ l.length → (∀ q, q < i → (l.getD q d).1 < e.1) → (i < l.length → e.1 < (l.getD i d).1) → l.take i ++ [e] ++ l.drop i = keepL l e := by
  intro l
  induction l with
  | nil => intro i hi _ _; have : i = 0 := by simpa using hi
           subst this; rfl
  | cons y l ih =>
    intro i hi h1 h2
    cases i with
    | zero =>
      have h : e.1 < y.1 := h2 (Nat.zero_lt_succ _)
      have hn : ¬ y.1 = e.1 := by omega
      unfold keepL; rw [if_neg hn, if_pos h]; rfl
    | succ i =>
      have h : y.1 < e.1 := h1 0 (Nat.zero_lt_succ _)
      have hn : ¬ y.1 = e.1 := by omega
      have hn2 : ¬ e.1 < y.1 := by omega
      unfold keepL; rw [if_neg hn, if_neg hn2]
      show y :: (l.take i ++ [e] ++ l.drop i) = _
      rw [ih (by simpa using hi) (fun q hq => by have := h1 (q + 1) (by omega); rwa [getD_cons_succ'] at this) (fun h => by have := h2 (by simp; omega); rwa [getD_cons_succ'] at this)]
theorem keepL_set {e : Entry} {d : Entry} : ∀ {l : List Entry} {i : Nat}, i < l.length → (∀ q, q < i → (l.getD q d).1 < e.1) → (l.getD i d).1 = e.1 → l.set i (better (l.getD i d) e) = keepL l e := by
  intro l
  induction l with
  | nil => intro i hi; exact absurd hi (Nat.not_lt_zero _)
  | cons y l ih =>
    intro i hi h1 h2
    cases i with
    | zero =>
      have h : y.1 = e.1 := h2
      unfold keepL; rw [if_pos h]; rfl
    | succ i =>
      have h : y.1 < e.1 := h1 0 (Nat.zero_lt_succ _)
      have hn : ¬ y.1 = e.1 := by omega
      have hn2 : ¬ e.1 < y.1 := by omega
      rw [getD_cons_succ'] at h2
      unfold keepL; rw [if_neg hn, if_neg hn2, List.set_cons_succ, getD_cons_succ']
      rw [ih (by simpa using hi) (fun q hq => by have := h1 (q + 1) (by omega); rwa [getD_cons_succ'] at this) h2]
noncomputable def zEnt : Entry := ((0 : Int), ((0 : Int), (false, ((⟨#[]⟩ : ByteArray), ()))))
noncomputable def ascE (l : List Entry) : Bool := (List.range' 0 l.length).all fun i => !(decide (0 < i) && decide ((l.getD i zEnt).1 ≤ (l.getD (i - 1) zEnt).1))
/-- Rows of entries whose places are numbers of 64 bits. -/
def EG (n : Nat) (l : List Entry) : Prop := l.length ≤ n ∧ ∀ e ∈ l, InR e.1
theorem EG.at {n : Nat} {l : List Entry} (h : EG n l) : ∀ i, i < l.length → InR (l.getD i zEnt).1 := fun i hi => h.2 _ (getD_mem hi)
theorem EG.get {n : Nat} {l : List Entry} (h : EG n l) (i : Nat) : InR (l.getD i zEnt).1 := by
  by_cases hi : i < l.length
  · exact h.at i hi
  · rw [List.getD_eq_getElem?_getD, List.getElem?_eq_none (by omega)]; show InR (0 : Int); unfold InR; decide
theorem EG.nil {n : Nat} : EG n [] := ⟨Nat.zero_le _, fun e he => by cases he⟩
theorem EG.mono {n m : Nat} {l : List Entry} (h : EG n l) (hm : n ≤ m) : EG m l := ⟨by have := h.1; omega, h.2⟩
theorem EG.app {n : Nat} {l : List Entry} {e : Entry} (h : EG n l) (he : InR e.1) : EG (n + 1) (l ++ [e]) := by
  refine ⟨by have := h.1; simp; omega, fun x hx => ?_⟩
  rcases List.mem_append.1 hx with h' | h'
  · exact h.2 x h'
  · rw [List.mem_singleton] at h'; subst h'; exact he
/-- Entries whose places ascend. -/
def AscE (l : List Entry) : Prop := ∀ q r, q < r → r < l.length → (l.getD q ((0 : Int), ((0 : Int), (false, ((⟨#[]⟩ : ByteArray), ()))))).1 < (l.getD r ((0 : Int), ((0 : Int), (false, ((⟨#[]⟩ : ByteArray), ()))))).1
theorem AscE.of {l : List Entry} (h : ∀ q, q + 1 < l.length → (l.getD q ((0 : Int), ((0 : Int), (false, ((⟨#[]⟩ : ByteArray), ()))))).1 < (l.getD (q + 1) ((0 : Int), ((0 : Int), (false, ((⟨#[]⟩ : ByteArray), ()))))).1) : AscE l := by
  intro q r hqr hr
  induction r with
  | zero => omega
  | succ r ih =>
    have h1 := h r hr
    by_cases hq : q = r
    · subst hq; exact h1
    · have := ih (by omega) (by omega); omega
theorem AscE.pw {l : List Entry} (h : AscE l) : l.Pairwise (fun a b => a.1 < b.1) :=
  List.pairwise_iff_getElem.2 fun i j hi hj hij => by have := h i j hij hj; rwa [getD_is hi, getD_is hj] at this
theorem AscE.of_pw {l : List Entry} (h : l.Pairwise (fun a b => a.1 < b.1)) : AscE l := fun q r hqr hr => by
  rw [getD_is (by omega), getD_is hr]; exact List.pairwise_iff_getElem.1 h q r (by omega) hr hqr
theorem ascE_Asc {l : List Entry} (h : ascE l = true) : AscE l := AscE.of fun q hq => by
  simp only [ascE, List.all_eq_true, List.mem_range'_1] at h
  have := h (q + 1) (by omega)
  simp only [Nat.add_sub_cancel, Bool.not_eq_true', Bool.and_eq_false_iff, decide_eq_false_iff_not] at this
  rcases this with h | h
  · omega
  · unfold zEnt at h; omega
theorem Asc_ascE {l : List Entry} (h : AscE l) : ascE l = true := by
  simp only [ascE, List.all_eq_true, List.mem_range'_1]
  intro i hi
  simp only [Bool.not_eq_true', Bool.and_eq_false_iff, decide_eq_false_iff_not]
  by_cases h0 : 0 < i
  · refine .inr ?_
    have := h (i - 1) i (by omega) (by omega)
    unfold zEnt; omega
  · exact .inl h0
theorem better_at {a b : Entry} (h : a.1 = b.1) : (better a b).1 = a.1 := by unfold better; split <;> simp [h]
theorem better_or (a b : Entry) : better a b = a ∨ better a b = b := by unfold better; split <;> simp
theorem keepL_at {l : List Entry} {e z : Entry} (h : z ∈ keepL l e) : z.1 = e.1 ∨ ∃ y ∈ l, y.1 = z.1 := by
  induction l with
  | nil => simp [keepL] at h; subst h; exact .inl rfl
  | cons y l ih =>
    unfold keepL at h
    split at h
    · rename_i hy
      rcases List.mem_cons.1 h with rfl | h
      · exact .inl ((better_at hy).trans hy)
      · exact .inr ⟨z, List.mem_cons_of_mem _ h, rfl⟩
    · split at h
      · rcases List.mem_cons.1 h with rfl | h
        · exact .inl rfl
        · exact .inr ⟨z, h, rfl⟩
      · rcases List.mem_cons.1 h with rfl | h
        · exact .inr ⟨z, List.mem_cons_self, rfl⟩
        · rcases ih h with h | ⟨y', h1, h2⟩
          · exact .inl h
          · exact .inr ⟨y', List.mem_cons_of_mem _ h1, h2⟩
theorem keepL_mem {l : List Entry} {e z : Entry} (h : z ∈ keepL l e) : z = e ∨ z ∈ l := by
  induction l with
  | nil => simp [keepL] at h; exact .inl h
  | cons y l ih =>
    unfold keepL at h
    split at h
    · rcases List.mem_cons.1 h with rfl | h
      · rcases better_or y e with h | h
        · exact .inr (by rw [h]; exact List.mem_cons_self)
        · exact .inl h
      · exact .inr (List.mem_cons_of_mem _ h)
    · split at h
      · rcases List.mem_cons.1 h with rfl | h
        · exact .inl rfl
        · exact .inr h
      · rcases List.mem_cons.1 h with rfl | h
        · exact .inr List.mem_cons_self
        · exact (ih h).imp id (List.mem_cons_of_mem _)
theorem keepL_pw {l : List Entry} {e : Entry} (h : l.Pairwise (fun a b => a.1 < b.1)) : (keepL l e).Pairwise (fun a b => a.1 < b.1) := by
  induction l with
  | nil => simp [keepL]
  | cons y l ih =>
    rw [List.pairwise_cons] at h
    unfold keepL
    split
    · rename_i hy
      exact List.pairwise_cons.2 ⟨fun z hz => by rw [better_at hy]; exact h.1 z hz, h.2⟩
    · rename_i hy
      split
      · rename_i hlt
        refine List.pairwise_cons.2 ⟨fun z hz => ?_, List.pairwise_cons.2 h⟩
        rcases List.mem_cons.1 hz with rfl | hz
        · exact hlt
        · have := h.1 z hz; omega
      · rename_i hlt
        refine List.pairwise_cons.2 ⟨fun z hz => ?_, ih h.2⟩
        rcases keepL_at hz with hz | ⟨u, h1, h2⟩
        · omega
        · have := h.1 u h1; omega
theorem AscE.keep {l : List Entry} {e : Entry} (h : AscE l) : AscE (keepL l e) := AscE.of_pw (keepL_pw h.pw)
theorem EG.keep {n : Nat} {l : List Entry} {e : Entry} (h : EG n l) (he : InR e.1) : EG (n + 1) (keepL l e) :=
  ⟨by have := keepL_len l e; have := h.1; omega, fun z hz => by
    rcases keepL_mem hz with rfl | hz
    · exact he
    · exact h.2 z hz⟩
theorem ents_small {l : List Entry} (h : Gd (.sl tEntry) l) : EG l.length l := ⟨Nat.le_refl _, fun e he => InR_of (h.2 e he).1⟩
theorem cnt_len {t : Ty} (xs : (Ty.sl t).den) : List.length xs ≤ cnt (.sl t) xs := by
  show List.length xs ≤ List.length xs + _
  omega
theorem ents_cnt (l : List Entry) : cnt (.sl tEntry) l = l.length + (l.map fun x => cnt tEntry x).sum := rfl
theorem keepL_cnt (l : List Entry) (e : Entry) : cnt (.sl tEntry) (keepL l e) ≤ cnt (.sl tEntry) l + cnt tEntry e + 1 := by
  rw [ents_cnt, ents_cnt]
  induction l with
  | nil => simp [keepL]; omega
  | cons y l ih =>
    unfold keepL
    split
    · have : cnt tEntry (better y e) ≤ cnt tEntry y + cnt tEntry e := by
        rcases better_or y e with h | h <;> rw [h] <;> omega
      simp only [List.length_cons, List.map_cons, List.sum_cons]; omega
    · split
      · simp only [List.length_cons, List.map_cons, List.sum_cons]; omega
      · simp only [List.length_cons, List.map_cons, List.sum_cons]; omega

def SG (n m : Nat) (s : Store) : Prop := EG n s.1 ∧ EG m s.2.1 ∧ InR s.2.2.1
theorem SG.zero {n m : Nat} : SG n m (([] : List Entry), (([] : List Entry), ((0 : Int), ()))) := ⟨EG.nil, EG.nil, by show InR (0 : Int); unfold InR; decide⟩
noncomputable def keepsL (s l : List Entry) : List Entry := l.foldl keepL s
theorem keepsL_len : ∀ (l s : List Entry), (keepsL s l).length ≤ s.length + l.length := by
  intro l
  induction l with
  | nil => intro s; exact Nat.le_refl _
  | cons e l ih => intro s; have := ih (keepL s e); have := keepL_len s e; show (keepsL (keepL s e) l).length ≤ _; simp only [List.length_cons]; omega
theorem keepsL_asc : ∀ (l s : List Entry), AscE s → AscE (keepsL s l) := by
  intro l
  induction l with
  | nil => intro s h; exact h
  | cons e l ih => intro s h; exact ih _ h.keep
noncomputable def unionL (s : List Entry) (l : List Store) : List Entry := l.foldl (fun s t => keepsL s t.1) s
def ktS (l : List Store) : Nat := (l.map fun s => s.1.length).sum
/-- Stores whose places are numbers of 64 bits. -/
def StG (l : List Store) : Prop := l.length ≤ 1048576 ∧ ∀ s ∈ l, EG 1048576 s.1 ∧ EG 1048576 s.2.1 ∧ InR s.2.2.1
noncomputable def zSto : Store := (([] : List Entry), (([] : List Entry), ((0 : Int), ())))
theorem ktS_cons (s : Store) (l : List Store) : ktS (s :: l) = s.1.length + ktS l := by simp [ktS]
theorem unionL_asc : ∀ (l : List Store) (s : List Entry), AscE s → AscE (unionL s l) := by
  intro l
  induction l with
  | nil => intro s h; exact h
  | cons t l ih => intro s h; exact ih _ (keepsL_asc _ _ h)
theorem unionL_len : ∀ (l : List Store) (s : List Entry), (unionL s l).length ≤ s.length + ktS l := by
  intro l
  induction l with
  | nil => intro s; exact Nat.le_add_right _ _
  | cons t l ih => intro s; have := ih (keepsL s t.1); have := keepsL_len t.1 s; rw [ktS_cons]; show (unionL (keepsL s t.1) l).length ≤ _; omega
/-- The stores of those that are not lost. -/
noncomputable def othersL (lost : List Int) : Nat → List Store → List Store
  | _, [] => []
  | i, s :: l => if lost.contains (i : Int) = true then othersL lost (i + 1) l else s :: othersL lost (i + 1) l
theorem othersL_cons {lost : List Int} {i : Nat} {s : Store} {l : List Store} : othersL lost i (s :: l) = if lost.contains (i : Int) = true then othersL lost (i + 1) l else s :: othersL lost (i + 1) l := rfl
theorem othersL_mem {lost : List Int} {x : Store} : ∀ {l : List Store} {i : Nat}, x ∈ othersL lost i l → x ∈ l := by
  intro l
  induction l with
  | nil => intro i h; exact h
  | cons s l ih =>
    intro i h
    unfold othersL at h
    split at h
    · exact List.mem_cons_of_mem _ (ih h)
    · rcases List.mem_cons.1 h with rfl | h
      · exact List.mem_cons_self
      · exact List.mem_cons_of_mem _ (ih h)
theorem othersL_len {lost : List Int} : ∀ {l : List Store} {i : Nat}, (othersL lost i l).length ≤ l.length ∧ ktS (othersL lost i l) ≤ ktS l := by
  intro l
  induction l with
  | nil => intro i; exact ⟨Nat.le_refl _, Nat.le_refl _⟩
  | cons s l ih =>
    intro i
    have h1 := (ih (i := i + 1)).1
    have h2 := (ih (i := i + 1)).2
    unfold othersL
    split
    · rw [ktS_cons, List.length_cons]; omega
    · rw [ktS_cons, ktS_cons, List.length_cons, List.length_cons]; omega
theorem StG.others {lost : List Int} {l : List Store} (h : StG l) (i : Nat) : StG (othersL lost i l) := ⟨Nat.le_trans othersL_len.1 h.1, fun s hs => h.2 s (othersL_mem hs)⟩

def MG (s n h w : Nat) (m : Mend) : Prop := m.2.2.1.length ≤ s ∧ EG n m.2.2.2.1 ∧ (m.2.2.2.2.2.1.length ≤ h ∧ ∀ l ∈ m.2.2.2.2.2.1, l.length ≤ w) ∧ InR m.1 ∧ InR m.2.1
theorem MG.mono {s n h w s' n' h' w' : Nat} {m : Mend} (g : MG s n h w m) (h1 : s ≤ s') (h2 : n ≤ n') (h3 : h ≤ h') (h4 : w ≤ w') : MG s' n' h' w' m :=
  ⟨by have := g.1; omega, g.2.1.mono h2, ⟨by have := g.2.2.1.1; omega, fun l hl => by have := g.2.2.1.2 l hl; omega⟩, g.2.2.2⟩
theorem MG.get {s n h w : Nat} {m : Mend} (g : MG s n h w m) (i : Nat) : (m.2.2.2.2.2.1.getD i []).length ≤ w := by
  by_cases hi : i < m.2.2.2.2.2.1.length
  · exact g.2.2.1.2 _ (getD_mem hi)
  · rw [List.getD_eq_getElem?_getD, List.getElem?_eq_none (by omega)]; exact Nat.zero_le _
theorem mend_small {m : Mend} (h : Gd tMend m) (hc : cnt tMend m ≤ 1048576) : MG m.2.2.1.length m.2.2.2.1.length m.2.2.2.2.2.1.length 1048576 m := by
  have hc : 0 + (0 + (cnt (.sl (.int .i64)) m.2.2.1 + (cnt (.sl tEntry) m.2.2.2.1 + (0 + (cnt (.sl (.sl (.int .i64))) m.2.2.2.2.2.1 + 0))))) ≤ 1048576 := hc
  refine ⟨Nat.le_refl _, ents_small h.2.2.2.1, ⟨Nat.le_refl _, fun l hl => ?_⟩, InR_of h.1, InR_of h.2.1⟩
  have hw : cnt (.sl (.sl (.int .i64))) m.2.2.2.2.2.1 = m.2.2.2.2.2.1.length + (m.2.2.2.2.2.1.map fun x => cnt (.sl (.int .i64)) x).sum := rfl
  have := sum_mem (f := fun x => cnt (.sl (.int .i64)) x) hl
  have h2 : cnt (.sl (.int .i64)) l = l.length := cnt_ints l
  have this : cnt (.sl (.int .i64)) l ≤ (m.2.2.2.2.2.1.map fun x => cnt (.sl (.int .i64)) x).sum := this
  omega
theorem mend_cnt (m : Mend) : cnt tMend m = m.2.2.1.length + (cnt (.sl tEntry) m.2.2.2.1 + cnt (.sl (.sl (.int .i64))) m.2.2.2.2.2.1) := by
  show 0 + (0 + (cnt (.sl (.int .i64)) m.2.2.1 + (cnt (.sl tEntry) m.2.2.2.1 + (0 + (cnt (.sl (.sl (.int .i64))) m.2.2.2.2.2.1 + 0))))) = _
  rw [cnt_ints]; omega

theorem spec_l1In_is (x a b : Int) : spec_l1In.f x a b = some (inB x a b) := ite_inB x a b

/-- A config that is right: its domains, its copies. -/
noncomputable def cfgB (a : Config) : Bool := inB ((a.1.length : Nat) : Int) 1 8 && (inB a.2.1 1 4 && (List.range' 0 a.1.length).all fun i => inB (a.1.getD i 0) 0 7)
theorem cfgB_len {a : Config} (h : cfgB a = true) : 1 ≤ a.1.length ∧ a.1.length ≤ 8 ∧ 1 ≤ a.2.1 ∧ a.2.1 ≤ 4 ∧ ∀ i, i < a.1.length → 0 ≤ a.1.getD i 0 ∧ a.1.getD i 0 ≤ 7 := by
  simp only [cfgB, Bool.and_eq_true, inB_true, List.all_eq_true, List.mem_range'_1] at h
  obtain ⟨h1, h2, h3⟩ := h
  exact ⟨by omega, by omega, h2.1, h2.2, fun i hi => h3 i (by omega)⟩
theorem spec_ConfigOk_ev (a : Config) (hl : a.1.length ≤ 1048576) : Ev (fun k => spec_ConfigOk.f k a) (cfgB a) := by
  have h := all_loop (n := a.1.length) (p := fun k i => spec_ConfigOk.p9 k i a) (q := fun i => inB (a.1.getD i 0) 0 7) (zb := true) (fun i hi b hb => by
    simp only [spec_ConfigOk.p9, spec_l1In_is]
    refine Ev.pos (by omega) (Ev.pos (by omega) (Ev.bindc rfl (Ev.and fun _ => ?_)))
    rw [wrap_up hi (by omega)]; exact hb) (by
    simp only [spec_ConfigOk.p9]
    exact Ev.neg (by omega) Ev.ret) a.1.length 0 (by omega)
  simp only [spec_ConfigOk.f, spec_l1In_is, cfgB]
  refine Ev.bindc rfl (Ev.and fun _ => Ev.bindc rfl (Ev.and fun _ => ?_))
  simpa using h

/-- Ascending numbers from lo to hi. -/
noncomputable def ascB (l : List Int) (lo hi : Int) : Bool := (List.range' 0 l.length).all fun i => inB (l.getD i 0) lo hi && (decide (i = 0) || !decide (l.getD i 0 ≤ l.getD (i - 1) 0))
theorem ascB_mem {l : List Int} {lo hi : Int} (h : ascB l lo hi = true) {i : Nat} (hi' : i < l.length) : lo ≤ l.getD i 0 ∧ l.getD i 0 ≤ hi := by
  simp only [ascB, List.all_eq_true, List.mem_range'_1, Bool.and_eq_true, inB_true] at h
  exact (h i (by omega)).1
theorem spec_l4Asc_ev (l : List Int) (lo hi : Int) (hl : l.length ≤ 1048576) : Ev (fun k => spec_l4Asc.f k l lo hi) (ascB l lo hi) := by
  have h := all_loop (n := l.length) (p := fun k i => spec_l4Asc.p5 k l lo hi i) (q := fun i => inB (l.getD i 0) lo hi && (decide (i = 0) || !decide (l.getD i 0 ≤ l.getD (i - 1) 0))) (zb := true) (fun i hi' b hb => by
    simp only [spec_l4Asc.p5, spec_l1In_is]
    refine Ev.pos (by omega) (Ev.pos (by omega) (Ev.bindc rfl ?_))
    rw [Bool.and_assoc]
    refine Ev.and fun _ => ?_
    rw [wrap_up hi' (by omega)]
    by_cases h0 : i = 0
    · subst h0
      exact (Ev.neg (by omega) hb).eq (by simp)
    · have e : wrap64 ((i : Int) - 1) = ((i - 1 : Nat) : Int) := by rw [wrap64_id (by omega) (by omega)]; omega
      rw [e]
      refine Ev.pos (by omega) (Ev.pos (by omega) (Ev.pos (by omega) ?_))
      rw [decide_eq_false h0, Bool.false_or]
      exact Ev.nand fun _ => hb) (by
    simp only [spec_l4Asc.p5]
    exact Ev.neg (by omega) Ev.ret) l.length 0 (by omega)
  exact (Ev.cg h fun k => rfl).eq (by unfold ascB; rw [Bool.and_true])
theorem ascB_Asc {l : List Int} {lo hi : Int} (h : ascB l lo hi = true) : Asc l := Asc.of fun q hq => by
  simp only [ascB, List.all_eq_true, List.mem_range'_1, Bool.and_eq_true, Bool.or_eq_true, decide_eq_true_eq, Bool.not_eq_true', decide_eq_false_iff_not] at h
  have := (h (q + 1) (by omega)).2
  simp only [Nat.add_sub_cancel] at this
  omega
theorem ascB_iff {l : List Int} {lo hi : Int} : ascB l lo hi = true ↔ (∀ x ∈ l, lo ≤ x ∧ x ≤ hi) ∧ l.Pairwise (· < ·) := by
  constructor
  · intro h
    refine ⟨fun x hx => ?_, (ascB_Asc h).pw⟩
    obtain ⟨q, hq, rfl⟩ := getD_of_mem hx
    exact ascB_mem h hq
  · rintro ⟨h1, h2⟩
    simp only [ascB, List.all_eq_true, List.mem_range'_1, Bool.and_eq_true, Bool.or_eq_true, decide_eq_true_eq, Bool.not_eq_true', decide_eq_false_iff_not, inB_true]
    intro i hi
    refine ⟨h1 _ (getD_mem (by omega)), ?_⟩
    by_cases h0 : i = 0
    · exact .inl h0
    · have := Asc.of_pw h2 (i - 1) i (by omega) (by omega)
      exact .inr (by omega)
theorem ascB_len {l : List Int} {lo hi : Int} (h : ascB l lo hi = true) : l.length = 0 ∨ (l.length : Int) ≤ hi - lo + 1 := by
  have ha := ascB_Asc h
  have key : ∀ q, q < l.length → lo + (q : Int) ≤ l.getD q 0 := by
    intro q
    induction q with
    | zero => intro hq; have := (ascB_mem h hq).1; omega
    | succ q ih => intro hq; have := ih (by omega); have := ha q (q + 1) (by omega) hq; omega
  by_cases h0 : l.length = 0
  · exact .inl h0
  · have := key (l.length - 1) (by omega)
    have := (ascB_mem h (i := l.length - 1) (by omega)).2
    exact .inr (by omega)

noncomputable def nodesB (a : Config) (l : List Int) : Bool := cfgB a && ascB l 0 (((a.1.length : Nat) : Int) - 1)
theorem spec_NodesOk_ev (a : Config) (l : List Int) (ha : a.1.length ≤ 1048576) (hl : l.length ≤ 1048576) : Ev (fun k => spec_NodesOk.f k a l) (nodesB a l) := by
  simp only [spec_NodesOk.f, nodesB]
  refine Ev.bind (spec_ConfigOk_ev a ha) (Ev.and fun _ => ?_)
  rw [wrap64_id (by omega) (by omega)]
  exact Ev.bind (spec_l4Asc_ev l 0 _ hl) Ev.ret
theorem nodesB_len {a : Config} {l : List Int} (h : nodesB a l = true) : l.length ≤ 8 := by
  simp only [nodesB, Bool.and_eq_true] at h
  have := cfgB_len h.1
  have := ascB_len h.2
  omega
theorem nodesB_Asc {a : Config} {l : List Int} (h : nodesB a l = true) : Asc l := by
  simp only [nodesB, Bool.and_eq_true] at h
  exact ascB_Asc h.2
theorem nodesB_filter {a : Config} {l : List Int} (p : Int → Bool) (h : nodesB a l = true) : nodesB a (l.filter p) = true := by
  simp only [nodesB, Bool.and_eq_true, ascB_iff] at h ⊢
  exact ⟨h.1, fun x hx => h.2.1 x (List.mem_filter.1 hx).1, h.2.2.filter _⟩
theorem nodesB_ins {a : Config} {l : List Int} {x : Int} (h : nodesB a l = true) (h0 : 0 ≤ x) (h1 : x ≤ ((a.1.length : Nat) : Int) - 1) : nodesB a (insL l x) = true := by
  simp only [nodesB, Bool.and_eq_true, ascB_iff] at h ⊢
  refine ⟨h.1, fun y hy => ?_, insL_pw h.2.2⟩
  rcases mem_insL.1 hy with rfl | hy
  · exact ⟨h0, h1⟩
  · exact h.2.1 y hy

/-- The domains of nodes, each once, behind those that were met. -/
noncomputable def domsOf (a : Config) : List Int → List Int → List Int
  | [], acc => acc
  | n :: l, acc => domsOf a l (if acc.contains (a.1.getD n.toNat 0) then acc else acc ++ [a.1.getD n.toNat 0])
noncomputable def spanOf (a : Config) (l : List Int) : Int := ((domsOf a l []).length : Int)
theorem spec_l4Span_l (a : Config) (l : List Int) (hdom : ∀ i, i < a.1.length → 0 ≤ a.1.getD i 0 ∧ a.1.getD i 0 ≤ 7) (hl : l.length ≤ 1048576) (hmem : ∀ i, i < l.length → 0 ≤ l.getD i 0 ∧ l.getD i 0 < ((a.1.length : Nat) : Int)) :
    ∀ (m i : Nat) (seen : List Bool) (acc : List Int), i + m = l.length → seen.length = 8 → acc.length ≤ i → (∀ x : Int, 0 ≤ x → x ≤ 7 → (seen.getD x.toNat false = acc.contains x)) →
    Ev (fun k => spec_l4Span.p9 k l seen (acc.length : Int) (i : Int) a) ((domsOf a (l.drop i) acc).length : Int) := by
  intro m
  induction m with
  | zero =>
    intro i seen acc h hs ha hx
    refine Ev.succ ?_
    simp only [spec_l4Span.p9]
    rw [List.drop_eq_nil_of_le (by omega)]
    exact Ev.neg (by omega) Ev.ret
  | succ m ih =>
    intro i seen acc h hs ha hx
    have hi : i < l.length := by omega
    have hn := hmem i hi
    have hv := hdom (l.getD i 0).toNat (by omega)
    refine Ev.succ ?_
    simp only [spec_l4Span.p9, Int.toNat_natCast]
    rw [drop_get (d := (0 : Int)) hi]
    simp only [domsOf]
    generalize hw : a.1.getD (l.getD i 0).toNat 0 = x at *
    refine Ev.pos (by omega) (Ev.pos (by omega) (Ev.pos (by omega) (Ev.pos (by omega) ?_)))
    rw [hx _ hv.1 hv.2, wrap_up hi (by omega)]
    by_cases hc : acc.contains x = true
    · rw [if_pos hc]
      exact Ev.pos hc (ih (i + 1) seen acc (by omega) hs (by omega) hx)
    · rw [if_neg hc]
      refine Ev.neg hc (Ev.pos (by omega) ?_)
      have := ih (i + 1) (seen.set x.toNat true) (acc ++ [x]) (by omega) (by simp [hs]) (by simp; omega) (by
        intro y h0 h7
        by_cases e : y = x
        · subst e
          simp [List.getD_eq_getElem?_getD, List.getElem?_set, hs, show y.toNat < 8 by omega]
        · have he : x.toNat ≠ y.toNat := by omega
          have := hx y h0 h7
          rw [List.getD_eq_getElem?_getD, List.getElem?_set, if_neg he, ← List.getD_eq_getElem?_getD, this]
          simp [e])
      have e1 : wrap64 ((acc.length : Int) + 1) = ((acc ++ [x]).length : Int) := by rw [wrap64_id (by omega) (by omega)]; simp
      rw [e1]; exact this
theorem spec_l4Span_ev (a : Config) (l : List Int) (hok : nodesB a l = true) (hl : l.length ≤ 1048576) : Ev (fun k => spec_l4Span.f k a l) (spanOf a l) := by
  simp only [nodesB, Bool.and_eq_true] at hok
  obtain ⟨h1, h2, _, _, h5⟩ := cfgB_len hok.1
  simp only [spec_l4Span.f]
  refine Ev.pos (by simp [lim_eq]) ?_
  have := spec_l4Span_l a l h5 hl (fun i hi => by have := ascB_mem hok.2 hi; omega) l.length 0 (List.replicate 8 false) [] (by omega) (by simp) (by simp) (by
    intro x h0 h7
    rw [List.getD_eq_getElem?_getD, List.getElem?_replicate, if_pos (by omega)]
    rfl)
  rw [List.drop_zero] at this
  exact this

noncomputable def holdsB (a : Config) (l : List Int) : Bool := nodesB a l && decide (a.2.1 ≤ spanOf a l)
theorem spec_Holds_ev (a : Config) (l : List Int) (ha : a.1.length ≤ 1048576) (hl : l.length ≤ 1048576) : Ev (fun k => spec_Holds.f k a l) (holdsB a l) := by
  simp only [spec_Holds.f, holdsB]
  exact Ev.bind (spec_NodesOk_ev a l ha hl) (Ev.and fun h => Ev.bind (spec_l4Span_ev a l h hl) Ev.ret)

noncomputable def lostB (a : Config) (l : List Int) : Bool := nodesB a l && !holdsB a l
theorem spec_LostOk_ev (a : Config) (l : List Int) (ha : a.1.length ≤ 1048576) (hl : l.length ≤ 1048576) : Ev (fun k => spec_LostOk.f k a l) (lostB a l) := by
  simp only [spec_LostOk.f]
  unfold lostB
  exact Ev.bind (spec_NodesOk_ev a l ha hl) (Ev.and fun _ => Ev.bind (spec_Holds_ev a l ha hl) (Ev.ret.eq (by cases holdsB a l <;> rfl)))

theorem spec_l4Has_l (l : List Int) (x : Int) (hl : l.length ≤ 1048576) : ∀ (m i : Nat), i + m = l.length → Ev (fun k => spec_l4Has.p5 k l x (i : Int)) ((l.drop i).contains x) := by
  intro m
  induction m with
  | zero =>
    intro i h
    refine Ev.succ ?_
    simp only [spec_l4Has.p5]
    rw [List.drop_eq_nil_of_le (by omega)]
    exact Ev.neg (by omega) Ev.ret
  | succ m ih =>
    intro i h
    refine Ev.succ ?_
    simp only [spec_l4Has.p5, Int.toNat_natCast]
    rw [drop_get (d := (0 : Int)) (i := i) (l := l) (by omega), List.contains_cons, wrap_up (i := i) (n := l.length) (by omega) (by omega)]
    refine Ev.pos (by omega) (Ev.pos (by omega) ?_)
    by_cases hx : l.getD i 0 = x
    · exact (Ev.pos hx Ev.ret).eq (by rw [hx]; simp)
    · refine (Ev.neg hx (ih (i + 1) (by omega))).eq ?_
      rw [show (x == l.getD i 0) = false by simpa using fun e => hx e.symm, Bool.false_or]
theorem spec_l4Has_ev (l : List Int) (x : Int) (hl : l.length ≤ 1048576) : Ev (fun k => spec_l4Has.f k l x) (l.contains x) := spec_l4Has_l l x hl l.length 0 (by omega)

/-- A place: its epoch, its offset. -/
def placeOk (x : Int) : Bool := decide (0 < x) && (inB (x / 4294967296) 1 30 && inB (x % 4294967296) 1 60)
def epochOf (x : Int) : Int := if placeOk x = true then x / 4294967296 else 0
def offOf (x : Int) : Int := if placeOk x = true then x % 4294967296 else 0
theorem tdiv_pos {x : Int} (h : 0 ≤ x) : Int.tdiv x 4294967296 = x / 4294967296 := Int.tdiv_eq_ediv_of_nonneg h
theorem tmod_pos {x : Int} (h : 0 ≤ x) : Int.tmod x 4294967296 = x % 4294967296 := Int.tmod_eq_emod_of_nonneg h
theorem tdiv_neg' {x : Int} (h : x ≤ 0) : Int.tdiv x 4294967296 = -((-x) / 4294967296) := by
  have h1 : Int.tdiv (-x) 4294967296 = (-x) / 4294967296 := Int.tdiv_eq_ediv_of_nonneg (by omega)
  have h2 := Int.neg_tdiv (-x) 4294967296
  rw [Int.neg_neg] at h2
  rw [h2, h1]
theorem placeOk_pos {x : Int} (h : placeOk x = true) : 0 < x ∧ (1 ≤ x / 4294967296 ∧ x / 4294967296 ≤ 30) ∧ (1 ≤ x % 4294967296 ∧ x % 4294967296 ≤ 60) := by
  simpa only [placeOk, Bool.and_eq_true, inB_true, decide_eq_true_eq] using h
theorem epochOf_pos {x : Int} (h : placeOk x = true) : epochOf x = x / 4294967296 ∧ 1 ≤ epochOf x ∧ epochOf x ≤ 30 := by
  have h' := placeOk_pos h
  unfold epochOf
  rw [if_pos h]
  omega
theorem spec_PlaceOk_is (x : Int) (hx : InR x) : spec_PlaceOk.f x = some (placeOk x) := by
  have h2 := hx.2
  simp only [spec_PlaceOk.f, placeOk, spec_l1In_is]
  by_cases h : 0 < x
  · rw [if_pos h, tdiv_pos (by omega), tmod_pos (by omega), wrap64_id (by omega) (by omega)]
    cases inB (x / 4294967296) 1 30 <;> simp [h]
  · rw [if_neg h]
    simp [h]

theorem spec_EpochOf_is (x : Int) (hx : InR x) : spec_EpochOf.f x = some (epochOf x) := by
  have h2 := hx.2
  simp only [spec_EpochOf.f, spec_PlaceOk_is x hx, Option.bind_some, epochOf]
  by_cases h : placeOk x = true
  · have := placeOk_pos h
    rw [if_pos h, if_pos h, tdiv_pos (by omega), wrap64_id (by omega) (by omega)]
  · rw [if_neg h, if_neg h]

/-- An entry that is right. -/
noncomputable def entB (e : Entry) : Bool := placeOk e.1 && (inB e.2.1 0 30 && (!(decide (0 < e.2.1) && decide (e.2.1 ≤ epochOf e.1)) && (decide (((e.2.2.2.1.size : Nat) : Int) ≤ 40) && (!e.2.2.1 || (decide (0 < e.2.1) && decide (e.2.2.2.1 = (⟨#[]⟩ : ByteArray)))))))
theorem spec_EntryOk_ev (e : Entry) (ha : InR e.1) : Ev (fun k => spec_EntryOk.f k e) (entB e) := by
  have tail : Ev (fun k => spec_EntryOk.p6 k e) (!e.2.2.1 || (decide (0 < e.2.1) && decide (e.2.2.2.1 = (⟨#[]⟩ : ByteArray)))) := by
    refine Ev.succ ?_
    simp only [spec_EntryOk.p6]
    cases hc : e.2.2.1 with
    | true => exact Ev.pos rfl (Ev.andc fun _ => Ev.ret)
    | false => exact Ev.neg (by decide) Ev.ret
  have tail2 : Ev (fun k => if (40 : Int) < ((e.2.2.2.1.size : Nat) : Int) then some false else spec_EntryOk.p6 k e) (decide (((e.2.2.2.1.size : Nat) : Int) ≤ 40) && (!e.2.2.1 || (decide (0 < e.2.1) && decide (e.2.2.2.1 = (⟨#[]⟩ : ByteArray))))) :=
    (Ev.nand fun _ => tail).eq (by
      by_cases h : (40 : Int) < ((e.2.2.2.1.size : Nat) : Int)
      · rw [decide_eq_true h, decide_eq_false (show ¬ ((e.2.2.2.1.size : Nat) : Int) ≤ 40 by omega)]; rfl
      · rw [decide_eq_false h, decide_eq_true (show ((e.2.2.2.1.size : Nat) : Int) ≤ 40 by omega)]; rfl)
  simp only [spec_EntryOk.f, spec_PlaceOk_is _ ha, spec_EpochOf_is _ ha, spec_l1In_is, Option.bind_some, entB]
  refine Ev.and fun _ => Ev.and fun _ => ?_
  by_cases h0 : (0 : Int) < e.2.1
  · refine (Ev.pos h0 (Ev.nand fun _ => tail2)).eq ?_
    simp only [decide_eq_true h0, Bool.true_and]
  · rw [show (decide ((0 : Int) < e.2.1) && decide (e.2.1 ≤ epochOf e.1)) = false by rw [decide_eq_false h0]; rfl, Bool.not_false, Bool.true_and]
    exact Ev.neg h0 tail2

noncomputable def entsB (l : List Entry) : Bool := (List.range' 0 l.length).all fun i => entB (l.getD i zEnt)
theorem spec_l6List_ev (l : List Entry) (n : Int) (hl : l.length ≤ 1048576) (ha : ∀ i, i < l.length → InR (l.getD i zEnt).1) : Ev (fun k => spec_l6List.f k l n) (!decide (n < ((l.length : Nat) : Int)) && entsB l) := by
  have h := all_loop (n := l.length) (p := fun k i => spec_l6List.p9 k l i) (q := fun i => entB (l.getD i zEnt)) (zb := true) (fun i hi b hb => by
    simp only [spec_l6List.p9, Int.toNat_natCast]
    rw [wrap_up hi (by omega)]
    exact Ev.pos (by omega) (Ev.pos (by omega) (Ev.bind (spec_EntryOk_ev _ (ha i hi)) (Ev.and fun _ => hb)))) (by
    simp only [spec_l6List.p9]
    exact Ev.neg (by omega) Ev.ret) l.length 0 (by omega)
  rw [Bool.and_true] at h
  simp only [spec_l6List.f]
  exact Ev.nand fun _ => h

theorem spec_l6Asc_ev (l : List Entry) (hl : l.length ≤ 1048576) : Ev (fun k => spec_l6Asc.f k l) (ascE l) := by
  have h := all_loop (n := l.length) (p := fun k i => if i = 0 then spec_l6Asc.p5 k l 1 else spec_l6Asc.p5 k l i) (q := fun i => !(decide (0 < i) && decide ((l.getD i zEnt).1 ≤ (l.getD (i - 1) zEnt).1))) (zb := true) (fun i hi b hb => by
    by_cases h0 : i = 0
    · subst h0
      refine (Ev.pos rfl ?_).eq (v := b) (by rfl)
      have hb' : Ev (fun k => spec_l6Asc.p5 k l 1) b := hb.cg fun k => (if_neg (by decide)).symm
      obtain ⟨K, hK⟩ := hb'
      exact ⟨K, fun k hk => hK (k + 1) (by omega)⟩
    · refine Ev.neg (by omega) ?_
      have hb' : Ev (fun k => spec_l6Asc.p5 k l (((i + 1 : Nat)) : Int)) b := hb.cg fun k => (if_neg (by omega)).symm
      have e2 : wrap64 ((i : Int) - 1) = ((i - 1 : Nat) : Int) := by rw [wrap64_id (by omega) (by omega)]; omega
      simp only [spec_l6Asc.p5, e2, Int.toNat_natCast]
      rw [wrap_up hi (by omega), decide_eq_true (show 0 < i by omega), Bool.true_and]
      exact Ev.pos (by omega) (Ev.pos (by omega) (Ev.pos (by omega) (Ev.nand fun _ => hb')))) (by
    by_cases h0 : l.length = 0
    · refine Ev.pos (by omega) ?_
      simp only [spec_l6Asc.p5]
      exact Ev.neg (by omega) Ev.ret
    · refine Ev.neg (by omega) ?_
      simp only [spec_l6Asc.p5]
      exact Ev.neg (by omega) Ev.ret) l.length 0 (by omega)
  rw [Bool.and_true] at h
  exact h.cg fun k => (if_pos rfl).symm

noncomputable def storeB (s : Store) : Bool := decide (((s.1.length : Nat) : Int) ≤ 200) && (entsB s.1 && (decide (((s.2.1.length : Nat) : Int) ≤ 20) && (entsB s.2.1 && (ascE s.1 && inB s.2.2.1 0 30))))
theorem ndec (a b : Int) : (!decide (a < b)) = decide (b ≤ a) := by
  by_cases h : a < b
  · rw [decide_eq_true h, decide_eq_false (by omega)]; rfl
  · rw [decide_eq_false h, decide_eq_true (by omega)]; rfl
theorem spec_StoreOk_ev (s : Store) (h1 : s.1.length ≤ 1048576) (h2 : s.2.1.length ≤ 1048576) (a1 : ∀ i, i < s.1.length → InR (s.1.getD i zEnt).1) (a2 : ∀ i, i < s.2.1.length → InR (s.2.1.getD i zEnt).1) : Ev (fun k => spec_StoreOk.f k s) (storeB s) := by
  have e1 := spec_l6List_ev s.1 200 h1 a1
  have e2 := spec_l6List_ev s.2.1 20 h2 a2
  simp only [spec_StoreOk.f, spec_l1In_is, Option.bind_some, storeB]
  rw [ndec] at e1 e2
  refine (Ev.bind e1 (Ev.and fun _ => Ev.bind e2 (Ev.and fun _ => Ev.bind (spec_l6Asc_ev s.1 h1) (Ev.and fun _ => Ev.ret)))).eq ?_
  simp only [Bool.and_assoc]
noncomputable def unionF (l : List Store) : List Entry := if l.all storeB = true then unionL [] l else []
theorem StG.ok {l : List Store} (h : StG l) {i : Nat} (hi : i < l.length) : Ev (fun k => spec_StoreOk.f k (l.getD i zSto)) (storeB (l.getD i zSto)) := by
  have := h.2 _ (getD_mem (d := zSto) hi)
  exact spec_StoreOk_ev _ this.1.1 this.2.1.1 this.1.at this.2.1.at
noncomputable def fillS (l : List Store) (upto : Int) : Store := (unionL [] l, (([] : List Entry), (upto, ())))
noncomputable def fillG (l : List Store) (upto : Int) : Store × Bool := if l.all storeB = true then (if storeB (fillS l upto) = true then (fillS l upto, true) else (zSto, false)) else (zSto, false)
theorem unionL_EG (l : List Store) (h : StG l) (hk : ktS l ≤ 1048576) : EG 1048576 (unionL [] l) := by
  refine ⟨by have := unionL_len l []; simp at this; omega, ?_⟩
  have key : ∀ (l : List Store) (s : List Entry), (∀ t ∈ l, ∀ e ∈ t.1, InR e.1) → (∀ e ∈ s, InR e.1) → ∀ e ∈ unionL s l, InR e.1 := by
    intro l
    induction l with
    | nil => intro s _ hs; exact hs
    | cons t l ih =>
      intro s hl hs
      refine ih _ (fun t ht => hl t (List.mem_cons_of_mem _ ht)) ?_
      have hk : ∀ (r s : List Entry), (∀ e ∈ r, InR e.1) → (∀ e ∈ s, InR e.1) → ∀ e ∈ keepsL s r, InR e.1 := by
        intro r
        induction r with
        | nil => intro s _ hs; exact hs
        | cons x r ihr =>
          intro s hr hs
          refine ihr _ (fun e he => hr e (List.mem_cons_of_mem _ he)) fun e he => ?_
          rcases keepL_mem he with rfl | he
          · exact hr _ List.mem_cons_self
          · exact hs e he
      exact hk t.1 s (hl t List.mem_cons_self) hs
  exact key l [] (fun t ht => (h.2 t ht).1.2) (fun e he => by cases he)

theorem spec_l6Keep_l (l : List Entry) (e : Entry) (hl : EG 16384 l) (he : InR e.1) : ∀ (m i : Nat) (o : List Entry) (b : Bool), i + m = l.length → EG (i + (if b = true then 1 else 0)) o → Evp (fun k => spec_l6Keep.p9 k l o b (i : Int) e) (fun r => EG (l.length + 1) r) := by
  intro m
  have hll := hl.1
  induction m with
  | zero =>
    intro i o b h ho
    refine Evp.succ ?_
    simp only [spec_l6Keep.p9]
    refine Evp.neg (by omega) ?_
    cases b with
    | true => exact Evp.pos rfl (Evp.ret (ho.mono (by simp; omega)))
    | false => have := ho.1; simp at this; exact Evp.neg (by decide) (Evp.pos (by simp only [lim_eq, List.length_cons, List.length_nil]; omega) (Evp.ret ((ho.app he).mono (by simp; omega))))
  | succ m ih =>
    intro i o b h ho
    have hol := ho.1
    have hob : i + (if b = true then 1 else 0) ≤ i + 1 := by split <;> omega
    have ew : wrap64 ((i : Int) + 1) = ((i + 1 : Nat) : Int) := wrap_up (n := l.length) (by omega) (by omega)
    have h18 : Evp (fun k => spec_l6Keep.p18 k l o b (i : Int) e) (fun r => EG (l.length + 1) r) := by
      refine Evp.succ ?_
      simp only [spec_l6Keep.p18, ew, Int.toNat_natCast]
      cases b with
      | true =>
        refine Evp.pos rfl (Evp.pos (by omega) (Evp.pos (by simp only [lim_eq, List.length_cons, List.length_nil]; omega) ?_))
        exact ih (i + 1) _ true (by omega) ((ho.app (hl.at i (by omega))).mono (by simp))
      | false =>
        refine Evp.neg (by decide) (Evp.pos (by omega) (Evp.ite (fun _ => Evp.pos (by simp only [lim_eq, List.length_cons, List.length_nil]; omega) (Evp.pos (by omega) (Evp.pos (by simp only [lim_eq, List.length_append, List.length_cons, List.length_nil]; omega) ?_))) (fun _ => Evp.pos (by omega) (Evp.pos (by simp only [lim_eq, List.length_cons, List.length_nil]; omega) ?_))))
        · exact ih (i + 1) _ true (by omega) (((ho.app he).app (hl.at i (by omega))).mono (by simp))
        · exact ih (i + 1) _ false (by omega) ((ho.app (hl.at i (by omega))).mono (by simp))
    refine Evp.succ ?_
    simp only [spec_l6Keep.p9, ew, Int.toNat_natCast]
    refine Evp.pos (by omega) (Evp.ite (fun _ => h18) (fun hb => Evp.pos (by omega) (Evp.ite (fun hp => Evp.pos (by omega) ?_) (fun _ => h18))))
    have hbt : ∃ z : Entry, spec_Better.f (l.getD i ((0 : Int), ((0 : Int), (false, ((⟨#[]⟩ : ByteArray), ()))))) e = some z ∧ InR z.1 := by
      unfold spec_Better.f
      split
      · exact ⟨_, rfl, he⟩
      · exact ⟨_, rfl, hl.at i (by omega)⟩
    obtain ⟨z, hz, hzr⟩ := hbt
    refine Evp.bindv (Ev.of hz) (Evp.pos (by simp only [lim_eq, List.length_cons, List.length_nil]; omega) ?_)
    exact ih (i + 1) _ true (by omega) ((ho.app hzr).mono (by simp; split <;> omega))
theorem spec_l6Keep_d (l : List Entry) (e : Entry) (hl : EG 16384 l) (he : InR e.1) : Evp (fun k => spec_l6Keep.f k l e) (fun r => EG (l.length + 1) r) := spec_l6Keep_l l e hl he l.length 0 [] false (by omega) EG.nil
theorem spec_l6Keep_ll (l : List Entry) (e : Entry) (hl : l.length ≤ 1048576) : ∀ (m i : Nat) (o : List Entry) (b : Bool), i + m = l.length → o.length ≤ i + (if b = true then 1 else 0) → Ev (fun k => spec_l6Keep.p9 k l o b (i : Int) e) (o ++ if b = true then l.drop i else keepL (l.drop i) e) := by
  intro m
  induction m with
  | zero =>
    intro i o b h ho
    refine Ev.succ ?_
    simp only [spec_l6Keep.p9]
    rw [List.drop_eq_nil_of_le (by omega)]
    refine Ev.neg (by omega) ?_
    cases b with
    | true => exact Ev.pos (by trivial) (Ev.ret.eq (by simp))
    | false => simp at ho; exact Ev.neg (by decide) (Ev.pos (by simp only [lim_eq, List.length_cons, List.length_nil]; omega) (Ev.ret.eq (by simp [keepL])))
  | succ m ih =>
    intro i o b h ho
    have ew : wrap64 ((i : Int) + 1) = ((i + 1 : Nat) : Int) := wrap_up (n := l.length) (by omega) (by omega)
    have hd := drop_get (d := ((0 : Int), ((0 : Int), (false, ((⟨#[]⟩ : ByteArray), ()))))) (by omega : i < l.length)
    refine Ev.succ ?_
    cases b with
    | true =>
      simp at ho
      simp only [spec_l6Keep.p9]
      refine Ev.pos (by omega) (Ev.pos (by trivial) (Ev.succ ?_))
      simp only [spec_l6Keep.p18, ew, Int.toNat_natCast]
      refine Ev.pos (by trivial) (Ev.pos (by omega) (Ev.pos (by simp only [lim_eq, List.length_cons, List.length_nil]; omega) ?_))
      exact (ih (i + 1) _ true (by omega) (by simp; omega)).eq (by rw [hd]; simp)
    | false =>
      simp at ho
      have h18 : ¬ (l.getD i ((0 : Int), ((0 : Int), (false, ((⟨#[]⟩ : ByteArray), ()))))).1 = e.1 → Ev (fun k => spec_l6Keep.p18 k l o false (i : Int) e) (o ++ keepL (l.drop i) e) := fun hne => by
        refine Ev.succ ?_
        simp only [spec_l6Keep.p18, ew, Int.toNat_natCast]
        refine Ev.neg (by decide) (Ev.pos (by omega) ?_)
        rw [hd]
        by_cases hx : e.1 < (l.getD i ((0 : Int), ((0 : Int), (false, ((⟨#[]⟩ : ByteArray), ()))))).1
        · refine Ev.pos hx (Ev.pos (by simp only [lim_eq, List.length_cons, List.length_nil]; omega) (Ev.pos (by omega) (Ev.pos (by simp only [lim_eq, List.length_append, List.length_cons, List.length_nil]; omega) ?_)))
          exact (ih (i + 1) _ true (by omega) (by simp; omega)).eq (by unfold keepL; rw [if_neg hne, if_pos hx]; simp)
        · refine Ev.neg hx (Ev.pos (by omega) (Ev.pos (by simp only [lim_eq, List.length_cons, List.length_nil]; omega) ?_))
          exact (ih (i + 1) _ false (by omega) (by simp; omega)).eq (by (conv => rhs; unfold keepL); rw [if_neg hne, if_neg hx]; simp)
      simp only [spec_l6Keep.p9, ew, Int.toNat_natCast]
      refine Ev.pos (by omega) (Ev.neg (by decide) (Ev.pos (by omega) ?_))
      by_cases hq : (l.getD i ((0 : Int), ((0 : Int), (false, ((⟨#[]⟩ : ByteArray), ()))))).1 = e.1
      · refine Ev.pos hq (Ev.pos (by omega) (Ev.bindc (a := better (l.getD i ((0 : Int), ((0 : Int), (false, ((⟨#[]⟩ : ByteArray), ()))))) e) ?_ (Ev.pos (by simp only [lim_eq, List.length_cons, List.length_nil]; omega) ?_)))
        · unfold spec_Better.f better; split <;> rfl
        · exact (ih (i + 1) _ true (by omega) (by simp; omega)).eq (by rw [hd]; unfold keepL; rw [if_pos hq]; simp)
      · exact Ev.neg hq (h18 hq)
theorem spec_l6Keep_ev (l : List Entry) (e : Entry) (hl : l.length ≤ 1048576) : Ev (fun k => spec_l6Keep.f k l e) (keepL l e) := (spec_l6Keep_ll l e hl l.length 0 [] false (by omega) (by simp)).eq (by simp)

theorem spec_l11Union_ll (x0 : List Store) (hx : StG x0) : ∀ (m i : Nat) (acc : List Entry), i + m = x0.length → acc.length + ktS (x0.drop i) ≤ 1048576 → Ev (fun k => spec_l11Union.p7 k x0 acc (i : Int)) (unionL acc (x0.drop i)) := by
  have hxl := hx.1
  intro m
  induction m with
  | zero =>
    intro i acc hi ha
    refine Ev.succ ?_
    simp only [spec_l11Union.p7]
    rw [List.drop_eq_nil_of_le (by omega)]
    exact Ev.neg (by omega) Ev.ret
  | succ m ih =>
    intro i acc hi ha
    have hlt : i < x0.length := by omega
    rw [drop_get (d := zSto) hlt, ktS_cons] at ha
    have hin : ∀ (d j : Nat) (acc : List Entry), j + d = (x0.getD i zSto).1.length → acc.length + d + ktS (x0.drop (i + 1)) ≤ 1048576 → Ev (fun k => spec_l11Union.p13 k x0 acc (i : Int) (j : Int)) (unionL (keepsL acc ((x0.getD i zSto).1.drop j)) (x0.drop (i + 1))) := by
      have hsl := (hx.2 _ (getD_mem (d := zSto) hlt)).1.1
      intro d
      induction d with
      | zero =>
        intro j acc hj hacc
        refine Ev.succ ?_
        simp only [spec_l11Union.p13, Int.toNat_natCast]
        rw [wrap_up hlt (by omega), List.drop_eq_nil_of_le (by omega)]
        exact Ev.pos (by omega) (Ev.neg (show ¬ (j : Int) < (((x0.getD i zSto).1.length : Nat) : Int) by omega) (ih (i + 1) acc (by omega) (by omega)))
      | succ d ihd =>
        intro j acc hj hacc
        have hkl := keepL_len acc ((x0.getD i zSto).1.getD j zEnt)
        refine Ev.succ ?_
        simp only [spec_l11Union.p13, Int.toNat_natCast]
        rw [wrap_up (i := j) (n := (x0.getD i zSto).1.length) (by omega) (by omega), drop_get (d := zEnt) (by omega : j < (x0.getD i zSto).1.length)]
        refine Ev.pos (by omega) (Ev.pos (show (j : Int) < (((x0.getD i zSto).1.length : Nat) : Int) by omega) (Ev.pos (by omega) (Ev.pos (show (0 : Int) ≤ (j : Int) ∧ (j : Int) < (((x0.getD i zSto).1.length : Nat) : Int) by omega) (Ev.bind (spec_l6Keep_ev acc _ (by omega)) ?_))))
        exact ihd (j + 1) _ (by omega) (by show (keepL acc ((x0.getD i zSto).1.getD j zEnt)).length + d + _ ≤ _; omega)
    refine Ev.succ ?_
    simp only [spec_l11Union.p7]
    rw [drop_get (d := zSto) hlt]
    exact Ev.pos (by omega) (hin (x0.getD i zSto).1.length 0 acc (by omega) (by omega))
theorem spec_l11Union_ev (x0 : List Store) (hx : StG x0) (hk : ktS x0 ≤ 1048576) : Ev (fun k => spec_l11Union.f k x0) (unionL [] x0) :=
  spec_l11Union_ll x0 hx x0.length 0 [] (by omega) (by simpa using hk)

noncomputable def fillF (a : Config) (l : List Store) (lost : List Int) (node upto : Int) : Store × Bool :=
  if ((l.length : Nat) : Int) = ((a.1.length : Nat) : Int) ∧ lostB a lost = true ∧ lost.contains node = true then fillG (othersL lost 0 l) upto else (zSto, false)
theorem spec_Fill_b (x1 : List Store) (upto : Int) (h : StG x1) (hk : ktS x1 ≤ 1048576) (z : Store) : ∀ (m i : Nat), i + m = x1.length → Ev (fun k => spec_Fill.p23 k upto x1 (i : Int) z zSto) (if (x1.drop i).all storeB = true then (if storeB (fillS x1 upto) = true then (fillS x1 upto, true) else (zSto, false)) else (zSto, false)) := by
  have hxl := h.1
  intro m
  induction m with
  | zero =>
    intro i hi
    refine Ev.succ ?_
    simp only [spec_Fill.p23]
    rw [List.drop_eq_nil_of_le (by omega)]
    have hu := unionL_EG x1 h hk
    refine Ev.neg (by omega) (Ev.bind (spec_l11Union_ev x1 h hk) (Ev.bind (spec_StoreOk_ev (fillS x1 upto) hu.1 (Nat.zero_le _) hu.at (fun i hi => absurd hi (Nat.not_lt_zero _))) ?_))
    exact Ev.ite (fun _ => Ev.ret) (fun _ => Ev.ret)
  | succ m ih =>
    intro i hi
    have hlt : i < x1.length := by omega
    refine Ev.succ ?_
    simp only [spec_Fill.p23, Int.toNat_natCast]
    rw [wrap_up hlt (by omega), drop_get (d := zSto) hlt, List.all_cons]
    refine Ev.pos (by omega) (Ev.pos (by omega) (Ev.bind (h.ok hlt) ?_))
    by_cases hb : storeB (x1.getD i zSto) = true
    · rw [hb, Bool.true_and]; exact Ev.pos rfl (ih (i + 1) (by omega))
    · rw [Bool.not_eq_true] at hb
      rw [hb, Bool.false_and]; exact Ev.neg (by decide) Ev.ret
theorem spec_Fill_l (x0 : List Store) (lost : List Int) (upto : Int) (h : StG x0) (hk : ktS x0 ≤ 1048576) (hl : lost.length ≤ 1048576) (z : Store) : ∀ (m i : Nat) (o : List Store), i + m = x0.length → o.length ≤ i → o ++ othersL lost i (x0.drop i) = othersL lost 0 x0 → Ev (fun k => spec_Fill.p13 k x0 lost upto o (i : Int) z zSto) (fillG (othersL lost 0 x0) upto) := by
  have hxl := h.1
  intro m
  induction m with
  | zero =>
    intro i o hi ho he
    refine Ev.succ ?_
    simp only [spec_Fill.p13]
    rw [List.drop_eq_nil_of_le (by omega)] at he
    have he : o = othersL lost 0 x0 := by rw [← he]; simp [othersL]
    rw [he]
    exact Ev.neg (by omega) (spec_Fill_b _ upto (h.others 0) (Nat.le_trans othersL_len.2 hk) z _ 0 (Nat.zero_add _))
  | succ m ih =>
    intro i o hi ho he
    have hlt : i < x0.length := by omega
    refine Ev.succ ?_
    simp only [spec_Fill.p13, Int.toNat_natCast]
    rw [wrap_up hlt (by omega)]
    rw [drop_get (d := zSto) hlt] at he
    refine Ev.pos (by omega) (Ev.bind (spec_l4Has_ev lost (i : Int) hl) ?_)
    rw [othersL_cons] at he
    by_cases hc : lost.contains (i : Int) = true
    · rw [if_pos hc] at he
      exact Ev.pos hc (ih (i + 1) o (by omega) (by omega) he)
    · rw [if_neg hc] at he
      exact Ev.neg hc (Ev.pos (by omega) (Ev.pos (by simp only [lim_eq, List.length_cons, List.length_nil]; omega) (ih (i + 1) _ (by omega) (by simp; omega) (by rw [List.append_assoc]; exact he))))
theorem spec_Fill_ev (a : Config) (l : List Store) (lost : List Int) (node upto : Int) (ha : a.1.length ≤ 1048576) (h : StG l) (hk : ktS l ≤ 1048576) (hl : lost.length ≤ 1048576) : Ev (fun k => spec_Fill.f k a l lost node upto) (fillF a l lost node upto) := by
  simp only [spec_Fill.f]
  unfold fillF
  refine Ev.bind (spec_ConfigOk_ev a ha) ?_
  by_cases hc : cfgB a = true
  case neg =>
    have : ¬ lostB a lost = true := fun h => by
      simp only [lostB, nodesB, Bool.and_eq_true] at h
      exact hc h.1.1
    rw [if_neg (fun h => this h.2.1)]
    exact Ev.neg hc Ev.ret
  refine Ev.pos hc ?_
  by_cases h1 : ((l.length : Nat) : Int) = ((a.1.length : Nat) : Int)
  case neg => rw [if_neg (fun h => h1 h.1)]; exact Ev.neg h1 Ev.ret
  refine Ev.pos h1 (Ev.bind (spec_LostOk_ev a lost ha hl) ?_)
  by_cases h2 : lostB a lost = true
  case neg => rw [if_neg (fun h => h2 h.2.1)]; exact Ev.neg h2 Ev.ret
  refine Ev.pos h2 (Ev.bind (spec_l4Has_ev lost node hl) ?_)
  by_cases h3 : lost.contains node = true
  case neg => rw [if_neg (fun h => h3 h.2.2)]; exact Ev.neg h3 Ev.ret
  rw [if_pos ⟨h1, h2, h3⟩]
  exact Ev.pos h3 (spec_Fill_l l lost upto h hk hl _ l.length 0 [] (by omega) (by simp) rfl)

theorem impl_within_is (x a b : Int) : impl_within.f x a b = some (inB x a b) := ite_inB x a b

theorem impl_ConfigOk_ev (a : Config) (hl : a.1.length ≤ 1048576) : Ev (fun k => impl_ConfigOk.f k a) (cfgB a) := by
  have h := all_loop (n := a.1.length) (p := fun k i => impl_ConfigOk.p5 k a.1 ((a.1.length : Nat) : Int) i a) (q := fun i => inB (a.1.getD i 0) 0 7) (zb := inB ((a.1.length : Nat) : Int) 1 8 && (inB a.2.1 1 4 && true)) (fun i hi b hb => by
    simp only [impl_ConfigOk.p5, impl_within_is]
    refine Ev.pos (by omega) (Ev.pos (by omega) (Ev.bindc rfl (Ev.and fun _ => ?_)))
    rw [wrap_up hi (by omega)]; exact hb) (by
    simp only [impl_ConfigOk.p5, impl_within_is]
    refine Ev.neg (by omega) (Ev.bindc rfl (Ev.and fun _ => Ev.bindc rfl (Ev.ret.eq (by simp))))) a.1.length 0 (by omega)
  refine (Ev.cg h fun k => rfl).eq ?_
  unfold cfgB
  cases inB ((a.1.length : Nat) : Int) 1 8 <;> cases inB a.2.1 1 4 <;> simp

theorem impl_ascends_ev (l : List Int) (hi : Int) (hl : l.length ≤ 1048576) : Ev (fun k => impl_ascends.f k l hi) (ascB l 0 hi) := by
  have h := all_loop (n := l.length) (p := fun k i => impl_ascends.p5 k l hi l ((l.length : Nat) : Int) i) (q := fun i => inB (l.getD i 0) 0 hi && (decide (i = 0) || !decide (l.getD i 0 ≤ l.getD (i - 1) 0))) (zb := true) (fun i hi' b hb => by
    simp only [impl_ascends.p5, impl_within_is]
    refine Ev.pos (by omega) (Ev.pos (by omega) (Ev.bindc rfl ?_))
    rw [Bool.and_assoc]
    refine Ev.and fun _ => ?_
    rw [wrap_up hi' (by omega)]
    by_cases h0 : i = 0
    · subst h0
      exact (Ev.neg (by omega) hb).eq (by simp)
    · have e : wrap64 ((i : Int) - 1) = ((i - 1 : Nat) : Int) := by rw [wrap64_id (by omega) (by omega)]; omega
      rw [e]
      refine Ev.pos (by omega) (Ev.pos (by omega) ?_)
      rw [decide_eq_false h0, Bool.false_or]
      exact Ev.nand fun _ => hb) (by
    simp only [impl_ascends.p5]
    exact Ev.neg (by omega) Ev.ret) l.length 0 (by omega)
  exact (Ev.cg h fun k => rfl).eq (by unfold ascB; rw [Bool.and_true])

theorem impl_NodesOk_ev (a : Config) (l : List Int) (ha : a.1.length ≤ 1048576) (hl : l.length ≤ 1048576) : Ev (fun k => impl_NodesOk.f k a l) (nodesB a l) := by
  simp only [impl_NodesOk.f, nodesB]
  refine Ev.bind (impl_ConfigOk_ev a ha) (Ev.and fun _ => ?_)
  rw [wrap64_id (by omega) (by omega)]
  exact Ev.bind (impl_ascends_ev l _ hl) Ev.ret

theorem slices_Index_l (l : List Int) (x : Int) (hl : l.length ≤ 1048576) : ∀ (m i : Nat), i + m = l.length → ∃ r : Int, Ev (fun k => slices_Index_int_int.p5 k l x ((l.length : Nat) : Int) (i : Int)) r ∧ (decide (0 ≤ r) = (l.drop i).contains x) := by
  intro m
  induction m with
  | zero =>
    intro i h
    refine ⟨-1, Ev.succ ?_, by rw [List.drop_eq_nil_of_le (by omega)]; rfl⟩
    simp only [slices_Index_int_int.p5]
    exact Ev.neg (by omega) Ev.ret
  | succ m ih =>
    intro i h
    have hi : i < l.length := by omega
    rw [drop_get (d := (0 : Int)) hi]
    by_cases hx : x = l.getD i 0
    · refine ⟨i, Ev.succ ?_, by simp [hx]⟩
      simp only [slices_Index_int_int.p5, Int.toNat_natCast]
      exact Ev.pos (by omega) (Ev.pos (by omega) (Ev.pos hx Ev.ret))
    · obtain ⟨r, h1, h2⟩ := ih (i + 1) (by omega)
      refine ⟨r, Ev.succ ?_, by rw [h2, List.contains_cons, beq_eq_false_iff_ne.2 hx, Bool.false_or]⟩
      simp only [slices_Index_int_int.p5, Int.toNat_natCast]
      refine Ev.pos (by omega) (Ev.pos (by omega) (Ev.neg hx ?_))
      rw [wrap_up hi (by omega)]; exact h1

theorem slices_Contains_ev (l : List Int) (x : Int) (hl : l.length ≤ 1048576) : Ev (fun k => slices_Contains_int_int.f k l x) (l.contains x) := by
  obtain ⟨r, h1, h2⟩ := slices_Index_l l x hl l.length 0 (by omega)
  simp only [slices_Contains_int_int.f, slices_Index_int_int.f]
  exact (Ev.bind h1 (Ev.ret (v := decide (0 ≤ r)))).eq (by rw [h2, List.drop_zero])

theorem impl_SpanOf_l (a : Config) (l : List Int) (hl : l.length ≤ 1048576) (hmem : ∀ i, i < l.length → 0 ≤ l.getD i 0 ∧ l.getD i 0 < ((a.1.length : Nat) : Int)) :
    ∀ (m i : Nat) (acc : List Int), i + m = l.length → acc.length ≤ i → Ev (fun k => impl_SpanOf.p11 k acc l ((l.length : Nat) : Int) (i : Int) a) ((domsOf a (l.drop i) acc).length : Int) := by
  intro m
  induction m with
  | zero =>
    intro i acc h ha
    refine Ev.succ ?_
    simp only [impl_SpanOf.p11]
    rw [List.drop_eq_nil_of_le (by omega)]
    exact Ev.neg (by omega) Ev.ret
  | succ m ih =>
    intro i acc h ha
    have hi : i < l.length := by omega
    have hn := hmem i hi
    refine Ev.succ ?_
    simp only [impl_SpanOf.p11, Int.toNat_natCast]
    rw [drop_get (d := (0 : Int)) hi]
    simp only [domsOf]
    generalize hw : a.1.getD (l.getD i 0).toNat 0 = x at *
    refine Ev.pos (by omega) (Ev.pos (by omega) (Ev.pos (by omega) (Ev.bind (slices_Contains_ev acc x (by omega)) ?_)))
    rw [wrap_up hi (by omega)]
    by_cases hc : acc.contains x = true
    · rw [if_pos hc]
      exact Ev.pos hc (ih (i + 1) acc (by omega) (by omega))
    · rw [if_neg hc]
      refine Ev.neg hc (Ev.pos (by omega) (Ev.pos (by simp [lim_eq]; omega) ?_))
      exact ih (i + 1) (acc ++ [x]) (by omega) (by simp; omega)
theorem impl_SpanOf_ev (a : Config) (l : List Int) (ha : a.1.length ≤ 1048576) (hl : l.length ≤ 1048576) : Ev (fun k => impl_SpanOf.f k a l) (if nodesB a l = true then spanOf a l else -1) := by
  simp only [impl_SpanOf.f]
  refine Ev.bind (impl_NodesOk_ev a l ha hl) (Ev.ite (fun h => ?_) fun _ => Ev.ret)
  simp only [nodesB, Bool.and_eq_true] at h
  have := impl_SpanOf_l a l hl (fun i hi => by have := ascB_mem h.2 hi; omega) l.length 0 [] (by omega) (by simp)
  rw [List.drop_zero] at this
  exact this

theorem impl_Holds_ev (a : Config) (l : List Int) (ha : a.1.length ≤ 1048576) (hl : l.length ≤ 1048576) : Ev (fun k => impl_Holds.f k a l) (holdsB a l) := by
  simp only [impl_Holds.f, holdsB]
  refine Ev.bind (impl_NodesOk_ev a l ha hl) (Ev.and fun h => Ev.bind (impl_SpanOf_ev a l ha hl) ?_)
  rw [if_pos h]; exact Ev.ret

theorem impl_LostOk_ev (a : Config) (l : List Int) (ha : a.1.length ≤ 1048576) (hl : l.length ≤ 1048576) : Ev (fun k => impl_LostOk.f k a l) (lostB a l) := by
  simp only [impl_LostOk.f]
  unfold lostB
  exact Ev.bind (impl_NodesOk_ev a l ha hl) (Ev.and fun _ => Ev.bind (impl_Holds_ev a l ha hl) (Ev.ret.eq (by cases holdsB a l <;> rfl)))

theorem impl_PlaceOk_is (x : Int) (hx : InR x) : impl_PlaceOk.f x = some (placeOk x) := by
  have h1 := hx.1; have h2 := hx.2
  simp only [impl_PlaceOk.f, placeOk, impl_isEpoch.f, impl_isOff.f, impl_within_is]
  by_cases h : 0 < x
  · rw [tdiv_pos (by omega), tmod_pos (by omega), wrap64_id (by omega) (by omega)]
    cases inB (x / 4294967296) 1 30 <;> simp [h]
  · rw [tdiv_neg' (by omega), wrap64_id (by omega) (by omega), show inB (-(-x / 4294967296)) 1 30 = false by
      rw [Bool.eq_false_iff]
      intro he
      rw [inB_true] at he
      omega]
    simp [h]

theorem impl_dataOk_is (s : ByteArray) : impl_dataOk.f s = some (!decide ((40 : Int) < ((s.size : Nat) : Int))) := by
  simp only [impl_dataOk.f]
  by_cases h : ((s.size : Nat) : Int) ≤ 40
  · rw [decide_eq_true h, decide_eq_false (by omega)]; rfl
  · rw [decide_eq_false h, decide_eq_true (by omega)]; rfl

theorem impl_EpochOf_is (x : Int) (hx : InR x) : impl_EpochOf.f x = some (epochOf x) := by
  have h2 := hx.2
  simp only [impl_EpochOf.f, impl_PlaceOk_is x hx, Option.bind_some, epochOf]
  by_cases h : placeOk x = true
  · have := placeOk_pos h
    rw [if_pos h, if_pos h, tdiv_pos (by omega), wrap64_id (by omega) (by omega)]
  · rw [if_neg h, if_neg h]

theorem impl_EntryOk_ev (e : Entry) (ha : InR e.1) : Ev (fun k => impl_EntryOk.f k e) (entB e) := by
  have h6 : ∀ p q : Bool, Ev (fun k => impl_EntryOk.p6 k p q e) (placeOk e.1 && (p && (q && decide (((e.2.2.2.1.size : Nat) : Int) ≤ 40)))) := fun p q => by
    refine Ev.succ ?_
    simp only [impl_EntryOk.p6, impl_PlaceOk_is _ ha, impl_dataOk.f, Option.bind_some]
    exact Ev.and fun _ => Ev.and fun _ => Ev.and fun _ => Ev.ret
  have h4 : ∀ p : Bool, Ev (fun k => impl_EntryOk.p4 k p e) (placeOk e.1 && (p && ((!e.2.2.1 || (decide (0 < e.2.1) && decide (e.2.2.2.1 = (⟨#[]⟩ : ByteArray)))) && decide (((e.2.2.2.1.size : Nat) : Int) ≤ 40)))) := fun p => by
    refine Ev.succ ?_
    simp only [impl_EntryOk.p4]
    cases hc : e.2.2.1 with
    | true =>
      refine Ev.pos rfl ?_
      by_cases h0 : (0 : Int) < e.2.1
      · exact (Ev.pos h0 (h6 p _)).eq (by rw [decide_eq_true h0]; simp)
      · exact (Ev.neg h0 (h6 p _)).eq (by rw [decide_eq_false h0]; simp)
    | false => exact (Ev.neg (by decide) (h6 p _)).eq (by simp)
  simp only [impl_EntryOk.f, impl_EpochOf_is _ ha, impl_within_is, Option.bind_some]
  have key : ∀ v : Bool, v = (inB e.2.1 0 30 && !(decide (0 < e.2.1) && decide (e.2.1 ≤ epochOf e.1))) → Ev (fun k => impl_EntryOk.p4 k v e) (entB e) := fun v hv => (h4 v).eq (by
    unfold entB
    rw [hv]
    cases placeOk e.1 <;> cases inB e.2.1 0 30 <;> cases decide ((0 : Int) < e.2.1) <;> cases decide (e.2.1 ≤ epochOf e.1) <;> cases e.2.2.1 <;> cases decide (((e.2.2.2.1.size : Nat) : Int) ≤ 40) <;> cases decide (e.2.2.2.1 = (⟨#[]⟩ : ByteArray)) <;> rfl)
  by_cases hi : inB e.2.1 0 30 = true
  · have hb := inB_true.1 hi
    refine Ev.pos hi ?_
    by_cases h0 : e.2.1 = 0
    · exact Ev.pos h0 (key true (by rw [hi, decide_eq_false (show ¬ (0 : Int) < e.2.1 by omega)]; rfl))
    · refine Ev.neg h0 (key _ ?_)
      rw [hi, decide_eq_true (show (0 : Int) < e.2.1 by omega)]
      by_cases h1 : epochOf e.1 < e.2.1
      · rw [decide_eq_true h1, decide_eq_false (by omega)]; rfl
      · rw [decide_eq_false h1, decide_eq_true (by omega)]; rfl
  · exact Ev.neg hi (key false (by rw [Bool.not_eq_true] at hi; rw [hi]; rfl))

theorem impl_entriesOk_ev (l : List Entry) (hl : l.length ≤ 1048576) (ha : ∀ i, i < l.length → InR (l.getD i zEnt).1) : Ev (fun k => impl_entriesOk.f k l) (entsB l) := by
  have h := all_loop (n := l.length) (p := fun k i => impl_entriesOk.p5 k l ((l.length : Nat) : Int) i) (q := fun i => entB (l.getD i zEnt)) (zb := true) (fun i hi b hb => by
    simp only [impl_entriesOk.p5, Int.toNat_natCast]
    rw [wrap_up hi (by omega)]
    exact Ev.pos (by omega) (Ev.pos (by omega) (Ev.bind (impl_EntryOk_ev _ (ha i hi)) (Ev.and fun _ => hb)))) (by
    simp only [impl_entriesOk.p5]
    exact Ev.neg (by omega) Ev.ret) l.length 0 (by omega)
  rw [Bool.and_true] at h
  exact h

theorem impl_placesAscend_ev (l : List Entry) (hl : l.length ≤ 1048576) : Ev (fun k => impl_placesAscend.f k l) (ascE l) := by
  have h := all_loop (n := l.length) (p := fun k i => impl_placesAscend.p5 k l l ((l.length : Nat) : Int) i) (q := fun i => !(decide (0 < i) && decide ((l.getD i zEnt).1 ≤ (l.getD (i - 1) zEnt).1))) (zb := true) (fun i hi b hb => by
    simp only [impl_placesAscend.p5, Int.toNat_natCast]
    rw [wrap_up hi (by omega)]
    refine Ev.pos (by omega) (Ev.pos (by omega) ?_)
    by_cases h0 : i = 0
    · subst h0
      exact (Ev.neg (by omega) hb).eq (by rfl)
    · have e2 : wrap64 ((i : Int) - 1) = ((i - 1 : Nat) : Int) := by rw [wrap64_id (by omega) (by omega)]; omega
      rw [e2, decide_eq_true (show 0 < i by omega), Bool.true_and, Int.toNat_natCast]
      exact Ev.pos (by omega) (Ev.pos (by omega) (Ev.nand fun _ => hb))) (by
    simp only [impl_placesAscend.p5]
    exact Ev.neg (by omega) Ev.ret) l.length 0 (by omega)
  rw [Bool.and_true] at h
  exact h

theorem impl_StoreOk_ev (s : Store) (h1 : s.1.length ≤ 1048576) (h2 : s.2.1.length ≤ 1048576) (a1 : ∀ i, i < s.1.length → InR (s.1.getD i zEnt).1) (a2 : ∀ i, i < s.2.1.length → InR (s.2.1.getD i zEnt).1) : Ev (fun k => impl_StoreOk.f k s) (storeB s) := by
  simp only [impl_StoreOk.f, impl_within_is, Option.bind_some, storeB]
  refine (Ev.nand fun _ => Ev.nand fun _ => Ev.bind (impl_entriesOk_ev s.1 h1 a1) (Ev.and fun _ => Ev.bind (impl_entriesOk_ev s.2.1 h2 a2) (Ev.and fun _ => Ev.bind (impl_placesAscend_ev s.1 h1) (Ev.and fun _ => Ev.ret)))).eq ?_
  rw [ndec, ndec]
  cases decide (((s.1.length : Nat) : Int) ≤ 200) <;> cases entsB s.1 <;> cases decide (((s.2.1.length : Nat) : Int) ≤ 20) <;> cases entsB s.2.1 <;> simp
theorem StG.ok' {l : List Store} (h : StG l) {i : Nat} (hi : i < l.length) : Ev (fun k => impl_StoreOk.f k (l.getD i zSto)) (storeB (l.getD i zSto)) := by
  have := h.2 _ (getD_mem (d := zSto) hi)
  exact impl_StoreOk_ev _ this.1.1 this.2.1.1 this.1.at this.2.1.at

theorem slices_BinarySearchFunc_ev (l : List Entry) (x : Int) (hl : l.length ≤ 1048576) (ha : AscE l) : ∃ i : Nat, i ≤ l.length ∧ (∀ q, q < i → (l.getD q ((0 : Int), ((0 : Int), (false, ((⟨#[]⟩ : ByteArray), ()))))).1 < x) ∧ (∀ q, i ≤ q → q < l.length → x ≤ (l.getD q ((0 : Int), ((0 : Int), (false, ((⟨#[]⟩ : ByteArray), ()))))).1) ∧
    Ev (fun k => slices_BinarySearchFunc_impl_Entry_impl_Entry_int_impl_placeIn_1.f k l x ()) ((i : Int), decide (i < l.length ∧ (l.getD i ((0 : Int), ((0 : Int), (false, ((⟨#[]⟩ : ByteArray), ()))))).1 = x)) := by
  let g : Nat → Int := fun q => (l.getD q ((0 : Int), ((0 : Int), (false, ((⟨#[]⟩ : ByteArray), ()))))).1
  have hex : ∃ i : Nat, i ≤ l.length ∧ (∀ q, q < i → g q < x) ∧ (∀ q, i ≤ q → q < l.length → x ≤ g q) := by
    have : ∀ d : Nat, d ≤ l.length → (∀ q, d ≤ q → q < l.length → x ≤ g q) → ∃ i : Nat, i ≤ l.length ∧ (∀ q, q < i → g q < x) ∧ (∀ q, i ≤ q → q < l.length → x ≤ g q) := by
      intro d
      induction d with
      | zero => intro _ h; exact ⟨0, by omega, fun q hq => absurd hq (Nat.not_lt_zero _), h⟩
      | succ d ih =>
        intro hd h
        by_cases hx : x ≤ g d
        · exact ih (by omega) fun q hq hql => by
            by_cases e : q = d
            · subst e; exact hx
            · exact h q (by omega) hql
        · exact ⟨d + 1, hd, fun q hq => by
            by_cases e : q = d
            · subst e; omega
            · have : g q < g d := ha q d (by omega) (by omega)
              omega, h⟩
    exact this l.length (Nat.le_refl _) fun q h1 h2 => absurd h2 (by omega)
  obtain ⟨i0, h1, h2, h3⟩ := hex
  refine ⟨i0, h1, h2, h3, ?_⟩
  have cmp : ∀ q, ∃ r : Int, impl_placeIn_1.f (l.getD q ((0 : Int), ((0 : Int), (false, ((⟨#[]⟩ : ByteArray), ()))))) x = some r ∧ decide (r < 0) = decide (g q < x) ∧ decide (r = 0) = decide (g q = x) := fun q => by
    simp only [impl_placeIn_1.f]
    by_cases c1 : g q < x
    · exact ⟨-1, by rw [if_pos c1], by simp [c1], by have : ¬ g q = x := (by omega); simp [this]⟩
    · rw [if_neg c1]
      by_cases c2 : x < g q
      · exact ⟨1, by rw [if_pos c2], by simp [c1], by have : ¬ g q = x := (by omega); simp [this]⟩
      · exact ⟨0, by rw [if_neg c2], by simp [c1], by have : g q = x := (by omega); simp [this]⟩
  refine Ev.cg (bs_loop (n := l.length) (p := fun k i j => slices_BinarySearchFunc_impl_Entry_impl_Entry_int_impl_placeIn_1.p7 k l x () ((l.length : Nat) : Int) i j) (lt := fun q => decide (g q < x)) (fun q r hqr hr h => ?_) (fun i j hij hj b ht hf => ?_) (fun i hi ht hf => ?_) l.length 0 l.length (by omega) (by omega) (Nat.le_refl _) (fun q hq => absurd hq (Nat.not_lt_zero _)) (fun q h1 h2 => absurd h2 (by omega))) fun k => rfl
  · simp only [decide_eq_true_eq] at h ⊢
    by_cases e : q = r
    · subst e; exact h
    · have : g q < g r := ha q r (by omega) hr
      omega
  · simp only [slices_BinarySearchFunc_impl_Entry_impl_Entry_int_impl_placeIn_1.p7, mid_is hij hj (by omega : l.length ≤ _), Int.toNat_natCast]
    rw [wrap_up (i := (i + j) / 2) (n := l.length) (by omega) (by omega)]
    obtain ⟨r, k1, k2, _⟩ := cmp ((i + j) / 2)
    refine Ev.pos (by omega) (Ev.pos (by omega) (Ev.bindc k1 ?_))
    by_cases hc : g ((i + j) / 2) < x
    · have hr : r < 0 := by rw [decide_eq_true hc] at k2; simpa using k2
      exact Ev.pos hr (ht (by simpa using hc))
    · have hr : ¬ r < 0 := by rw [decide_eq_false hc] at k2; simpa using k2
      exact Ev.neg hr (hf (by simpa using hc))
  · have e : i = i0 := by
      simp only [decide_eq_true_eq, decide_eq_false_iff_not] at ht hf
      rcases Nat.lt_trichotomy i i0 with h | h | h
      · exact absurd (h2 i h) (hf i (Nat.le_refl _) (by omega))
      · exact h
      · have := ht i0 h; have := h3 i0 (Nat.le_refl _) (by omega); omega
    subst e
    simp only [slices_BinarySearchFunc_impl_Entry_impl_Entry_int_impl_placeIn_1.p7, Int.toNat_natCast]
    refine Ev.neg (by omega) ?_
    by_cases hl2 : i < l.length
    · obtain ⟨r, k1, _, k3⟩ := cmp i
      exact Ev.pos (by omega) (Ev.pos (by omega) (Ev.bindc k1 (Ev.ret.eq (by rw [k3, show decide (g i = x) = decide (i < l.length ∧ g i = x) by by_cases q : g i = x <;> simp [hl2, q]]))))
    · exact Ev.neg (by omega) (Ev.ret.eq (by rw [decide_eq_false (fun h => hl2 h.1)]))

theorem impl_placeIn_ev (l : List Entry) (x : Int) (hl : l.length ≤ 1048576) (ha : AscE l) : ∃ i : Nat, i ≤ l.length ∧ (∀ q, q < i → (l.getD q ((0 : Int), ((0 : Int), (false, ((⟨#[]⟩ : ByteArray), ()))))).1 < x) ∧ (∀ q, i ≤ q → q < l.length → x ≤ (l.getD q ((0 : Int), ((0 : Int), (false, ((⟨#[]⟩ : ByteArray), ()))))).1) ∧
    Ev (fun k => impl_placeIn.f k l x) ((i : Int), decide (i < l.length ∧ (l.getD i ((0 : Int), ((0 : Int), (false, ((⟨#[]⟩ : ByteArray), ()))))).1 = x)) := by
  obtain ⟨i, h1, h2, h3, h4⟩ := slices_BinarySearchFunc_ev l x hl ha
  exact ⟨i, h1, h2, h3, Ev.bind h4 Ev.ret⟩

theorem impl_kept_ev (l : List Entry) (e : Entry) (hl : l.length ≤ 1048576) (ha : AscE l) : Ev (fun k => impl_kept.f k l e) (keepL l e) := by
  obtain ⟨i, h1, h2, h3, h4⟩ := impl_placeIn_ev l e.1 hl ha
  simp only [impl_kept.f]
  refine Ev.bind h4 ?_
  simp only [Int.toNat_natCast]
  by_cases hc : i < l.length ∧ (l.getD i ((0 : Int), ((0 : Int), (false, ((⟨#[]⟩ : ByteArray), ()))))).1 = e.1
  · refine Ev.pos (by simpa using hc) (Ev.pos (by omega) (Ev.bindc (a := better (l.getD i ((0 : Int), ((0 : Int), (false, ((⟨#[]⟩ : ByteArray), ()))))) e) ?_ (Ev.pos (by omega) (Ev.ret.eq (keepL_set hc.1 h2 hc.2)))))
    unfold impl_Better.f better; split <;> rfl
  · refine Ev.neg (by simpa using hc) ?_
    simp only [slices_Insert_impl_Entry_impl_Entry.f, Int.toNat_natCast]
    refine Ev.bindc (a := keepL l e) ?_ Ev.ret
    rw [if_pos ⟨by omega, by omega, rfl, by rw [lim_eq]; omega⟩, keepL_ins h1 h2 (fun h => by
      have := h3 i (Nat.le_refl _) h
      by_cases q : (l.getD i ((0 : Int), ((0 : Int), (false, ((⟨#[]⟩ : ByteArray), ()))))).1 = e.1
      · exact absurd ⟨h, q⟩ hc
      · omega)]

theorem impl_Union_ll (x0 : List Store) (hx : StG x0) : ∀ (m i : Nat) (acc : List Entry), i + m = x0.length → acc.length + ktS (x0.drop i) ≤ 1048576 → AscE acc → Ev (fun k => impl_Union.p7 k acc x0 ((x0.length : Nat) : Int) (i : Int)) (if (x0.drop i).all storeB = true then unionL acc (x0.drop i) else []) := by
  have hxl := hx.1
  intro m
  induction m with
  | zero =>
    intro i acc hi ha hA
    refine Ev.succ ?_
    simp only [impl_Union.p7]
    rw [List.drop_eq_nil_of_le (by omega)]
    exact Ev.neg (by omega) Ev.ret
  | succ m ih =>
    intro i acc hi ha hA
    have hlt : i < x0.length := by omega
    rw [drop_get (d := zSto) hlt, ktS_cons] at ha
    have hin : ∀ (d j : Nat) (acc : List Entry), j + d = (x0.getD i zSto).1.length → acc.length + d + ktS (x0.drop (i + 1)) ≤ 1048576 → AscE acc → Ev (fun k => impl_Union.p17 k acc x0 ((x0.length : Nat) : Int) (i : Int) (x0.getD i zSto).1 (((x0.getD i zSto).1.length : Nat) : Int) (j : Int)) (if (x0.drop (i + 1)).all storeB = true then unionL (keepsL acc ((x0.getD i zSto).1.drop j)) (x0.drop (i + 1)) else []) := by
      have hsl := (hx.2 _ (getD_mem (d := zSto) hlt)).1.1
      intro d
      induction d with
      | zero =>
        intro j acc hj hacc hA
        refine Ev.succ ?_
        simp only [impl_Union.p17]
        rw [wrap_up hlt (by omega), @List.drop_eq_nil_of_le _ (x0.getD i zSto).1 j (by omega)]
        exact Ev.neg (by omega) (ih (i + 1) acc (by omega) (by omega) hA)
      | succ d ihd =>
        intro j acc hj hacc hA
        have hkl := keepL_len acc ((x0.getD i zSto).1.getD j zEnt)
        refine Ev.succ ?_
        simp only [impl_Union.p17, Int.toNat_natCast]
        rw [wrap_up (i := j) (n := (x0.getD i zSto).1.length) (by omega) (by omega), drop_get (d := zEnt) (by omega : j < (x0.getD i zSto).1.length)]
        refine Ev.pos (by omega) (Ev.pos (by omega) (Ev.bind (impl_kept_ev acc _ (by omega) hA) ?_))
        exact ihd (j + 1) _ (by omega) (by show (keepL acc ((x0.getD i zSto).1.getD j zEnt)).length + d + _ ≤ _; omega) hA.keep
    refine Ev.succ ?_
    simp only [impl_Union.p7, Int.toNat_natCast]
    rw [drop_get (d := zSto) hlt, List.all_cons]
    refine Ev.pos (by omega) (Ev.pos (by omega) (Ev.bind (hx.ok' hlt) ?_))
    by_cases hb : storeB (x0.getD i zSto) = true
    · rw [hb, Bool.true_and]; exact Ev.pos rfl (hin (x0.getD i zSto).1.length 0 acc (by omega) (by omega) hA)
    · rw [Bool.not_eq_true] at hb
      rw [hb, Bool.false_and]; exact Ev.neg (by decide) Ev.ret
theorem impl_Union_ev (x0 : List Store) (hx : StG x0) (hk : ktS x0 ≤ 1048576) : Ev (fun k => impl_Union.f k x0) (unionF x0) :=
  impl_Union_ll x0 hx x0.length 0 [] (by omega) (by simpa using hk) (fun q r _ h => by simp at h)

theorem impl_Fill_l (x0 : List Store) (lost : List Int) (upto : Int) (h : StG x0) (hk : ktS x0 ≤ 1048576) (hl : lost.length ≤ 1048576) (z : Store) : ∀ (m i : Nat) (o : List Store), i + m = x0.length → o.length ≤ i → o.all storeB = true → o ++ othersL lost i (x0.drop i) = othersL lost 0 x0 → Ev (fun k => impl_Fill.p11 k lost upto o x0 ((x0.length : Nat) : Int) (i : Int) z) (fillG (othersL lost 0 x0) upto) := by
  have hxl := h.1
  intro m
  induction m with
  | zero =>
    intro i o hi ho hall he
    refine Ev.succ ?_
    simp only [impl_Fill.p11]
    rw [List.drop_eq_nil_of_le (by omega)] at he
    have he : o = othersL lost 0 x0 := by rw [← he]; simp [othersL]
    subst he
    have ho2 := h.others (lost := lost) 0
    have hk2 := Nat.le_trans (othersL_len (lost := lost) (l := x0) (i := 0)).2 hk
    have hu := unionL_EG _ ho2 hk2
    have hun := impl_Union_ev _ ho2 hk2
    unfold unionF at hun
    rw [if_pos hall] at hun
    unfold fillG
    rw [if_pos hall]
    refine Ev.neg (by omega) (Ev.bind hun (Ev.bind (impl_StoreOk_ev (fillS (othersL lost 0 x0) upto) hu.1 (Nat.zero_le _) hu.at (fun i hi => absurd hi (Nat.not_lt_zero _))) ?_))
    exact Ev.ite (fun _ => Ev.ret) (fun _ => Ev.ret)
  | succ m ih =>
    intro i o hi ho hall he
    have hlt : i < x0.length := by omega
    refine Ev.succ ?_
    simp only [impl_Fill.p11, Int.toNat_natCast]
    rw [wrap_up hlt (by omega)]
    rw [drop_get (d := zSto) hlt] at he
    refine Ev.pos (by omega) (Ev.pos (by omega) (Ev.bind (slices_Contains_ev lost (i : Int) hl) ?_))
    rw [othersL_cons] at he
    by_cases hc : lost.contains (i : Int) = true
    · rw [if_pos hc] at he
      exact Ev.pos hc (ih (i + 1) o (by omega) (by omega) hall he)
    · rw [if_neg hc] at he
      refine Ev.neg hc (Ev.bind (h.ok' hlt) ?_)
      by_cases hb : storeB (x0.getD i zSto) = true
      · refine Ev.pos hb (Ev.pos (by simp only [lim_eq, List.length_cons, List.length_nil]; omega) (ih (i + 1) _ (by omega) (by simp; omega) ?_ (by rw [List.append_assoc]; exact he)))
        rw [List.all_append, hall, List.all_cons]
        have hb' : storeB (x0.getD i (([] : List Entry), (([] : List Entry), ((0 : Int), ())))) = true := hb
        rw [hb']; rfl
      · refine Ev.neg hb (Ev.ret.eq ?_)
        have : ¬ (othersL lost 0 x0).all storeB = true := fun h => hb (List.all_eq_true.1 h _ (by rw [← he]; exact List.mem_append_right _ List.mem_cons_self))
        unfold fillG
        rw [if_neg this]; rfl
theorem impl_Fill_ev (a : Config) (l : List Store) (lost : List Int) (node upto : Int) (ha : a.1.length ≤ 1048576) (h : StG l) (hk : ktS l ≤ 1048576) (hl : lost.length ≤ 1048576) : Ev (fun k => impl_Fill.f k a l lost node upto) (fillF a l lost node upto) := by
  simp only [impl_Fill.f]
  unfold fillF
  by_cases h1 : ((l.length : Nat) : Int) = ((a.1.length : Nat) : Int)
  case neg => rw [if_neg (fun h => h1 h.1)]; exact Ev.neg h1 Ev.ret
  refine Ev.pos h1 (Ev.bind (impl_LostOk_ev a lost ha hl) ?_)
  by_cases h2 : lostB a lost = true
  case neg => rw [if_neg (fun h => h2 h.2.1)]; exact Ev.neg h2 Ev.ret
  refine Ev.pos h2 (Ev.bind (slices_Contains_ev lost node hl) ?_)
  by_cases h3 : lost.contains node = true
  case neg => rw [if_neg (fun h => h3 h.2.2)]; exact Ev.neg h3 Ev.ret
  rw [if_pos ⟨h1, h2, h3⟩]
  exact Ev.pos h3 (impl_Fill_l l lost upto h hk hl _ l.length 0 [] (by omega) (by simp) rfl rfl)


theorem store_cnt (s : Store) : cnt tStore s = cnt (.sl tEntry) s.1 + cnt (.sl tEntry) s.2.1 := by
  show cnt (.sl tEntry) s.1 + (cnt (.sl tEntry) s.2.1 + (0 + 0)) = _
  omega
theorem keepsL_cnt : ∀ (l s : List Entry), cnt (.sl tEntry) (keepsL s l) ≤ cnt (.sl tEntry) s + cnt (.sl tEntry) l := by
  intro l
  induction l with
  | nil => intro s; exact Nat.le_add_right _ _
  | cons e l ih =>
    intro s
    have h1 := ih (keepL s e)
    have h2 := keepL_cnt s e
    have h3 : cnt (.sl tEntry) (e :: l) = cnt (.sl tEntry) l + cnt tEntry e + 1 := by rw [ents_cnt, ents_cnt]; simp only [List.length_cons, List.map_cons, List.sum_cons]; omega
    show cnt (.sl tEntry) (keepsL (keepL s e) l) ≤ _
    omega
theorem stores_small {l : List Store} (h : Gd (.sl tStore) l) (c : cnt (.sl tStore) l ≤ 1048576) : StG l ∧ ktS l ≤ 1048576 ∧ ∀ s, cnt (.sl tEntry) (unionL s l) ≤ cnt (.sl tEntry) s + cnt (.sl tStore) l := by
  have hc : cnt (.sl tStore) l = l.length + (l.map fun s => cnt tStore s).sum := rfl
  refine ⟨⟨by omega, fun s hs => ?_⟩, ?_, ?_⟩
  · have hg := h.2 s hs
    have hm : cnt tStore s ≤ (l.map fun s => cnt tStore s).sum := sum_mem (f := fun s => cnt tStore s) hs
    rw [store_cnt] at hm
    have l1 := cnt_len (t := tEntry) s.1
    have l2 := cnt_len (t := tEntry) s.2.1
    exact ⟨(ents_small hg.1).mono (by omega), (ents_small hg.2.1).mono (by omega), InR_of hg.2.2.1⟩
  · have : ∀ l : List Store, ktS l ≤ (l.map fun s => cnt tStore s).sum := by
      intro l
      induction l with
      | nil => exact Nat.le_refl _
      | cons s l ih =>
        have l1 := cnt_len (t := tEntry) s.1
        rw [ktS_cons, List.map_cons, List.sum_cons, store_cnt]; omega
    have := this l
    omega
  · have : ∀ (l : List Store) (s : List Entry), cnt (.sl tEntry) (unionL s l) ≤ cnt (.sl tEntry) s + (l.map fun s => cnt tStore s).sum := by
      intro l
      induction l with
      | nil => intro s; exact Nat.le_add_right _ _
      | cons t l ih =>
        intro s
        have h1 := ih (keepsL s t.1)
        have h2 := keepsL_cnt t.1 s
        have h3 := store_cnt t
        show cnt (.sl tEntry) (unionL (keepsL s t.1) l) ≤ _
        rw [List.map_cons, List.sum_cons]; omega
    intro s
    have := this l s
    omega
theorem others_cnt {lost : List Int} : ∀ {l : List Store} {i : Nat}, cnt (.sl tStore) (othersL lost i l) ≤ cnt (.sl tStore) l := by
  intro l
  have hc : ∀ l : List Store, cnt (.sl tStore) l = l.length + (l.map fun s => cnt tStore s).sum := fun _ => rfl
  induction l with
  | nil => intro i; exact Nat.le_refl _
  | cons s l ih =>
    intro i
    have h := ih (i := i + 1)
    rw [hc, hc] at h
    rw [othersL_cons]
    split
    · rw [hc, hc, List.length_cons, List.map_cons, List.sum_cons]; omega
    · rw [hc, hc, List.length_cons, List.map_cons, List.sum_cons, List.length_cons, List.map_cons, List.sum_cons]; omega
theorem both (a0 : Config) (a1 : List Store) (a2 : List Int) (a3 a4 : Int) (h0 : Gd tConfig a0) (h1 : Gd (.sl tStore) a1) (h2 : Gd (.sl (.int .i64)) a2) (h3 : Gd (.int .i64) a3) (h4 : Gd (.int .i64) a4) (c0 : cnt tConfig a0 ≤ 1048576) (c1 : cnt (.sl tStore) a1 ≤ 1048576) (c2 : cnt (.sl (.int .i64)) a2 ≤ 1048576) (cs : cnt tConfig a0 + cnt (.sl tStore) a1 ≤ 1048576) :
    ∃ q, Ev (fun k => spec_Fill.f k a0 a1 a2 a3 a4) q ∧ Ev (fun k => impl_Fill.f k a0 a1 a2 a3 a4) q ∧ cnt tStore q.1 ≤ 4194304 := by
  have ha : a0.1.length ≤ 1048576 := by
    have : cnt (.sl (.int .i64)) a0.1 + (0 + 0) ≤ 1048576 := c0
    rw [cnt_ints] at this; omega
  have hl : a2.length ≤ 1048576 := by rw [cnt_ints] at c2; exact c2
  obtain ⟨g, hk, hcn⟩ := stores_small h1 c1
  refine ⟨fillF a0 a1 a2 a3 a4, spec_Fill_ev a0 a1 a2 a3 a4 ha g hk hl, impl_Fill_ev a0 a1 a2 a3 a4 ha g hk hl, ?_⟩
  have hz : cnt tStore zSto = 0 := rfl
  have ho := others_cnt (lost := a2) (l := a1) (i := 0)
  have hcu : ∀ (l : List Store) (s : List Entry), cnt (.sl tEntry) (unionL s l) ≤ cnt (.sl tEntry) s + (l.map fun s => cnt tStore s).sum := by
    intro l
    induction l with
    | nil => intro s; exact Nat.le_add_right _ _
    | cons t l ih =>
      intro s
      have h1 := ih (keepsL s t.1)
      have h2 := keepsL_cnt t.1 s
      have h3 := store_cnt t
      show cnt (.sl tEntry) (unionL (keepsL s t.1) l) ≤ _
      rw [List.map_cons, List.sum_cons]; omega
  have hf : cnt tStore (fillS (othersL a2 0 a1) a4) ≤ 1048576 := by
    have h5 := hcu (othersL a2 0 a1) []
    have h6 : cnt (.sl tEntry) ([] : List Entry) = 0 := rfl
    have h7 : cnt (.sl tStore) (othersL a2 0 a1) = (othersL a2 0 a1).length + ((othersL a2 0 a1).map fun s => cnt tStore s).sum := rfl
    rw [store_cnt]
    show cnt (.sl tEntry) (unionL [] (othersL a2 0 a1)) + cnt (.sl tEntry) ([] : List Entry) ≤ _
    omega
  unfold fillF
  split
  · unfold fillG
    split
    · split
      · show cnt tStore (fillS _ _) ≤ _; omega
      · show cnt tStore zSto ≤ _; omega
    · show cnt tStore zSto ≤ _; omega
  · show cnt tStore zSto ≤ _; omega

theorem pureL (a0 : Config) (a1 : (List Store)) (a2 : (List Int)) (a3 : Int) (a4 : Int) (h0 : Gd tConfig a0) (h1 : Gd (.sl tStore) a1) (h2 : Gd (.sl (.int .i64)) a2) (h3 : Gd (.int .i64) a3) (h4 : Gd (.int .i64) a4) : ∃ k, laws_FnExactFill.f k a0 a1 a2 a3 a4 = some true := by
  refine Ev.get (v := true) ?_
  simp only [laws_FnExactFill.f]
  by_cases hb2 : (1048576 : Int) < ((a2.length : Nat) : Int)
  · exact Ev.pos hb2 Ev.ret
  refine Ev.neg hb2 ?_
  have c2 : cnt (.sl (.int .i64)) a2 ≤ 1048576 := by rw [cnt_ints]; omega
  obtain ⟨v1, s1a, s1b, s1c⟩ := sz_Config a0 (1048576 : Int) h0 (by omega) (by omega)
  refine Ev.bind s1a ?_
  by_cases hv1 : v1 < 0
  · exact Ev.pos hv1 Ev.ret
  refine Ev.neg hv1 ?_
  have c0 : cnt tConfig a0 ≤ 1048576 := by have := s1c (by omega); omega
  obtain ⟨v2, s2a, s2b, s2c⟩ := sz_StoreS a1 v1 h1 (by omega) (by omega)
  refine Ev.bind s2a ?_
  by_cases hv2 : v2 < 0
  · exact Ev.pos hv2 Ev.ret
  refine Ev.neg hv2 ?_
  have c1 : cnt (.sl tStore) a1 ≤ 1048576 := by have := s2c (by omega); omega
  have cs : cnt tConfig a0 + cnt (.sl tStore) a1 ≤ 1048576 := by have := s1c (by omega); have := s2c (by omega); omega
  have t0 := to_Config a0 c0
  have t1 := to_StoreS a1 c1
  have t2 := to_IntS a2 c2
  obtain ⟨q, e1, e2, e3_0⟩ := both a0 a1 a2 a3 a4 h0 h1 h2 h3 h4 c0 c1 c2 cs
  have qa0 := eq_Config a0 (by omega)
  have qa1 := eq_StoreS a1 (by omega)
  have qa2 := eq_IntS a2 (by omega)
  have qr0 := eq_Store q.1 (by omega)
  have wa0 := W_Config_le a0
  have wa1 := W_StoreS_le a1
  have wa2 := W_IntS_le a2
  have wr0 := W_Store_le q.1
  obtain ⟨n1, x1, m1a, m1b, m1c⟩ := mk_Config a0 1 (by omega) (by omega)
  obtain ⟨n2, x2, m2a, m2b, m2c⟩ := mk_StoreS a1 n1 (by omega) (by omega)
  obtain ⟨n3, x3, m3a, m3b, m3c⟩ := mk_IntS a2 n2 (by omega) (by omega)
  obtain ⟨n4, x4, m4a, m4b, m4c, m4d⟩ := mk_Store q.1 1 (by omega) (by omega)
  repeat first | exact Ev.ret | refine Ev.bind (by assumption) ?_ | refine Ev.bindc (by assumption) ?_ | refine Ev.pos (by first | trivial | omega) ?_ | refine Ev.neg (by omega) ?_

end Go.Proofs.Ythgnikafeamidaa.OmFnExactFill
