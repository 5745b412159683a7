/- The plain law: what a drawn reader tells of a place is the best of what nodes of its epoch answered, of which there were enough. Conditions: what is known of a value that came in. -/
import Derived.Test.YthgnikafeamidabFamFnTells
set_option linter.unusedVariables false
set_option linter.unusedSimpArgs false
set_option linter.unusedSectionVars false
namespace Go.Proofs.Ythgnikafeamidab.OmFnTells
open Go Go.OM
/-- x lies between a and b. -/
def inB (x a b : Int) : Bool := decide (a ≤ x) && decide (x ≤ b)
theorem inB_true {x a b : Int} : inB x a b = true ↔ a ≤ x ∧ x ≤ b := by simp [inB]
theorem ite_inB (x a b : Int) : (if a ≤ x then some (decide (x ≤ b)) else some false) = some (inB x a b) := by
  unfold inB
  by_cases h : a ≤ x <;> simp [h]
def InR (x : Int) : Prop := -9223372036854775808 ≤ x ∧ x ≤ 9223372036854775807
theorem InR_of {x : Int} (h : Gd (.int .i64) x) : InR x := by
  have h : (Lit.int .i64 x).wf = true := h
  simp [Lit.wf, IntKind.min, IntKind.max, IntKind.signed, IntKind.bits] at h
  exact ⟨by omega, by omega⟩
theorem Ev.and {q b : Bool} {A : Nat → Option Bool} (h : q = true → Ev A b) : Ev (fun k => if q = true then A k else some false) (q && b) := by
  cases q with
  | false => exact Ev.neg (by decide) Ev.ret
  | true => exact Ev.pos rfl (h rfl)
theorem Ev.andc {c : Prop} [Decidable c] {b : Bool} {A : Nat → Option Bool} (h : c → Ev A b) : Ev (fun k => if c then A k else some false) (decide c && b) := by
  by_cases hc : c
  · rw [decide_eq_true hc]; exact Ev.pos hc (h hc)
  · rw [decide_eq_false hc]; exact Ev.neg hc Ev.ret
theorem Ev.nand {c : Prop} [Decidable c] {b : Bool} {A : Nat → Option Bool} (h : ¬ c → Ev A b) : Ev (fun k => if c then some false else A k) (!decide c && b) := by
  by_cases hc : c
  · rw [decide_eq_true hc]; exact Ev.pos hc Ev.ret
  · rw [decide_eq_false hc]; exact Ev.neg hc (h hc)
theorem Ev.ite {c : Prop} [Decidable c] {α : Type} {A B : Nat → Option α} {v u : α} (h1 : c → Ev A v) (h2 : ¬ c → Ev B u) : Ev (fun k => if c then A k else B k) (if c then v else u) := by
  by_cases hc : c
  · rw [if_pos hc]; exact Ev.pos hc (h1 hc)
  · rw [if_neg hc]; exact Ev.neg hc (h2 hc)
theorem all_loop {n : Nat} {p : Nat → Int → Option Bool} {q : Nat → Bool} {zb : Bool} (hp : ∀ (i : Nat), i < n → ∀ b, Ev (fun k => p k (((i + 1 : Nat)) : Int)) b → Ev (fun k => p (k + 1) (i : Int)) (q i && b)) (h0 : Ev (fun k => p (k + 1) (n : Int)) zb) :
    ∀ (m i : Nat), i + m = n → Ev (fun k => p k (i : Int)) ((List.range' i m).all q && zb) := by
  intro m
  induction m with
  | zero => intro i h; rw [show i = n by omega]; exact Ev.succ h0
  | succ m ih =>
    intro i h
    refine (Ev.succ (hp i (by omega) _ (ih (i + 1) (by omega)))).eq ?_
    rw [List.range'_succ, List.all_cons, Bool.and_assoc]
theorem wrap_up {i n : Nat} (h : i < n) (hn : n ≤ 4611686018427387904) : wrap64 ((i : Int) + (1 : Int)) = ((i + 1 : Nat) : Int) := wrap64_id (by omega) (by omega)
theorem cnt_ints (l : List Int) : cnt (.sl (.int .i64)) l = l.length := by
  show l.length + (l.map fun _ => 0).sum = l.length
  have : (l.map fun _ => 0).sum = 0 := by induction l with
    | nil => rfl
    | cons x l ih => simpa using ih
  omega
/-- It comes to something with P. -/
def Evp {α : Type} (f : Nat → Option α) (P : α → Prop) : Prop := ∃ v, Ev f v ∧ P v
def Op {α : Type} (f : Option α) (P : α → Prop) : Prop := ∃ v, f = some v ∧ P v
section
variable {α β : Type} {P : α → Prop} {Q : β → Prop}
theorem Evp.ret {v : α} (h : P v) : Evp (fun _ => some v) P := ⟨v, Ev.ret, h⟩
theorem Evp.of {f : Nat → Option α} {v : α} (h : Ev f v) (hp : P v) : Evp f P := ⟨v, h, hp⟩
theorem Evp.bind {f : Nat → Option α} {g : Nat → α → Option β} (h : Evp f P) (hg : ∀ a, P a → Evp (fun k => g k a) Q) : Evp (fun k => (f k).bind (g k)) Q := by
  obtain ⟨a, h1, h2⟩ := h
  obtain ⟨b, h3, h4⟩ := hg a h2
  exact ⟨b, h1.bind h3, h4⟩
theorem Evp.bindv {f : Nat → Option α} {g : Nat → α → Option β} {a : α} (h : Ev f a) (hg : Evp (fun k => g k a) Q) : Evp (fun k => (f k).bind (g k)) Q := by
  obtain ⟨b, h3, h4⟩ := hg
  exact ⟨b, h.bind h3, h4⟩
theorem Evp.bindc {f : Option α} {g : Nat → α → Option β} (h : Op f P) (hg : ∀ a, P a → Evp (fun k => g k a) Q) : Evp (fun k => f.bind (g k)) Q := by
  obtain ⟨a, h1, h2⟩ := h
  obtain ⟨b, h3, h4⟩ := hg a h2
  exact ⟨b, Ev.bindc h1 h3, h4⟩
theorem Evp.succ {f : Nat → Option α} (h : Evp (fun k => f (k + 1)) P) : Evp f P := by
  obtain ⟨a, h1, h2⟩ := h
  exact ⟨a, Ev.succ h1, h2⟩
theorem Evp.pos {c : Prop} [Decidable c] {f g : Nat → Option α} (hc : c) (h : Evp f P) : Evp (fun k => if c then f k else g k) P := by
  obtain ⟨a, h1, h2⟩ := h
  exact ⟨a, Ev.pos hc h1, h2⟩
theorem Evp.neg {c : Prop} [Decidable c] {f g : Nat → Option α} (hc : ¬ c) (h : Evp g P) : Evp (fun k => if c then f k else g k) P := by
  obtain ⟨a, h1, h2⟩ := h
  exact ⟨a, Ev.neg hc h1, h2⟩
theorem Evp.ite {c : Prop} [Decidable c] {f g : Nat → Option α} (h1 : c → Evp f P) (h2 : ¬ c → Evp g P) : Evp (fun k => if c then f k else g k) P := by
  by_cases hc : c
  · exact Evp.pos hc (h1 hc)
  · exact Evp.neg hc (h2 hc)
theorem Evp.mono {f : Nat → Option α} {P' : α → Prop} (h : Evp f P) (hp : ∀ a, P a → P' a) : Evp f P' := by
  obtain ⟨a, h1, h2⟩ := h
  exact ⟨a, h1, hp a h2⟩
theorem Evp.opt {f : Option α} (h : Op f P) : Evp (fun _ => f) P := by
  obtain ⟨a, h1, h2⟩ := h
  exact ⟨a, Ev.of h1, h2⟩
theorem Evp.cg {f g : Nat → Option α} (h : Evp g P) (e : ∀ k, f k = g k) : Evp f P := by
  obtain ⟨a, h1, h2⟩ := h
  exact ⟨a, h1.cg e, h2⟩
theorem Op.ret {v : α} (h : P v) : Op (some v) P := ⟨v, rfl, h⟩
theorem Op.bind {f : Option α} {g : α → Option β} (h : Op f P) (hg : ∀ a, P a → Op (g a) Q) : Op (f.bind g) Q := by
  obtain ⟨a, h1, h2⟩ := h
  obtain ⟨b, h3, h4⟩ := hg a h2
  exact ⟨b, by rw [h1, Option.bind_some, h3], h4⟩
theorem Op.pos {c : Prop} [Decidable c] {f g : Option α} (hc : c) (h : Op f P) : Op (if c then f else g) P := by rw [if_pos hc]; exact h
theorem Op.neg {c : Prop} [Decidable c] {f g : Option α} (hc : ¬ c) (h : Op g P) : Op (if c then f else g) P := by rw [if_neg hc]; exact h
theorem Op.ite {c : Prop} [Decidable c] {f g : Option α} (h1 : c → Op f P) (h2 : ¬ c → Op g P) : Op (if c then f else g) P := by
  by_cases hc : c
  · exact Op.pos hc (h1 hc)
  · exact Op.neg hc (h2 hc)
end
theorem nft : ¬ (false = true) := by decide
/-- x among numbers: ahead of the first greater one. -/
noncomputable def insB : List Int → Int → List Int
  | [], x => [x]
  | y :: l, x => if x < y then x :: y :: l else y :: insB l x
noncomputable def insL (l : List Int) (x : Int) : List Int := if l.contains x = true then l else insB l x
theorem insB_len (l : List Int) (x : Int) : (insB l x).length = l.length + 1 := by
  induction l with
  | nil => rfl
  | cons y l ih =>
    unfold insB
    split
    · rfl
    · rw [List.length_cons, List.length_cons, ih]
theorem insL_len (l : List Int) (x : Int) : (insL l x).length ≤ l.length + 1 := by
  unfold insL
  split
  · omega
  · rw [insB_len]; omega
theorem insB_at {x : Int} : ∀ {l : List Int} {i : Nat}, i ≤ l.length → (∀ q, q < i → l.getD q 0 < x) → (i < l.length → x < l.getD i 0) → l.take i ++ [x] ++ l.drop i = insB l x := by
  intro l
  induction l with
  | nil => intro i hi _ _; have : i = 0 := by simpa using hi
           subst this; rfl
  | cons y l ih =>
    intro i hi h1 h2
    cases i with
    | zero =>
      have : x < y := h2 (Nat.zero_lt_succ _)
      unfold insB; rw [if_pos this]; rfl
    | succ i =>
      have : ¬ x < y := by have := h1 0 (Nat.zero_lt_succ _); change y < x at this; omega
      unfold insB; rw [if_neg this]
      show y :: (l.take i ++ [x] ++ l.drop i) = _
      rw [ih (by simpa using hi) (fun q hq => by have := h1 (q + 1) (by omega); simpa using this) (fun h => by have := h2 (by simp; omega); simpa using this)]
theorem wrapu (x : Int) (h0 : 0 ≤ x) (h1 : x ≤ 9223372036854775807) : IntKind.wrap .u64 x = x := by
  show (if (false && decide (x % 2 ^ 64 ≥ 2 ^ (64 - 1))) = true then x % 2 ^ 64 - 2 ^ 64 else x % 2 ^ 64) = x
  rw [Bool.false_and, if_neg (by decide)]
  exact Int.emod_eq_of_lt h0 (by omega)
theorem mid_is {i j n : Nat} (h : i < j) (hj : j ≤ n) (hn : n ≤ 4611686018427387904) : wrap64 (shrK .u64 (IntKind.wrap .u64 (wrap64 ((i : Int) + (j : Int)))) (1 : Int)) = (((i + j) / 2 : Nat) : Int) := by
  rw [wrap64_id (x := (i : Int) + (j : Int)) (by omega) (by omega), wrapu _ (by omega) (by omega)]
  have e : shrK .u64 ((i : Int) + (j : Int)) 1 = (((i + j) / 2 : Nat) : Int) := by
    show Int.fdiv ((i : Int) + (j : Int)) (2 ^ 1) = _
    rw [Int.fdiv_eq_ediv_of_nonneg _ (by decide)]
    omega
  rw [e, wrap64_id (by omega) (by omega)]
/-- A search by halves. -/
theorem bs_loop {β : Type} {n : Nat} {p : Nat → Int → Int → Option β} {lt : Nat → Bool} {v : β} (hm : ∀ q r, q ≤ r → r < n → lt r = true → lt q = true)
    (hp : ∀ i j : Nat, i < j → j ≤ n → ∀ b, (lt ((i + j) / 2) = true → Ev (fun k => p k (((i + j) / 2 + 1 : Nat) : Int) (j : Int)) b) → (lt ((i + j) / 2) = false → Ev (fun k => p k (i : Int) (((i + j) / 2 : Nat) : Int)) b) → Ev (fun k => p (k + 1) (i : Int) (j : Int)) b)
    (h0 : ∀ i : Nat, i ≤ n → (∀ q, q < i → lt q = true) → (∀ q, i ≤ q → q < n → lt q = false) → Ev (fun k => p (k + 1) (i : Int) (i : Int)) v) :
    ∀ (d i j : Nat), j - i ≤ d → i ≤ j → j ≤ n → (∀ q, q < i → lt q = true) → (∀ q, j ≤ q → q < n → lt q = false) → Ev (fun k => p k (i : Int) (j : Int)) v := by
  intro d
  induction d with
  | zero =>
    intro i j hd hij hj h1 h2
    have : i = j := by omega
    subst this
    exact Ev.succ (h0 i hj h1 h2)
  | succ d ih =>
    intro i j hd hij hj h1 h2
    by_cases hlt : i < j
    · refine Ev.succ (hp i j hlt hj v (fun hb => ?_) (fun hb => ?_))
      · exact ih _ _ (by omega) (by omega) hj (fun q hq => hm q _ (by omega) (by omega) hb) h2
      · refine ih _ _ (by omega) (by omega) (by omega) h1 (fun q hq hqn => ?_)
        cases hc : lt q with
        | false => rfl
        | true => exact absurd (hm _ q hq hqn hc) (by rw [hb]; decide)
    · have : i = j := by omega
      subst this
      exact Ev.succ (h0 i hj h1 h2)
/-- Numbers that ascend. -/
def Asc (l : List Int) : Prop := ∀ q r, q < r → r < l.length → l.getD q 0 < l.getD r 0
theorem Asc.of {l : List Int} (h : ∀ q, q + 1 < l.length → l.getD q 0 < l.getD (q + 1) 0) : Asc l := by
  intro q r hqr hr
  induction r with
  | zero => omega
  | succ r ih =>
    have h1 := h r hr
    by_cases hq : q = r
    · subst hq; exact h1
    · have := ih (by omega) (by omega); omega
theorem getD_of_mem {l : List Int} {x : Int} (h : x ∈ l) : ∃ q, q < l.length ∧ l.getD q 0 = x := by
  obtain ⟨q, hq, e⟩ := List.getElem_of_mem h
  exact ⟨q, hq, by rw [List.getD_eq_getElem?_getD, List.getElem?_eq_getElem hq]; exact e⟩
theorem getD_is {α : Type} {l : List α} {q : Nat} {d : α} (hq : q < l.length) : l.getD q d = l[q] := by
  rw [List.getD_eq_getElem?_getD, List.getElem?_eq_getElem hq]; rfl
theorem Asc.pw {l : List Int} (h : Asc l) : l.Pairwise (· < ·) :=
  List.pairwise_iff_getElem.2 fun i j hi hj hij => by have := h i j hij hj; rwa [getD_is hi, getD_is hj] at this
theorem Asc.of_pw {l : List Int} (h : l.Pairwise (· < ·)) : Asc l := fun q r hqr hr => by
  rw [getD_is (by omega), getD_is hr]; exact List.pairwise_iff_getElem.1 h q r (by omega) hr hqr
theorem mem_insB {l : List Int} {x y : Int} : y ∈ insB l x ↔ y = x ∨ y ∈ l := by
  induction l with
  | nil => simp [insB]
  | cons z l ih =>
    unfold insB
    split
    · simp
    · rw [List.mem_cons, ih, List.mem_cons]
      exact ⟨fun h => h.elim (fun h => .inr (.inl h)) (fun h => h.elim .inl (fun h => .inr (.inr h))), fun h => h.elim (fun h => .inr (.inl h)) (fun h => h.elim .inl (fun h => .inr (.inr h)))⟩
theorem mem_insL {l : List Int} {x y : Int} : y ∈ insL l x ↔ y = x ∨ y ∈ l := by
  unfold insL
  split
  · rename_i h
    rw [List.contains_iff_mem] at h
    exact ⟨.inr, fun h' => h'.elim (fun e => e ▸ h) id⟩
  · exact mem_insB
theorem insB_pw {l : List Int} {x : Int} (h : l.Pairwise (· < ·)) (hx : x ∉ l) : (insB l x).Pairwise (· < ·) := by
  induction l with
  | nil => simp [insB]
  | cons z l ih =>
    rw [List.pairwise_cons] at h
    unfold insB
    split
    · rename_i hz
      refine List.pairwise_cons.2 ⟨fun y hy => ?_, List.pairwise_cons.2 h⟩
      rcases List.mem_cons.1 hy with rfl | hy
      · exact hz
      · have := h.1 y hy; omega
    · rename_i hz
      have hne : x ≠ z := fun e => hx (e ▸ List.mem_cons_self)
      refine List.pairwise_cons.2 ⟨fun y hy => ?_, ih h.2 (fun h => hx (List.mem_cons_of_mem _ h))⟩
      rcases mem_insB.1 hy with rfl | hy
      · omega
      · exact h.1 y hy
theorem insL_pw {l : List Int} {x : Int} (h : l.Pairwise (· < ·)) : (insL l x).Pairwise (· < ·) := by
  unfold insL
  split
  · exact h
  · rename_i hc
    exact insB_pw h (fun hm => hc (List.contains_iff_mem.2 hm))
/-- A row whose first elements are told anew. -/
theorem map_get {α : Type} {F : α → α} {l : List α} {i : Nat} {d : α} (hi : i < l.length) : ((l.take i).map F ++ l.drop i).getD i d = l.getD i d := by
  have hl : ((l.take i).map F).length = i := by rw [List.length_map, List.length_take]; omega
  rw [List.getD_eq_getElem?_getD, List.getElem?_append_right (by omega), hl, Nat.sub_self, List.getElem?_drop, Nat.add_zero, ← List.getD_eq_getElem?_getD]
theorem map_step {α : Type} {F : α → α} {l : List α} {i : Nat} {d : α} (hi : i < l.length) : ((l.take i).map F ++ l.drop i).set i (F (l.getD i d)) = (l.take (i + 1)).map F ++ l.drop (i + 1) := by
  have hl : ((l.take i).map F).length = i := by rw [List.length_map, List.length_take]; omega
  have ht : l.take (i + 1) = l.take i ++ [l.getD i d] := by
    rw [List.take_add_one, List.getElem?_eq_getElem hi, getD_is hi]; rfl
  rw [List.set_append_right _ _ (by omega), hl, Nat.sub_self, drop_get (d := d) hi, ht, List.map_append, List.append_assoc]
  rfl
theorem map_len {α : Type} {F : α → α} {l : List α} {i : Nat} : ((l.take i).map F ++ l.drop i).length = l.length := by
  rw [List.length_append, List.length_map, List.length_take, List.length_drop]; omega
theorem has_one (x v : Int) : [x].contains v = decide (v = x) := by
  by_cases h : v = x <;> simp [h]
theorem filter_not {α : Type} (p : α → Bool) (l : List α) : (l.filter p).length + (l.filter fun v => !p v).length = l.length := by
  induction l with
  | nil => rfl
  | cons x l ih =>
    rw [List.filter_cons, List.filter_cons]
    cases p x <;> simp <;> omega
theorem set_getD_self {α : Type} {l : List α} {i : Nat} {d : α} (hi : i < l.length) : l.set i (l.getD i d) = l := by
  rw [getD_is hi]; exact List.set_getElem_self hi

noncomputable def better (a b : Entry) : Entry := if a.2.1 < b.2.1 then b else a
/-- An entry among entries: the better one at its place, else ahead of the first at a greater place. -/
noncomputable def keepL : List Entry → Entry → List Entry
  | [], e => [e]
  | y :: l, e => if y.1 = e.1 then better y e :: l else if e.1 < y.1 then e :: y :: l else y :: keepL l e
theorem keepL_len (l : List Entry) (e : Entry) : (keepL l e).length ≤ l.length + 1 := by
  induction l with
  | nil => exact Nat.le_refl _
  | cons y l ih =>
    unfold keepL
    split
    · simp
    · split
      · exact Nat.le_refl _
      · rw [List.length_cons, List.length_cons]; omega
theorem getD_cons_succ' {α : Type} {y d : α} {l : List α} {i : Nat} : (y :: l).getD (i + 1) d = l.getD i d := by simp
theorem keepL_ins {e : Entry} {d : Entry} : ∀ {l : List Entry} {i : Nat}, i ≤ l.length → (∀ q, q < i → (l.getD q d).1 < e.1) → (i < l.length → e.1 < (l.getD i d).1) → l.take i ++ [e] ++ l.drop i = keepL l e := by
  intro l
  induction l with
  | nil => intro i hi _ _; have : i = 0 := by simpa using hi
           subst this; rfl
  | cons y l ih =>
    intro i hi h1 h2
    cases i with
    | zero =>
      have h : e.1 < y.1 := h2 (Nat.zero_lt_succ _)
      have hn : ¬ y.1 = e.1 := by omega
      unfold keepL; rw [if_neg hn, if_pos h]; rfl
    | succ i =>
      have h : y.1 < e.1 := h1 0 (Nat.zero_lt_succ _)
      have hn : ¬ y.1 = e.1 := by omega
      have hn2 : ¬ e.1 < y.1 := by omega
      unfold keepL; rw [if_neg hn, if_neg hn2]
      show y :: (l.take i ++ [e] ++ l.drop i) = _
      rw [ih (by simpa using hi) (fun q hq => by have := h1 (q + 1) (by omega); rwa [getD_cons_succ'] at this) (fun h => by have := h2 (by simp; omega); rwa [getD_cons_succ'] at this)]
theorem keepL_set {e : Entry} {d : Entry} : ∀ {l : List Entry} {i : Nat}, i < l.length → (∀ q, q < i → (l.getD q d).1 < e.1) → (l.getD i d).1 = e.1 → l.set i (better (l.getD i d) e) = keepL l e := by
  intro l
  induction l with
  | nil => intro i hi; exact absurd hi (Nat.not_lt_zero _)
  | cons y l ih =>
    intro i hi h1 h2
    cases i with
    | zero =>
      have h : y.1 = e.1 := h2
      unfold keepL; rw [if_pos h]; rfl
    | succ i =>
      have h : y.1 < e.1 := h1 0 (Nat.zero_lt_succ _)
      have hn : ¬ y.1 = e.1 := by omega
      have hn2 : ¬ e.1 < y.1 := by omega
      rw [getD_cons_succ'] at h2
      unfold keepL; rw [if_neg hn, if_neg hn2, List.set_cons_succ, getD_cons_succ']
      rw [ih (by simpa using hi) (fun q hq => by have := h1 (q + 1) (by omega); rwa [getD_cons_succ'] at this) h2]
noncomputable def zEnt : Entry := ((0 : Int), ((0 : Int), (false, ((⟨#[]⟩ : ByteArray), ()))))
noncomputable def ascE (l : List Entry) : Bool := (List.range' 0 l.length).all fun i => !(decide (0 < i) && decide ((l.getD i zEnt).1 ≤ (l.getD (i - 1) zEnt).1))
/-- Rows of entries whose places are numbers of 64 bits. -/
def EG (n : Nat) (l : List Entry) : Prop := l.length ≤ n ∧ ∀ e ∈ l, InR e.1
theorem EG.at {n : Nat} {l : List Entry} (h : EG n l) : ∀ i, i < l.length → InR (l.getD i zEnt).1 := fun i hi => h.2 _ (getD_mem hi)
theorem EG.get {n : Nat} {l : List Entry} (h : EG n l) (i : Nat) : InR (l.getD i zEnt).1 := by
  by_cases hi : i < l.length
  · exact h.at i hi
  · rw [List.getD_eq_getElem?_getD, List.getElem?_eq_none (by omega)]; show InR (0 : Int); unfold InR; decide
theorem EG.nil {n : Nat} : EG n [] := ⟨Nat.zero_le _, fun e he => by cases he⟩
theorem EG.mono {n m : Nat} {l : List Entry} (h : EG n l) (hm : n ≤ m) : EG m l := ⟨by have := h.1; omega, h.2⟩
theorem EG.app {n : Nat} {l : List Entry} {e : Entry} (h : EG n l) (he : InR e.1) : EG (n + 1) (l ++ [e]) := by
  refine ⟨by have := h.1; simp; omega, fun x hx => ?_⟩
  rcases List.mem_append.1 hx with h' | h'
  · exact h.2 x h'
  · rw [List.mem_singleton] at h'; subst h'; exact he
/-- Entries whose places ascend. -/
def AscE (l : List Entry) : Prop := ∀ q r, q < r → r < l.length → (l.getD q ((0 : Int), ((0 : Int), (false, ((⟨#[]⟩ : ByteArray), ()))))).1 < (l.getD r ((0 : Int), ((0 : Int), (false, ((⟨#[]⟩ : ByteArray), ()))))).1
theorem AscE.of {l : List Entry} (h : ∀ q, q + 1 < l.length → (l.getD q ((0 : Int), ((0 : Int), (false, ((⟨#[]⟩ : ByteArray), ()))))).1 < (l.getD (q + 1) ((0 : Int), ((0 : Int), (false, ((⟨#[]⟩ : ByteArray), ()))))).1) : AscE l := by
  intro q r hqr hr
  induction r with
  | zero => omega
  | succ r ih =>
    have h1 := h r hr
    by_cases hq : q = r
    · subst hq; exact h1
    · have := ih (by omega) (by omega); omega
theorem AscE.pw {l : List Entry} (h : AscE l) : l.Pairwise (fun a b => a.1 < b.1) :=
  List.pairwise_iff_getElem.2 fun i j hi hj hij => by have := h i j hij hj; rwa [getD_is hi, getD_is hj] at this
theorem AscE.of_pw {l : List Entry} (h : l.Pairwise (fun a b => a.1 < b.1)) : AscE l := fun q r hqr hr => by
  rw [getD_is (by omega), getD_is hr]; exact List.pairwise_iff_getElem.1 h q r (by omega) hr hqr
theorem ascE_Asc {l : List Entry} (h : ascE l = true) : AscE l := AscE.of fun q hq => by
  simp only [ascE, List.all_eq_true, List.mem_range'_1] at h
  have := h (q + 1) (by omega)
  simp only [Nat.add_sub_cancel, Bool.not_eq_true', Bool.and_eq_false_iff, decide_eq_false_iff_not] at this
  rcases this with h | h
  · omega
  · unfold zEnt at h; omega
theorem Asc_ascE {l : List Entry} (h : AscE l) : ascE l = true := by
  simp only [ascE, List.all_eq_true, List.mem_range'_1]
  intro i hi
  simp only [Bool.not_eq_true', Bool.and_eq_false_iff, decide_eq_false_iff_not]
  by_cases h0 : 0 < i
  · refine .inr ?_
    have := h (i - 1) i (by omega) (by omega)
    unfold zEnt; omega
  · exact .inl h0
theorem better_at {a b : Entry} (h : a.1 = b.1) : (better a b).1 = a.1 := by unfold better; split <;> simp [h]
theorem better_or (a b : Entry) : better a b = a ∨ better a b = b := by unfold better; split <;> simp
theorem keepL_at {l : List Entry} {e z : Entry} (h : z ∈ keepL l e) : z.1 = e.1 ∨ ∃ y ∈ l, y.1 = z.1 := by
  induction l with
  | nil => simp [keepL] at h; subst h; exact .inl rfl
  | cons y l ih =>
    unfold keepL at h
    split at h
    · rename_i hy
      rcases List.mem_cons.1 h with rfl | h
      · exact .inl ((better_at hy).trans hy)
      · exact .inr ⟨z, List.mem_cons_of_mem _ h, rfl⟩
    · split at h
      · rcases List.mem_cons.1 h with rfl | h
        · exact .inl rfl
        · exact .inr ⟨z, h, rfl⟩
      · rcases List.mem_cons.1 h with rfl | h
        · exact .inr ⟨z, List.mem_cons_self, rfl⟩
        · rcases ih h with h | ⟨y', h1, h2⟩
          · exact .inl h
          · exact .inr ⟨y', List.mem_cons_of_mem _ h1, h2⟩
theorem keepL_mem {l : List Entry} {e z : Entry} (h : z ∈ keepL l e) : z = e ∨ z ∈ l := by
  induction l with
  | nil => simp [keepL] at h; exact .inl h
  | cons y l ih =>
    unfold keepL at h
    split at h
    · rcases List.mem_cons.1 h with rfl | h
      · rcases better_or y e with h | h
        · exact .inr (by rw [h]; exact List.mem_cons_self)
        · exact .inl h
      · exact .inr (List.mem_cons_of_mem _ h)
    · split at h
      · rcases List.mem_cons.1 h with rfl | h
        · exact .inl rfl
        · exact .inr h
      · rcases List.mem_cons.1 h with rfl | h
        · exact .inr List.mem_cons_self
        · exact (ih h).imp id (List.mem_cons_of_mem _)
theorem keepL_pw {l : List Entry} {e : Entry} (h : l.Pairwise (fun a b => a.1 < b.1)) : (keepL l e).Pairwise (fun a b => a.1 < b.1) := by
  induction l with
  | nil => simp [keepL]
  | cons y l ih =>
    rw [List.pairwise_cons] at h
    unfold keepL
    split
    · rename_i hy
      exact List.pairwise_cons.2 ⟨fun z hz => by rw [better_at hy]; exact h.1 z hz, h.2⟩
    · rename_i hy
      split
      · rename_i hlt
        refine List.pairwise_cons.2 ⟨fun z hz => ?_, List.pairwise_cons.2 h⟩
        rcases List.mem_cons.1 hz with rfl | hz
        · exact hlt
        · have := h.1 z hz; omega
      · rename_i hlt
        refine List.pairwise_cons.2 ⟨fun z hz => ?_, ih h.2⟩
        rcases keepL_at hz with hz | ⟨u, h1, h2⟩
        · omega
        · have := h.1 u h1; omega
theorem AscE.keep {l : List Entry} {e : Entry} (h : AscE l) : AscE (keepL l e) := AscE.of_pw (keepL_pw h.pw)
theorem EG.keep {n : Nat} {l : List Entry} {e : Entry} (h : EG n l) (he : InR e.1) : EG (n + 1) (keepL l e) :=
  ⟨by have := keepL_len l e; have := h.1; omega, fun z hz => by
    rcases keepL_mem hz with rfl | hz
    · exact he
    · exact h.2 z hz⟩
theorem ents_small {l : List Entry} (h : Gd (.sl tEntry) l) : EG l.length l := ⟨Nat.le_refl _, fun e he => InR_of (h.2 e he).1⟩
theorem cnt_len {t : Ty} (xs : (Ty.sl t).den) : List.length xs ≤ cnt (.sl t) xs := by
  show List.length xs ≤ List.length xs + _
  omega
theorem ents_cnt (l : List Entry) : cnt (.sl tEntry) l = l.length + (l.map fun x => cnt tEntry x).sum := rfl
theorem keepL_cnt (l : List Entry) (e : Entry) : cnt (.sl tEntry) (keepL l e) ≤ cnt (.sl tEntry) l + cnt tEntry e + 1 := by
  rw [ents_cnt, ents_cnt]
  induction l with
  | nil => simp [keepL]; omega
  | cons y l ih =>
    unfold keepL
    split
    · have : cnt tEntry (better y e) ≤ cnt tEntry y + cnt tEntry e := by
        rcases better_or y e with h | h <;> rw [h] <;> omega
      simp only [List.length_cons, List.map_cons, List.sum_cons]; omega
    · split
      · simp only [List.length_cons, List.map_cons, List.sum_cons]; omega
      · simp only [List.length_cons, List.map_cons, List.sum_cons]; omega
/-- The entry of a place. -/
noncomputable def getF : List Entry → Int → Entry × Bool
  | [], _ => (((0 : Int), ((0 : Int), (false, ((⟨#[]⟩ : ByteArray), ())))), false)
  | y :: l, x => if y.1 = x then (y, true) else getF l x
theorem getF_none {x : Int} : ∀ {l : List Entry}, (∀ y ∈ l, ¬ y.1 = x) → getF l x = (((0 : Int), ((0 : Int), (false, ((⟨#[]⟩ : ByteArray), ())))), false) := by
  intro l
  induction l with
  | nil => intro _; rfl
  | cons y l ih =>
    intro h
    unfold getF
    rw [if_neg (h y List.mem_cons_self)]
    exact ih fun z hz => h z (List.mem_cons_of_mem _ hz)
theorem getF_some {x : Int} : ∀ {l : List Entry} {i : Nat}, i < l.length → (∀ q, q < i → ¬ (l.getD q zEnt).1 = x) → (l.getD i zEnt).1 = x → getF l x = (l.getD i zEnt, true) := by
  intro l
  induction l with
  | nil => intro i h; exact absurd h (Nat.not_lt_zero _)
  | cons y l ih =>
    intro i hi h1 h2
    unfold getF
    cases i with
    | zero =>
      have h2' : y.1 = x := h2
      rw [if_pos h2']; rfl
    | succ i =>
      have h0 : ¬ y.1 = x := h1 0 (Nat.zero_lt_succ _)
      rw [if_neg h0, getD_cons_succ']
      rw [getD_cons_succ'] at h2
      exact ih (by simpa using hi) (fun q hq => by have := h1 (q + 1) (by omega); rwa [getD_cons_succ'] at this) h2
theorem getF_true {x : Int} {l : List Entry} {e : Entry} (h : getF l x = (e, true)) : e ∈ l ∧ e.1 = x := by
  induction l with
  | nil => simp [getF] at h
  | cons y l ih =>
    unfold getF at h
    split at h
    · rename_i hy
      have : y = e := congrArg Prod.fst h
      subst this
      exact ⟨List.mem_cons_self, hy⟩
    · exact ⟨List.mem_cons_of_mem _ (ih h).1, (ih h).2⟩

def SG (n m : Nat) (s : Store) : Prop := EG n s.1 ∧ EG m s.2.1 ∧ InR s.2.2.1
theorem SG.zero {n m : Nat} : SG n m (([] : List Entry), (([] : List Entry), ((0 : Int), ()))) := ⟨EG.nil, EG.nil, by show InR (0 : Int); unfold InR; decide⟩
noncomputable def keepsL (s l : List Entry) : List Entry := l.foldl keepL s
theorem keepsL_len : ∀ (l s : List Entry), (keepsL s l).length ≤ s.length + l.length := by
  intro l
  induction l with
  | nil => intro s; exact Nat.le_refl _
  | cons e l ih => intro s; have := ih (keepL s e); have := keepL_len s e; show (keepsL (keepL s e) l).length ≤ _; simp only [List.length_cons]; omega
theorem keepsL_asc : ∀ (l s : List Entry), AscE s → AscE (keepsL s l) := by
  intro l
  induction l with
  | nil => intro s h; exact h
  | cons e l ih => intro s h; exact ih _ h.keep
noncomputable def unionL (s : List Entry) (l : List Store) : List Entry := l.foldl (fun s t => keepsL s t.1) s
def ktS (l : List Store) : Nat := (l.map fun s => s.1.length).sum
/-- Stores whose places are numbers of 64 bits. -/
def StG (l : List Store) : Prop := l.length ≤ 1048576 ∧ ∀ s ∈ l, EG 1048576 s.1 ∧ EG 1048576 s.2.1 ∧ InR s.2.2.1
noncomputable def zSto : Store := (([] : List Entry), (([] : List Entry), ((0 : Int), ())))
theorem ktS_cons (s : Store) (l : List Store) : ktS (s :: l) = s.1.length + ktS l := by simp [ktS]
theorem unionL_asc : ∀ (l : List Store) (s : List Entry), AscE s → AscE (unionL s l) := by
  intro l
  induction l with
  | nil => intro s h; exact h
  | cons t l ih => intro s h; exact ih _ (keepsL_asc _ _ h)
theorem unionL_len : ∀ (l : List Store) (s : List Entry), (unionL s l).length ≤ s.length + ktS l := by
  intro l
  induction l with
  | nil => intro s; exact Nat.le_add_right _ _
  | cons t l ih => intro s; have := ih (keepsL s t.1); have := keepsL_len t.1 s; rw [ktS_cons]; show (unionL (keepsL s t.1) l).length ≤ _; omega
/-- The stores of those that are not lost. -/
noncomputable def othersL (lost : List Int) : Nat → List Store → List Store
  | _, [] => []
  | i, s :: l => if lost.contains (i : Int) = true then othersL lost (i + 1) l else s :: othersL lost (i + 1) l
theorem othersL_cons {lost : List Int} {i : Nat} {s : Store} {l : List Store} : othersL lost i (s :: l) = if lost.contains (i : Int) = true then othersL lost (i + 1) l else s :: othersL lost (i + 1) l := rfl
theorem othersL_mem {lost : List Int} {x : Store} : ∀ {l : List Store} {i : Nat}, x ∈ othersL lost i l → x ∈ l := by
  intro l
  induction l with
  | nil => intro i h; exact h
  | cons s l ih =>
    intro i h
    unfold othersL at h
    split at h
    · exact List.mem_cons_of_mem _ (ih h)
    · rcases List.mem_cons.1 h with rfl | h
      · exact List.mem_cons_self
      · exact List.mem_cons_of_mem _ (ih h)
theorem othersL_len {lost : List Int} : ∀ {l : List Store} {i : Nat}, (othersL lost i l).length ≤ l.length ∧ ktS (othersL lost i l) ≤ ktS l := by
  intro l
  induction l with
  | nil => intro i; exact ⟨Nat.le_refl _, Nat.le_refl _⟩
  | cons s l ih =>
    intro i
    have h1 := (ih (i := i + 1)).1
    have h2 := (ih (i := i + 1)).2
    unfold othersL
    split
    · rw [ktS_cons, List.length_cons]; omega
    · rw [ktS_cons, ktS_cons, List.length_cons, List.length_cons]; omega
theorem StG.others {lost : List Int} {l : List Store} (h : StG l) (i : Nat) : StG (othersL lost i l) := ⟨Nat.le_trans othersL_len.1 h.1, fun s hs => h.2 s (othersL_mem hs)⟩

def MG (s n h w : Nat) (m : Mend) : Prop := m.2.2.1.length ≤ s ∧ EG n m.2.2.2.1 ∧ (m.2.2.2.2.2.1.length ≤ h ∧ ∀ l ∈ m.2.2.2.2.2.1, l.length ≤ w) ∧ InR m.1 ∧ InR m.2.1
theorem MG.mono {s n h w s' n' h' w' : Nat} {m : Mend} (g : MG s n h w m) (h1 : s ≤ s') (h2 : n ≤ n') (h3 : h ≤ h') (h4 : w ≤ w') : MG s' n' h' w' m :=
  ⟨by have := g.1; omega, g.2.1.mono h2, ⟨by have := g.2.2.1.1; omega, fun l hl => by have := g.2.2.1.2 l hl; omega⟩, g.2.2.2⟩
theorem MG.get {s n h w : Nat} {m : Mend} (g : MG s n h w m) (i : Nat) : (m.2.2.2.2.2.1.getD i []).length ≤ w := by
  by_cases hi : i < m.2.2.2.2.2.1.length
  · exact g.2.2.1.2 _ (getD_mem hi)
  · rw [List.getD_eq_getElem?_getD, List.getElem?_eq_none (by omega)]; exact Nat.zero_le _
theorem mend_small {m : Mend} (h : Gd tMend m) (hc : cnt tMend m ≤ 1048576) : MG m.2.2.1.length m.2.2.2.1.length m.2.2.2.2.2.1.length 1048576 m := by
  have hc : 0 + (0 + (cnt (.sl (.int .i64)) m.2.2.1 + (cnt (.sl tEntry) m.2.2.2.1 + (0 + (cnt (.sl (.sl (.int .i64))) m.2.2.2.2.2.1 + 0))))) ≤ 1048576 := hc
  refine ⟨Nat.le_refl _, ents_small h.2.2.2.1, ⟨Nat.le_refl _, fun l hl => ?_⟩, InR_of h.1, InR_of h.2.1⟩
  have hw : cnt (.sl (.sl (.int .i64))) m.2.2.2.2.2.1 = m.2.2.2.2.2.1.length + (m.2.2.2.2.2.1.map fun x => cnt (.sl (.int .i64)) x).sum := rfl
  have := sum_mem (f := fun x => cnt (.sl (.int .i64)) x) hl
  have h2 : cnt (.sl (.int .i64)) l = l.length := cnt_ints l
  have this : cnt (.sl (.int .i64)) l ≤ (m.2.2.2.2.2.1.map fun x => cnt (.sl (.int .i64)) x).sum := this
  omega
theorem mend_cnt (m : Mend) : cnt tMend m = m.2.2.1.length + (cnt (.sl tEntry) m.2.2.2.1 + cnt (.sl (.sl (.int .i64))) m.2.2.2.2.2.1) := by
  show 0 + (0 + (cnt (.sl (.int .i64)) m.2.2.1 + (cnt (.sl tEntry) m.2.2.2.1 + (0 + (cnt (.sl (.sl (.int .i64))) m.2.2.2.2.2.1 + 0))))) = _
  rw [cnt_ints]; omega

noncomputable def zRd : Reader := ((0 : Int), ((0 : Int), (([] : List Event), ())))
noncomputable def readerB (r : Reader) : Bool := inB r.1 1 31 && (inB r.2.1 1 61 && decide (((r.2.2.1.length : Nat) : Int) ≤ 120))

noncomputable def zAns : Answer := ((0 : Int), (false, (((0 : Int), ((0 : Int), (false, ((⟨#[]⟩ : ByteArray), ())))), ())))
noncomputable def evOf (place : Int) (q : Entry × Bool) : Event := if q.2 = true then (if q.1.2.2.1 = true then ((2 : Int), (place, ((⟨#[]⟩ : ByteArray), ()))) else ((1 : Int), (place, (q.1.2.2.2.1, ())))) else ((3 : Int), (place, ((⟨#[]⟩ : ByteArray), ())))
/-- Answers of at most n nodes, whose places are numbers of 64 bits. -/
def AnG (l : List Answer) : Prop := l.length ≤ 1048576 ∧ ∀ x ∈ l, InR x.2.2.1.1

/-- A cursor over bytes: where it stands. -/
def Cu (c : l1Cur) : Prop := c.1.length ≤ 1048576 ∧ 0 ≤ c.2.1
theorem spec_l1New_l (b : List Int) (hb : b.length ≤ 1048576) : ∀ (m i : Nat) (h : Int), i + m = b.length → Evp (fun k => spec_l1New.p7 k b h (i : Int)) Cu := by
  intro m
  induction m with
  | zero =>
    intro i h hi
    refine Evp.succ ?_
    simp only [spec_l1New.p7]
    exact Evp.neg (by omega) (Evp.ret ⟨hb, Int.le_refl _⟩)
  | succ m ih =>
    intro i h hi
    refine Evp.succ ?_
    simp only [spec_l1New.p7]
    refine Evp.pos (by omega) (Evp.ite (fun _ => Evp.pos (by omega) ?_) (fun _ => Evp.ret ⟨hb, Int.le_refl _⟩))
    rw [wrap_up (i := i) (n := b.length) (by omega) (by omega)]
    exact ih (i + 1) _ (by omega)
theorem spec_l1New_d (b : List Int) (hb : b.length ≤ 1048576) : Evp (fun k => spec_l1New.f k b) Cu := spec_l1New_l b hb b.length 0 _ (by omega)

theorem and255 (x : Int) : 0 ≤ andK .i64 x 255 ∧ andK .i64 x 255 ≤ 255 := by
  have e : andK .i64 x 255 = wrap64 (((BitVec.ofInt 64 x &&& BitVec.ofInt 64 255).toNat : Nat) : Int) := rfl
  have h : (BitVec.ofInt 64 x &&& BitVec.ofInt 64 255).toNat ≤ 255 := by
    rw [BitVec.toNat_and]
    exact Nat.le_trans Nat.and_le_right (by decide)
  rw [e, wrap64_id (by omega) (by omega)]
  omega
theorem spec_l1Byte_d (c : l1Cur) (h : Cu c) : Op (spec_l1Byte.f c) (fun r => 0 ≤ r.1 ∧ r.1 ≤ 255 ∧ Cu r.2) := by
  obtain ⟨h1, h2⟩ := h
  unfold spec_l1Byte.f
  refine Op.ite (fun hl => Op.pos ⟨h2, hl⟩ (Op.ret ⟨(and255 _).1, (and255 _).2, h1, ?_⟩)) (fun hl => Op.ret ⟨(and255 _).1, (and255 _).2, h1, h2⟩)
  show (0 : Int) ≤ wrap64 (c.2.1 + 1)
  rw [wrap64_id (by omega) (by omega)]; omega

theorem spec_l1Below_d (c : l1Cur) (n : Int) (h : Cu c) : Op (spec_l1Below.f c n) (fun r => 0 ≤ r.1 ∧ (0 < n → r.1 < n) ∧ (n ≤ 0 → r.1 = 0) ∧ Cu r.2) := by
  unfold spec_l1Below.f
  refine Op.ite (fun h0 => Op.ret ⟨by show (0 : Int) ≤ 0; omega, fun h1 => by omega, fun _ => rfl, h⟩) (fun h0 => Op.ite (fun h1 => Op.bind (spec_l1Byte_d c h) fun r hr => ?_) (fun h1 => ?_))
  · refine Op.neg (by omega) (Op.ret ?_)
    show 0 ≤ Int.tmod r.1 n ∧ (0 < n → Int.tmod r.1 n < n) ∧ (n ≤ 0 → Int.tmod r.1 n = 0) ∧ Cu r.2
    rw [Int.tmod_eq_emod_of_nonneg hr.1]
    exact ⟨Int.emod_nonneg _ (by omega), fun _ => Int.emod_lt_of_pos _ (by omega), fun _ => by omega, hr.2.2⟩
  · refine Op.bind (spec_l1Byte_d c h) fun r hr => Op.bind (spec_l1Byte_d _ hr.2.2) fun s hs => Op.bind (spec_l1Byte_d _ hs.2.2) fun t ht => Op.bind (spec_l1Byte_d _ ht.2.2) fun u hu => Op.neg (by omega) (Op.ret ?_)
    obtain ⟨a1, a2, _⟩ := hr
    obtain ⟨b1, b2, _⟩ := hs
    obtain ⟨c1, c2, _⟩ := ht
    obtain ⟨d1, d2, d3⟩ := hu
    rw [wrap64_id (x := r.1 * 16777216) (by omega) (by omega), wrap64_id (x := s.1 * 65536) (by omega) (by omega), wrap64_id (x := r.1 * 16777216 + s.1 * 65536) (by omega) (by omega), wrap64_id (x := t.1 * 256) (by omega) (by omega), wrap64_id (x := r.1 * 16777216 + s.1 * 65536 + t.1 * 256) (by omega) (by omega), wrap64_id (x := r.1 * 16777216 + s.1 * 65536 + t.1 * 256 + u.1) (by omega) (by omega)]
    have hz : (0 : Int) ≤ r.1 * 16777216 + s.1 * 65536 + t.1 * 256 + u.1 := by omega
    show 0 ≤ Int.tmod _ n ∧ (0 < n → Int.tmod _ n < n) ∧ (n ≤ 0 → Int.tmod _ n = 0) ∧ Cu u.2
    rw [Int.tmod_eq_emod_of_nonneg hz]
    exact ⟨Int.emod_nonneg _ (by omega), fun _ => Int.emod_lt_of_pos _ (by omega), fun _ => by omega, d3⟩

theorem spec_l1Once_d (c : l1Cur) (n : Int) (h : Cu c) : Op (spec_l1Once.f c n) (fun r => Cu r.2) := by
  unfold spec_l1Once.f
  exact Op.bind (spec_l1Below_d c n h) fun r hr => Op.ret hr.2.2.2

theorem spec_l4DrawRight_l (n : Int) (h3 : 0 ≤ n) (hn : n ≤ 8) (z : Config) : ∀ (m i : Nat) (a : Config) (c : l1Cur), (i : Int) + m = n → a.1.length = i → (∀ x ∈ a.1, 0 ≤ x ∧ x ≤ 4) → Cu c →
    Evp (fun k => spec_l4DrawRight.p9 k n (i : Int) z a c) (fun r => (r.1.1.length : Int) = n ∧ (∀ x ∈ r.1.1, 0 ≤ x ∧ x ≤ 4) ∧ (r.1.2.1 = a.2.1 ∨ r.1.2.1 = 2) ∧ Cu r.2) := by
  intro m
  induction m with
  | zero =>
    intro i a c hi ha hx hc
    refine Evp.succ ?_
    simp only [spec_l4DrawRight.p9]
    refine Evp.neg (by omega) (Evp.bindc (spec_l1Once_d c 2 hc) fun r hr => Evp.ite (fun _ => Evp.ret ⟨by show (a.1.length : Int) = n; omega, hx, .inr rfl, hr⟩) (fun _ => Evp.ret ⟨by show (a.1.length : Int) = n; omega, hx, .inl rfl, hr⟩))
  | succ m ih =>
    intro i a c hi ha hx hc
    refine Evp.succ ?_
    simp only [spec_l4DrawRight.p9]
    refine Evp.pos (by omega) (Evp.bindc (spec_l1Below_d c 5 hc) fun r hr => Evp.pos (by simp only [lim_eq, List.length_cons, List.length_nil]; omega) ?_)
    rw [wrap_up (i := i) (n := 8) (by omega) (by omega)]
    exact ih (i + 1) (a.1 ++ [r.1], a.2) r.2 (by omega) (by show (a.1 ++ [r.1]).length = i + 1; simp [ha]) (fun x hm => by
      rcases List.mem_append.1 hm with h | h
      · exact hx x h
      · rw [List.mem_singleton] at h; subst h; have := hr.2.1 (by omega); exact ⟨hr.1, by omega⟩) hr.2.2.2
theorem spec_l4DrawRight_d (c : l1Cur) (h : Cu c) : Evp (fun k => spec_l4DrawRight.f k c) (fun r => 3 ≤ r.1.1.length ∧ r.1.1.length ≤ 8 ∧ (∀ x ∈ r.1.1, 0 ≤ x ∧ x ≤ 4) ∧ 1 ≤ r.1.2.1 ∧ r.1.2.1 ≤ 3 ∧ Cu r.2) := by
  simp only [spec_l4DrawRight.f]
  refine Evp.bindc (spec_l1Below_d c 3 h) fun r hr => Evp.bindc (spec_l1Below_d _ 5 hr.2.2.2) fun s hs => ?_
  have h1 := hr.2.1 (by omega)
  have h2 := hs.2.1 (by omega)
  have h0 := hr.1
  have h0' := hs.1
  rw [wrap64_id (x := 3 + s.1) (by omega) (by omega), wrap64_id (x := 1 + r.1) (by omega) (by omega)]
  refine (spec_l4DrawRight_l (3 + s.1) (by omega) (by omega) _ (3 + s.1).toNat 0 _ _ (by omega) rfl (fun x hx => by cases hx) hs.2.2.2).mono fun q hq => ?_
  obtain ⟨q1, q2, q3, q4⟩ := hq
  have q3 : q.1.2.1 = 1 + r.1 ∨ q.1.2.1 = 2 := q3
  exact ⟨by omega, by omega, q2, by omega, by omega, q4⟩

theorem spec_l1Max_d (a b : Int) : Op (spec_l1Max.f a b) (fun r => a ≤ r ∧ b ≤ r ∧ (r = a ∨ r = b)) := by
  unfold spec_l1Max.f
  exact Op.ite (fun h => Op.ret ⟨by omega, by omega, .inl rfl⟩) (fun h => Op.ret ⟨by omega, by omega, .inr rfl⟩)

theorem spec_l4Has_l (l : List Int) (x : Int) (hl : l.length ≤ 1048576) : ∀ (m i : Nat), i + m = l.length → Ev (fun k => spec_l4Has.p5 k l x (i : Int)) ((l.drop i).contains x) := by
  intro m
  induction m with
  | zero =>
    intro i h
    refine Ev.succ ?_
    simp only [spec_l4Has.p5]
    rw [List.drop_eq_nil_of_le (by omega)]
    exact Ev.neg (by omega) Ev.ret
  | succ m ih =>
    intro i h
    refine Ev.succ ?_
    simp only [spec_l4Has.p5, Int.toNat_natCast]
    rw [drop_get (d := (0 : Int)) (i := i) (l := l) (by omega), List.contains_cons, wrap_up (i := i) (n := l.length) (by omega) (by omega)]
    refine Ev.pos (by omega) (Ev.pos (by omega) ?_)
    by_cases hx : l.getD i 0 = x
    · exact (Ev.pos hx Ev.ret).eq (by rw [hx]; simp)
    · refine (Ev.neg hx (ih (i + 1) (by omega))).eq ?_
      rw [show (x == l.getD i 0) = false by simpa using fun e => hx e.symm, Bool.false_or]
theorem spec_l4Has_ev (l : List Int) (x : Int) (hl : l.length ≤ 1048576) : Ev (fun k => spec_l4Has.f k l x) (l.contains x) := spec_l4Has_l l x hl l.length 0 (by omega)

theorem spec_l4Put_l (l : List Int) (x : Int) (hl : l.length ≤ 1048576) : ∀ (m i : Nat) (o : List Int) (b : Bool), i + m = l.length → o.length ≤ i + (if b = true then 1 else 0) → Evp (fun k => spec_l4Put.p9 k l x o b (i : Int)) (fun r => r.length ≤ o.length + m + (if b = true then 0 else 1)) := by
  intro m
  induction m with
  | zero =>
    intro i o b h ho
    refine Evp.succ ?_
    simp only [spec_l4Put.p9]
    refine Evp.neg (by omega) ?_
    cases b with
    | true => exact Evp.pos rfl (Evp.ret (by simp))
    | false => simp at ho; exact Evp.neg (by decide) (Evp.pos (by simp only [lim_eq, List.length_cons, List.length_nil]; omega) (Evp.ret (by simp)))
  | succ m ih =>
    intro i o b h ho
    refine Evp.succ ?_
    simp only [spec_l4Put.p9]
    rw [wrap_up (i := i) (n := l.length) (by omega) (by omega)]
    refine Evp.pos (by omega) ?_
    cases b with
    | true =>
      simp at ho
      refine Evp.pos rfl (Evp.pos (by omega) (Evp.pos (by simp only [lim_eq, List.length_cons, List.length_nil]; omega) ?_))
      exact (ih (i + 1) _ true (by omega) (by simp; omega)).mono fun r hr => by simp at hr ⊢; omega
    | false =>
      simp at ho
      refine Evp.neg (by decide) (Evp.pos (by omega) (Evp.ite (fun _ => Evp.pos (by simp only [lim_eq, List.length_cons, List.length_nil]; omega) (Evp.pos (by omega) (Evp.pos (by simp only [lim_eq, List.length_append, List.length_cons, List.length_nil]; omega) ?_))) (fun _ => Evp.pos (by omega) (Evp.pos (by simp only [lim_eq, List.length_cons, List.length_nil]; omega) ?_))))
      · exact (ih (i + 1) _ true (by omega) (by simp; omega)).mono fun r hr => by simp at hr ⊢; omega
      · exact (ih (i + 1) _ false (by omega) (by simp; omega)).mono fun r hr => by simp at hr ⊢; omega
theorem spec_l4Put_d (l : List Int) (x : Int) (hl : l.length ≤ 1048576) : Evp (fun k => spec_l4Put.f k l x) (fun r => r.length ≤ l.length + 1) := by
  simp only [spec_l4Put.f]
  refine Evp.bindv (spec_l4Has_ev l x hl) ((spec_l4Put_l l x hl l.length 0 [] (l.contains x) (by omega) (by simp)).mono fun r hr => ?_)
  have h2 : (if l.contains x = true then 0 else 1) ≤ 1 := by split <;> omega
  simp only [List.length_nil] at hr
  omega
theorem spec_l4Put_ll (l : List Int) (x : Int) (hl : l.length ≤ 1048576) : ∀ (m i : Nat) (o : List Int) (b : Bool), i + m = l.length → o.length ≤ i + (if b = true then 1 else 0) → Ev (fun k => spec_l4Put.p9 k l x o b (i : Int)) (o ++ if b = true then l.drop i else insB (l.drop i) x) := by
  intro m
  induction m with
  | zero =>
    intro i o b h ho
    refine Ev.succ ?_
    simp only [spec_l4Put.p9]
    rw [List.drop_eq_nil_of_le (by omega)]
    refine Ev.neg (by omega) ?_
    cases b with
    | true => exact Ev.pos rfl (Ev.ret.eq (by simp))
    | false => simp at ho; exact Ev.neg (by decide) (Ev.pos (by simp only [lim_eq, List.length_cons, List.length_nil]; omega) (Ev.ret.eq (by simp [insB])))
  | succ m ih =>
    intro i o b h ho
    refine Ev.succ ?_
    simp only [spec_l4Put.p9, Int.toNat_natCast]
    rw [wrap_up (i := i) (n := l.length) (by omega) (by omega), drop_get (d := 0) (by omega : i < l.length)]
    refine Ev.pos (by omega) ?_
    cases b with
    | true =>
      simp at ho
      refine Ev.pos rfl (Ev.pos (by omega) (Ev.pos (by simp only [lim_eq, List.length_cons, List.length_nil]; omega) ?_))
      exact (ih (i + 1) _ true (by omega) (by simp; omega)).eq (by simp)
    | false =>
      simp at ho
      refine Ev.neg (by decide) (Ev.pos (by omega) ?_)
      by_cases hx : x < l.getD i 0
      · refine Ev.pos hx (Ev.pos (by simp only [lim_eq, List.length_cons, List.length_nil]; omega) (Ev.pos (by omega) (Ev.pos (by simp only [lim_eq, List.length_append, List.length_cons, List.length_nil]; omega) ?_)))
        exact (ih (i + 1) _ true (by omega) (by simp; omega)).eq (by (conv => rhs; unfold insB); rw [if_pos hx]; simp)
      · refine Ev.neg hx (Ev.pos (by omega) (Ev.pos (by simp only [lim_eq, List.length_cons, List.length_nil]; omega) ?_))
        exact (ih (i + 1) _ false (by omega) (by simp; omega)).eq (by (conv => rhs; unfold insB); rw [if_neg hx]; simp)
theorem spec_l4Put_ev (l : List Int) (x : Int) (hl : l.length ≤ 1048576) : Ev (fun k => spec_l4Put.f k l x) (insL l x) := by
  simp only [spec_l4Put.f]
  refine Ev.bind (spec_l4Has_ev l x hl) ((spec_l4Put_ll l x hl l.length 0 [] (l.contains x) (by omega) (by simp)).eq ?_)
  unfold insL
  simp

theorem spec_l1PickInt_d (c : l1Cur) (l : List Int) (h : Cu c) (hl : 0 < l.length) : Op (spec_l1PickInt.f c l) (fun r => r.1 ∈ l ∧ Cu r.2) := by
  unfold spec_l1PickInt.f
  refine Op.bind (spec_l1Below_d c _ h) fun r hr => ?_
  have h1 := hr.2.1 (by omega)
  exact Op.pos ⟨hr.1, h1⟩ (Op.ret ⟨getD_mem (by omega), hr.2.2.2⟩)

theorem spec_l4DrawNodes_l (n : Int) (a : Config) (hn : n ≤ 1048576) (ha : a.1.length ≤ 1048576) : ∀ (m i : Nat) (l : List Int) (c : l1Cur), (i : Int) + m = n → l.length ≤ i → Cu c →
    Evp (fun k => spec_l4DrawNodes.p9 k l n (i : Int) a c) (fun r => r.1.length ≤ i + m + 1 ∧ Cu r.2) := by
  intro m
  induction m with
  | zero =>
    intro i l c hi hl hc
    refine Evp.succ ?_
    simp only [spec_l4DrawNodes.p9]
    refine Evp.neg (by omega) (Evp.bindc (spec_l1Once_d c 20 hc) fun r hr => Evp.ite (fun _ => Evp.bindc (spec_l1PickInt_d _ _ hr (by simp)) fun s hs => Evp.pos (by simp only [lim_eq, List.length_cons, List.length_nil]; omega) (Evp.ret ⟨by simp; omega, hs.2⟩)) (fun _ => Evp.ret ⟨by show l.length ≤ _; omega, hr⟩))
  | succ m ih =>
    intro i l c hi hl hc
    refine Evp.succ ?_
    simp only [spec_l4DrawNodes.p9, spec_l1Max.f]
    refine Evp.pos (by omega) ?_
    have hm : ∃ z : Int, (if (1 : Int) < ((a.1.length : Nat) : Int) then some ((a.1.length : Nat) : Int) else some (1 : Int)) = some z := by split <;> exact ⟨_, rfl⟩
    obtain ⟨z, hz⟩ := hm
    simp only [hz, Option.bind_some]
    refine Evp.bindc (spec_l1Below_d c z hc) fun r hr => Evp.bind (spec_l4Put_d l r.1 (by omega)) fun s hs => ?_
    rw [wrap_up (i := i) (n := i + 1) (by omega) (by omega)]
    exact (ih (i + 1) s r.2 (by omega) (by omega) hr.2.2.2).mono fun q hq => ⟨by omega, hq.2⟩
theorem spec_l4DrawNodes_d (c : l1Cur) (a : Config) (h : Cu c) (ha : a.1.length ≤ 9) : Evp (fun k => spec_l4DrawNodes.f k c a) (fun r => r.1.length ≤ 12 ∧ Cu r.2) := by
  simp only [spec_l4DrawNodes.f]
  rw [wrap64_id (by omega) (by omega)]
  refine Evp.bindc (spec_l1Below_d c _ h) fun r hr => ?_
  have h1 := hr.2.1 (by omega)
  have h0 := hr.1
  exact (spec_l4DrawNodes_l r.1 a (by omega) (by omega) r.1.toNat 0 [] r.2 (by omega) (by simp) hr.2.2.2).mono fun q hq => ⟨by omega, hq.2⟩

theorem spec_l1In_is (x a b : Int) : spec_l1In.f x a b = some (inB x a b) := ite_inB x a b

/-- A config that is right: its domains, its copies. -/
noncomputable def cfgB (a : Config) : Bool := inB ((a.1.length : Nat) : Int) 1 8 && (inB a.2.1 1 4 && (List.range' 0 a.1.length).all fun i => inB (a.1.getD i 0) 0 7)
theorem cfgB_len {a : Config} (h : cfgB a = true) : 1 ≤ a.1.length ∧ a.1.length ≤ 8 ∧ 1 ≤ a.2.1 ∧ a.2.1 ≤ 4 ∧ ∀ i, i < a.1.length → 0 ≤ a.1.getD i 0 ∧ a.1.getD i 0 ≤ 7 := by
  simp only [cfgB, Bool.and_eq_true, inB_true, List.all_eq_true, List.mem_range'_1] at h
  obtain ⟨h1, h2, h3⟩ := h
  exact ⟨by omega, by omega, h2.1, h2.2, fun i hi => h3 i (by omega)⟩
theorem spec_ConfigOk_ev (a : Config) (hl : a.1.length ≤ 1048576) : Ev (fun k => spec_ConfigOk.f k a) (cfgB a) := by
  have h := all_loop (n := a.1.length) (p := fun k i => spec_ConfigOk.p9 k i a) (q := fun i => inB (a.1.getD i 0) 0 7) (zb := true) (fun i hi b hb => by
    simp only [spec_ConfigOk.p9, spec_l1In_is]
    refine Ev.pos (by omega) (Ev.pos (by omega) (Ev.bindc rfl (Ev.and fun _ => ?_)))
    rw [wrap_up hi (by omega)]; exact hb) (by
    simp only [spec_ConfigOk.p9]
    exact Ev.neg (by omega) Ev.ret) a.1.length 0 (by omega)
  simp only [spec_ConfigOk.f, spec_l1In_is, cfgB]
  refine Ev.bindc rfl (Ev.and fun _ => Ev.bindc rfl (Ev.and fun _ => ?_))
  simpa using h

/-- Ascending numbers from lo to hi. -/
noncomputable def ascB (l : List Int) (lo hi : Int) : Bool := (List.range' 0 l.length).all fun i => inB (l.getD i 0) lo hi && (decide (i = 0) || !decide (l.getD i 0 ≤ l.getD (i - 1) 0))
theorem ascB_mem {l : List Int} {lo hi : Int} (h : ascB l lo hi = true) {i : Nat} (hi' : i < l.length) : lo ≤ l.getD i 0 ∧ l.getD i 0 ≤ hi := by
  simp only [ascB, List.all_eq_true, List.mem_range'_1, Bool.and_eq_true, inB_true] at h
  exact (h i (by omega)).1
theorem spec_l4Asc_ev (l : List Int) (lo hi : Int) (hl : l.length ≤ 1048576) : Ev (fun k => spec_l4Asc.f k l lo hi) (ascB l lo hi) := by
  have h := all_loop (n := l.length) (p := fun k i => spec_l4Asc.p5 k l lo hi i) (q := fun i => inB (l.getD i 0) lo hi && (decide (i = 0) || !decide (l.getD i 0 ≤ l.getD (i - 1) 0))) (zb := true) (fun i hi' b hb => by
    simp only [spec_l4Asc.p5, spec_l1In_is]
    refine Ev.pos (by omega) (Ev.pos (by omega) (Ev.bindc rfl ?_))
    rw [Bool.and_assoc]
    refine Ev.and fun _ => ?_
    rw [wrap_up hi' (by omega)]
    by_cases h0 : i = 0
    · subst h0
      exact (Ev.neg (by omega) hb).eq (by simp)
    · have e : wrap64 ((i : Int) - 1) = ((i - 1 : Nat) : Int) := by rw [wrap64_id (by omega) (by omega)]; omega
      rw [e]
      refine Ev.pos (by omega) (Ev.pos (by omega) (Ev.pos (by omega) ?_))
      rw [decide_eq_false h0, Bool.false_or]
      exact Ev.nand fun _ => hb) (by
    simp only [spec_l4Asc.p5]
    exact Ev.neg (by omega) Ev.ret) l.length 0 (by omega)
  exact (Ev.cg h fun k => rfl).eq (by unfold ascB; rw [Bool.and_true])
theorem ascB_Asc {l : List Int} {lo hi : Int} (h : ascB l lo hi = true) : Asc l := Asc.of fun q hq => by
  simp only [ascB, List.all_eq_true, List.mem_range'_1, Bool.and_eq_true, Bool.or_eq_true, decide_eq_true_eq, Bool.not_eq_true', decide_eq_false_iff_not] at h
  have := (h (q + 1) (by omega)).2
  simp only [Nat.add_sub_cancel] at this
  omega
theorem ascB_iff {l : List Int} {lo hi : Int} : ascB l lo hi = true ↔ (∀ x ∈ l, lo ≤ x ∧ x ≤ hi) ∧ l.Pairwise (· < ·) := by
  constructor
  · intro h
    refine ⟨fun x hx => ?_, (ascB_Asc h).pw⟩
    obtain ⟨q, hq, rfl⟩ := getD_of_mem hx
    exact ascB_mem h hq
  · rintro ⟨h1, h2⟩
    simp only [ascB, List.all_eq_true, List.mem_range'_1, Bool.and_eq_true, Bool.or_eq_true, decide_eq_true_eq, Bool.not_eq_true', decide_eq_false_iff_not, inB_true]
    intro i hi
    refine ⟨h1 _ (getD_mem (by omega)), ?_⟩
    by_cases h0 : i = 0
    · exact .inl h0
    · have := Asc.of_pw h2 (i - 1) i (by omega) (by omega)
      exact .inr (by omega)
theorem ascB_len {l : List Int} {lo hi : Int} (h : ascB l lo hi = true) : l.length = 0 ∨ (l.length : Int) ≤ hi - lo + 1 := by
  have ha := ascB_Asc h
  have key : ∀ q, q < l.length → lo + (q : Int) ≤ l.getD q 0 := by
    intro q
    induction q with
    | zero => intro hq; have := (ascB_mem h hq).1; omega
    | succ q ih => intro hq; have := ih (by omega); have := ha q (q + 1) (by omega) hq; omega
  by_cases h0 : l.length = 0
  · exact .inl h0
  · have := key (l.length - 1) (by omega)
    have := (ascB_mem h (i := l.length - 1) (by omega)).2
    exact .inr (by omega)

noncomputable def nodesB (a : Config) (l : List Int) : Bool := cfgB a && ascB l 0 (((a.1.length : Nat) : Int) - 1)
theorem spec_NodesOk_ev (a : Config) (l : List Int) (ha : a.1.length ≤ 1048576) (hl : l.length ≤ 1048576) : Ev (fun k => spec_NodesOk.f k a l) (nodesB a l) := by
  simp only [spec_NodesOk.f, nodesB]
  refine Ev.bind (spec_ConfigOk_ev a ha) (Ev.and fun _ => ?_)
  rw [wrap64_id (by omega) (by omega)]
  exact Ev.bind (spec_l4Asc_ev l 0 _ hl) Ev.ret
theorem nodesB_len {a : Config} {l : List Int} (h : nodesB a l = true) : l.length ≤ 8 := by
  simp only [nodesB, Bool.and_eq_true] at h
  have := cfgB_len h.1
  have := ascB_len h.2
  omega
theorem nodesB_Asc {a : Config} {l : List Int} (h : nodesB a l = true) : Asc l := by
  simp only [nodesB, Bool.and_eq_true] at h
  exact ascB_Asc h.2
theorem nodesB_filter {a : Config} {l : List Int} (p : Int → Bool) (h : nodesB a l = true) : nodesB a (l.filter p) = true := by
  simp only [nodesB, Bool.and_eq_true, ascB_iff] at h ⊢
  exact ⟨h.1, fun x hx => h.2.1 x (List.mem_filter.1 hx).1, h.2.2.filter _⟩
theorem nodesB_ins {a : Config} {l : List Int} {x : Int} (h : nodesB a l = true) (h0 : 0 ≤ x) (h1 : x ≤ ((a.1.length : Nat) : Int) - 1) : nodesB a (insL l x) = true := by
  simp only [nodesB, Bool.and_eq_true, ascB_iff] at h ⊢
  refine ⟨h.1, fun y hy => ?_, insL_pw h.2.2⟩
  rcases mem_insL.1 hy with rfl | hy
  · exact ⟨h0, h1⟩
  · exact h.2.1 y hy

/-- The domains of nodes, each once, behind those that were met. -/
noncomputable def domsOf (a : Config) : List Int → List Int → List Int
  | [], acc => acc
  | n :: l, acc => domsOf a l (if acc.contains (a.1.getD n.toNat 0) then acc else acc ++ [a.1.getD n.toNat 0])
noncomputable def spanOf (a : Config) (l : List Int) : Int := ((domsOf a l []).length : Int)
theorem spec_l4Span_l (a : Config) (l : List Int) (hdom : ∀ i, i < a.1.length → 0 ≤ a.1.getD i 0 ∧ a.1.getD i 0 ≤ 7) (hl : l.length ≤ 1048576) (hmem : ∀ i, i < l.length → 0 ≤ l.getD i 0 ∧ l.getD i 0 < ((a.1.length : Nat) : Int)) :
    ∀ (m i : Nat) (seen : List Bool) (acc : List Int), i + m = l.length → seen.length = 8 → acc.length ≤ i → (∀ x : Int, 0 ≤ x → x ≤ 7 → (seen.getD x.toNat false = acc.contains x)) →
    Ev (fun k => spec_l4Span.p9 k l seen (acc.length : Int) (i : Int) a) ((domsOf a (l.drop i) acc).length : Int) := by
  intro m
  induction m with
  | zero =>
    intro i seen acc h hs ha hx
    refine Ev.succ ?_
    simp only [spec_l4Span.p9]
    rw [List.drop_eq_nil_of_le (by omega)]
    exact Ev.neg (by omega) Ev.ret
  | succ m ih =>
    intro i seen acc h hs ha hx
    have hi : i < l.length := by omega
    have hn := hmem i hi
    have hv := hdom (l.getD i 0).toNat (by omega)
    refine Ev.succ ?_
    simp only [spec_l4Span.p9, Int.toNat_natCast]
    rw [drop_get (d := (0 : Int)) hi]
    simp only [domsOf]
    generalize hw : a.1.getD (l.getD i 0).toNat 0 = x at *
    refine Ev.pos (by omega) (Ev.pos (by omega) (Ev.pos (by omega) (Ev.pos (by omega) ?_)))
    rw [hx _ hv.1 hv.2, wrap_up hi (by omega)]
    by_cases hc : acc.contains x = true
    · rw [if_pos hc]
      exact Ev.pos hc (ih (i + 1) seen acc (by omega) hs (by omega) hx)
    · rw [if_neg hc]
      refine Ev.neg hc (Ev.pos (by omega) ?_)
      have := ih (i + 1) (seen.set x.toNat true) (acc ++ [x]) (by omega) (by simp [hs]) (by simp; omega) (by
        intro y h0 h7
        by_cases e : y = x
        · subst e
          simp [List.getD_eq_getElem?_getD, List.getElem?_set, hs, show y.toNat < 8 by omega]
        · have he : x.toNat ≠ y.toNat := by omega
          have := hx y h0 h7
          rw [List.getD_eq_getElem?_getD, List.getElem?_set, if_neg he, ← List.getD_eq_getElem?_getD, this]
          simp [e])
      have e1 : wrap64 ((acc.length : Int) + 1) = ((acc ++ [x]).length : Int) := by rw [wrap64_id (by omega) (by omega)]; simp
      rw [e1]; exact this
theorem spec_l4Span_ev (a : Config) (l : List Int) (hok : nodesB a l = true) (hl : l.length ≤ 1048576) : Ev (fun k => spec_l4Span.f k a l) (spanOf a l) := by
  simp only [nodesB, Bool.and_eq_true] at hok
  obtain ⟨h1, h2, _, _, h5⟩ := cfgB_len hok.1
  simp only [spec_l4Span.f]
  refine Ev.pos (by simp [lim_eq]) ?_
  have := spec_l4Span_l a l h5 hl (fun i hi => by have := ascB_mem hok.2 hi; omega) l.length 0 (List.replicate 8 false) [] (by omega) (by simp) (by simp) (by
    intro x h0 h7
    rw [List.getD_eq_getElem?_getD, List.getElem?_replicate, if_pos (by omega)]
    rfl)
  rw [List.drop_zero] at this
  exact this
theorem nodup_len {l m : List Int} (h : l.Nodup) (hs : ∀ x ∈ l, x ∈ m) : l.length ≤ m.length := by
  induction l generalizing m with
  | nil => exact Nat.zero_le _
  | cons x l ih =>
    rw [List.nodup_cons] at h
    have hx := hs x List.mem_cons_self
    have := ih (m := m.erase x) h.2 fun y hy => by
      have hne : y ≠ x := fun e => h.1 (e ▸ hy)
      exact (List.mem_erase_of_ne hne).2 (hs y (List.mem_cons_of_mem _ hy))
    rw [List.length_erase_of_mem hx] at this
    have hp := List.length_pos_of_mem hx
    rw [List.length_cons]; omega
theorem domsOf_nodup (a : Config) : ∀ (l acc : List Int), acc.Nodup → (domsOf a l acc).Nodup := by
  intro l
  induction l with
  | nil => intro acc h; exact h
  | cons n l ih =>
    intro acc h
    unfold domsOf
    refine ih _ ?_
    split
    · exact h
    · rename_i hc
      rw [List.contains_iff_mem] at hc
      refine List.nodup_append.2 ⟨h, by simp, fun x hx y hy => ?_⟩
      rw [List.mem_singleton] at hy
      intro e
      exact hc (hy ▸ e ▸ hx)
theorem domsOf_mem (a : Config) : ∀ (l acc : List Int) (x : Int), x ∈ domsOf a l acc ↔ x ∈ acc ∨ ∃ n ∈ l, a.1.getD n.toNat 0 = x := by
  intro l
  induction l with
  | nil => intro acc x; simp [domsOf]
  | cons n l ih =>
    intro acc x
    unfold domsOf
    rw [ih]
    split
    · rename_i hc
      rw [List.contains_iff_mem] at hc
      constructor
      · rintro (h | ⟨m, h1, h2⟩)
        · exact .inl h
        · exact .inr ⟨m, List.mem_cons_of_mem _ h1, h2⟩
      · rintro (h | ⟨m, h1, h2⟩)
        · exact .inl h
        · rcases List.mem_cons.1 h1 with rfl | h1
          · exact .inl (h2 ▸ hc)
          · exact .inr ⟨m, h1, h2⟩
    · constructor
      · rintro (h | ⟨m, h1, h2⟩)
        · rcases List.mem_append.1 h with h | h
          · exact .inl h
          · rw [List.mem_singleton] at h
            exact .inr ⟨n, List.mem_cons_self, h.symm⟩
        · exact .inr ⟨m, List.mem_cons_of_mem _ h1, h2⟩
      · rintro (h | ⟨m, h1, h2⟩)
        · exact .inl (List.mem_append_left _ h)
        · rcases List.mem_cons.1 h1 with rfl | h1
          · exact .inl (List.mem_append_right _ (List.mem_singleton.2 h2.symm))
          · exact .inr ⟨m, h1, h2⟩
theorem spanOf_mono (a : Config) {l m : List Int} (h : ∀ x ∈ l, x ∈ m) : spanOf a l ≤ spanOf a m := by
  unfold spanOf
  have := nodup_len (domsOf_nodup a l [] List.nodup_nil) (m := domsOf a m []) fun x hx => by
    rw [domsOf_mem] at hx ⊢
    rcases hx with hx | ⟨n, h1, h2⟩
    · exact .inl hx
    · exact .inr ⟨n, h n h1, h2⟩
  omega

noncomputable def holdsB (a : Config) (l : List Int) : Bool := nodesB a l && decide (a.2.1 ≤ spanOf a l)
theorem spec_Holds_ev (a : Config) (l : List Int) (ha : a.1.length ≤ 1048576) (hl : l.length ≤ 1048576) : Ev (fun k => spec_Holds.f k a l) (holdsB a l) := by
  simp only [spec_Holds.f, holdsB]
  exact Ev.bind (spec_NodesOk_ev a l ha hl) (Ev.and fun h => Ev.bind (spec_l4Span_ev a l h hl) Ev.ret)
theorem holdsB_mono {a : Config} {l m : List Int} (hm : nodesB a m = true) (h : ∀ x ∈ l, x ∈ m) (hl : holdsB a l = true) : holdsB a m = true := by
  unfold holdsB at *
  rw [hm, Bool.true_and, decide_eq_true_eq]
  have := spanOf_mono a h
  simp only [Bool.and_eq_true, decide_eq_true_eq] at hl
  omega

theorem spec_l7DrawSet_l (a : Config) (ha : a.1.length ≤ 9) : ∀ (m i : Nat) (l : List Int) (c : l1Cur), i + m = a.1.length → l.length ≤ 12 + i → Cu c →
    Evp (fun k => spec_l7DrawSet.p7 k l (i : Int) a c) (fun r => r.1.length ≤ 24 ∧ Cu r.2) := by
  intro m
  induction m with
  | zero =>
    intro i l c hi hl hc
    refine Evp.succ ?_
    simp only [spec_l7DrawSet.p7]
    exact Evp.neg (by omega) (Evp.ret ⟨by show l.length ≤ 24; omega, hc⟩)
  | succ m ih =>
    intro i l c hi hl hc
    refine Evp.succ ?_
    simp only [spec_l7DrawSet.p7]
    refine Evp.pos (by omega) (Evp.bindv (spec_Holds_ev a l (by omega) (by omega)) (Evp.ite (fun _ => Evp.ret ⟨by show l.length ≤ 24; omega, hc⟩) (fun _ => Evp.bind (spec_l4Put_d l _ (by omega)) fun s hs => ?_)))
    rw [wrap_up (i := i) (n := i + 1) (by omega) (by omega)]
    exact ih (i + 1) s c (by omega) (by omega) hc
theorem spec_l7DrawSet_d (c : l1Cur) (a : Config) (h : Cu c) (ha : a.1.length ≤ 9) : Evp (fun k => spec_l7DrawSet.f k c a) (fun r => r.1.length ≤ 24 ∧ Cu r.2) := by
  simp only [spec_l7DrawSet.f]
  exact Evp.bind (spec_l4DrawNodes_d c a h ha) fun r hr => spec_l7DrawSet_l a ha a.1.length 0 r.1 r.2 (by omega) (by omega) hr.2

/-- A place: its epoch, its offset. -/
def placeOk (x : Int) : Bool := decide (0 < x) && (inB (x / 4294967296) 1 30 && inB (x % 4294967296) 1 60)
def epochOf (x : Int) : Int := if placeOk x = true then x / 4294967296 else 0
def offOf (x : Int) : Int := if placeOk x = true then x % 4294967296 else 0
theorem tdiv_pos {x : Int} (h : 0 ≤ x) : Int.tdiv x 4294967296 = x / 4294967296 := Int.tdiv_eq_ediv_of_nonneg h
theorem tmod_pos {x : Int} (h : 0 ≤ x) : Int.tmod x 4294967296 = x % 4294967296 := Int.tmod_eq_emod_of_nonneg h
theorem tdiv_neg' {x : Int} (h : x ≤ 0) : Int.tdiv x 4294967296 = -((-x) / 4294967296) := by
  have h1 : Int.tdiv (-x) 4294967296 = (-x) / 4294967296 := Int.tdiv_eq_ediv_of_nonneg (by omega)
  have h2 := Int.neg_tdiv (-x) 4294967296
  rw [Int.neg_neg] at h2
  rw [h2, h1]
theorem placeOk_pos {x : Int} (h : placeOk x = true) : 0 < x ∧ (1 ≤ x / 4294967296 ∧ x / 4294967296 ≤ 30) ∧ (1 ≤ x % 4294967296 ∧ x % 4294967296 ≤ 60) := by
  simpa only [placeOk, Bool.and_eq_true, inB_true, decide_eq_true_eq] using h
theorem epochOf_pos {x : Int} (h : placeOk x = true) : epochOf x = x / 4294967296 ∧ 1 ≤ epochOf x ∧ epochOf x ≤ 30 := by
  have h' := placeOk_pos h
  unfold epochOf
  rw [if_pos h]
  omega
theorem spec_PlaceOk_is (x : Int) (hx : InR x) : spec_PlaceOk.f x = some (placeOk x) := by
  have h2 := hx.2
  simp only [spec_PlaceOk.f, placeOk, spec_l1In_is]
  by_cases h : 0 < x
  · rw [if_pos h, tdiv_pos (by omega), tmod_pos (by omega), wrap64_id (by omega) (by omega)]
    cases inB (x / 4294967296) 1 30 <;> simp [h]
  · rw [if_neg h]
    simp [h]

theorem spec_EpochOf_is (x : Int) (hx : InR x) : spec_EpochOf.f x = some (epochOf x) := by
  have h2 := hx.2
  simp only [spec_EpochOf.f, spec_PlaceOk_is x hx, Option.bind_some, epochOf]
  by_cases h : placeOk x = true
  · have := placeOk_pos h
    rw [if_pos h, if_pos h, tdiv_pos (by omega), wrap64_id (by omega) (by omega)]
  · rw [if_neg h, if_neg h]

/-- An era that is right by itself; one of a register; what is given up. -/
noncomputable def zEra : Era := (([] : List Int), (false, ((0 : Int), ())))
noncomputable def eraB (a : Config) (e : Era) : Bool := holdsB a e.1 && (inB e.2.2.1 0 60 && (e.2.1 || decide (e.2.2.1 = 0)))
noncomputable def eraAt (a : Config) (l : List Era) (i : Nat) : Bool := eraB a (l.getD i zEra) && (!(l.getD i zEra).2.1 || (!decide (i = l.length - 1) && (decide (i = 0) || (l.getD (i - 1) zEra).2.1)))
noncomputable def erasB (a : Config) (l : List Era) : Bool := (List.range' 0 l.length).all (eraAt a l)
noncomputable def trimB (n : Nat) (t : Int) : Bool := decide (t = 0) || inB (epochOf t) 1 n
noncomputable def regB (a : Config) (r : Register) : Bool := cfgB a && (decide (((r.1.length : Nat) : Int) ≤ 30) && (trimB r.1.length r.2.1 && erasB a r.1))
theorem trimB_is (n : Nat) (t : Int) : trimB n t = (decide (t = 0) || (placeOk t && !decide ((n : Int) < epochOf t))) := by
  unfold trimB
  by_cases h : placeOk t = true
  · obtain ⟨_, h1, h2⟩ := epochOf_pos h
    rw [h]
    by_cases h3 : (n : Int) < epochOf t
    · rw [decide_eq_true h3, show inB (epochOf t) 1 n = false by rw [Bool.eq_false_iff]; intro he; rw [inB_true] at he; omega]
      simp
    · rw [decide_eq_false h3, show inB (epochOf t) 1 n = true by rw [inB_true]; omega]
      simp
  · have h0 : epochOf t = 0 := by unfold epochOf; rw [if_neg h]
    rw [h0, show inB 0 1 n = false by rw [Bool.eq_false_iff]; intro he; rw [inB_true] at he; omega]
    cases hp : placeOk t
    · simp
    · exact absurd hp h
theorem spec_RegOk_l (a : Config) (r : Register) (ha : a.1.length ≤ 1048576) (hl : r.1.length ≤ 1048576) (he : ∀ i, i < r.1.length → (r.1.getD i zEra).1.length ≤ 1048576) : Ev (fun k => spec_RegOk.p11 k ((r.1.length : Nat) : Int) ((0 : Nat) : Int) a r) (erasB a r.1) := by
  have h := all_loop (n := r.1.length) (p := fun k i => spec_RegOk.p11 k ((r.1.length : Nat) : Int) i a r) (q := eraAt a r.1) (zb := true) (fun i hi b hb => by
    simp only [spec_RegOk.p11, spec_l1In_is, Int.toNat_natCast]
    have hz := he i hi
    have hw : wrap64 ((i : Int) + 1) = ((i + 1 : Nat) : Int) := wrap_up hi (by omega)
    unfold eraAt eraB
    change Ev (fun k => if (i : Int) < ((r.1.length : Nat) : Int) then _ else _) _
    refine Ev.pos (by omega) (Ev.pos (by omega) (Ev.bind (spec_Holds_ev a _ ha hz) ?_))
    rw [Bool.and_assoc, Bool.and_assoc, Bool.and_assoc]
    change Ev (fun k => if holdsB a (r.1.getD i zEra).1 = true then _ else some false) _
    refine Ev.and fun _ => Ev.bindc rfl (Ev.and fun _ => ?_)
    -- behind the checks of the era itself
    have tail : ∀ (p q u v w x : Bool) (z : Int), Ev (fun k => spec_RegOk.p20 k ((r.1.length : Nat) : Int) (i : Int) z p q u v w x a r (r.1.getD i zEra)) ((!(r.1.getD i zEra).2.1 || (!decide (i = r.1.length - 1) && (decide (i = 0) || (r.1.getD (i - 1) zEra).2.1))) && b) := by
      intro p q u v w x z
      refine Ev.succ ?_
      simp only [spec_RegOk.p20, hw]
      by_cases hc : (r.1.getD i zEra).2.1 = true
      · refine Ev.pos hc ?_
        have e1 : wrap64 (((r.1.length : Nat) : Int) - 1) = ((r.1.length - 1 : Nat) : Int) := by rw [wrap64_id (by omega) (by omega)]; omega
        rw [e1, hc, Bool.not_true, Bool.false_or, Bool.and_assoc]
        by_cases hq : i = r.1.length - 1
        · rw [decide_eq_true hq]
          exact Ev.pos (by omega) Ev.ret
        · rw [decide_eq_false hq]
          refine Ev.neg (by omega) ?_
          by_cases h0 : i = 0
          · subst h0
            exact (Ev.neg (by omega) hb).eq (by rfl)
          · have e2 : wrap64 ((i : Int) - 1) = ((i - 1 : Nat) : Int) := by rw [wrap64_id (by omega) (by omega)]; omega
            rw [e2, decide_eq_false h0]
            refine Ev.pos (by omega) (Ev.pos (by omega) ?_)
            exact (Ev.and fun _ => hb).eq (by rfl)
      · refine (Ev.neg hc hb).eq ?_
        simp only [Bool.not_eq_true] at hc
        rw [hc]; rfl
    by_cases hc : (r.1.getD i zEra).2.1 = true
    · exact (Ev.pos hc (tail _ _ _ _ _ _ _)).eq (by rw [hc]; rfl)
    · refine (Ev.neg hc (Ev.andc (b := (!(r.1.getD i zEra).2.1 || (!decide (i = r.1.length - 1) && (decide (i = 0) || (r.1.getD (i - 1) zEra).2.1))) && b) fun hz => tail _ _ _ _ _ _ _)).eq ?_
      simp only [Bool.not_eq_true] at hc
      rw [hc]; rfl) (by
    simp only [spec_RegOk.p11]
    exact Ev.neg (by omega) Ev.ret) r.1.length 0 (by omega)
  exact h.eq (by unfold erasB; rw [Bool.and_true])
theorem spec_RegOk_ev (a : Config) (r : Register) (ht : InR r.2.1) (ha : a.1.length ≤ 1048576) (hl : r.1.length ≤ 1048576) (he : ∀ i, i < r.1.length → (r.1.getD i zEra).1.length ≤ 1048576) : Ev (fun k => spec_RegOk.f k a r) (regB a r) := by
  have hp8 : Ev (fun k => spec_RegOk.p8 k ((r.1.length : Nat) : Int) a r) (erasB a r.1) := Ev.succ (Ev.cg (spec_RegOk_l a r ha hl he) fun k => rfl)
  simp only [spec_RegOk.f, regB, spec_PlaceOk_is _ ht, spec_EpochOf_is _ ht, Option.bind_some]
  refine Ev.bind (spec_ConfigOk_ev a ha) (Ev.and fun _ => ?_)
  by_cases h30 : (30 : Int) < ((r.1.length : Nat) : Int)
  · refine (Ev.pos h30 Ev.ret).eq ?_
    rw [decide_eq_false (by omega)]; rfl
  · refine Ev.neg h30 ?_
    rw [decide_eq_true (by omega), Bool.true_and, trimB_is]
    by_cases h0 : r.2.1 = 0
    · exact (Ev.pos h0 hp8).eq (by rw [decide_eq_true h0]; rfl)
    · refine Ev.neg h0 ?_
      rw [decide_eq_false h0, Bool.false_or, Bool.and_assoc]
      exact Ev.and fun _ => Ev.nand fun _ => hp8

theorem spec_l7Copy_ev (r : Register) (hl : r.1.length ≤ 1048576) (he : ∀ i, i < r.1.length → (r.1.getD i zEra).1.length ≤ 1048576) : Ev (fun k => spec_l7Copy.f k r) r := by
  have h : ∀ (m i : Nat) (z : Register) (acc : List Era), i + m = r.1.length → acc.length = i → Ev (fun k => spec_l7Copy.p7 k (i : Int) r z (acc, (r.2.1, ()))) (acc ++ r.1.drop i, (r.2.1, ())) := by
    intro m
    induction m with
    | zero =>
      intro i z acc hi ha
      refine Ev.succ ?_
      simp only [spec_l7Copy.p7]
      rw [List.drop_eq_nil_of_le (by omega), List.append_nil]
      exact Ev.neg (by omega) Ev.ret
    | succ m ih =>
      intro i z acc hi ha
      have hlt : i < r.1.length := by omega
      have hz := he i hlt
      refine Ev.succ ?_
      simp only [spec_l7Copy.p7, Int.toNat_natCast, List.nil_append]
      change Ev (fun k => if (i : Int) < ((r.1.length : Nat) : Int) then (if (0 : Int) ≤ (i : Int) ∧ (i : Int) < ((r.1.length : Nat) : Int) then (if (((([] : List Int).length : Nat) : Int) + (((r.1.getD i zEra).1.length : Nat) : Int)) ≤ lim then (if ((acc.length : Nat) : Int) + (([r.1.getD i zEra].length : Nat) : Int) ≤ lim then spec_l7Copy.p7 k (wrap64 ((i : Int) + 1)) r z (acc ++ [r.1.getD i zEra], (r.2.1, ())) else none) else none) else none) else some (acc, (r.2.1, ()))) _
      refine Ev.pos (by omega) (Ev.pos (by omega) (Ev.pos (by simp only [lim_eq, List.length_nil]; omega) (Ev.pos (by simp only [lim_eq, List.length_cons, List.length_nil]; omega) ?_)))
      rw [wrap_up hlt (by omega), drop_get (d := zEra) hlt]
      exact (ih (i + 1) z (acc ++ [r.1.getD i zEra]) (by omega) (by rw [List.length_append, ha]; rfl)).eq (by rw [List.append_assoc]; rfl)
  have := h r.1.length 0 (([] : List Era), ((0 : Int), ())) [] (by omega) rfl
  rw [List.drop_zero, List.nil_append] at this
  exact Ev.cg this fun k => rfl

/-- A register with a further epoch. -/
noncomputable def openF (a : Config) (r : Register) (l : List Int) : Register × Int × Bool := if regB a r = true then (if holdsB a l = true then (if ((r.1.length : Nat) : Int) = (30 : Int) then (r, (0 : Int), false) else (((r.1 ++ [(l, (false, ((0 : Int), ())))]), r.2), (((r.1 ++ [(l, (false, ((0 : Int), ())))]).length : Nat) : Int), true)) else (r, (0 : Int), false)) else ((([] : List Era), ((0 : Int), ())), (0 : Int), false)
theorem spec_RegOpen_ev (a : Config) (r : Register) (l : List Int) (hr : InR r.2.1) (ha : a.1.length ≤ 1048576) (hl : r.1.length ≤ 1048576) (he : ∀ i, i < r.1.length → (r.1.getD i zEra).1.length ≤ 1048576) (hls : l.length ≤ 1048576) : Ev (fun k => spec_RegOpen.f k a r l) (openF a r l) := by
  have s1 := spec_RegOk_ev a r hr ha hl he
  have s3 := spec_l7Copy_ev r hl he
  have s6 := spec_Holds_ev a l ha hls
  simp only [spec_RegOpen.f, List.nil_append, openF]
  refine Ev.bind s1 (Ev.ite (fun hb => Ev.bind s3 (Ev.bind s6 (Ev.ite (fun hh => Ev.ite (fun _ => Ev.ret) (fun _ => Ev.pos ?_ (Ev.pos ?_ Ev.ret))) (fun _ => Ev.ret)))) (fun _ => Ev.ret))
  · simp only [lim_eq, List.length_nil]; omega
  · simp only [lim_eq, List.length_cons, List.length_nil]; omega

/-- The first epoch that is open, counted from one. -/
noncomputable def fO : List Era → Int → Int
  | [], _ => 0
  | e :: l, i => if e.2.1 = true then fO l (i + 1) else i + 1
theorem fO_or : ∀ (l : List Era) (i : Int), 0 ≤ i → fO l i = 0 ∨ (i + 1 ≤ fO l i ∧ fO l i ≤ i + l.length) := by
  intro l
  induction l with
  | nil => intro i _; exact .inl rfl
  | cons e l ih =>
    intro i hi
    simp only [fO, List.length_cons]
    split
    · rcases ih (i + 1) (by omega) with h | h
      · exact .inl h
      · exact .inr ⟨by omega, by omega⟩
    · exact .inr ⟨by omega, by omega⟩
theorem spec_FirstOpen_l (r : Register) (hl : r.1.length ≤ 1048576) : ∀ (m i : Nat), i + m = r.1.length → Ev (fun k => spec_FirstOpen.p5 k (i : Int) r) (fO (r.1.drop i) i) := by
  intro m
  induction m with
  | zero =>
    intro i hi
    refine Ev.succ ?_
    simp only [spec_FirstOpen.p5]
    rw [List.drop_eq_nil_of_le (by omega)]
    exact Ev.neg (by omega) Ev.ret
  | succ m ih =>
    intro i hi
    refine Ev.succ ?_
    simp only [spec_FirstOpen.p5, Int.toNat_natCast]
    rw [drop_get (d := zEra) (i := i) (l := r.1) (by omega), wrap_up (i := i) (n := r.1.length) (by omega) (by omega)]
    exact Ev.pos (by omega) (Ev.pos (by omega) (Ev.ite (fun _ => ih (i + 1) (by omega)) (fun _ => Ev.ret)))
theorem spec_FirstOpen_ev (r : Register) (hl : r.1.length ≤ 1048576) : Ev (fun k => spec_FirstOpen.f k r) (fO r.1 0) := spec_FirstOpen_l r hl r.1.length 0 (by omega)

/-- A register of at most n epochs, with small sets. -/
def RG (n : Nat) (r : Register) : Prop := r.1.length ≤ n ∧ (∀ e ∈ r.1, e.1.length ≤ 64) ∧ InR r.2.1
theorem RG.at {n : Nat} {r : Register} (h : RG n r) : ∀ i, i < r.1.length → (r.1.getD i zEra).1.length ≤ 1048576 := fun i hi => by
  have := h.2.1 _ (getD_mem (d := zEra) hi); omega
theorem RG.mono {n m : Nat} {r : Register} (h : RG n r) (hm : n ≤ m) : RG m r := ⟨by have := h.1; omega, h.2⟩
theorem RG.nil {n : Nat} : RG n (([] : List Era), ((0 : Int), ())) := ⟨by simp, fun e he => (by cases he), by unfold InR; decide⟩
theorem RG.set {n : Nat} {l : List Era} {t : Int} {i : Nat} {e : Era} (h : RG n (l, (t, ()))) (he : e.1.length ≤ 64) : RG n (l.set i e, (t, ())) := by
  refine ⟨by show (l.set i e).length ≤ n; rw [List.length_set]; exact h.1, fun x hx => ?_, h.2.2⟩
  rcases List.mem_or_eq_of_mem_set hx with h' | rfl
  · exact h.2.1 x h'
  · exact he
theorem RG.get {n : Nat} {r : Register} (h : RG n r) (i : Nat) : (r.1.getD i zEra).1.length ≤ 64 := by
  by_cases hi : i < r.1.length
  · exact h.2.1 _ (getD_mem hi)
  · rw [List.getD_eq_getElem?_getD, List.getElem?_eq_none (by omega)]; decide
theorem spec_RegClose_d {n : Nat} (a : Config) (r : Register) (e last : Int) (ha : a.1.length ≤ 1048576) (hn : n ≤ 1048576) (h : RG n r) : Evp (fun k => spec_RegClose.f k a r e last) (fun q => RG n q.1) := by
  have hl := h.1
  simp only [spec_RegClose.f]
  refine Evp.bindv (spec_RegOk_ev a r h.2.2 ha (by omega) h.at) (Evp.ite (fun _ => Evp.bindv (spec_l7Copy_ev r (by omega) h.at) (Evp.bindv (spec_FirstOpen_ev r (by omega)) ?_)) (fun _ => Evp.ret RG.nil))
  refine Evp.ite (fun _ => Evp.ite (fun _ => Evp.ret h) (fun h0 => Evp.ite (fun _ => Evp.ret h) (fun _ => Evp.bindc (P := fun _ => True) ⟨_, spec_l1In_is _ _ _, trivial⟩ fun b _ => Evp.ite (fun _ => ?_) (fun _ => Evp.ret h)))) (fun _ => Evp.ret h)
  have hf := fO_or r.1 0 (by omega)
  rw [wrap64_id (x := fO r.1 0 - 1) (by omega) (by omega)]
  refine Evp.pos (by omega) (Evp.pos (by rw [List.length_set]; omega) (Evp.ret ?_))
  have h1 : RG n ((r.1.set (fO r.1 0 - 1).toNat ((r.1.getD (fO r.1 0 - 1).toNat zEra).1, (true, (r.1.getD (fO r.1 0 - 1).toNat zEra).2.2))), (r.2.1, ())) := RG.set h (h.get _)
  exact RG.set h1 (h1.get _)

theorem InR_wrap (x : Int) : InR (wrap64 x) := by
  have h : wrap64 x = (if (true && decide (x % 2 ^ 64 ≥ 2 ^ (64 - 1))) = true then x % 2 ^ 64 - 2 ^ 64 else x % 2 ^ 64) := rfl
  rw [h]
  have h1 : 0 ≤ x % 2 ^ 64 := Int.emod_nonneg _ (by decide)
  have h2 : x % 2 ^ 64 < 2 ^ 64 := Int.emod_lt_of_pos _ (by decide)
  unfold InR
  split
  · rename_i h; simp at h; omega
  · rename_i h; simp at h; omega
theorem spec_l1Place_is (a b : Int) : Op (spec_l1Place.f a b) InR := ⟨_, rfl, InR_wrap _⟩

/-- A register that is trimmed. -/
noncomputable def trimF (a : Config) (r : Register) (t : Int) : Register × Bool := if regB a r = true then (if inB (epochOf t) 1 ((r.1.length : Nat) : Int) = true then ((r.1, ((max r.2.1 t), r.2.2)), true) else (r, false)) else ((([] : List Era), ((0 : Int), ())), false)
theorem spec_RegTrim_ev (a : Config) (r : Register) (t : Int) (hr : InR r.2.1) (ht : InR t) (ha : a.1.length ≤ 1048576) (hl : r.1.length ≤ 1048576) (he : ∀ i, i < r.1.length → (r.1.getD i zEra).1.length ≤ 1048576) : Ev (fun k => spec_RegTrim.f k a r t) (trimF a r t) := by
  have s1 := spec_RegOk_ev a r hr ha hl he
  have s3 := spec_l7Copy_ev r hl he
  simp only [spec_RegTrim.f, spec_PlaceOk_is t ht, spec_EpochOf_is t ht, Option.bind_some, spec_l1Max.f, trimF]
  refine Ev.bind s1 (Ev.ite (fun hb => Ev.bind s3 ?_) (fun _ => Ev.ret))
  by_cases hp : placeOk t = true
  · obtain ⟨_, p1, p2⟩ := epochOf_pos hp
    refine Ev.pos hp ?_
    by_cases hlt : ((r.1.length : Nat) : Int) < epochOf t
    · rw [if_neg (show ¬ inB (epochOf t) 1 ((r.1.length : Nat) : Int) = true by rw [inB_true]; omega)]
      exact Ev.pos hlt Ev.ret
    · rw [if_pos (show inB (epochOf t) 1 ((r.1.length : Nat) : Int) = true by rw [inB_true]; omega)]
      refine Ev.neg hlt (Ev.of ?_)
      by_cases hm : t < r.2.1
      · rw [if_pos hm, Option.bind_some, Int.max_eq_left (by omega)]
      · rw [if_neg hm, Option.bind_some, Int.max_eq_right (by omega)]
  · have h0 : epochOf t = 0 := by unfold epochOf; rw [if_neg hp]
    rw [if_neg (show ¬ inB (epochOf t) 1 ((r.1.length : Nat) : Int) = true by rw [inB_true, h0]; omega)]
    exact Ev.neg hp Ev.ret

theorem spec_l7DrawRight_l (a : Config) (z : Register) (ha : a.1.length ≤ 9) : ∀ (m i : Nat) (r : Register) (c : l1Cur), i + m = 6 → RG i r → Cu c →
    Evp (fun k => spec_l7DrawRight.p7 k (i : Int) a z r c) (fun q => RG 6 q.1 ∧ Cu q.2) := by
  intro m
  induction m with
  | zero =>
    intro i r c hi hr hc
    refine Evp.succ ?_
    simp only [spec_l7DrawRight.p7]
    refine Evp.bindc (spec_l1Below_d c 7 hc) fun b hb => Evp.neg ?_ (Evp.ret ⟨hr.mono (by omega), hb.2.2.2⟩)
    have := hb.2.1 (by omega); omega
  | succ m ih =>
    intro i r c hi hr hc
    have hl := hr.1
    have go : ∀ (r' : Register) (c' : l1Cur), RG (i + 1) r' → Cu c' → Evp (fun k => spec_l7DrawRight.p7 k (wrap64 ((i : Int) + 1)) a z r' c') (fun q => RG 6 q.1 ∧ Cu q.2) := fun r' c' h1 h2 => by
      rw [wrap_up (i := i) (n := 6) (by omega) (by omega)]
      exact ih (i + 1) r' c' (by omega) h1 h2
    have same : RG (i + 1) r := hr.mono (by omega)
    refine Evp.succ ?_
    simp only [spec_l7DrawRight.p7]
    refine Evp.bindc (spec_l1Below_d c 7 hc) fun b hb => Evp.ite (fun _ => ?_) (fun _ => Evp.ret ⟨hr.mono (by omega), hb.2.2.2⟩)
    refine Evp.bind (spec_l7DrawSet_d b.2 a hb.2.2.2 ha) fun s hs => Evp.bindv (spec_RegOpen_ev a r s.1 hr.2.2 (by omega) (by omega) hr.at (by omega)) (Evp.bindc (spec_l1Below_d _ 4 hs.2) fun t ht => ?_)
    refine Evp.ite (fun _ => Evp.bindc (spec_l1Below_d _ 5 ht.2.2.2) fun u hu => Evp.bind (spec_RegClose_d a r _ _ (by omega) (by omega) hr) fun w hw => Evp.ite (fun _ => go _ _ (hw.mono (by omega)) hu.2.2.2) (fun _ => go _ _ same hu.2.2.2)) (fun _ => Evp.ite (fun _ => ?_) (fun _ => Evp.ite (fun ho => go _ _ ?_ ht.2.2.2) (fun _ => go _ _ same ht.2.2.2)))
    · refine Evp.bindc (spec_l1Below_d _ 2 ht.2.2.2) fun u hu => Evp.bindc (spec_l1Below_d _ 4 hu.2.2.2) fun v hv => Evp.bindc (spec_l1Place_is _ _) fun p hp => Evp.bindv (spec_RegTrim_ev a r p hr.2.2 hp (by omega) (by omega) hr.at) (Evp.ite (fun _ => go _ _ ?_ hv.2.2.2) (fun _ => go _ _ same hv.2.2.2))
      unfold trimF
      split
      · split
        · refine ⟨by show r.1.length ≤ i + 1; omega, hr.2.1, ?_⟩
          have h1 := hr.2.2
          show InR (max r.2.1 p)
          unfold InR at *
          omega
        · exact same
      · exact RG.nil
    · unfold openF
      split
      · split
        · split
          · exact same
          · refine ⟨by show (r.1 ++ [_]).length ≤ i + 1; simp; omega, fun e he => ?_, hr.2.2⟩
            rcases List.mem_append.1 he with h | h
            · exact hr.2.1 e h
            · rw [List.mem_singleton] at h; subst h; show s.1.length ≤ 64; omega
        · exact same
      · exact RG.nil
theorem spec_l7DrawRight_d (c : l1Cur) (a : Config) (h : Cu c) (ha : a.1.length ≤ 9) : Evp (fun k => spec_l7DrawRight.f k c a) (fun q => RG 6 q.1 ∧ Cu q.2) := spec_l7DrawRight_l a _ ha 6 0 _ c (by omega) RG.nil h

theorem spec_l1DrawPlace_d (c : l1Cur) (h : Cu c) : Op (spec_l1DrawPlace.f c) (fun r => InR r.1 ∧ Cu r.2) := by
  unfold spec_l1DrawPlace.f
  refine Op.bind (spec_l1Below_d c 3 h) fun r hr => Op.bind (spec_l1Below_d _ 6 hr.2.2.2) fun s hs => Op.bind (spec_l1Place_is _ _) fun p hp => Op.bind (spec_l1Below_d _ 15 hs.2.2.2) fun t ht => ?_
  refine Op.ite (fun _ => Op.bind (spec_l1PickInt_d _ _ ht.2.2.2 (by decide)) fun u hu => Op.ret ⟨?_, hu.2⟩) (fun _ => Op.ite (fun _ => Op.bind (spec_l1PickInt_d _ _ ht.2.2.2 (by decide)) fun u hu => Op.bind (spec_l1PickInt_d _ _ hu.2 (by decide)) fun v hv => Op.bind (spec_l1Place_is _ _) fun q hq => Op.ret ⟨hq, hv.2⟩) (fun _ => Op.ret ⟨hp, ht.2.2.2⟩))
  have := hu.1
  simp only [List.mem_cons, List.not_mem_nil, or_false] at this
  unfold InR
  rcases this with h | h | h | h | h | h <;> rw [h] <;> decide

theorem spec_l7Draw_l (l : List Int) (hl : l.length ≤ 64) (z : Register) : ∀ (m : Nat) (r : Register) (c : l1Cur), r.1.length + m = 31 → RG 31 r → Cu c →
    Evp (fun k => spec_l7Draw.p35 k l z r c) (fun q => RG 31 q.1 ∧ Cu q.2) := by
  intro m
  induction m with
  | zero =>
    intro r c hi hr hc
    refine Evp.succ ?_
    simp only [spec_l7Draw.p35]
    refine Evp.bindc (spec_l1Below_d c 2 hc) fun b hb => Evp.neg ?_ (Evp.ret ⟨hr, hb.2.2.2⟩)
    have h1 := hb.2.1 (by omega); have h0 := hb.1
    rw [wrap64_id (by omega) (by omega)]; omega
  | succ m ih =>
    intro r c hi hr hc
    refine Evp.succ ?_
    simp only [spec_l7Draw.p35]
    refine Evp.bindc (spec_l1Below_d c 2 hc) fun b hb => Evp.ite (fun _ => Evp.pos (by simp only [lim_eq, List.length_cons, List.length_nil]; omega) ?_) (fun _ => Evp.ret ⟨hr, hb.2.2.2⟩)
    refine ih _ b.2 (by show (r.1 ++ [_]).length + m = 31; simp; omega) ⟨by show (r.1 ++ [_]).length ≤ 31; simp; omega, fun e he => ?_, hr.2.2⟩ hb.2.2.2
    rcases List.mem_append.1 he with h | h
    · exact hr.2.1 e h
    · rw [List.mem_singleton] at h; subst h; exact hl
theorem spec_l7Draw_d (c : l1Cur) (a : Config) (h : Cu c) (ha : a.1.length ≤ 9) : Evp (fun k => spec_l7Draw.f k c a) (fun q => RG 31 q.1 ∧ Cu q.2) := by
  simp only [spec_l7Draw.f]
  refine Evp.bind (spec_l7DrawRight_d c a h ha) fun r hr => Evp.bindc (spec_l1Below_d _ 25 hr.2) fun b hb => ?_
  have hg := hr.1
  have hg31 : RG 31 r.1 := hg.mono (by omega)
  have hl := hg.1
  refine Evp.ite (fun _ => Evp.bindc (spec_l1DrawPlace_d _ hb.2.2.2) fun p hp => Evp.ret ⟨⟨by show r.1.1.length ≤ 31; omega, hg.2.1, hp.1⟩, hp.2⟩) fun _ => ?_
  refine Evp.ite (fun _ => Evp.ite (fun h0 => ?_) (fun _ => Evp.ret ⟨hg31, hb.2.2.2⟩)) fun _ => ?_
  · rw [wrap64_id (by omega) (by omega)]
    exact Evp.pos (by omega) (Evp.ret ⟨RG.set hg31 (hg.get _), hb.2.2.2⟩)
  refine Evp.ite (fun _ => Evp.ite (fun h0 => Evp.bindc (spec_l1PickInt_d _ _ hb.2.2.2 (by decide)) fun p hp => Evp.pos (by omega) (Evp.ret ⟨RG.set hg31 (hg.get _), hp.2⟩)) (fun _ => Evp.ret ⟨hg31, hb.2.2.2⟩)) fun _ => ?_
  refine Evp.ite (fun _ => Evp.ite (fun h0 => Evp.bind (spec_l4DrawNodes_d _ a hb.2.2.2 ha) fun p hp => Evp.pos (by omega) (Evp.ret ⟨RG.set hg31 (by show p.1.length ≤ 64; omega), hp.2⟩)) (fun _ => Evp.ret ⟨hg31, hb.2.2.2⟩)) fun _ => ?_
  refine Evp.ite (fun _ => Evp.bind (spec_l7DrawSet_d _ a hb.2.2.2 ha) fun p hp => ?_) (fun _ => Evp.ret ⟨hg31, hb.2.2.2⟩)
  exact spec_l7Draw_l p.1 (by omega) _ (31 - r.1.1.length) r.1 p.2 (by omega) hg31 hp.2

theorem spec_l10DrawReader_l (z : Reader) : ∀ (d i : Nat) (r : Reader) (c : l1Cur), i + d = 3 → r.2.2.1.length ≤ i → Cu c → Evp (fun k => spec_l10DrawReader.p7 k (i : Int) z r c) (fun q => q.1.2.2.1.length ≤ 121 ∧ Cu q.2) := by
  have fin : ∀ (i : Nat) (r : Reader) (c : l1Cur), i ≤ 3 → r.2.2.1.length ≤ i → Cu c → Evp (fun k => (spec_l1Below.f c (25 : Int)).bind fun r6 =>
      if r6.1 = (0 : Int) then ((spec_l1PickInt.f r6.2 ([(0 : Int), (31 : Int), (32 : Int)] : List Int)).bind fun r7 => some ((r7.1, r.2), r7.2))
      else if r6.1 = (1 : Int) then ((spec_l1PickInt.f r6.2 ([(0 : Int), (60 : Int), (61 : Int), (62 : Int)] : List Int)).bind fun r8 => some ((r.1, (r8.1, r.2.2)), r8.2))
      else if r6.1 = (2 : Int) then ((spec_l1Below.f r6.2 (2 : Int)).bind fun r9 =>
        if (0 : Int) ≤ (wrap64 ((120 : Int) + r9.1)) ∧ (wrap64 ((120 : Int) + r9.1)) ≤ (wrap64 ((120 : Int) + r9.1)) ∧ (wrap64 ((120 : Int) + r9.1)) ≤ lim then some ((r.1, (r.2.1, ((List.replicate (wrap64 ((120 : Int) + r9.1)).toNat ((0 : Int), ((0 : Int), ((⟨#[]⟩ : ByteArray), ())))), r.2.2.2))), r9.2)
        else none)
      else some (r, r6.2)) (fun q : Reader × l1Cur => q.1.2.2.1.length ≤ 121 ∧ Cu q.2) := by
    intro i r c hi hr hc
    refine Evp.bindc (spec_l1Below_d c 25 hc) fun s hs => Evp.ite (fun _ => Evp.bindc (spec_l1PickInt_d _ _ hs.2.2.2 (by simp)) fun p hp => Evp.ret ⟨by show r.2.2.1.length ≤ 121; omega, hp.2⟩) (fun _ => Evp.ite (fun _ => Evp.bindc (spec_l1PickInt_d _ _ hs.2.2.2 (by simp)) fun p hp => Evp.ret ⟨by show r.2.2.1.length ≤ 121; omega, hp.2⟩) (fun _ => Evp.ite (fun _ => Evp.bindc (spec_l1Below_d _ 2 hs.2.2.2) fun p hp => ?_) (fun _ => Evp.ret ⟨by show r.2.2.1.length ≤ 121; omega, hs.2.2.2⟩)))
    have h1 := hp.2.1 (by omega)
    have h0 := hp.1
    rw [wrap64_id (x := 120 + p.1) (by omega) (by omega)]
    refine Evp.pos ⟨by omega, by omega, by rw [lim_eq]; omega⟩ (Evp.ret ⟨?_, hp.2.2.2⟩)
    show (List.replicate (120 + p.1).toNat _).length ≤ 121
    rw [List.length_replicate]; omega
  intro d
  induction d with
  | zero =>
    intro i r c hi hr hc
    refine Evp.succ ?_
    simp only [spec_l10DrawReader.p7]
    exact Evp.bindc (spec_l1Below_d c 4 hc) fun s hs => Evp.neg (by have := hs.2.1 (by omega); omega) (fin i r s.2 (by omega) hr hs.2.2.2)
  | succ d ih =>
    intro i r c hi hr hc
    refine Evp.succ ?_
    simp only [spec_l10DrawReader.p7]
    rw [wrap_up (i := i) (n := 3) (by omega) (by omega)]
    refine Evp.bindc (spec_l1Below_d c 4 hc) fun s hs => Evp.ite (fun _ => Evp.bindc (spec_l1Below_d _ 5 hs.2.2.2) fun p hp => Evp.bindc (spec_l1DrawPlace_d _ hp.2.2.2) fun q hq => Evp.pos (by simp only [lim_eq, List.length_cons, List.length_nil]; omega) (ih (i + 1) _ _ (by omega) ?_ hq.2)) (fun _ => fin i r s.2 (by omega) hr hs.2.2.2)
    show (r.2.2.1 ++ [_]).length ≤ i + 1
    rw [List.length_append, List.length_singleton]; omega
theorem spec_l10DrawReader_d (c : l1Cur) (hc : Cu c) : Evp (fun k => spec_l10DrawReader.f k c) (fun q => q.1.2.2.1.length ≤ 121 ∧ Cu q.2) := by
  simp only [spec_l10DrawReader.f]
  exact Evp.bindc (spec_l1Below_d c 3 hc) fun r hr => Evp.bindc (spec_l1Below_d _ 5 hr.2.2.2) fun s hs => spec_l10DrawReader_l _ 3 0 _ _ (by omega) (Nat.zero_le _) hs.2.2.2

theorem spec_l1Pick_d (c : l1Cur) (l : List ByteArray) (h : Cu c) (hl : 0 < l.length) : Op (spec_l1Pick.f c l) (fun r => Cu r.2) := by
  unfold spec_l1Pick.f
  refine Op.bind (spec_l1Below_d c _ h) fun r hr => ?_
  have h1 := hr.2.1 (by omega)
  exact Op.pos ⟨hr.1, h1⟩ (Op.ret hr.2.2.2)

theorem spec_l3DrawRight_d (c : l1Cur) (h : Cu c) : Op (spec_l3DrawRight.f c) (fun r => InR r.1.1 ∧ Cu r.2) := by
  unfold spec_l3DrawRight.f
  refine Op.bind (spec_l1Below_d c 3 h) fun r hr => Op.bind (spec_l1Below_d _ 6 hr.2.2.2) fun s hs => Op.bind (spec_l1Place_is _ _) fun p hp => Op.bind (spec_l1Pick_d _ _ hs.2.2.2 (by decide)) fun t ht => Op.bind (spec_l1Once_d _ 3 ht) fun u hu => ?_
  refine Op.ite (fun _ => Op.bind (P := fun _ => True) ⟨_, spec_EpochOf_is p hp, trivial⟩ fun e _ => Op.bind (spec_l1Below_d _ 3 hu) fun v hv => Op.bind (spec_l1Once_d _ 2 hv.2.2.2) fun w hw => Op.ite (fun _ => Op.ret ⟨hp, hw⟩) (fun _ => Op.ret ⟨hp, hw⟩)) (fun _ => Op.ret ⟨hp, hu⟩)

theorem spec_l3Draw_d (c : l1Cur) (h : Cu c) : Op (spec_l3Draw.f c) (fun r => InR r.1.1 ∧ Cu r.2) := by
  unfold spec_l3Draw.f
  refine Op.bind (spec_l3DrawRight_d c h) fun r hr => Op.bind (spec_l1Below_d _ 15 hr.2) fun s hs => ?_
  refine Op.ite (fun _ => Op.bind (spec_l1DrawPlace_d _ hs.2.2.2) fun p hp => Op.ret ⟨hp.1, hp.2⟩) (fun _ => Op.ite (fun _ => Op.bind (spec_l1PickInt_d _ _ hs.2.2.2 (by decide)) fun p hp => Op.ret ⟨hr.1, hp.2⟩) (fun _ => Op.ite (fun _ => Op.ret ⟨hr.1, hs.2.2.2⟩) (fun _ => Op.ite (fun _ => Op.bind (spec_l1Below_d _ 2 hs.2.2.2) fun p hp => ?_) (fun _ => Op.ret ⟨hr.1, hs.2.2.2⟩))))
  have h1 := hp.2.1 (by omega); have h0 := hp.1
  rw [wrap64_id (by omega) (by omega)]
  exact Op.pos (by rw [lim_eq]; omega) (Op.ret ⟨hr.1, hp.2.2.2⟩)

def AG (n : Nat) (l : List Answer) : Prop := l.length ≤ n ∧ ∀ x ∈ l, InR x.2.2.1.1
theorem AG.app {n : Nat} {l : List Answer} {x : Answer} (h : AG n l) (hx : InR x.2.2.1.1) : AG (n + 1) (l ++ [x]) := by
  refine ⟨by have := h.1; rw [List.length_append, List.length_singleton]; omega, fun y hy => ?_⟩
  rcases List.mem_append.1 hy with h' | h'
  · exact h.2 y h'
  · rw [List.mem_singleton] at h'; subst h'; exact hx
theorem AG.mono {n m : Nat} {l : List Answer} (h : AG n l) (hm : n ≤ m) : AG m l := ⟨by have := h.1; omega, h.2⟩
/-- A drawn reader and what it is told. -/
def RN (q : Config × Register × Int × Reader × List Answer) : Prop := q.1.1.length ≤ 9 ∧ RG 31 q.2.1 ∧ q.2.2.2.1.2.2.1.length ≤ 121 ∧ AG 12 q.2.2.2.2
theorem spec_DrawReaderNext_l (z1 : Config) (z2 : Register) (z3 : Reader) (a : Config) (g : Register) (r : Reader) (ha : a.1.length ≤ 9) (hg : RG 31 g) (hr : r.2.2.1.length ≤ 121) : ∀ (d i : Nat) (l : List Answer) (c : l1Cur), i + d = a.1.length → AG i l → Cu c →
    Evp (fun k => spec_DrawReaderNext.p19 k l (i : Int) z1 z2 z3 a g r c) RN := by
  have fin : ∀ (l : List Answer) (c : l1Cur), AG 12 l → Cu c → Evp (fun k => spec_DrawReaderNext.p36 k l z1 z2 z3 a g r c) RN := fun l c hl hc => by
    refine Evp.succ ?_
    simp only [spec_DrawReaderNext.p36]
    exact Evp.bindc (spec_l1Below_d c 8 hc) fun s hs => Evp.ret ⟨ha, hg, hr, hl⟩
  intro d
  induction d with
  | zero =>
    intro i l c hi hl hc
    have h1 := hl.1
    refine Evp.succ ?_
    simp only [spec_DrawReaderNext.p19]
    refine Evp.neg (by omega) (Evp.bindc (spec_l1Once_d c 15 hc) fun o ho => Evp.ite (fun _ => Evp.bindc (spec_l1Below_d _ 10 ho) fun s hs => Evp.pos (by simp only [lim_eq, List.length_cons, List.length_nil]; omega) (fin _ _ ((hl.app ?_).mono (by omega)) hs.2.2.2)) (fun _ => fin _ _ (hl.mono (by omega)) ho))
    show InR (0 : Int); unfold InR; decide
  | succ d ih =>
    intro i l c hi hl hc
    have h1 := hl.1
    have one : ∀ (x : Answer) (c' : l1Cur), InR x.2.2.1.1 → Cu c' → Evp (fun k => if (((l.length : Nat) : Int) + ((([x] : List Answer).length : Nat) : Int)) ≤ lim then spec_DrawReaderNext.p19 k (l ++ ([x] : List Answer)) (((i + 1 : Nat)) : Int) z1 z2 z3 a g r c' else none) RN := fun x c' hx hc' =>
      Evp.pos (by simp only [lim_eq, List.length_cons, List.length_nil]; omega) (ih (i + 1) _ c' (by omega) (hl.app hx) hc')
    refine Evp.succ ?_
    simp only [spec_DrawReaderNext.p19]
    rw [wrap_up (i := i) (n := a.1.length) (by omega) (by omega)]
    refine Evp.pos (by omega) (Evp.bindc (spec_l1Once_d c 5 hc) fun o ho => Evp.ite (fun _ => ih (i + 1) l _ (by omega) (hl.mono (by omega)) ho) (fun _ => Evp.bindc (spec_l1Once_d _ 2 ho) fun o2 ho2 => Evp.bindc (spec_l3Draw_d _ ho2) fun e he => Evp.bindv (Ev.of (spec_PlaceOk_is _ he.1)) (Evp.ite (fun _ => Evp.bindc (spec_l1Once_d _ 6 he.2) fun o3 ho3 => Evp.ite (fun _ => one _ _ he.1 ho3) (fun _ => Evp.bindc (spec_l1Place_is _ _) fun p hp => one _ _ hp ho3)) (fun _ => one _ _ he.1 he.2))))
theorem spec_DrawReaderNext_d (b : List Int) (hb : b.length ≤ 1048576) : Evp (fun k => spec_DrawReaderNext.f k b) RN := by
  have go : ∀ (z1 : Config) (z2 : Register) (z3 : Reader) (a : Config) (g : Register) (r : Reader) (c : l1Cur), a.1.length ≤ 9 → RG 31 g → r.2.2.1.length ≤ 121 → Cu c → Evp (fun k => spec_DrawReaderNext.p14 k z1 z2 z3 a g r c) RN := fun z1 z2 z3 a g r c ha hg hr hc => by
    refine Evp.succ ?_
    simp only [spec_DrawReaderNext.p14]
    exact spec_DrawReaderNext_l z1 z2 z3 a g r ha hg hr a.1.length 0 [] c (by omega) ⟨Nat.zero_le _, fun x hx => by cases hx⟩ hc
  simp only [spec_DrawReaderNext.f]
  refine Evp.bind (spec_l1New_d b hb) fun c hc => Evp.bind (spec_l4DrawRight_d c hc) fun a ha => Evp.bind (spec_l7Draw_d _ _ ha.2.2.2.2.2 (by omega)) fun g hg => Evp.bind (spec_l10DrawReader_d _ hg.2) fun r hr => Evp.ite (fun _ => Evp.bindc (spec_l1Once_d _ 4 hr.2) fun o ho => Evp.ite (fun _ => go _ _ _ _ _ _ _ (by omega) hg.1 hr.1 ho) (fun _ => Evp.bindc (spec_l1Below_d _ _ ho) fun s hs => go _ _ _ _ _ _ _ (by omega) hg.1 hr.1 hs.2.2.2)) (fun _ => go _ _ _ _ _ _ _ (by omega) hg.1 hr.1 hr.2)

theorem spec_l10Nodes_ev (a : Config) (l : List Answer) (ha : a.1.length ≤ 1048576) (hl : l.length ≤ 1048576) : Ev (fun k => spec_l10Nodes.f k a l) (l.map (·.1), nodesB a (l.map (·.1))) := by
  have h : ∀ (m i : Nat) (o : List Int), i + m = l.length → o.length = i → o ++ (l.drop i).map (·.1) = l.map (·.1) → Ev (fun k => spec_l10Nodes.p7 k l o (i : Int) a) (l.map (·.1), nodesB a (l.map (·.1))) := by
    intro m
    induction m with
    | zero =>
      intro i o hi ho he
      refine Ev.succ ?_
      simp only [spec_l10Nodes.p7]
      rw [List.drop_eq_nil_of_le (by omega)] at he
      have he : o = l.map (·.1) := by rw [← he]; simp
      rw [he]
      exact Ev.neg (by omega) (Ev.bind (spec_NodesOk_ev a _ ha (by rw [List.length_map]; exact hl)) Ev.ret)
    | succ m ih =>
      intro i o hi ho he
      have hlt : i < l.length := by omega
      rw [drop_get (d := zAns) hlt] at he
      refine Ev.succ ?_
      simp only [spec_l10Nodes.p7, Int.toNat_natCast]
      rw [wrap_up hlt (by omega)]
      exact Ev.pos (by omega) (Ev.pos (by omega) (Ev.pos (by simp only [lim_eq, List.length_cons, List.length_nil]; omega) (ih (i + 1) _ (by omega) (by simp [ho]) (by rw [List.append_assoc]; exact he))))
  exact h l.length 0 [] (by omega) rfl rfl

theorem spec_ReaderOk_is (r : Reader) : spec_ReaderOk.f r = some (readerB r) := by
  simp only [spec_ReaderOk.f, spec_l1In_is, Option.bind_some, readerB]
  cases inB r.1 1 31 <;> cases inB r.2.1 1 61 <;> simp

theorem spec_l10Copy_is (r : Reader) (h : r.2.2.1.length ≤ 1048576) : spec_l10Copy.f r = some r := by
  simp only [spec_l10Copy.f]
  rw [if_pos (by simp only [lim_eq, List.length_nil]; omega), List.nil_append]

theorem spec_OffOf_is (x : Int) (hx : InR x) : spec_OffOf.f x = some (offOf x) := by
  simp only [spec_OffOf.f, spec_PlaceOk_is x hx, Option.bind_some, offOf]
  by_cases h : placeOk x = true
  · have := placeOk_pos h
    rw [if_pos h, if_pos h, tmod_pos (by omega)]
  · rw [if_neg h, if_neg h]

theorem spec_l10Tell_is (r : Reader) (e : Event) (a b : Int) (h : r.2.2.1.length ≤ 1048576) : spec_l10Tell.f r e a b = some (a, (b, (r.2.2.1 ++ [e], ()))) := by
  simp only [spec_l10Tell.f, spec_l10Copy_is r h, Option.bind_some]
  rw [if_pos (by simp only [lim_eq, List.length_cons, List.length_nil]; omega)]

theorem spec_l4Less_l (l x1 : List Int) (hl : l.length ≤ 1048576) (hx : x1.length ≤ 1048576) : ∀ (m i : Nat) (o : List Int), i + m = l.length → o.length ≤ i → (∀ x ∈ o, x ∈ l) → Evp (fun k => spec_l4Less.p7 k l x1 o (i : Int)) (fun r => r.length ≤ l.length ∧ ∀ x ∈ r, x ∈ l) := by
  intro m
  induction m with
  | zero =>
    intro i o hi ho hm
    refine Evp.succ ?_
    simp only [spec_l4Less.p7]
    exact Evp.neg (by omega) (Evp.ret ⟨by omega, hm⟩)
  | succ m ih =>
    intro i o hi ho hm
    refine Evp.succ ?_
    simp only [spec_l4Less.p7, Int.toNat_natCast]
    rw [wrap_up (i := i) (n := l.length) (by omega) (by omega)]
    refine Evp.pos (by omega) (Evp.pos (by omega) (Evp.bindv (spec_l4Has_ev x1 _ hx) (Evp.ite (fun _ => ih (i + 1) o (by omega) (by omega) hm) (fun _ => Evp.pos (by omega) (Evp.pos (by simp only [lim_eq, List.length_cons, List.length_nil]; omega) ?_)))))
    refine ih (i + 1) _ (by omega) (by simp; omega) fun x hx => ?_
    rcases List.mem_append.1 hx with h | h
    · exact hm x h
    · rw [List.mem_singleton] at h; subst h; exact getD_mem (by omega)
theorem spec_l4Less_d (l x1 : List Int) (hl : l.length ≤ 1048576) (hx : x1.length ≤ 1048576) : Evp (fun k => spec_l4Less.f k l x1) (fun r => r.length ≤ l.length ∧ ∀ x ∈ r, x ∈ l) := spec_l4Less_l l x1 hl hx l.length 0 [] (by omega) (by simp) (fun x h => by cases h)
theorem spec_l4Less_ll (l x1 : List Int) (hl : l.length ≤ 1048576) (hx : x1.length ≤ 1048576) : ∀ (m i : Nat) (o : List Int), i + m = l.length → o.length ≤ i → Ev (fun k => spec_l4Less.p7 k l x1 o (i : Int)) (o ++ (l.drop i).filter fun v => !x1.contains v) := by
  intro m
  induction m with
  | zero =>
    intro i o hi ho
    refine Ev.succ ?_
    simp only [spec_l4Less.p7]
    rw [List.drop_eq_nil_of_le (by omega)]
    exact Ev.neg (by omega) (Ev.ret.eq (by simp))
  | succ m ih =>
    intro i o hi ho
    refine Ev.succ ?_
    simp only [spec_l4Less.p7, Int.toNat_natCast]
    rw [wrap_up (i := i) (n := l.length) (by omega) (by omega), drop_get (d := 0) (by omega : i < l.length), List.filter_cons]
    refine Ev.pos (by omega) (Ev.pos (by omega) (Ev.bind (spec_l4Has_ev x1 _ hx) ?_))
    cases hc : x1.contains (l.getD i 0) with
    | true => exact Ev.pos rfl ((ih (i + 1) o (by omega) (by omega)).eq (by simp))
    | false => exact Ev.neg (by decide) (Ev.pos (by omega) (Ev.pos (by simp only [lim_eq, List.length_cons, List.length_nil]; omega) ((ih (i + 1) _ (by omega) (by simp; omega)).eq (by simp))))
theorem spec_l4Less_ev (l x1 : List Int) (hl : l.length ≤ 1048576) (hx : x1.length ≤ 1048576) : Ev (fun k => spec_l4Less.f k l x1) (l.filter fun v => !x1.contains v) := spec_l4Less_ll l x1 hl hx l.length 0 [] (by omega) (by simp)

theorem spec_l9Both_d (l x1 : List Int) (hl : l.length ≤ 1048576) (hx : x1.length ≤ 1048576) : Evp (fun k => spec_l9Both.f k l x1) (fun r => r.length ≤ l.length ∧ ∀ x ∈ r, x ∈ l) := by
  simp only [spec_l9Both.f]
  exact Evp.bind (spec_l4Less_d l x1 hl hx) fun r hr => Evp.bind (spec_l4Less_d l r hl (by omega)) fun q hq => Evp.ret hq
theorem spec_l9Both_ev (l o : List Int) (hl : l.length ≤ 1048576) (ho : o.length ≤ 1048576) : Ev (fun k => spec_l9Both.f k l o) (l.filter fun v => o.contains v) := by
  simp only [spec_l9Both.f]
  refine (Ev.bind (spec_l4Less_ev l o hl ho) (Ev.bind (spec_l4Less_ev l _ hl (Nat.le_trans (List.length_filter_le _ _) hl)) Ev.ret)).eq ?_
  refine List.filter_congr fun v hv => ?_
  cases hc : o.contains v with
  | true =>
    rw [Bool.not_eq_true']
    rw [Bool.eq_false_iff]
    intro h
    rw [List.contains_iff_mem, List.mem_filter, hc] at h
    exact absurd h.2 (by decide)
  | false =>
    rw [Bool.not_eq_false']
    rw [List.contains_iff_mem, List.mem_filter, hc]
    exact ⟨hv, rfl⟩

theorem span_mem (a : Config) (l r : List Int) (hok : nodesB a l = true) (hr : r.length ≤ 1048576) (hm : ∀ x ∈ r, x ∈ l) : Ev (fun k => spec_l4Span.f k a r) (spanOf a r) := by
  simp only [nodesB, Bool.and_eq_true] at hok
  obtain ⟨h1, h2, _, _, h5⟩ := cfgB_len hok.1
  simp only [spec_l4Span.f]
  refine Ev.pos (by simp [lim_eq]) ?_
  have := spec_l4Span_l a r h5 hr (fun i hi => by
    obtain ⟨j, hj, he⟩ := List.mem_iff_getElem.1 (hm _ (getD_mem (d := (0 : Int)) hi))
    have h6 := ascB_mem hok.2 hj
    rw [List.getD_eq_getElem?_getD, List.getElem?_eq_getElem hj] at h6
    have h7 : l[j] = r.getD i 0 := he
    simp only [Option.getD_some] at h6
    rw [h7] at h6
    omega) r.length 0 (List.replicate 8 false) [] (by omega) (by simp) (by simp) (by
    intro x h0 h7
    rw [List.getD_eq_getElem?_getD, List.getElem?_replicate, if_pos (by omega)]
    rfl)
  rw [List.drop_zero] at this
  exact this
theorem spec_Enough_d (a : Config) (l r : List Int) (ha : a.1.length ≤ 1048576) (hl : l.length ≤ 1048576) (hr : r.length ≤ 1048576) : Evp (fun k => spec_Enough.f k a l r) (fun _ => True) := by
  simp only [spec_Enough.f]
  refine Evp.bindv (spec_Holds_ev a l ha hl) (Evp.ite (fun hh => Evp.bindv (spec_NodesOk_ev a r ha hr) (Evp.ite (fun _ => Evp.bind (spec_l4Less_d r l hr hl) fun x hx => Evp.ite (fun _ => Evp.ret trivial) (fun _ => Evp.bind (spec_l4Less_d l r hl hr) fun y hy => Evp.bindv (span_mem a l y ?_ (by omega) hy.2) (Evp.ret trivial))) (fun _ => Evp.ret trivial))) (fun _ => Evp.ret trivial))
  unfold holdsB at hh
  rw [Bool.and_eq_true] at hh
  exact hh.1
noncomputable def enoughB (a : Config) (l r : List Int) : Bool := holdsB a l && (nodesB a r && (decide ((r.filter fun v => !l.contains v).length = 0) && decide (spanOf a (l.filter fun v => !r.contains v) < a.2.1)))
theorem spec_Enough_ev (a : Config) (l r : List Int) (ha : a.1.length ≤ 1048576) (hl : l.length ≤ 1048576) (hr : r.length ≤ 1048576) : Ev (fun k => spec_Enough.f k a l r) (enoughB a l r) := by
  simp only [spec_Enough.f]
  unfold enoughB
  refine Ev.bind (spec_Holds_ev a l ha hl) (Ev.and fun hh => Ev.bind (spec_NodesOk_ev a r ha hr) (Ev.and fun _ => Ev.bind (spec_l4Less_ev r l hr hl) ?_))
  have hn : nodesB a l = true := by unfold holdsB at hh; rw [Bool.and_eq_true] at hh; exact hh.1
  by_cases h0 : (r.filter fun v => !l.contains v).length = 0
  · rw [decide_eq_true h0, Bool.true_and]
    exact Ev.neg (by omega) (Ev.bind (spec_l4Less_ev l r hl hr) (Ev.bind (span_mem a l _ hn (Nat.le_trans (List.length_filter_le _ _) hl) (fun x hx => (List.mem_filter.1 hx).1)) Ev.ret))
  · rw [decide_eq_false h0, Bool.false_and]
    exact Ev.pos (by omega) Ev.ret

/-- An entry that is right. -/
noncomputable def entB (e : Entry) : Bool := placeOk e.1 && (inB e.2.1 0 30 && (!(decide (0 < e.2.1) && decide (e.2.1 ≤ epochOf e.1)) && (decide (((e.2.2.2.1.size : Nat) : Int) ≤ 40) && (!e.2.2.1 || (decide (0 < e.2.1) && decide (e.2.2.2.1 = (⟨#[]⟩ : ByteArray)))))))
theorem spec_EntryOk_ev (e : Entry) (ha : InR e.1) : Ev (fun k => spec_EntryOk.f k e) (entB e) := by
  have tail : Ev (fun k => spec_EntryOk.p6 k e) (!e.2.2.1 || (decide (0 < e.2.1) && decide (e.2.2.2.1 = (⟨#[]⟩ : ByteArray)))) := by
    refine Ev.succ ?_
    simp only [spec_EntryOk.p6]
    cases hc : e.2.2.1 with
    | true => exact Ev.pos rfl (Ev.andc fun _ => Ev.ret)
    | false => exact Ev.neg (by decide) Ev.ret
  have tail2 : Ev (fun k => if (40 : Int) < ((e.2.2.2.1.size : Nat) : Int) then some false else spec_EntryOk.p6 k e) (decide (((e.2.2.2.1.size : Nat) : Int) ≤ 40) && (!e.2.2.1 || (decide (0 < e.2.1) && decide (e.2.2.2.1 = (⟨#[]⟩ : ByteArray))))) :=
    (Ev.nand fun _ => tail).eq (by
      by_cases h : (40 : Int) < ((e.2.2.2.1.size : Nat) : Int)
      · rw [decide_eq_true h, decide_eq_false (show ¬ ((e.2.2.2.1.size : Nat) : Int) ≤ 40 by omega)]; rfl
      · rw [decide_eq_false h, decide_eq_true (show ((e.2.2.2.1.size : Nat) : Int) ≤ 40 by omega)]; rfl)
  simp only [spec_EntryOk.f, spec_PlaceOk_is _ ha, spec_EpochOf_is _ ha, spec_l1In_is, Option.bind_some, entB]
  refine Ev.and fun _ => Ev.and fun _ => ?_
  by_cases h0 : (0 : Int) < e.2.1
  · refine (Ev.pos h0 (Ev.nand fun _ => tail2)).eq ?_
    simp only [decide_eq_true h0, Bool.true_and]
  · rw [show (decide ((0 : Int) < e.2.1) && decide (e.2.1 ≤ epochOf e.1)) = false by rw [decide_eq_false h0]; rfl, Bool.not_false, Bool.true_and]
    exact Ev.neg h0 tail2

noncomputable def ansB (set : List Int) (place : Int) (x : Answer) : Bool := x.2.1 && (set.contains x.1 && (entB x.2.2.1 && decide (x.2.2.1.1 = place)))
/-- The best answer. -/
noncomputable def bestL (set : List Int) (place : Int) : Entry × Bool → List Answer → Entry × Bool
  | q, [] => q
  | q, x :: l => bestL set place (if ansB set place x = true then (if q.2 = true then better q.1 x.2.2.1 else better x.2.2.1 x.2.2.1, true) else q) l
theorem ans_split {β : Type} {set : List Int} {place : Int} {x : Answer} {v : β} {A B : Nat → Option β} {C E : Nat → Option Bool} (hc : Ev C (set.contains x.1)) (he : Ev E (entB x.2.2.1)) (hA : ansB set place x = true → Ev A v) (hB : ansB set place x = false → Ev B v) :
    Ev (fun k => if x.2.1 = true then ((C k).bind fun r1 => if r1 = true then ((E k).bind fun r2 => if r2 = true then (if x.2.2.1.1 = place then A k else B k) else B k) else B k) else B k) v := by
  unfold ansB at hA hB
  by_cases h1 : x.2.1 = true
  · refine Ev.pos h1 (Ev.bind hc ?_)
    by_cases h2 : set.contains x.1 = true
    · refine Ev.pos h2 (Ev.bind he ?_)
      by_cases h3 : entB x.2.2.1 = true
      · refine Ev.pos h3 ?_
        by_cases h4 : x.2.2.1.1 = place
        · exact Ev.pos h4 (hA (by rw [h1, h2, h3, decide_eq_true h4]; rfl))
        · exact Ev.neg h4 (hB (by rw [decide_eq_false h4]; simp))
      · exact Ev.neg h3 (hB (by rw [Bool.not_eq_true] at h3; rw [h3]; simp))
    · exact Ev.neg h2 (hB (by rw [Bool.not_eq_true] at h2; rw [h2]; simp))
  · exact Ev.neg h1 (hB (by rw [Bool.not_eq_true] at h1; rw [h1]; simp))
theorem spec_l10Best_ev (set : List Int) (place : Int) (l : List Answer) (hs : set.length ≤ 1048576) (hl : AnG l) : Ev (fun k => spec_l10Best.f k set place l) (evOf place (bestL set place (zEnt, false) l)) := by
  have hll := hl.1
  have h : ∀ (m i : Nat) (q : Entry × Bool) (z : Event), i + m = l.length → Ev (fun k => spec_l10Best.p9 k set place l q.2 (i : Int) z q.1) (evOf place (bestL set place q (l.drop i))) := by
    intro m
    induction m with
    | zero =>
      intro i q z hi
      refine Ev.succ ?_
      simp only [spec_l10Best.p9]
      rw [List.drop_eq_nil_of_le (by omega)]
      exact Ev.neg (by omega) (Ev.ite (fun _ => Ev.ite (fun _ => Ev.ret) (fun _ => Ev.ret)) (fun _ => Ev.ret))
    | succ m ih =>
      intro i q z hi
      have hlt : i < l.length := by omega
      refine Ev.succ ?_
      simp only [spec_l10Best.p9, Int.toNat_natCast]
      rw [wrap_up hlt (by omega), drop_get (d := zAns) hlt]
      refine Ev.pos (by omega) (Ev.pos (by omega) ?_)
      show Ev _ (evOf place (bestL set place (if ansB set place (l.getD i zAns) = true then (if q.2 = true then better q.1 (l.getD i zAns).2.2.1 else better (l.getD i zAns).2.2.1 (l.getD i zAns).2.2.1, true) else q) (l.drop (i + 1))))
      refine ans_split (set := set) (place := place) (x := l.getD i zAns) (spec_l4Has_ev set _ hs) (spec_EntryOk_ev _ (hl.2 _ (getD_mem hlt))) (fun ha => ?_) (fun ha => ?_)
      · rw [if_pos ha]
        by_cases hq : q.2 = true
        · refine Ev.pos hq (Ev.bindc (a := better q.1 (l.getD i zAns).2.2.1) ?_ ?_)
          · show spec_Better.f q.1 (l.getD i zAns).2.2.1 = _
            unfold spec_Better.f better; split <;> rfl
          · rw [if_pos hq]; exact ih (i + 1) (better q.1 (l.getD i zAns).2.2.1, true) z (by omega)
        · refine Ev.neg hq (Ev.bindc (a := better (l.getD i zAns).2.2.1 (l.getD i zAns).2.2.1) ?_ ?_)
          · show spec_Better.f (l.getD i zAns).2.2.1 (l.getD i zAns).2.2.1 = _
            unfold spec_Better.f better; split <;> rfl
          · rw [if_neg hq]; exact ih (i + 1) (better (l.getD i zAns).2.2.1 (l.getD i zAns).2.2.1, true) z (by omega)
      · rw [if_neg (by rw [ha]; decide)]; exact ih (i + 1) q z (by omega)
  exact h l.length 0 (zEnt, false) _ (by omega)

noncomputable def eraOf (g : Register) (r : Reader) : Era := g.1.getD (r.1 - 1).toNat zEra
noncomputable def placeOf' (r : Reader) : Int := 4294967296 * r.1 + r.2.1
noncomputable def enoughR (a : Config) (g : Register) (r : Reader) (l : List Answer) : Bool := enoughB a (eraOf g r).1 ((l.map (·.1)).filter fun v => (eraOf g r).1.contains v)
noncomputable def tellR (a : Config) (g : Register) (r : Reader) (l : List Answer) : Reader × Int :=
  if enoughR a g r l = true then ((r.1, (r.2.1 + 1, (r.2.2.1 ++ [evOf (placeOf' r) (bestL (eraOf g r).1 (placeOf' r) (zEnt, false) l)], ()))), 0) else (r, 3)
noncomputable def readF (a : Config) (g : Register) (sure : Int) (r : Reader) (l : List Answer) : Reader × Int :=
  if regB a g = true ∧ readerB r = true ∧ nodesB a (l.map (·.1)) = true then
    (if ((g.1.length : Nat) : Int) < r.1 then (r, 2) else if ((r.2.2.1.length : Nat) : Int) = 120 then (r, 2)
    else if placeOf' r ≤ g.2.1 then ((epochOf g.2.1, (offOf g.2.1 + 1, (r.2.2.1 ++ [((5 : Int), (g.2.1, ((⟨#[]⟩ : ByteArray), ())))], ()))), 0)
    else if (eraOf g r).2.1 = true ∧ (eraOf g r).2.2.1 < r.2.1 then ((r.1 + 1, (1, (r.2.2.1 ++ [((4 : Int), (r.1 + 1, ((⟨#[]⟩ : ByteArray), ())))], ()))), 0)
    else if (¬ (eraOf g r).2.1 = true ∧ sure < r.2.1) ∨ 60 < r.2.1 then (r, 2)
    else tellR a g r l)
  else (zRd, 1)
theorem readerB_parts {r : Reader} (h : readerB r = true) : (1 ≤ r.1 ∧ r.1 ≤ 31) ∧ (1 ≤ r.2.1 ∧ r.2.1 ≤ 61) ∧ r.2.2.1.length ≤ 120 := by
  simp only [readerB, Bool.and_eq_true, inB_true, decide_eq_true_eq] at h
  exact ⟨h.1, h.2.1, by omega⟩
theorem offOf_le (x : Int) : 0 ≤ offOf x ∧ offOf x ≤ 60 := by
  unfold offOf
  split
  · rename_i h; have := placeOk_pos h; omega
  · omega
theorem spec_ReaderNext_ev (a : Config) (g : Register) (sure : Int) (r : Reader) (l : List Answer) (ha : a.1.length ≤ 1048576) (ht : InR g.2.1) (hl : g.1.length ≤ 1048576) (he : ∀ i, i < g.1.length → (g.1.getD i zEra).1.length ≤ 1048576) (hr : r.2.2.1.length ≤ 1048576) (hA : AnG l) : Ev (fun k => spec_ReaderNext.f k a g sure r l) (readF a g sure r l) := by
  have hll := hA.1
  simp only [spec_ReaderNext.f, spec_ReaderOk_is, spec_l10Copy_is r hr, spec_l10Tell_is r _ _ _ hr, Option.bind_some, spec_l1Place.f, spec_EpochOf_is _ ht, spec_OffOf_is _ ht]
  unfold readF
  refine Ev.bind (spec_l10Nodes_ev a l ha hll) (Ev.bind (spec_RegOk_ev a g ht ha hl he) ?_)
  by_cases h1 : regB a g = true
  case neg => rw [if_neg (fun h => h1 h.1)]; exact Ev.neg h1 Ev.ret
  refine Ev.pos h1 ?_
  by_cases h2 : readerB r = true
  case neg => rw [if_neg (fun h => h2 h.2.1)]; exact Ev.neg h2 Ev.ret
  refine Ev.pos h2 ?_
  by_cases h3 : nodesB a (l.map (·.1)) = true
  case neg => rw [if_neg (fun h => h3 h.2.2)]; exact Ev.neg h3 Ev.ret
  rw [if_pos ⟨h1, h2, h3⟩]
  obtain ⟨p1, p2, p3⟩ := readerB_parts h2
  have w1 : wrap64 (r.1 - 1) = r.1 - 1 := wrap64_id (by omega) (by omega)
  have w2 : wrap64 (wrap64 (4294967296 * r.1) + r.2.1) = placeOf' r := by rw [wrap64_id (x := 4294967296 * r.1) (by omega) (by omega), wrap64_id (by omega) (by omega)]; rfl
  have w3 : wrap64 (r.1 + 1) = r.1 + 1 := wrap64_id (by omega) (by omega)
  have w4 : wrap64 (offOf g.2.1 + 1) = offOf g.2.1 + 1 := by have := offOf_le g.2.1; exact wrap64_id (by omega) (by omega)
  have w5 : wrap64 (r.2.1 + 1) = r.2.1 + 1 := wrap64_id (by omega) (by omega)
  rw [w1, w2, w3, w4]
  refine Ev.pos h3 (Ev.ite (fun _ => Ev.ret) (fun hn => Ev.ite (fun _ => Ev.ret) (fun _ => Ev.pos (by omega) (Ev.ite (fun _ => Ev.ret) (fun _ => ?_)))))
  have hi : (r.1 - 1).toNat < g.1.length := by omega
  have hel : (eraOf g r).1.length ≤ 1048576 := he _ hi
  have fin : ∀ z, Ev (fun k => (spec_l9Both.f k (l.map (·.1)) (eraOf g r).1).bind fun r12 => (spec_Enough.f k a (eraOf g r).1 r12).bind fun r13 => if r13 = true then spec_ReaderNext.p32 k l (placeOf' r) r z (eraOf g r) else some (r, (3 : Int))) (tellR a g r l) := fun z => by
    refine Ev.bind (spec_l9Both_ev _ _ (by rw [List.length_map]; exact hll) hel) (Ev.bind (spec_Enough_ev a (eraOf g r).1 _ ha hel (Nat.le_trans (List.length_filter_le _ _) (by rw [List.length_map]; exact hll))) ?_)
    unfold tellR enoughR
    refine Ev.ite (fun _ => Ev.succ ?_) (fun _ => Ev.ret)
    simp only [spec_ReaderNext.p32, spec_l10Tell_is r _ _ _ hr, Option.bind_some, w5]
    exact Ev.bind (spec_l10Best_ev (eraOf g r).1 (placeOf' r) l hel hA) Ev.ret
  change Ev (fun k => if (eraOf g r).2.1 = true then _ else _) _
  by_cases hc : (eraOf g r).2.1 = true
  · refine Ev.pos hc ?_
    by_cases hla : (eraOf g r).2.2.1 < r.2.1
    · rw [if_pos ⟨hc, hla⟩]; exact Ev.pos hla Ev.ret
    · rw [if_neg (fun h => hla h.2)]
      refine Ev.neg hla (Ev.pos hc ?_)
      by_cases h60 : 60 < r.2.1
      · rw [if_pos (.inr h60)]; exact Ev.pos h60 Ev.ret
      · rw [if_neg (fun h => h.elim (fun h => h.1 hc) h60)]; exact Ev.neg h60 (fin _)
  · rw [if_neg (fun h => hc h.1)]
    refine Ev.neg hc (Ev.neg hc ?_)
    by_cases hs : sure < r.2.1
    · rw [if_pos (.inl ⟨hc, hs⟩)]; exact Ev.pos hs Ev.ret
    · refine Ev.neg hs ?_
      by_cases h60 : 60 < r.2.1
      · rw [if_pos (.inr h60)]; exact Ev.pos h60 Ev.ret
      · rw [if_neg (fun h => h.elim (fun h => hs h.2) h60)]; exact Ev.neg h60 (fin _)

theorem laws_big_is (b : List Int) : laws_big.f b = some (decide ((1048576 : Int) < ((b.length : Nat) : Int))) := rfl

theorem impl_within_is (x a b : Int) : impl_within.f x a b = some (inB x a b) := ite_inB x a b

theorem impl_ConfigOk_ev (a : Config) (hl : a.1.length ≤ 1048576) : Ev (fun k => impl_ConfigOk.f k a) (cfgB a) := by
  have h := all_loop (n := a.1.length) (p := fun k i => impl_ConfigOk.p5 k a.1 ((a.1.length : Nat) : Int) i a) (q := fun i => inB (a.1.getD i 0) 0 7) (zb := inB ((a.1.length : Nat) : Int) 1 8 && (inB a.2.1 1 4 && true)) (fun i hi b hb => by
    simp only [impl_ConfigOk.p5, impl_within_is]
    refine Ev.pos (by omega) (Ev.pos (by omega) (Ev.bindc rfl (Ev.and fun _ => ?_)))
    rw [wrap_up hi (by omega)]; exact hb) (by
    simp only [impl_ConfigOk.p5, impl_within_is]
    refine Ev.neg (by omega) (Ev.bindc rfl (Ev.and fun _ => Ev.bindc rfl (Ev.ret.eq (by simp))))) a.1.length 0 (by omega)
  refine (Ev.cg h fun k => rfl).eq ?_
  unfold cfgB
  cases inB ((a.1.length : Nat) : Int) 1 8 <;> cases inB a.2.1 1 4 <;> simp

theorem impl_ascends_ev (l : List Int) (hi : Int) (hl : l.length ≤ 1048576) : Ev (fun k => impl_ascends.f k l hi) (ascB l 0 hi) := by
  have h := all_loop (n := l.length) (p := fun k i => impl_ascends.p5 k l hi l ((l.length : Nat) : Int) i) (q := fun i => inB (l.getD i 0) 0 hi && (decide (i = 0) || !decide (l.getD i 0 ≤ l.getD (i - 1) 0))) (zb := true) (fun i hi' b hb => by
    simp only [impl_ascends.p5, impl_within_is]
    refine Ev.pos (by omega) (Ev.pos (by omega) (Ev.bindc rfl ?_))
    rw [Bool.and_assoc]
    refine Ev.and fun _ => ?_
    rw [wrap_up hi' (by omega)]
    by_cases h0 : i = 0
    · subst h0
      exact (Ev.neg (by omega) hb).eq (by simp)
    · have e : wrap64 ((i : Int) - 1) = ((i - 1 : Nat) : Int) := by rw [wrap64_id (by omega) (by omega)]; omega
      rw [e]
      refine Ev.pos (by omega) (Ev.pos (by omega) ?_)
      rw [decide_eq_false h0, Bool.false_or]
      exact Ev.nand fun _ => hb) (by
    simp only [impl_ascends.p5]
    exact Ev.neg (by omega) Ev.ret) l.length 0 (by omega)
  exact (Ev.cg h fun k => rfl).eq (by unfold ascB; rw [Bool.and_true])

theorem impl_NodesOk_ev (a : Config) (l : List Int) (ha : a.1.length ≤ 1048576) (hl : l.length ≤ 1048576) : Ev (fun k => impl_NodesOk.f k a l) (nodesB a l) := by
  simp only [impl_NodesOk.f, nodesB]
  refine Ev.bind (impl_ConfigOk_ev a ha) (Ev.and fun _ => ?_)
  rw [wrap64_id (by omega) (by omega)]
  exact Ev.bind (impl_ascends_ev l _ hl) Ev.ret

theorem slices_Index_l (l : List Int) (x : Int) (hl : l.length ≤ 1048576) : ∀ (m i : Nat), i + m = l.length → ∃ r : Int, Ev (fun k => slices_Index_int_int.p5 k l x ((l.length : Nat) : Int) (i : Int)) r ∧ (decide (0 ≤ r) = (l.drop i).contains x) := by
  intro m
  induction m with
  | zero =>
    intro i h
    refine ⟨-1, Ev.succ ?_, by rw [List.drop_eq_nil_of_le (by omega)]; rfl⟩
    simp only [slices_Index_int_int.p5]
    exact Ev.neg (by omega) Ev.ret
  | succ m ih =>
    intro i h
    have hi : i < l.length := by omega
    rw [drop_get (d := (0 : Int)) hi]
    by_cases hx : x = l.getD i 0
    · refine ⟨i, Ev.succ ?_, by simp [hx]⟩
      simp only [slices_Index_int_int.p5, Int.toNat_natCast]
      exact Ev.pos (by omega) (Ev.pos (by omega) (Ev.pos hx Ev.ret))
    · obtain ⟨r, h1, h2⟩ := ih (i + 1) (by omega)
      refine ⟨r, Ev.succ ?_, by rw [h2, List.contains_cons, beq_eq_false_iff_ne.2 hx, Bool.false_or]⟩
      simp only [slices_Index_int_int.p5, Int.toNat_natCast]
      refine Ev.pos (by omega) (Ev.pos (by omega) (Ev.neg hx ?_))
      rw [wrap_up hi (by omega)]; exact h1

theorem slices_Contains_ev (l : List Int) (x : Int) (hl : l.length ≤ 1048576) : Ev (fun k => slices_Contains_int_int.f k l x) (l.contains x) := by
  obtain ⟨r, h1, h2⟩ := slices_Index_l l x hl l.length 0 (by omega)
  simp only [slices_Contains_int_int.f, slices_Index_int_int.f]
  exact (Ev.bind h1 (Ev.ret (v := decide (0 ≤ r)))).eq (by rw [h2, List.drop_zero])

theorem impl_SpanOf_l (a : Config) (l : List Int) (hl : l.length ≤ 1048576) (hmem : ∀ i, i < l.length → 0 ≤ l.getD i 0 ∧ l.getD i 0 < ((a.1.length : Nat) : Int)) :
    ∀ (m i : Nat) (acc : List Int), i + m = l.length → acc.length ≤ i → Ev (fun k => impl_SpanOf.p11 k acc l ((l.length : Nat) : Int) (i : Int) a) ((domsOf a (l.drop i) acc).length : Int) := by
  intro m
  induction m with
  | zero =>
    intro i acc h ha
    refine Ev.succ ?_
    simp only [impl_SpanOf.p11]
    rw [List.drop_eq_nil_of_le (by omega)]
    exact Ev.neg (by omega) Ev.ret
  | succ m ih =>
    intro i acc h ha
    have hi : i < l.length := by omega
    have hn := hmem i hi
    refine Ev.succ ?_
    simp only [impl_SpanOf.p11, Int.toNat_natCast]
    rw [drop_get (d := (0 : Int)) hi]
    simp only [domsOf]
    generalize hw : a.1.getD (l.getD i 0).toNat 0 = x at *
    refine Ev.pos (by omega) (Ev.pos (by omega) (Ev.pos (by omega) (Ev.bind (slices_Contains_ev acc x (by omega)) ?_)))
    rw [wrap_up hi (by omega)]
    by_cases hc : acc.contains x = true
    · rw [if_pos hc]
      exact Ev.pos hc (ih (i + 1) acc (by omega) (by omega))
    · rw [if_neg hc]
      refine Ev.neg hc (Ev.pos (by omega) (Ev.pos (by simp [lim_eq]; omega) ?_))
      exact ih (i + 1) (acc ++ [x]) (by omega) (by simp; omega)
theorem impl_SpanOf_ev (a : Config) (l : List Int) (ha : a.1.length ≤ 1048576) (hl : l.length ≤ 1048576) : Ev (fun k => impl_SpanOf.f k a l) (if nodesB a l = true then spanOf a l else -1) := by
  simp only [impl_SpanOf.f]
  refine Ev.bind (impl_NodesOk_ev a l ha hl) (Ev.ite (fun h => ?_) fun _ => Ev.ret)
  simp only [nodesB, Bool.and_eq_true] at h
  have := impl_SpanOf_l a l hl (fun i hi => by have := ascB_mem h.2 hi; omega) l.length 0 [] (by omega) (by simp)
  rw [List.drop_zero] at this
  exact this

theorem impl_Holds_ev (a : Config) (l : List Int) (ha : a.1.length ≤ 1048576) (hl : l.length ≤ 1048576) : Ev (fun k => impl_Holds.f k a l) (holdsB a l) := by
  simp only [impl_Holds.f, holdsB]
  refine Ev.bind (impl_NodesOk_ev a l ha hl) (Ev.and fun h => Ev.bind (impl_SpanOf_ev a l ha hl) ?_)
  rw [if_pos h]; exact Ev.ret

theorem impl_eraOk_ev (a : Config) (e : Era) (ha : a.1.length ≤ 1048576) (he : e.1.length ≤ 1048576) : Ev (fun k => impl_eraOk.f k a e) (eraB a e) := by
  simp only [impl_eraOk.f, impl_within_is, eraB]
  refine Ev.bind (impl_Holds_ev a e.1 ha he) (Ev.and fun _ => Ev.bindc rfl (Ev.and fun _ => ?_))
  by_cases hc : e.2.1 = true
  · exact (Ev.pos hc Ev.ret).eq (by rw [hc]; rfl)
  · refine (Ev.neg hc Ev.ret).eq ?_
    simp only [Bool.not_eq_true] at hc
    rw [hc, Bool.false_or]

theorem impl_PlaceOk_is (x : Int) (hx : InR x) : impl_PlaceOk.f x = some (placeOk x) := by
  have h1 := hx.1; have h2 := hx.2
  simp only [impl_PlaceOk.f, placeOk, impl_isEpoch.f, impl_isOff.f, impl_within_is]
  by_cases h : 0 < x
  · rw [tdiv_pos (by omega), tmod_pos (by omega), wrap64_id (by omega) (by omega)]
    cases inB (x / 4294967296) 1 30 <;> simp [h]
  · rw [tdiv_neg' (by omega), wrap64_id (by omega) (by omega), show inB (-(-x / 4294967296)) 1 30 = false by
      rw [Bool.eq_false_iff]
      intro he
      rw [inB_true] at he
      omega]
    simp [h]

theorem impl_EpochOf_is (x : Int) (hx : InR x) : impl_EpochOf.f x = some (epochOf x) := by
  have h2 := hx.2
  simp only [impl_EpochOf.f, impl_PlaceOk_is x hx, Option.bind_some, epochOf]
  by_cases h : placeOk x = true
  · have := placeOk_pos h
    rw [if_pos h, if_pos h, tdiv_pos (by omega), wrap64_id (by omega) (by omega)]
  · rw [if_neg h, if_neg h]

theorem impl_RegOk_ev (a : Config) (r : Register) (ht : InR r.2.1) (ha : a.1.length ≤ 1048576) (hl : r.1.length ≤ 1048576) (he : ∀ i, i < r.1.length → (r.1.getD i zEra).1.length ≤ 1048576) : Ev (fun k => impl_RegOk.f k a r) (regB a r) := by
  have hend : ∀ q : Bool, Ev (fun k => impl_RegOk.p16 k q a r) (cfgB a && (decide (((r.1.length : Nat) : Int) ≤ 30) && q)) := fun q => by
    refine Ev.succ ?_
    simp only [impl_RegOk.p16]
    exact Ev.bind (impl_ConfigOk_ev a ha) (Ev.and fun _ => Ev.andc fun _ => Ev.ret)
  have h := all_loop (n := r.1.length) (p := fun k i => impl_RegOk.p5 k r.1 ((r.1.length : Nat) : Int) i a r) (q := eraAt a r.1) (zb := cfgB a && (decide (((r.1.length : Nat) : Int) ≤ 30) && trimB r.1.length r.2.1)) (fun i hi b hb => by
    simp only [impl_RegOk.p5, Int.toNat_natCast]
    have hz := he i hi
    have hw : wrap64 ((i : Int) + 1) = ((i + 1 : Nat) : Int) := wrap_up hi (by omega)
    unfold eraAt
    refine Ev.pos (by omega) (Ev.pos (by omega) (Ev.bind (impl_eraOk_ev a (r.1.getD i zEra) ha hz) ?_))
    rw [Bool.and_assoc]
    refine Ev.and fun _ => ?_
    simp only [hw]
    by_cases hc : (r.1.getD i zEra).2.1 = true
    · refine Ev.pos hc ?_
      have e1 : wrap64 (((r.1.length : Nat) : Int) - 1) = ((r.1.length - 1 : Nat) : Int) := by rw [wrap64_id (by omega) (by omega)]; omega
      rw [e1, hc, Bool.not_true, Bool.false_or, Bool.and_assoc]
      by_cases hq : i = r.1.length - 1
      · rw [decide_eq_true hq]
        exact Ev.pos (by omega) Ev.ret
      · rw [decide_eq_false hq]
        refine Ev.neg (by omega) ?_
        by_cases h0 : i = 0
        · subst h0
          exact (Ev.neg (by omega) hb).eq (by rfl)
        · have e2 : wrap64 ((i : Int) - 1) = ((i - 1 : Nat) : Int) := by rw [wrap64_id (by omega) (by omega)]; omega
          rw [e2, decide_eq_false h0]
          refine Ev.pos (by omega) (Ev.pos (by omega) ?_)
          exact (Ev.and fun _ => hb).eq (by rfl)
    · refine (Ev.neg hc hb).eq ?_
      simp only [Bool.not_eq_true] at hc
      rw [hc]; rfl) (by
    simp only [impl_RegOk.p5, impl_EpochOf_is _ ht, impl_within_is, Option.bind_some]
    refine Ev.neg (by omega) ?_
    unfold trimB
    by_cases h0 : r.2.1 = 0
    · exact (Ev.pos h0 (hend true)).eq (by rw [decide_eq_true h0]; rfl)
    · exact (Ev.neg h0 (hend _)).eq (by rw [decide_eq_false h0]; rfl)) r.1.length 0 (by omega)
  refine (Ev.cg h fun k => rfl).eq ?_
  unfold regB erasB
  cases cfgB a <;> cases decide (((r.1.length : Nat) : Int) ≤ 30) <;> cases trimB r.1.length r.2.1 <;> simp

theorem impl_ReaderOk_is (r : Reader) : impl_ReaderOk.f r = some (readerB r) := by
  simp only [impl_ReaderOk.f, impl_within_is, Option.bind_some, readerB]
  cases inB r.1 1 31 <;> cases inB r.2.1 1 61 <;> simp

theorem impl_nodesOf_ev (l : List Answer) (hl : l.length ≤ 1048576) : Ev (fun k => impl_nodesOf.f k l) (l.map (·.1)) := by
  have h : ∀ (m i : Nat) (o : List Int), i + m = l.length → o.length = i → o ++ (l.drop i).map (·.1) = l.map (·.1) → Ev (fun k => impl_nodesOf.p7 k o l ((l.length : Nat) : Int) (i : Int)) (l.map (·.1)) := by
    intro m
    induction m with
    | zero =>
      intro i o hi ho he
      refine Ev.succ ?_
      simp only [impl_nodesOf.p7]
      rw [List.drop_eq_nil_of_le (by omega)] at he
      have he : o = l.map (·.1) := by rw [← he]; simp
      rw [he]
      exact Ev.neg (by omega) Ev.ret
    | succ m ih =>
      intro i o hi ho he
      have hlt : i < l.length := by omega
      rw [drop_get (d := zAns) hlt] at he
      refine Ev.succ ?_
      simp only [impl_nodesOf.p7, Int.toNat_natCast]
      rw [wrap_up hlt (by omega)]
      exact Ev.pos (by omega) (Ev.pos (by omega) (Ev.pos (by simp only [lim_eq, List.length_cons, List.length_nil]; omega) (ih (i + 1) _ (by omega) (by simp [ho]) (by rw [List.append_assoc]; exact he))))
  exact h l.length 0 [] (by omega) rfl rfl

theorem impl_copyReader_is (r : Reader) (h : r.2.2.1.length ≤ 1048576) : impl_copyReader.f r = some r := by
  simp only [impl_copyReader.f]
  rw [if_pos (by simp only [lim_eq, List.length_nil]; omega), List.nil_append]

theorem impl_OffOf_is (x : Int) (hx : InR x) : impl_OffOf.f x = some (offOf x) := by
  simp only [impl_OffOf.f, impl_PlaceOk_is x hx, Option.bind_some, offOf]
  by_cases h : placeOk x = true
  · have := placeOk_pos h
    rw [if_pos h, if_pos h, tmod_pos (by omega)]
  · rw [if_neg h, if_neg h]

theorem placeOk_is {t : Int} (h : placeOk t = true) : t = 4294967296 * epochOf t + offOf t ∧ (1 ≤ epochOf t ∧ epochOf t ≤ 30) ∧ (1 ≤ offOf t ∧ offOf t ≤ 60) := by
  have := placeOk_pos h
  unfold epochOf offOf
  rw [if_pos h, if_pos h]
  omega
theorem impl_isAhead_is (t : Int) (r : Reader) (ht : InR t) (h : placeOk t = true) (h2 : 1 ≤ r.2.1 ∧ r.2.1 ≤ 61) : impl_isAhead.f t r = some (!decide (placeOf' r ≤ t)) := by
  obtain ⟨e, p1, p2⟩ := placeOk_is h
  simp only [impl_isAhead.f, impl_EpochOf_is _ ht, impl_OffOf_is _ ht, Option.bind_some]
  unfold placeOf'
  by_cases c1 : epochOf t < r.1
  · rw [if_pos c1, decide_eq_false (by omega)]; rfl
  · rw [if_neg c1]
    by_cases c2 : epochOf t = r.1
    · rw [if_pos c2]
      by_cases c3 : offOf t < r.2.1
      · rw [decide_eq_true c3, decide_eq_false (by omega)]; rfl
      · rw [decide_eq_false c3, decide_eq_true (by omega)]; rfl
    · rw [if_neg c2, decide_eq_true (by omega)]; rfl

theorem impl_copyInts_is (l : List Int) (h : l.length ≤ 1048576) : impl_copyInts.f l = some l := by
  simp only [impl_copyInts.f]
  rw [if_pos (by simp [lim_eq]; omega)]; rfl

theorem impl_both_is (l o : List Int) (hl : l.length ≤ 1048576) (ho : o.length ≤ 1048576) : impl_both.f l o = some (l.filter fun v => o.contains v) := by
  simp only [impl_both.f, impl_copyInts_is l hl, Option.bind_some, slices_DeleteFunc_int_int_impl_both_1.f]
  rw [if_pos ⟨by rw [lim_eq]; omega, by show o.length ≤ _; omega⟩]
  show some (l.filter _) = _
  congr 1
  refine List.filter_congr fun v _ => ?_
  show (!(!(o.any fun u => decide (v = u)))) = _
  rw [Bool.not_not, Bool.eq_iff_iff, List.contains_iff_mem, List.any_eq_true]
  exact ⟨fun ⟨u, h1, h2⟩ => by rw [decide_eq_true_eq] at h2; exact h2 ▸ h1, fun h => ⟨v, h, by simp⟩⟩

theorem impl_Reader_tell_is (r : Reader) (e : Event) (h : r.2.2.1.length ≤ 1048576) : impl_Reader_tell.f r e = some (r.1, (r.2.1, (r.2.2.1 ++ [e], ()))) := by
  simp only [impl_Reader_tell.f]
  rw [if_pos (by simp only [lim_eq, List.length_cons, List.length_nil]; omega)]

theorem impl_Rest_l (l r : List Int) (hl : l.length ≤ 1048576) (hr : r.length ≤ 1048576) : ∀ (m i : Nat) (o : List Int), i + m = l.length → o.length ≤ i → Ev (fun k => impl_Rest.p11 k r o l ((l.length : Nat) : Int) (i : Int)) (o ++ (l.drop i).filter fun v => !r.contains v) := by
  intro m
  induction m with
  | zero =>
    intro i o hi ho
    refine Ev.succ ?_
    simp only [impl_Rest.p11]
    rw [List.drop_eq_nil_of_le (by omega)]
    exact Ev.neg (by omega) (Ev.ret.eq (by simp))
  | succ m ih =>
    intro i o hi ho
    refine Ev.succ ?_
    simp only [impl_Rest.p11, Int.toNat_natCast]
    rw [wrap_up (i := i) (n := l.length) (by omega) (by omega), drop_get (d := 0) (by omega : i < l.length), List.filter_cons]
    refine Ev.pos (by omega) (Ev.pos (by omega) (Ev.bind (slices_Contains_ev r _ hr) ?_))
    cases hc : r.contains (l.getD i 0) with
    | true => exact Ev.pos rfl ((ih (i + 1) o (by omega) (by omega)).eq (by simp))
    | false => exact Ev.neg (by decide) (Ev.pos (by simp only [lim_eq, List.length_cons, List.length_nil]; omega) ((ih (i + 1) _ (by omega) (by simp; omega)).eq (by simp)))
theorem impl_Rest_ev (a : Config) (l r : List Int) (ha : a.1.length ≤ 1048576) (hl : l.length ≤ 1048576) (hr : r.length ≤ 1048576) (h1 : nodesB a l = true) (h2 : nodesB a r = true) : Ev (fun k => impl_Rest.f k a l r) (l.filter fun v => !r.contains v) := by
  simp only [impl_Rest.f]
  exact Ev.bind (impl_NodesOk_ev a l ha hl) (Ev.pos h1 (Ev.bind (impl_NodesOk_ev a r ha hr) (Ev.pos h2 (impl_Rest_l l r hl hr l.length 0 [] (by omega) (by simp)))))

theorem impl_Enough_ev (a : Config) (l r : List Int) (ha : a.1.length ≤ 1048576) (hl : l.length ≤ 1048576) (hr : r.length ≤ 1048576) : Ev (fun k => impl_Enough.f k a l r) (enoughB a l r) := by
  simp only [impl_Enough.f, impl_both_is r l hr hl, Option.bind_some]
  have key : ∀ u v : Int, (!(decide (decide (u ≤ v) = true))) = decide (v < u) := fun u v => by
    by_cases h : u ≤ v
    · have h2 : ¬ v < u := by omega
      simp [h, h2]
    · have h2 : v < u := by omega
      simp [h, h2]
  have hf := filter_not (fun v => l.contains v) r
  unfold enoughB
  refine (Ev.bind (impl_NodesOk_ev a r ha hr) (b := nodesB a r && (holdsB a l && (decide ((r.filter fun v => !l.contains v).length = 0) && decide (spanOf a (l.filter fun v => !r.contains v) < a.2.1)))) (Ev.and fun hn => Ev.bind (impl_Holds_ev a l ha hl) (Ev.and fun hh => ?_))).eq (by cases holdsB a l <;> cases nodesB a r <;> rfl)
  have hnl : nodesB a l = true := by unfold holdsB at hh; rw [Bool.and_eq_true] at hh; exact hh.1
  by_cases h0 : (r.filter fun v => !l.contains v).length = 0
  · rw [decide_eq_true h0, Bool.true_and]
    refine Ev.pos (by omega) (Ev.bind (impl_Rest_ev a l r ha hl hr hnl hn) (Ev.bind (impl_Holds_ev a _ ha (Nat.le_trans (List.length_filter_le _ _) hl)) (Ev.ret.eq ?_)))
    unfold holdsB
    rw [nodesB_filter _ hnl, Bool.true_and]
    exact key _ _
  · rw [decide_eq_false h0, Bool.false_and]
    exact Ev.neg (by omega) Ev.ret

theorem impl_PlaceMake_at {e o : Int} (h1 : 1 ≤ e ∧ e ≤ 30) (h2 : 1 ≤ o ∧ o ≤ 60) : impl_PlaceMake.f e o = some (4294967296 * e + o, true) := by
  simp only [impl_PlaceMake.f, impl_isEpoch.f, impl_isOff.f, impl_within_is, Option.bind_some]
  rw [if_pos (inB_true.2 h1), if_pos (inB_true.2 h2), wrap64_id (x := 4294967296 * e) (by omega) (by omega), wrap64_id (by omega) (by omega)]

theorem impl_dataOk_is (s : ByteArray) : impl_dataOk.f s = some (!decide ((40 : Int) < ((s.size : Nat) : Int))) := by
  simp only [impl_dataOk.f]
  by_cases h : ((s.size : Nat) : Int) ≤ 40
  · rw [decide_eq_true h, decide_eq_false (by omega)]; rfl
  · rw [decide_eq_false h, decide_eq_true (by omega)]; rfl

theorem impl_EntryOk_ev (e : Entry) (ha : InR e.1) : Ev (fun k => impl_EntryOk.f k e) (entB e) := by
  have h6 : ∀ p q : Bool, Ev (fun k => impl_EntryOk.p6 k p q e) (placeOk e.1 && (p && (q && decide (((e.2.2.2.1.size : Nat) : Int) ≤ 40)))) := fun p q => by
    refine Ev.succ ?_
    simp only [impl_EntryOk.p6, impl_PlaceOk_is _ ha, impl_dataOk.f, Option.bind_some]
    exact Ev.and fun _ => Ev.and fun _ => Ev.and fun _ => Ev.ret
  have h4 : ∀ p : Bool, Ev (fun k => impl_EntryOk.p4 k p e) (placeOk e.1 && (p && ((!e.2.2.1 || (decide (0 < e.2.1) && decide (e.2.2.2.1 = (⟨#[]⟩ : ByteArray)))) && decide (((e.2.2.2.1.size : Nat) : Int) ≤ 40)))) := fun p => by
    refine Ev.succ ?_
    simp only [impl_EntryOk.p4]
    cases hc : e.2.2.1 with
    | true =>
      refine Ev.pos rfl ?_
      by_cases h0 : (0 : Int) < e.2.1
      · exact (Ev.pos h0 (h6 p _)).eq (by rw [decide_eq_true h0]; simp)
      · exact (Ev.neg h0 (h6 p _)).eq (by rw [decide_eq_false h0]; simp)
    | false => exact (Ev.neg (by decide) (h6 p _)).eq (by simp)
  simp only [impl_EntryOk.f, impl_EpochOf_is _ ha, impl_within_is, Option.bind_some]
  have key : ∀ v : Bool, v = (inB e.2.1 0 30 && !(decide (0 < e.2.1) && decide (e.2.1 ≤ epochOf e.1))) → Ev (fun k => impl_EntryOk.p4 k v e) (entB e) := fun v hv => (h4 v).eq (by
    unfold entB
    rw [hv]
    cases placeOk e.1 <;> cases inB e.2.1 0 30 <;> cases decide ((0 : Int) < e.2.1) <;> cases decide (e.2.1 ≤ epochOf e.1) <;> cases e.2.2.1 <;> cases decide (((e.2.2.2.1.size : Nat) : Int) ≤ 40) <;> cases decide (e.2.2.2.1 = (⟨#[]⟩ : ByteArray)) <;> rfl)
  by_cases hi : inB e.2.1 0 30 = true
  · have hb := inB_true.1 hi
    refine Ev.pos hi ?_
    by_cases h0 : e.2.1 = 0
    · exact Ev.pos h0 (key true (by rw [hi, decide_eq_false (show ¬ (0 : Int) < e.2.1 by omega)]; rfl))
    · refine Ev.neg h0 (key _ ?_)
      rw [hi, decide_eq_true (show (0 : Int) < e.2.1 by omega)]
      by_cases h1 : epochOf e.1 < e.2.1
      · rw [decide_eq_true h1, decide_eq_false (by omega)]; rfl
      · rw [decide_eq_false h1, decide_eq_true (by omega)]; rfl
  · exact Ev.neg hi (key false (by rw [Bool.not_eq_true] at hi; rw [hi]; rfl))

theorem impl_bestOf_ev (set : List Int) (place : Int) (l : List Answer) (hs : set.length ≤ 1048576) (hl : AnG l) : Ev (fun k => impl_bestOf.f k l set place) (bestL set place (zEnt, false) l) := by
  have hll := hl.1
  have h : ∀ (m i : Nat) (q : Entry × Bool) (z : Entry), i + m = l.length → Ev (fun k => impl_bestOf.p7 k set place q.2 l ((l.length : Nat) : Int) (i : Int) z q.1) (bestL set place q (l.drop i)) := by
    intro m
    induction m with
    | zero =>
      intro i q z hi
      refine Ev.succ ?_
      simp only [impl_bestOf.p7]
      rw [List.drop_eq_nil_of_le (by omega)]
      exact Ev.neg (by omega) Ev.ret
    | succ m ih =>
      intro i q z hi
      have hlt : i < l.length := by omega
      refine Ev.succ ?_
      simp only [impl_bestOf.p7, Int.toNat_natCast]
      rw [wrap_up hlt (by omega), drop_get (d := zAns) hlt]
      refine Ev.pos (by omega) (Ev.pos (by omega) ?_)
      show Ev _ (bestL set place (if ansB set place (l.getD i zAns) = true then (if q.2 = true then better q.1 (l.getD i zAns).2.2.1 else better (l.getD i zAns).2.2.1 (l.getD i zAns).2.2.1, true) else q) (l.drop (i + 1)))
      refine ans_split (set := set) (place := place) (x := l.getD i zAns) (slices_Contains_ev set _ hs) (impl_EntryOk_ev _ (hl.2 _ (getD_mem hlt))) (fun ha => ?_) (fun ha => ?_)
      · rw [if_pos ha]
        by_cases hq : q.2 = true
        · refine Ev.pos hq (Ev.bindc (a := better q.1 (l.getD i zAns).2.2.1) ?_ ?_)
          · show impl_Better.f q.1 (l.getD i zAns).2.2.1 = _
            unfold impl_Better.f better; split <;> rfl
          · rw [if_pos hq]; exact ih (i + 1) (better q.1 (l.getD i zAns).2.2.1, true) z (by omega)
        · refine Ev.neg hq (Ev.bindc (a := better (l.getD i zAns).2.2.1 (l.getD i zAns).2.2.1) ?_ ?_)
          · show impl_Better.f (l.getD i zAns).2.2.1 (l.getD i zAns).2.2.1 = _
            unfold impl_Better.f better; split <;> rfl
          · rw [if_neg hq]; exact ih (i + 1) (better (l.getD i zAns).2.2.1 (l.getD i zAns).2.2.1, true) z (by omega)
      · rw [if_neg (by rw [ha]; decide)]; exact ih (i + 1) q z (by omega)
  exact h l.length 0 (zEnt, false) _ (by omega)

theorem impl_Reader_found_ev (r : Reader) (l : List Answer) (set : List Int) (hr : r.2.2.1.length ≤ 1048576) (h1 : 1 ≤ r.1 ∧ r.1 ≤ 30) (h2 : 1 ≤ r.2.1 ∧ r.2.1 ≤ 60) (hs : set.length ≤ 1048576) (hA : AnG l) : Ev (fun k => impl_Reader_found.f k r l set) (r.1, (r.2.1 + 1, (r.2.2.1 ++ [evOf (placeOf' r) (bestL set (placeOf' r) (zEnt, false) l)], ()))) := by
  have w5 : wrap64 (r.2.1 + 1) = r.2.1 + 1 := wrap64_id (by omega) (by omega)
  simp only [impl_Reader_found.f, impl_PlaceMake_at h1 h2, impl_Reader_tell_is r _ hr, Option.bind_some, w5]
  refine Ev.bind (impl_bestOf_ev set (placeOf' r) l hs hA) ?_
  generalize bestL set (placeOf' r) (zEnt, false) l = q
  unfold evOf
  by_cases hq : q.2 = true
  · refine Ev.pos hq ?_
    by_cases hh : q.1.2.2.1 = true
    · exact Ev.pos hh (Ev.ret.eq (by rw [if_pos hq, if_pos hh]; rfl))
    · exact Ev.neg hh (Ev.ret.eq (by rw [if_pos hq, if_neg hh]; rfl))
  · exact Ev.neg hq (Ev.ret.eq (by rw [if_neg hq]; rfl))

theorem bestL_set {s1 s2 : List Int} {place : Int} : ∀ (l : List Answer) (q : Entry × Bool), (∀ x ∈ l, s1.contains x.1 = s2.contains x.1) → bestL s1 place q l = bestL s2 place q l := by
  intro l
  induction l with
  | nil => intro q _; rfl
  | cons x l ih =>
    intro q h
    have h1 := h x List.mem_cons_self
    unfold bestL
    rw [show ansB s1 place x = ansB s2 place x by unfold ansB; rw [h1]]
    exact ih _ fun y hy => h y (List.mem_cons_of_mem _ hy)
theorem trim_place {a : Config} {g : Register} (h : regB a g = true) : g.2.1 = 0 ∨ placeOk g.2.1 = true := by
  simp only [regB, trimB, Bool.and_eq_true, Bool.or_eq_true, decide_eq_true_eq] at h
  rcases h.2.2.1 with h | h
  · exact .inl h
  · refine .inr ?_
    rw [inB_true] at h
    by_cases hp : placeOk g.2.1 = true
    · exact hp
    · exfalso
      have : epochOf g.2.1 = 0 := by unfold epochOf; rw [if_neg hp]
      omega
theorem impl_ReaderNext_ev (a : Config) (g : Register) (sure : Int) (r : Reader) (l : List Answer) (ha : a.1.length ≤ 1048576) (ht : InR g.2.1) (hl : g.1.length ≤ 1048576) (he : ∀ i, i < g.1.length → (g.1.getD i zEra).1.length ≤ 1048576) (hr : r.2.2.1.length ≤ 1048576) (hA : AnG l) : Ev (fun k => impl_ReaderNext.f k a g sure r l) (readF a g sure r l) := by
  have hll := hA.1
  simp only [impl_ReaderNext.f, impl_ReaderOk_is, impl_copyReader_is r hr, impl_Reader_tell_is r _ hr, Option.bind_some, impl_EpochOf_is _ ht, impl_OffOf_is _ ht]
  unfold readF
  refine Ev.bind (impl_RegOk_ev a g ht ha hl he) ?_
  by_cases h1 : regB a g = true
  case neg => rw [if_neg (fun h => h1 h.1)]; exact Ev.neg h1 Ev.ret
  refine Ev.pos h1 ?_
  by_cases h2 : readerB r = true
  case neg => rw [if_neg (fun h => h2 h.2.1)]; exact Ev.neg h2 Ev.ret
  refine Ev.pos h2 (Ev.bind (impl_nodesOf_ev l hll) (Ev.bind (impl_NodesOk_ev a _ ha (by rw [List.length_map]; exact hll)) ?_))
  by_cases h3 : nodesB a (l.map (·.1)) = true
  case neg => rw [if_neg (fun h => h3 h.2.2)]; exact Ev.neg h3 Ev.ret
  rw [if_pos ⟨h1, h2, h3⟩]
  obtain ⟨p1, p2, p3⟩ := readerB_parts h2
  have w1 : wrap64 (r.1 - 1) = r.1 - 1 := wrap64_id (by omega) (by omega)
  have w3 : wrap64 (r.1 + 1) = r.1 + 1 := wrap64_id (by omega) (by omega)
  have w4 : wrap64 (offOf g.2.1 + 1) = offOf g.2.1 + 1 := by have := offOf_le g.2.1; exact wrap64_id (by omega) (by omega)
  rw [w4]
  have h30 : g.1.length ≤ 30 := by
    simp only [regB, Bool.and_eq_true, decide_eq_true_eq] at h1
    omega
  refine Ev.pos h3 (Ev.ite (fun _ => Ev.ret) (fun hn => Ev.ite (fun _ => Ev.ret) (fun _ => ?_)))
  have hi : (r.1 - 1).toNat < g.1.length := by omega
  have hel : (eraOf g r).1.length ≤ 1048576 := he _ hi
  have hml : (l.map (·.1)).length ≤ 1048576 := by rw [List.length_map]; exact hll
  have hfl : ((l.map (·.1)).filter fun v => (eraOf g r).1.contains v).length ≤ 1048576 := Nat.le_trans (List.length_filter_le _ _) hml
  have fin : ¬ 60 < r.2.1 → Ev (fun k => (impl_Enough.f k a (eraOf g r).1 ((l.map (·.1)).filter fun v => (eraOf g r).1.contains v)).bind fun r13 => if r13 = true then ((impl_Reader_found.f k r l ((l.map (·.1)).filter fun v => (eraOf g r).1.contains v)).bind fun r14 => some (r14, (0 : Int))) else some (r, (3 : Int))) (tellR a g r l) := fun h60 => by
    refine Ev.bind (impl_Enough_ev a (eraOf g r).1 _ ha hel hfl) ?_
    unfold tellR enoughR
    refine Ev.ite (fun _ => Ev.bind (impl_Reader_found_ev r l _ hr (by omega) (by omega) hfl hA) (Ev.ret.eq ?_)) (fun _ => Ev.ret)
    rw [bestL_set (s1 := (l.map (·.1)).filter fun v => (eraOf g r).1.contains v) (s2 := (eraOf g r).1) l _ (fun x hx => by
      rw [Bool.eq_iff_iff, List.contains_iff_mem, List.mem_filter]
      exact ⟨fun h => h.2, fun h => ⟨List.mem_map.2 ⟨x, hx, rfl⟩, h⟩⟩)]
  have h20 : ∀ z, Ev (fun k => impl_ReaderNext.p20 k sure l a g r z r) (if (eraOf g r).2.1 = true ∧ (eraOf g r).2.2.1 < r.2.1 then ((r.1 + 1, (1, (r.2.2.1 ++ [((4 : Int), (r.1 + 1, ((⟨#[]⟩ : ByteArray), ())))], ()))), 0)
    else if (¬ (eraOf g r).2.1 = true ∧ sure < r.2.1) ∨ 60 < r.2.1 then (r, 2) else tellR a g r l) := fun z => by
    refine Ev.succ ?_
    simp only [impl_ReaderNext.p20, impl_Reader_tell_is r _ hr, Option.bind_some, w1, w3]
    refine Ev.pos (by omega) (Ev.bind (impl_nodesOf_ev l hll) ?_)
    change Ev (fun k => (impl_both.f (l.map (·.1)) (eraOf g r).1).bind _) _
    refine Ev.bindc (impl_both_is _ _ hml hel) ?_
    change Ev (fun k => if (eraOf g r).2.1 = true then _ else _) _
    by_cases hc : (eraOf g r).2.1 = true
    · refine Ev.pos hc ?_
      by_cases hla : (eraOf g r).2.2.1 < r.2.1
      · rw [if_pos ⟨hc, hla⟩]; exact Ev.pos hla Ev.ret
      · rw [if_neg (fun h => hla h.2)]
        refine Ev.neg hla (Ev.pos hc ?_)
        by_cases h60 : 60 < r.2.1
        · rw [if_pos (.inr h60)]; exact Ev.pos h60 Ev.ret
        · rw [if_neg (fun h => h.elim (fun h => h.1 hc) h60)]; exact Ev.neg h60 (fin h60)
    · rw [if_neg (fun h => hc h.1)]
      refine Ev.neg hc (Ev.neg hc ?_)
      by_cases hs : sure < r.2.1
      · rw [if_pos (.inl ⟨hc, hs⟩)]; exact Ev.pos hs Ev.ret
      · refine Ev.neg hs ?_
        by_cases h60 : 60 < r.2.1
        · rw [if_pos (.inr h60)]; exact Ev.pos h60 Ev.ret
        · rw [if_neg (fun h => h.elim (fun h => hs h.2) h60)]; exact Ev.neg h60 (fin h60)
  by_cases hp : 0 < g.2.1
  · have hpl : placeOk g.2.1 = true := (trim_place h1).elim (fun h => by omega) id
    refine Ev.pos hp (Ev.bindc (impl_isAhead_is _ r ht hpl p2) ?_)
    by_cases hq : placeOf' r ≤ g.2.1
    · rw [if_pos hq, decide_eq_true hq]; exact Ev.neg (by decide) Ev.ret
    · rw [if_neg hq, decide_eq_false hq]; exact Ev.pos rfl (h20 _)
  · rw [if_neg (show ¬ placeOf' r ≤ g.2.1 by unfold placeOf'; omega)]
    exact Ev.neg hp (h20 _)

theorem impl_EraNodes_at (r : Register) (i : Nat) (hi : i < r.1.length) (hl : r.1.length ≤ 1048576) (he : ∀ i, i < r.1.length → (r.1.getD i zEra).1.length ≤ 1048576) : impl_EraNodes.f r (((i + 1 : Nat)) : Int) = some (r.1.getD i zEra).1 := by
  have e1 : wrap64 ((((i + 1 : Nat)) : Int) - 1) = (i : Int) := by rw [wrap64_id (by omega) (by omega)]; omega
  simp only [impl_EraNodes.f, impl_within_is, Option.bind_some, e1, Int.toNat_natCast]
  rw [if_pos (by rw [inB_true]; omega), if_pos (by omega)]
  have := impl_copyInts_is (r.1.getD i zEra).1 (he i hi)
  show (impl_copyInts.f (r.1.getD i zEra).1).bind _ = _
  rw [this]; rfl

theorem laws_within_ev (l : List Int) (x : Int) (hl : l.length ≤ 1048576) : Ev (fun k => laws_within.f k l x) (l.contains x) := by
  have h : ∀ (d i : Nat), i + d = l.length → Ev (fun k => laws_within.p5 k l x (i : Int)) ((l.drop i).contains x) := by
    intro d
    induction d with
    | zero =>
      intro i hi
      refine Ev.succ ?_
      simp only [laws_within.p5]
      rw [List.drop_eq_nil_of_le (by omega)]
      exact Ev.neg (by omega) Ev.ret
    | succ d ih =>
      intro i hi
      have hlt : i < l.length := by omega
      refine Ev.succ ?_
      simp only [laws_within.p5, Int.toNat_natCast]
      rw [wrap_up hlt (by omega), drop_get (d := (0 : Int)) hlt, List.contains_cons]
      refine Ev.pos (by omega) (Ev.pos (by omega) ?_)
      by_cases hq : l.getD i 0 = x
      · exact Ev.pos hq (Ev.ret.eq (by rw [hq]; simp))
      · exact Ev.neg hq ((ih (i + 1) (by omega)).eq (by
          have : ¬ x = l.getD i 0 := fun e => hq e.symm
          rw [show (x == l.getD i 0) = false by simpa using this, Bool.false_or]))
  have := h l.length 0 (by omega)
  rw [List.drop_zero] at this
  exact Ev.cg this fun k => rfl


noncomputable def zEvt : Event := ((0 : Int), ((0 : Int), ((⟨#[]⟩ : ByteArray), ())))
theorem regB_len {a : Config} {g : Register} (h : regB a g = true) : g.1.length ≤ 30 := by
  simp only [regB, Bool.and_eq_true, decide_eq_true_eq] at h
  omega
theorem place_of {e o : Int} (h1 : 1 ≤ e ∧ e ≤ 30) (h2 : 1 ≤ o ∧ o ≤ 60) : epochOf (4294967296 * e + o) = e ∧ offOf (4294967296 * e + o) = o ∧ InR (4294967296 * e + o) := by
  have hp : placeOk (4294967296 * e + o) = true := by
    simp only [placeOk, Bool.and_eq_true, inB_true, decide_eq_true_eq]; omega
  unfold epochOf offOf
  rw [if_pos hp, if_pos hp]
  exact ⟨by omega, by omega, by unfold InR; omega⟩
theorem bestL_none {set : List Int} {place : Int} : ∀ (l : List Answer) (q : Entry × Bool), (∀ x ∈ l, ansB set place x = false) → bestL set place q l = q := by
  intro l
  induction l with
  | nil => intro q _; rfl
  | cons x l ih =>
    intro q h
    show bestL set place (if ansB set place x = true then _ else q) l = q
    rw [if_neg (by rw [h x List.mem_cons_self]; decide)]
    exact ih q fun y hy => h y (List.mem_cons_of_mem _ hy)
theorem better_wave (a b : Entry) : a.2.1 ≤ (better a b).2.1 ∧ b.2.1 ≤ (better a b).2.1 := by
  unfold better
  split <;> omega
theorem better_self (a : Entry) : better a a = a := by unfold better; split <;> rfl
theorem bestL_some {set : List Int} {place : Int} : ∀ (l : List Answer) (q : Entry × Bool), (q.2 = true ∨ ∃ x ∈ l, ansB set place x = true) →
    (bestL set place q l).2 = true ∧ ((q.2 = true ∧ (bestL set place q l).1 = q.1) ∨ ∃ x ∈ l, ansB set place x = true ∧ x.2.2.1 = (bestL set place q l).1) ∧ (∀ x ∈ l, ansB set place x = true → x.2.2.1.2.1 ≤ (bestL set place q l).1.2.1) ∧ (q.2 = true → q.1.2.1 ≤ (bestL set place q l).1.2.1) := by
  intro l
  induction l with
  | nil =>
    intro q h
    have hq : q.2 = true := h.resolve_right (fun ⟨x, hx, _⟩ => by cases hx)
    exact ⟨hq, .inl ⟨hq, rfl⟩, fun x hx => (by cases hx), fun _ => Int.le_refl _⟩
  | cons x l ih =>
    intro q h
    have hst : bestL set place q (x :: l) = bestL set place (if ansB set place x = true then (if q.2 = true then better q.1 x.2.2.1 else better x.2.2.1 x.2.2.1, true) else q) l := rfl
    rw [hst]
    by_cases hx : ansB set place x = true
    · rw [if_pos hx]
      obtain ⟨h1, h2, h3, h4⟩ := ih (if q.2 = true then better q.1 x.2.2.1 else better x.2.2.1 x.2.2.1, true) (.inl rfl)
      have h4 := h4 rfl
      refine ⟨h1, ?_, fun y hy hya => ?_, fun hq => ?_⟩
      · rcases h2 with ⟨_, h2⟩ | ⟨y, hy, h5, h6⟩
        · rw [h2]
          by_cases hq : q.2 = true
          · simp only [hq, if_true, true_and]
            rcases better_or q.1 x.2.2.1 with hb | hb
            · exact .inl hb
            · exact .inr ⟨x, List.mem_cons_self, hx, hb.symm⟩
          · simp only [if_neg hq]
            exact .inr ⟨x, List.mem_cons_self, hx, (better_self _).symm⟩
        · exact .inr ⟨y, List.mem_cons_of_mem _ hy, h5, h6⟩
      · rcases List.mem_cons.1 hy with rfl | hy
        · refine Int.le_trans ?_ h4
          show y.2.2.1.2.1 ≤ (if q.2 = true then better q.1 y.2.2.1 else better y.2.2.1 y.2.2.1).2.1
          split
          · exact (better_wave _ _).2
          · exact (better_wave _ _).2
        · exact h3 y hy hya
      · refine Int.le_trans ?_ h4
        show q.1.2.1 ≤ (if q.2 = true then better q.1 x.2.2.1 else better x.2.2.1 x.2.2.1).2.1
        rw [if_pos hq]
        exact (better_wave _ _).1
    · rw [if_neg hx]
      have h' : q.2 = true ∨ ∃ x ∈ l, ansB set place x = true := by
        rcases h with h | ⟨y, hy, hya⟩
        · exact .inl h
        · rcases List.mem_cons.1 hy with rfl | hy
          · exact absurd hya hx
          · exact .inr ⟨y, hy, hya⟩
      obtain ⟨h1, h2, h3, h4⟩ := ih q h'
      refine ⟨h1, ?_, fun y hy hya => ?_, h4⟩
      · rcases h2 with h2 | ⟨y, hy, h5⟩
        · exact .inl h2
        · exact .inr ⟨y, List.mem_cons_of_mem _ hy, h5⟩
      · rcases List.mem_cons.1 hy with rfl | hy
        · exact absurd hya hx
        · exact h3 y hy hya
/-- The greatest wave of what was answered for a place. -/
noncomputable def tWave (set : List Int) (place : Int) : Int → List Answer → Int
  | w, [] => w
  | w, x :: l => tWave set place (if ansB set place x = true then (if w < x.2.2.1.2.1 then x.2.2.1.2.1 else w) else w) l
theorem tWave_p {set : List Int} {place : Int} : ∀ (l : List Answer) (w : Int), w ≤ tWave set place w l ∧ (∀ x ∈ l, ansB set place x = true → x.2.2.1.2.1 ≤ tWave set place w l) ∧ (tWave set place w l = w ∨ ∃ x ∈ l, ansB set place x = true ∧ tWave set place w l = x.2.2.1.2.1) := by
  intro l
  induction l with
  | nil => intro w; exact ⟨Int.le_refl _, fun x hx => (by cases hx), .inl rfl⟩
  | cons x l ih =>
    intro w
    have hst : tWave set place w (x :: l) = tWave set place (if ansB set place x = true then (if w < x.2.2.1.2.1 then x.2.2.1.2.1 else w) else w) l := rfl
    rw [hst]
    obtain ⟨h1, h2, h3⟩ := ih (if ansB set place x = true then (if w < x.2.2.1.2.1 then x.2.2.1.2.1 else w) else w)
    by_cases hx : ansB set place x = true
    · rw [if_pos hx] at h1 h2 h3 ⊢
      by_cases hw : w < x.2.2.1.2.1
      · rw [if_pos hw] at h1 h2 h3 ⊢
        refine ⟨by omega, fun y hy hya => ?_, ?_⟩
        · rcases List.mem_cons.1 hy with rfl | hy
          · exact h1
          · exact h2 y hy hya
        · rcases h3 with h3 | ⟨y, hy, h4⟩
          · exact .inr ⟨x, List.mem_cons_self, hx, h3⟩
          · exact .inr ⟨y, List.mem_cons_of_mem _ hy, h4⟩
      · rw [if_neg hw] at h1 h2 h3 ⊢
        refine ⟨h1, fun y hy hya => ?_, ?_⟩
        · rcases List.mem_cons.1 hy with rfl | hy
          · omega
          · exact h2 y hy hya
        · rcases h3 with h3 | ⟨y, hy, h4⟩
          · exact .inl h3
          · exact .inr ⟨y, List.mem_cons_of_mem _ hy, h4⟩
    · rw [if_neg hx] at h1 h2 h3 ⊢
      refine ⟨h1, fun y hy hya => ?_, ?_⟩
      · rcases List.mem_cons.1 hy with rfl | hy
        · exact absurd hya hx
        · exact h2 y hy hya
      · rcases h3 with h3 | ⟨y, hy, h4⟩
        · exact .inl h3
        · exact .inr ⟨y, List.mem_cons_of_mem _ hy, h4⟩
theorem laws_FnTells_b (a : Config) (r : Reader) (l : List Answer) (set N : List Int) (W : Int) (e : Event) (hl : AG 12 l) (hs : set.length ≤ 1048576)
    (hend : Ev (fun k => (impl_Enough.f k a set N).bind fun r10 => if r10 = true then ((impl_EpochOf.f e.2.1).bind fun r11 => if r11 = r.1 then ((impl_OffOf.f e.2.1).bind fun r12 => some (decide (r12 = r.2.1))) else some false) else some false) true) :
    ∀ (d i : Nat) (b : Bool), i + d = l.length → (b = true ∨ ∃ q, i ≤ q ∧ q < l.length ∧ ansB set e.2.1 (l.getD q zAns) = true ∧ (l.getD q zAns).2.2.1.2.1 = W ∧ (l.getD q zAns).2.2.1.2.2.1 = decide (e.1 = 2) ∧ (l.getD q zAns).2.2.1.2.2.2.1 = e.2.2.1) → Ev (fun k => laws_FnTells.p57 k l set N W b (i : Int) a r e) true := by
  have hl1 := hl.1
  intro d
  induction d with
  | zero =>
    intro i b hi hb
    refine Ev.succ ?_
    simp only [laws_FnTells.p57]
    refine Ev.neg (by omega) (Ev.pos ?_ hend)
    rcases hb with h | ⟨q, h1, h2, _⟩
    · exact h
    · omega
  | succ d ih =>
    intro i b hi hb
    have hlt : i < l.length := by omega
    have hmem := getD_mem (d := zAns) hlt
    refine Ev.succ ?_
    simp only [laws_FnTells.p57, Int.toNat_natCast]
    rw [wrap_up hlt (by omega)]
    refine Ev.pos (by omega) (Ev.pos (by omega) ?_)
    have nx : (¬ (ansB set e.2.1 (l.getD i zAns) = true ∧ (l.getD i zAns).2.2.1.2.1 = W ∧ (l.getD i zAns).2.2.1.2.2.1 = decide (e.1 = 2) ∧ (l.getD i zAns).2.2.1.2.2.2.1 = e.2.2.1)) → Ev (fun k => laws_FnTells.p57 k l set N W b ((i + 1 : Nat) : Int) a r e) true := fun hn => ih (i + 1) b (by omega) (by
      rcases hb with h | ⟨q, h1, h2, h3⟩
      · exact .inl h
      · by_cases hq : q = i
        · subst hq; exact absurd h3 hn
        · exact .inr ⟨q, by omega, h2, h3⟩)
    change Ev (fun k => (laws_within.f k set (l.getD i zAns).1).bind fun r8 => if r8 = true then (if (l.getD i zAns).2.1 = true then ((impl_EntryOk.f k (l.getD i zAns).2.2.1).bind fun r9 => if r9 = true then (if (l.getD i zAns).2.2.1.1 = e.2.1 then (if (l.getD i zAns).2.2.1.2.1 = W then (if (l.getD i zAns).2.2.1.2.2.1 = (decide (e.1 = (2 : Int))) then (if (l.getD i zAns).2.2.1.2.2.2.1 = e.2.2.1 then laws_FnTells.p57 k l set N W true ((i + 1 : Nat) : Int) a r e else laws_FnTells.p57 k l set N W b ((i + 1 : Nat) : Int) a r e) else laws_FnTells.p57 k l set N W b ((i + 1 : Nat) : Int) a r e) else laws_FnTells.p57 k l set N W b ((i + 1 : Nat) : Int) a r e) else laws_FnTells.p57 k l set N W b ((i + 1 : Nat) : Int) a r e) else laws_FnTells.p57 k l set N W b ((i + 1 : Nat) : Int) a r e) else laws_FnTells.p57 k l set N W b ((i + 1 : Nat) : Int) a r e) else laws_FnTells.p57 k l set N W b ((i + 1 : Nat) : Int) a r e) true
    refine Ev.bind (laws_within_ev set _ hs) ?_
    by_cases c1 : set.contains (l.getD i zAns).1 = true
    case neg => exact Ev.neg c1 (nx fun h => c1 (by have := h.1; simp only [ansB, Bool.and_eq_true] at this; exact this.2.1))
    refine Ev.pos c1 ?_
    by_cases c2 : (l.getD i zAns).2.1 = true
    case neg => exact Ev.neg c2 (nx fun h => c2 (by have := h.1; simp only [ansB, Bool.and_eq_true] at this; exact this.1))
    refine Ev.pos c2 (Ev.bind (impl_EntryOk_ev _ (hl.2 _ hmem)) ?_)
    by_cases c3 : entB (l.getD i zAns).2.2.1 = true
    case neg => exact Ev.neg c3 (nx fun h => c3 (by have := h.1; simp only [ansB, Bool.and_eq_true] at this; exact this.2.2.1))
    refine Ev.pos c3 ?_
    by_cases c4 : (l.getD i zAns).2.2.1.1 = e.2.1
    case neg => exact Ev.neg c4 (nx fun h => c4 (by have := h.1; simp only [ansB, Bool.and_eq_true, decide_eq_true_eq] at this; exact this.2.2.2))
    refine Ev.pos c4 ?_
    by_cases c5 : (l.getD i zAns).2.2.1.2.1 = W
    case neg => exact Ev.neg c5 (nx fun h => c5 h.2.1)
    refine Ev.pos c5 ?_
    by_cases c6 : (l.getD i zAns).2.2.1.2.2.1 = decide (e.1 = 2)
    case neg => exact Ev.neg c6 (nx fun h => c6 h.2.2.1)
    refine Ev.pos c6 ?_
    by_cases c7 : (l.getD i zAns).2.2.1.2.2.2.1 = e.2.2.1
    case neg => exact Ev.neg c7 (nx fun h => c7 h.2.2.2)
    exact Ev.pos c7 (ih (i + 1) true (by omega) (.inl rfl))
theorem laws_FnTells_a (a : Config) (r : Reader) (l : List Answer) (set : List Int) (e : Event) (b : Bool) (hl : AG 12 l) (hs : set.length ≤ 1048576) (h3 : e.1 = 3 → ∀ x ∈ l, ansB set e.2.1 x = false) :
    ∀ (d i : Nat) (N : List Int) (w : Int), i + d = l.length → N.length ≤ i → Ev (fun k => laws_FnTells.p57 k l set (N ++ ((l.drop i).map (·.1)).filter fun v => set.contains v) (tWave set e.2.1 w (l.drop i)) b (0 : Int) a r e) true → Ev (fun k => laws_FnTells.p35 k l set N w b (i : Int) a r e) true := by
  have hl1 := hl.1
  intro d
  induction d with
  | zero =>
    intro i N w hi hN hc
    refine Ev.succ ?_
    simp only [laws_FnTells.p35]
    rw [List.drop_eq_nil_of_le (by omega)] at hc
    simp only [List.map_nil, List.filter_nil, List.append_nil, tWave] at hc
    exact Ev.neg (by omega) hc
  | succ d ih =>
    intro i N w hi hN hc
    have hlt : i < l.length := by omega
    have hmem := getD_mem (d := zAns) hlt
    rw [drop_get (d := zAns) hlt, List.map_cons, List.filter_cons] at hc
    have hst : tWave set e.2.1 w (l.getD i zAns :: l.drop (i + 1)) = tWave set e.2.1 (if ansB set e.2.1 (l.getD i zAns) = true then (if w < (l.getD i zAns).2.2.1.2.1 then (l.getD i zAns).2.2.1.2.1 else w) else w) (l.drop (i + 1)) := rfl
    rw [hst] at hc
    refine Ev.succ ?_
    simp only [laws_FnTells.p35, Int.toNat_natCast]
    rw [wrap_up hlt (by omega)]
    refine Ev.pos (by omega) (Ev.pos (by omega) ?_)
    change Ev (fun k => (laws_within.f k set (l.getD i zAns).1).bind fun r6 => if r6 = true then (if (((N.length : Nat) : Int) + ((([(l.getD i zAns).1] : List Int).length : Nat) : Int)) ≤ lim then (if (l.getD i zAns).2.1 = true then ((impl_EntryOk.f k (l.getD i zAns).2.2.1).bind fun r7 => if r7 = true then (if (l.getD i zAns).2.2.1.1 = e.2.1 then (if e.1 = (3 : Int) then some false else if w < (l.getD i zAns).2.2.1.2.1 then laws_FnTells.p35 k l set (N ++ [(l.getD i zAns).1]) (l.getD i zAns).2.2.1.2.1 b ((i + 1 : Nat) : Int) a r e else laws_FnTells.p35 k l set (N ++ [(l.getD i zAns).1]) w b ((i + 1 : Nat) : Int) a r e) else laws_FnTells.p35 k l set (N ++ [(l.getD i zAns).1]) w b ((i + 1 : Nat) : Int) a r e) else laws_FnTells.p35 k l set (N ++ [(l.getD i zAns).1]) w b ((i + 1 : Nat) : Int) a r e) else laws_FnTells.p35 k l set (N ++ [(l.getD i zAns).1]) w b ((i + 1 : Nat) : Int) a r e) else none) else laws_FnTells.p35 k l set N w b ((i + 1 : Nat) : Int) a r e) true
    refine Ev.bind (laws_within_ev set _ hs) ?_
    by_cases c1 : set.contains (l.getD i zAns).1 = true
    case neg =>
      have hna : ¬ ansB set e.2.1 (l.getD i zAns) = true := fun h => c1 (by simp only [ansB, Bool.and_eq_true] at h; exact h.2.1)
      rw [if_neg c1, if_neg hna] at hc
      exact Ev.neg c1 (ih (i + 1) N w (by omega) (by omega) hc)
    rw [if_pos c1] at hc
    refine Ev.pos c1 (Ev.pos (by simp only [lim_eq, List.length_cons, List.length_nil]; omega) ?_)
    have nx : ∀ w', (if ansB set e.2.1 (l.getD i zAns) = true then (if w < (l.getD i zAns).2.2.1.2.1 then (l.getD i zAns).2.2.1.2.1 else w) else w) = w' → Ev (fun k => laws_FnTells.p35 k l set (N ++ [(l.getD i zAns).1]) w' b ((i + 1 : Nat) : Int) a r e) true := fun w' hw => by
      rw [hw] at hc
      refine ih (i + 1) _ w' (by omega) (by rw [List.length_append, List.length_singleton]; omega) ?_
      rw [List.append_assoc]; exact hc
    by_cases c2 : (l.getD i zAns).2.1 = true
    case neg => exact Ev.neg c2 (nx w (if_neg fun h => c2 (by simp only [ansB, Bool.and_eq_true] at h; exact h.1)))
    refine Ev.pos c2 (Ev.bind (impl_EntryOk_ev _ (hl.2 _ hmem)) ?_)
    by_cases c3 : entB (l.getD i zAns).2.2.1 = true
    case neg => exact Ev.neg c3 (nx w (if_neg fun h => c3 (by simp only [ansB, Bool.and_eq_true] at h; exact h.2.2.1)))
    refine Ev.pos c3 ?_
    by_cases c4 : (l.getD i zAns).2.2.1.1 = e.2.1
    case neg => exact Ev.neg c4 (nx w (if_neg fun h => c4 (by simp only [ansB, Bool.and_eq_true, decide_eq_true_eq] at h; exact h.2.2.2)))
    have hans : ansB set e.2.1 (l.getD i zAns) = true := by unfold ansB; rw [c1, c2, c3, decide_eq_true c4]; rfl
    refine Ev.pos c4 (Ev.neg (fun h => by rw [h3 h _ hmem] at hans; exact nft hans) ?_)
    by_cases c5 : w < (l.getD i zAns).2.2.1.2.1
    · exact Ev.pos c5 (nx _ (by rw [if_pos hans, if_pos c5]))
    · exact Ev.neg c5 (nx _ (by rw [if_pos hans, if_neg c5]))
/-- What a reader comes to. -/
def TlQ (a : Config) (g : Register) (r : Reader) (l : List Answer) (q : Reader × Int) : Prop := ¬ q.2 = 0 ∨ ∃ x y e, q = ((x, (y, (r.2.2.1 ++ [e], ()))), 0) ∧ r.2.2.1.length ≤ 120 ∧ (e.1 = 4 ∨ e.1 = 5 ∨ (e = evOf (placeOf' r) (bestL (eraOf g r).1 (placeOf' r) (zEnt, false) l) ∧ enoughR a g r l = true ∧ (1 ≤ r.1 ∧ r.1 ≤ 30) ∧ r.1 ≤ ((g.1.length : Nat) : Int) ∧ (1 ≤ r.2.1 ∧ r.2.1 ≤ 60)))
theorem readF_T (a : Config) (g : Register) (sure : Int) (r : Reader) (l : List Answer) : TlQ a g r l (readF a g sure r l) := by
  have h1 : ¬ (1 : Int) = 0 := by decide
  have h2 : ¬ (2 : Int) = 0 := by decide
  have h3 : ¬ (3 : Int) = 0 := by decide
  unfold readF
  by_cases hok : regB a g = true ∧ readerB r = true ∧ nodesB a (l.map (·.1)) = true
  case neg => rw [if_neg hok]; exact .inl h1
  rw [if_pos hok]
  obtain ⟨hreg, hrd, hnd⟩ := hok
  obtain ⟨p1, p2, p3⟩ := readerB_parts hrd
  have hel := regB_len hreg
  split
  · exact .inl h2
  rename_i hlt
  split
  · exact .inl h2
  split
  · exact .inr ⟨_, _, _, rfl, p3, .inr (.inl rfl)⟩
  split
  · exact .inr ⟨_, _, _, rfl, p3, .inl rfl⟩
  split
  · exact .inl h2
  rename_i hoff
  unfold tellR
  split
  · rename_i hen
    exact .inr ⟨_, _, _, rfl, p3, .inr (.inr ⟨rfl, hen, by omega, by omega, by omega⟩)⟩
  · exact .inl h3
theorem pureL (a0 : List Int) (h0 : Gd (.sl (.int .u8)) a0) : ∃ k, laws_FnTells.f k a0 = some true := by
  refine Ev.get (v := true) ?_
  simp only [laws_FnTells.f, laws_big_is, Option.bind_some]
  by_cases hb : (1048576 : Int) < ((a0.length : Nat) : Int)
  · exact Ev.pos (by simpa using hb) Ev.ret
  refine Ev.neg (by simpa using hb) ?_
  obtain ⟨⟨a, g, sure, r, l⟩, e0, ha, hg, hr, hl⟩ := spec_DrawReaderNext_d a0 (by omega)
  have ha : a.1.length ≤ 9 := ha
  have hg : RG 31 g := hg
  have hr : r.2.2.1.length ≤ 121 := hr
  have hl : AG 12 l := hl
  have hg1 := hg.1
  have hl1 := hl.1
  have hA : AnG l := ⟨by omega, hl.2⟩
  have e1 := impl_ReaderNext_ev a g sure r l (by omega) hg.2.2 (by omega) hg.at (by omega) hA
  have e2 := spec_ReaderNext_ev a g sure r l (by omega) hg.2.2 (by omega) hg.at (by omega) hA
  refine Ev.bind e0 (Ev.bind e1 (Ev.bind e2 (Ev.pos rfl ?_)))
  have hq := readF_T a g sure r l
  generalize readF a g sure r l = q at hq ⊢
  rcases hq with hq | ⟨x, y, e, rfl, hlen, hk⟩
  · exact Ev.neg hq Ev.ret
  · refine Ev.pos rfl ?_
    have hle : (r.2.2.1 ++ [e]).length = r.2.2.1.length + 1 := by rw [List.length_append]; rfl
    have w1 : wrap64 ((((r.2.2.1 ++ [e]).length : Nat) : Int) - 1) = ((r.2.2.1.length : Nat) : Int) := by rw [wrap64_id (by omega) (by omega)]; omega
    have hget : (r.2.2.1 ++ [e]).getD r.2.2.1.length zEvt = e := by
      rw [List.getD_eq_getElem?_getD, List.getElem?_append_right (Nat.le_refl _), Nat.sub_self]; rfl
    show Ev (fun k => if (0 : Int) ≤ (wrap64 ((((r.2.2.1 ++ [e]).length : Nat) : Int) - (1 : Int))) ∧ (wrap64 ((((r.2.2.1 ++ [e]).length : Nat) : Int) - (1 : Int))) < (((r.2.2.1 ++ [e]).length : Nat) : Int) then (if ((r.2.2.1 ++ [e]).getD (wrap64 ((((r.2.2.1 ++ [e]).length : Nat) : Int) - (1 : Int))).toNat zEvt).1 = (4 : Int) then some true else if ((r.2.2.1 ++ [e]).getD (wrap64 ((((r.2.2.1 ++ [e]).length : Nat) : Int) - (1 : Int))).toNat zEvt).1 = (5 : Int) then some true else (impl_EraNodes.f g r.1).bind fun r5 => laws_FnTells.p35 k l r5 ([] : List Int) (-1 : Int) (decide (((r.2.2.1 ++ [e]).getD (wrap64 ((((r.2.2.1 ++ [e]).length : Nat) : Int) - (1 : Int))).toNat zEvt).1 = (3 : Int))) (0 : Int) a r ((r.2.2.1 ++ [e]).getD (wrap64 ((((r.2.2.1 ++ [e]).length : Nat) : Int) - (1 : Int))).toNat zEvt)) else none) true
    rw [w1, Int.toNat_natCast, hget]
    refine Ev.pos (by omega) ?_
    by_cases c4 : e.1 = 4
    · exact Ev.pos c4 Ev.ret
    refine Ev.neg c4 ?_
    by_cases c5 : e.1 = 5
    · exact Ev.pos c5 Ev.ret
    refine Ev.neg c5 ?_
    obtain ⟨he, hen, hr1, hr2, hr3⟩ := (hk.resolve_left c4).resolve_left c5
    have hi : (r.1 - 1).toNat < g.1.length := by omega
    have hera := impl_EraNodes_at g (r.1 - 1).toNat hi (by omega) hg.at
    rw [show (((r.1 - 1).toNat + 1 : Nat) : Int) = r.1 by omega] at hera
    have hset : ((eraOf g r).1).length ≤ 1048576 := hg.at _ hi
    refine Ev.bindc hera ?_
    show Ev (fun k => laws_FnTells.p35 k l (eraOf g r).1 ([] : List Int) (-1 : Int) (decide (e.1 = 3)) (0 : Int) a r e) true
    obtain ⟨pe, po, pr⟩ := place_of hr1 hr3
    have hat : e.2.1 = 4294967296 * r.1 + r.2.1 := by
      rw [he]
      show (evOf (placeOf' r) _).2.1 = placeOf' r
      unfold evOf
      split
      · split <;> rfl
      · rfl
    have hbn := bestL_none (set := (eraOf g r).1) (place := placeOf' r) l (zEnt, false)
    have hbs := bestL_some (set := (eraOf g r).1) (place := placeOf' r) l (zEnt, false)
    have hW := tWave_p (set := (eraOf g r).1) (place := placeOf' r) l (-1)
    have hatp : e.2.1 = placeOf' r := hat
    have hfl : ((l.map (·.1)).filter fun v => (eraOf g r).1.contains v).length ≤ 1048576 := Nat.le_trans (List.length_filter_le _ _) (by rw [List.length_map]; omega)
    have s1 := impl_Enough_ev a (eraOf g r).1 ((l.map (·.1)).filter fun v => (eraOf g r).1.contains v) (by omega) hset hfl
    have hen' : enoughB a (eraOf g r).1 ((l.map (·.1)).filter fun v => (eraOf g r).1.contains v) = true := hen
    rw [hen'] at s1
    refine laws_FnTells_a a r l (eraOf g r).1 e (decide (e.1 = 3)) hl hset (fun h3 => ?_) l.length 0 [] (-1) (by omega) (Nat.zero_le _) ?_
    · intro x hx
      rw [hatp]
      cases hxa : ansB (eraOf g r).1 (placeOf' r) x with
      | false => rfl
      | true =>
        obtain ⟨b1, _⟩ := hbs (.inr ⟨x, hx, hxa⟩)
        rw [he] at h3
        unfold evOf at h3
        rw [if_pos b1] at h3
        split at h3
        · exact absurd h3 (show ¬ (2 : Int) = 3 by decide)
        · exact absurd h3 (show ¬ (1 : Int) = 3 by decide)
    · rw [List.drop_zero, List.nil_append, hatp]
      refine laws_FnTells_b a r l (eraOf g r).1 _ _ e hl hset ?_ l.length 0 _ (by omega) ?_
      · rw [hat]
        simp only [impl_EpochOf_is _ pr, impl_OffOf_is _ pr, Option.bind_some, pe, po]
        exact Ev.bind s1 (Ev.pos rfl (Ev.pos trivial (Ev.ret.eq (by simp))))
      · by_cases hex : ∃ x ∈ l, ansB (eraOf g r).1 (placeOf' r) x = true
        · obtain ⟨b1, b2, b3, _⟩ := hbs (.inr hex)
          obtain ⟨x, hx, hxa, hxe⟩ := b2.resolve_left (fun h => nft h.1)
          obtain ⟨q, hq, e1⟩ := List.getElem_of_mem hx
          refine .inr ⟨q, Nat.zero_le _, hq, ?_⟩
          rw [getD_is hq, e1, hatp]
          have hent : entB x.2.2.1 = true := by
            have := hxa; simp only [ansB, Bool.and_eq_true] at this; exact this.2.2.1
          simp only [entB, Bool.and_eq_true, Bool.or_eq_true, Bool.not_eq_true', decide_eq_true_eq, inB_true] at hent
          refine ⟨hxa, ?_, ?_⟩
          · obtain ⟨w1, w2, w3⟩ := hW
            have hge := w2 x hx hxa
            rcases w3 with w3 | ⟨y, hy, hya, w4⟩
            · omega
            · have := b3 y hy hya
              rw [← hxe] at this
              omega
          · rw [he]
            unfold evOf
            rw [if_pos b1, ← hxe]
            by_cases hh : x.2.2.1.2.2.1 = true
            · rw [if_pos hh]
              refine ⟨by rw [hh]; rfl, ?_⟩
              rcases hent.2.2.2.2 with h' | h'
              · rw [hh] at h'; exact absurd h' (by decide)
              · exact h'.2
            · rw [if_neg hh]
              exact ⟨by rw [Bool.not_eq_true] at hh; rw [hh]; rfl, rfl⟩
        · left
          have hno : ∀ x ∈ l, ansB (eraOf g r).1 (placeOf' r) x = false := fun x hx => by
            cases hxa : ansB (eraOf g r).1 (placeOf' r) x with
            | false => rfl
            | true => exact absurd ⟨x, hx, hxa⟩ hex
          rw [decide_eq_true_eq, he, hbn hno]
          rfl

end Go.Proofs.Ythgnikafeamidab.OmFnTells
