/- The plain law: in a drawn register just the first epoch that is open is closed, by the last one alone, and once. Conditions: what is known of a value that came in. -/
import Derived.Test.YtllmifioelbleaaFamFnClosed
set_option linter.unusedVariables false
set_option linter.unusedSimpArgs false
set_option linter.unusedSectionVars false
namespace Go.Proofs.Ytllmifioelbleaa.OmFnClosed
open Go Go.OM
/-- x lies between a and b. -/
def inB (x a b : Int) : Bool := decide (a ≤ x) && decide (x ≤ b)
theorem inB_true {x a b : Int} : inB x a b = true ↔ a ≤ x ∧ x ≤ b := by simp [inB]
theorem ite_inB (x a b : Int) : (if a ≤ x then some (decide (x ≤ b)) else some false) = some (inB x a b) := by
  unfold inB
  by_cases h : a ≤ x <;> simp [h]
def InR (x : Int) : Prop := -9223372036854775808 ≤ x ∧ x ≤ 9223372036854775807
theorem InR_of {x : Int} (h : Gd (.int .i64) x) : InR x := by
  have h : (Lit.int .i64 x).wf = true := h
  simp [Lit.wf, IntKind.min, IntKind.max, IntKind.signed, IntKind.bits] at h
  exact ⟨by omega, by omega⟩
theorem Ev.and {q b : Bool} {A : Nat → Option Bool} (h : q = true → Ev A b) : Ev (fun k => if q = true then A k else some false) (q && b) := by
  cases q with
  | false => exact Ev.neg (by decide) Ev.ret
  | true => exact Ev.pos rfl (h rfl)
theorem Ev.andc {c : Prop} [Decidable c] {b : Bool} {A : Nat → Option Bool} (h : c → Ev A b) : Ev (fun k => if c then A k else some false) (decide c && b) := by
  by_cases hc : c
  · rw [decide_eq_true hc]; exact Ev.pos hc (h hc)
  · rw [decide_eq_false hc]; exact Ev.neg hc Ev.ret
theorem Ev.nand {c : Prop} [Decidable c] {b : Bool} {A : Nat → Option Bool} (h : ¬ c → Ev A b) : Ev (fun k => if c then some false else A k) (!decide c && b) := by
  by_cases hc : c
  · rw [decide_eq_true hc]; exact Ev.pos hc Ev.ret
  · rw [decide_eq_false hc]; exact Ev.neg hc (h hc)
theorem Ev.ite {c : Prop} [Decidable c] {α : Type} {A B : Nat → Option α} {v u : α} (h1 : c → Ev A v) (h2 : ¬ c → Ev B u) : Ev (fun k => if c then A k else B k) (if c then v else u) := by
  by_cases hc : c
  · rw [if_pos hc]; exact Ev.pos hc (h1 hc)
  · rw [if_neg hc]; exact Ev.neg hc (h2 hc)
theorem all_loop {n : Nat} {p : Nat → Int → Option Bool} {q : Nat → Bool} {zb : Bool} (hp : ∀ (i : Nat), i < n → ∀ b, Ev (fun k => p k (((i + 1 : Nat)) : Int)) b → Ev (fun k => p (k + 1) (i : Int)) (q i && b)) (h0 : Ev (fun k => p (k + 1) (n : Int)) zb) :
    ∀ (m i : Nat), i + m = n → Ev (fun k => p k (i : Int)) ((List.range' i m).all q && zb) := by
  intro m
  induction m with
  | zero => intro i h; rw [show i = n by omega]; exact Ev.succ h0
  | succ m ih =>
    intro i h
    refine (Ev.succ (hp i (by omega) _ (ih (i + 1) (by omega)))).eq ?_
    rw [List.range'_succ, List.all_cons, Bool.and_assoc]
theorem wrap_up {i n : Nat} (h : i < n) (hn : n ≤ 4611686018427387904) : wrap64 ((i : Int) + (1 : Int)) = ((i + 1 : Nat) : Int) := wrap64_id (by omega) (by omega)
theorem cnt_ints (l : List Int) : cnt (.sl (.int .i64)) l = l.length := by
  show l.length + (l.map fun _ => 0).sum = l.length
  have : (l.map fun _ => 0).sum = 0 := by induction l with
    | nil => rfl
    | cons x l ih => simpa using ih
  omega
/-- It comes to something with P. -/
def Evp {α : Type} (f : Nat → Option α) (P : α → Prop) : Prop := ∃ v, Ev f v ∧ P v
def Op {α : Type} (f : Option α) (P : α → Prop) : Prop := ∃ v, f = some v ∧ P v
section
variable {α β : Type} {P : α → Prop} {Q : β → Prop}
theorem Evp.ret {v : α} (h : P v) : Evp (fun _ => some v) P := ⟨v, Ev.ret, h⟩
theorem Evp.of {f : Nat → Option α} {v : α} (h : Ev f v) (hp : P v) : Evp f P := ⟨v, h, hp⟩
theorem Evp.bind {f : Nat → Option α} {g : Nat → α → Option β} (h : Evp f P) (hg : ∀ a, P a → Evp (fun k => g k a) Q) : Evp (fun k => (f k).bind (g k)) Q := by
  obtain ⟨a, h1, h2⟩ := h
  obtain ⟨b, h3, h4⟩ := hg a h2
  exact ⟨b, h1.bind h3, h4⟩
theorem Evp.bindv {f : Nat → Option α} {g : Nat → α → Option β} {a : α} (h : Ev f a) (hg : Evp (fun k => g k a) Q) : Evp (fun k => (f k).bind (g k)) Q := by
  obtain ⟨b, h3, h4⟩ := hg
  exact ⟨b, h.bind h3, h4⟩
theorem Evp.bindc {f : Option α} {g : Nat → α → Option β} (h : Op f P) (hg : ∀ a, P a → Evp (fun k => g k a) Q) : Evp (fun k => f.bind (g k)) Q := by
  obtain ⟨a, h1, h2⟩ := h
  obtain ⟨b, h3, h4⟩ := hg a h2
  exact ⟨b, Ev.bindc h1 h3, h4⟩
theorem Evp.succ {f : Nat → Option α} (h : Evp (fun k => f (k + 1)) P) : Evp f P := by
  obtain ⟨a, h1, h2⟩ := h
  exact ⟨a, Ev.succ h1, h2⟩
theorem Evp.pos {c : Prop} [Decidable c] {f g : Nat → Option α} (hc : c) (h : Evp f P) : Evp (fun k => if c then f k else g k) P := by
  obtain ⟨a, h1, h2⟩ := h
  exact ⟨a, Ev.pos hc h1, h2⟩
theorem Evp.neg {c : Prop} [Decidable c] {f g : Nat → Option α} (hc : ¬ c) (h : Evp g P) : Evp (fun k => if c then f k else g k) P := by
  obtain ⟨a, h1, h2⟩ := h
  exact ⟨a, Ev.neg hc h1, h2⟩
theorem Evp.ite {c : Prop} [Decidable c] {f g : Nat → Option α} (h1 : c → Evp f P) (h2 : ¬ c → Evp g P) : Evp (fun k => if c then f k else g k) P := by
  by_cases hc : c
  · exact Evp.pos hc (h1 hc)
  · exact Evp.neg hc (h2 hc)
theorem Evp.mono {f : Nat → Option α} {P' : α → Prop} (h : Evp f P) (hp : ∀ a, P a → P' a) : Evp f P' := by
  obtain ⟨a, h1, h2⟩ := h
  exact ⟨a, h1, hp a h2⟩
theorem Evp.opt {f : Option α} (h : Op f P) : Evp (fun _ => f) P := by
  obtain ⟨a, h1, h2⟩ := h
  exact ⟨a, Ev.of h1, h2⟩
theorem Evp.cg {f g : Nat → Option α} (h : Evp g P) (e : ∀ k, f k = g k) : Evp f P := by
  obtain ⟨a, h1, h2⟩ := h
  exact ⟨a, h1.cg e, h2⟩
theorem Op.ret {v : α} (h : P v) : Op (some v) P := ⟨v, rfl, h⟩
theorem Op.bind {f : Option α} {g : α → Option β} (h : Op f P) (hg : ∀ a, P a → Op (g a) Q) : Op (f.bind g) Q := by
  obtain ⟨a, h1, h2⟩ := h
  obtain ⟨b, h3, h4⟩ := hg a h2
  exact ⟨b, by rw [h1, Option.bind_some, h3], h4⟩
theorem Op.pos {c : Prop} [Decidable c] {f g : Option α} (hc : c) (h : Op f P) : Op (if c then f else g) P := by rw [if_pos hc]; exact h
theorem Op.neg {c : Prop} [Decidable c] {f g : Option α} (hc : ¬ c) (h : Op g P) : Op (if c then f else g) P := by rw [if_neg hc]; exact h
theorem Op.ite {c : Prop} [Decidable c] {f g : Option α} (h1 : c → Op f P) (h2 : ¬ c → Op g P) : Op (if c then f else g) P := by
  by_cases hc : c
  · exact Op.pos hc (h1 hc)
  · exact Op.neg hc (h2 hc)
end
theorem nft : ¬ (false = true) := by decide
/-- x among numbers: ahead of the first greater one. -/
noncomputable def insB : List Int → Int → List Int
  | [], x => [x]
  | y :: l, x => if x < y then x :: y :: l else y :: insB l x
noncomputable def insL (l : List Int) (x : Int) : List Int := if l.contains x = true then l else insB l x
theorem insB_len (l : List Int) (x : Int) : (insB l x).length = l.length + 1 := by
  induction l with
  | nil => rfl
  | cons y l ih =>
    unfold insB
    split
    · rfl
    · rw [List.length_cons, List.length_cons, ih]
theorem insL_len (l : List Int) (x : Int) : (insL l x).length ≤ l.length + 1 := by
  unfold insL
  split
  · omega
  · rw [insB_len]; omega
theorem insB_at {x : Int} : ∀ {l : List Int} {i : Nat}, i ≤ l.length → (∀ q, q < i → l.getD q 0 < x) → (i < l.length → x < l.getD i 0) → l.take i ++ [x] ++ l.drop i = insB l x := by
  intro l
  induction l with
  | nil => intro i hi _ _; have : i = 0 := by simpa using hi
           subst this; rfl
  | cons y l ih =>
    intro i hi h1 h2
    cases i with
    | zero =>
      have : x < y := h2 (Nat.zero_lt_succ _)
      unfold insB; rw [if_pos this]; rfl
    | succ i =>
      have : ¬ x < y := by have := h1 0 (Nat.zero_lt_succ _); change y < x at this; omega
      unfold insB; rw [if_neg this]
      show y :: (l.take i ++ [x] ++ l.drop i) = _
      rw [ih (by simpa using hi) (fun q hq => by have := h1 (q + 1) (by omega); simpa using this) (fun h => by have := h2 (by simp; omega); simpa using this)]
theorem wrapu (x : Int) (h0 : 0 ≤ x) (h1 : x ≤ 9223372036854775807) : IntKind.wrap .u64 x = x := by
  show (if (false && decide (x % 2 ^ 64 ≥ 2 ^ (64 - 1))) = true then x % 2 ^ 64 - 2 ^ 64 else x % 2 ^ 64) = x
  rw [Bool.false_and, if_neg (by decide)]
  exact Int.emod_eq_of_lt h0 (by omega)
theorem mid_is {i j n : Nat} (h : i < j) (hj : j ≤ n) (hn : n ≤ 4611686018427387904) : wrap64 (shrK .u64 (IntKind.wrap .u64 (wrap64 ((i : Int) + (j : Int)))) (1 : Int)) = (((i + j) / 2 : Nat) : Int) := by
  rw [wrap64_id (x := (i : Int) + (j : Int)) (by omega) (by omega), wrapu _ (by omega) (by omega)]
  have e : shrK .u64 ((i : Int) + (j : Int)) 1 = (((i + j) / 2 : Nat) : Int) := by
    show Int.fdiv ((i : Int) + (j : Int)) (2 ^ 1) = _
    rw [Int.fdiv_eq_ediv_of_nonneg _ (by decide)]
    omega
  rw [e, wrap64_id (by omega) (by omega)]
/-- A search by halves. -/
theorem bs_loop {β : Type} {n : Nat} {p : Nat → Int → Int → Option β} {lt : Nat → Bool} {v : β} (hm : ∀ q r, q ≤ r → r < n → lt r = true → lt q = true)
    (hp : ∀ i j : Nat, i < j → j ≤ n → ∀ b, (lt ((i + j) / 2) = true → Ev (fun k => p k (((i + j) / 2 + 1 : Nat) : Int) (j : Int)) b) → (lt ((i + j) / 2) = false → Ev (fun k => p k (i : Int) (((i + j) / 2 : Nat) : Int)) b) → Ev (fun k => p (k + 1) (i : Int) (j : Int)) b)
    (h0 : ∀ i : Nat, i ≤ n → (∀ q, q < i → lt q = true) → (∀ q, i ≤ q → q < n → lt q = false) → Ev (fun k => p (k + 1) (i : Int) (i : Int)) v) :
    ∀ (d i j : Nat), j - i ≤ d → i ≤ j → j ≤ n → (∀ q, q < i → lt q = true) → (∀ q, j ≤ q → q < n → lt q = false) → Ev (fun k => p k (i : Int) (j : Int)) v := by
  intro d
  induction d with
  | zero =>
    intro i j hd hij hj h1 h2
    have : i = j := by omega
    subst this
    exact Ev.succ (h0 i hj h1 h2)
  | succ d ih =>
    intro i j hd hij hj h1 h2
    by_cases hlt : i < j
    · refine Ev.succ (hp i j hlt hj v (fun hb => ?_) (fun hb => ?_))
      · exact ih _ _ (by omega) (by omega) hj (fun q hq => hm q _ (by omega) (by omega) hb) h2
      · refine ih _ _ (by omega) (by omega) (by omega) h1 (fun q hq hqn => ?_)
        cases hc : lt q with
        | false => rfl
        | true => exact absurd (hm _ q hq hqn hc) (by rw [hb]; decide)
    · have : i = j := by omega
      subst this
      exact Ev.succ (h0 i hj h1 h2)
/-- Numbers that ascend. -/
def Asc (l : List Int) : Prop := ∀ q r, q < r → r < l.length → l.getD q 0 < l.getD r 0
theorem Asc.of {l : List Int} (h : ∀ q, q + 1 < l.length → l.getD q 0 < l.getD (q + 1) 0) : Asc l := by
  intro q r hqr hr
  induction r with
  | zero => omega
  | succ r ih =>
    have h1 := h r hr
    by_cases hq : q = r
    · subst hq; exact h1
    · have := ih (by omega) (by omega); omega
theorem getD_of_mem {l : List Int} {x : Int} (h : x ∈ l) : ∃ q, q < l.length ∧ l.getD q 0 = x := by
  obtain ⟨q, hq, e⟩ := List.getElem_of_mem h
  exact ⟨q, hq, by rw [List.getD_eq_getElem?_getD, List.getElem?_eq_getElem hq]; exact e⟩
theorem getD_is {α : Type} {l : List α} {q : Nat} {d : α} (hq : q < l.length) : l.getD q d = l[q] := by
  rw [List.getD_eq_getElem?_getD, List.getElem?_eq_getElem hq]; rfl
theorem Asc.pw {l : List Int} (h : Asc l) : l.Pairwise (· < ·) :=
  List.pairwise_iff_getElem.2 fun i j hi hj hij => by have := h i j hij hj; rwa [getD_is hi, getD_is hj] at this
theorem Asc.of_pw {l : List Int} (h : l.Pairwise (· < ·)) : Asc l := fun q r hqr hr => by
  rw [getD_is (by omega), getD_is hr]; exact List.pairwise_iff_getElem.1 h q r (by omega) hr hqr
theorem mem_insB {l : List Int} {x y : Int} : y ∈ insB l x ↔ y = x ∨ y ∈ l := by
  induction l with
  | nil => simp [insB]
  | cons z l ih =>
    unfold insB
    split
    · simp
    · rw [List.mem_cons, ih, List.mem_cons]
      exact ⟨fun h => h.elim (fun h => .inr (.inl h)) (fun h => h.elim .inl (fun h => .inr (.inr h))), fun h => h.elim (fun h => .inr (.inl h)) (fun h => h.elim .inl (fun h => .inr (.inr h)))⟩
theorem mem_insL {l : List Int} {x y : Int} : y ∈ insL l x ↔ y = x ∨ y ∈ l := by
  unfold insL
  split
  · rename_i h
    rw [List.contains_iff_mem] at h
    exact ⟨.inr, fun h' => h'.elim (fun e => e ▸ h) id⟩
  · exact mem_insB
theorem insB_pw {l : List Int} {x : Int} (h : l.Pairwise (· < ·)) (hx : x ∉ l) : (insB l x).Pairwise (· < ·) := by
  induction l with
  | nil => simp [insB]
  | cons z l ih =>
    rw [List.pairwise_cons] at h
    unfold insB
    split
    · rename_i hz
      refine List.pairwise_cons.2 ⟨fun y hy => ?_, List.pairwise_cons.2 h⟩
      rcases List.mem_cons.1 hy with rfl | hy
      · exact hz
      · have := h.1 y hy; omega
    · rename_i hz
      have hne : x ≠ z := fun e => hx (e ▸ List.mem_cons_self)
      refine List.pairwise_cons.2 ⟨fun y hy => ?_, ih h.2 (fun h => hx (List.mem_cons_of_mem _ h))⟩
      rcases mem_insB.1 hy with rfl | hy
      · omega
      · exact h.1 y hy
theorem insL_pw {l : List Int} {x : Int} (h : l.Pairwise (· < ·)) : (insL l x).Pairwise (· < ·) := by
  unfold insL
  split
  · exact h
  · rename_i hc
    exact insB_pw h (fun hm => hc (List.contains_iff_mem.2 hm))
/-- A row whose first elements are told anew. -/
theorem map_get {α : Type} {F : α → α} {l : List α} {i : Nat} {d : α} (hi : i < l.length) : ((l.take i).map F ++ l.drop i).getD i d = l.getD i d := by
  have hl : ((l.take i).map F).length = i := by rw [List.length_map, List.length_take]; omega
  rw [List.getD_eq_getElem?_getD, List.getElem?_append_right (by omega), hl, Nat.sub_self, List.getElem?_drop, Nat.add_zero, ← List.getD_eq_getElem?_getD]
theorem map_step {α : Type} {F : α → α} {l : List α} {i : Nat} {d : α} (hi : i < l.length) : ((l.take i).map F ++ l.drop i).set i (F (l.getD i d)) = (l.take (i + 1)).map F ++ l.drop (i + 1) := by
  have hl : ((l.take i).map F).length = i := by rw [List.length_map, List.length_take]; omega
  have ht : l.take (i + 1) = l.take i ++ [l.getD i d] := by
    rw [List.take_add_one, List.getElem?_eq_getElem hi, getD_is hi]; rfl
  rw [List.set_append_right _ _ (by omega), hl, Nat.sub_self, drop_get (d := d) hi, ht, List.map_append, List.append_assoc]
  rfl
theorem map_len {α : Type} {F : α → α} {l : List α} {i : Nat} : ((l.take i).map F ++ l.drop i).length = l.length := by
  rw [List.length_append, List.length_map, List.length_take, List.length_drop]; omega
theorem has_one (x v : Int) : [x].contains v = decide (v = x) := by
  by_cases h : v = x <;> simp [h]
theorem filter_not {α : Type} (p : α → Bool) (l : List α) : (l.filter p).length + (l.filter fun v => !p v).length = l.length := by
  induction l with
  | nil => rfl
  | cons x l ih =>
    rw [List.filter_cons, List.filter_cons]
    cases p x <;> simp <;> omega
theorem set_getD_self {α : Type} {l : List α} {i : Nat} {d : α} (hi : i < l.length) : l.set i (l.getD i d) = l := by
  rw [getD_is hi]; exact List.set_getElem_self hi

noncomputable def better (a b : Entry) : Entry := if a.2.1 < b.2.1 then b else a
/-- An entry among entries: the better one at its place, else ahead of the first at a greater place. -/
noncomputable def keepL : List Entry → Entry → List Entry
  | [], e => [e]
  | y :: l, e => if y.1 = e.1 then better y e :: l else if e.1 < y.1 then e :: y :: l else y :: keepL l e
theorem keepL_len (l : List Entry) (e : Entry) : (keepL l e).length ≤ l.length + 1 := by
  induction l with
  | nil => exact Nat.le_refl _
  | cons y l ih =>
    unfold keepL
    split
    · simp
    · split
      · exact Nat.le_refl _
      · rw [List.length_cons, List.length_cons]; omega
theorem getD_cons_succ' {α : Type} {y d : α} {l : List α} {i : Nat} : (y :: l).getD (i + 1) d = l.getD i d := by simp
theorem keepL_ins {e : Entry} {d : Entry} : ∀ {l : List Entry} {i : Nat}, i ≤ l.length → (∀ q, q < i → (l.getD q d).1 < e.1) → (i < l.length → e.1 < (l.getD i d).1) → l.take i ++ [e] ++ l.drop i = keepL l e := by
  intro l
  induction l with
  | nil => intro i hi _ _; have : i = 0 := by simpa using hi
           subst this; rfl
  | cons y l ih =>
    intro i hi h1 h2
    cases i with
    | zero =>
      have h : e.1 < y.1 := h2 (Nat.zero_lt_succ _)
      have hn : ¬ y.1 = e.1 := by omega
      unfold keepL; rw [if_neg hn, if_pos h]; rfl
    | succ i =>
      have h : y.1 < e.1 := h1 0 (Nat.zero_lt_succ _)
      have hn : ¬ y.1 = e.1 := by omega
      have hn2 : ¬ e.1 < y.1 := by omega
      unfold keepL; rw [if_neg hn, if_neg hn2]
      show y :: (l.take i ++ [e] ++ l.drop i) = _
      rw [ih (by simpa using hi) (fun q hq => by have := h1 (q + 1) (by omega); rwa [getD_cons_succ'] at this) (fun h => by have := h2 (by simp; omega); rwa [getD_cons_succ'] at this)]
theorem keepL_set {e : Entry} {d : Entry} : ∀ {l : List Entry} {i : Nat}, i < l.length → (∀ q, q < i → (l.getD q d).1 < e.1) → (l.getD i d).1 = e.1 → l.set i (better (l.getD i d) e) = keepL l e := by
  intro l
  induction l with
  | nil => intro i hi; exact absurd hi (Nat.not_lt_zero _)
  | cons y l ih =>
    intro i hi h1 h2
    cases i with
    | zero =>
      have h : y.1 = e.1 := h2
      unfold keepL; rw [if_pos h]; rfl
    | succ i =>
      have h : y.1 < e.1 := h1 0 (Nat.zero_lt_succ _)
      have hn : ¬ y.1 = e.1 := by omega
      have hn2 : ¬ e.1 < y.1 := by omega
      rw [getD_cons_succ'] at h2
      unfold keepL; rw [if_neg hn, if_neg hn2, List.set_cons_succ, getD_cons_succ']
      rw [ih (by simpa using hi) (fun q hq => by have := h1 (q + 1) (by omega); rwa [getD_cons_succ'] at this) h2]
noncomputable def zEnt : Entry := ((0 : Int), ((0 : Int), (false, ((⟨#[]⟩ : ByteArray), ()))))
noncomputable def ascE (l : List Entry) : Bool := (List.range' 0 l.length).all fun i => !(decide (0 < i) && decide ((l.getD i zEnt).1 ≤ (l.getD (i - 1) zEnt).1))
/-- Rows of entries whose places are numbers of 64 bits. -/
def EG (n : Nat) (l : List Entry) : Prop := l.length ≤ n ∧ ∀ e ∈ l, InR e.1
theorem EG.at {n : Nat} {l : List Entry} (h : EG n l) : ∀ i, i < l.length → InR (l.getD i zEnt).1 := fun i hi => h.2 _ (getD_mem hi)
theorem EG.get {n : Nat} {l : List Entry} (h : EG n l) (i : Nat) : InR (l.getD i zEnt).1 := by
  by_cases hi : i < l.length
  · exact h.at i hi
  · rw [List.getD_eq_getElem?_getD, List.getElem?_eq_none (by omega)]; show InR (0 : Int); unfold InR; decide
theorem EG.nil {n : Nat} : EG n [] := ⟨Nat.zero_le _, fun e he => by cases he⟩
theorem EG.mono {n m : Nat} {l : List Entry} (h : EG n l) (hm : n ≤ m) : EG m l := ⟨by have := h.1; omega, h.2⟩
theorem EG.app {n : Nat} {l : List Entry} {e : Entry} (h : EG n l) (he : InR e.1) : EG (n + 1) (l ++ [e]) := by
  refine ⟨by have := h.1; simp; omega, fun x hx => ?_⟩
  rcases List.mem_append.1 hx with h' | h'
  · exact h.2 x h'
  · rw [List.mem_singleton] at h'; subst h'; exact he
/-- Entries whose places ascend. -/
def AscE (l : List Entry) : Prop := ∀ q r, q < r → r < l.length → (l.getD q ((0 : Int), ((0 : Int), (false, ((⟨#[]⟩ : ByteArray), ()))))).1 < (l.getD r ((0 : Int), ((0 : Int), (false, ((⟨#[]⟩ : ByteArray), ()))))).1
theorem AscE.of {l : List Entry} (h : ∀ q, q + 1 < l.length → (l.getD q ((0 : Int), ((0 : Int), (false, ((⟨#[]⟩ : ByteArray), ()))))).1 < (l.getD (q + 1) ((0 : Int), ((0 : Int), (false, ((⟨#[]⟩ : ByteArray), ()))))).1) : AscE l := by
  intro q r hqr hr
  induction r with
  | zero => omega
  | succ r ih =>
    have h1 := h r hr
    by_cases hq : q = r
    · subst hq; exact h1
    · have := ih (by omega) (by omega); omega
theorem AscE.pw {l : List Entry} (h : AscE l) : l.Pairwise (fun a b => a.1 < b.1) :=
  List.pairwise_iff_getElem.2 fun i j hi hj hij => by have := h i j hij hj; rwa [getD_is hi, getD_is hj] at this
theorem AscE.of_pw {l : List Entry} (h : l.Pairwise (fun a b => a.1 < b.1)) : AscE l := fun q r hqr hr => by
  rw [getD_is (by omega), getD_is hr]; exact List.pairwise_iff_getElem.1 h q r (by omega) hr hqr
theorem ascE_Asc {l : List Entry} (h : ascE l = true) : AscE l := AscE.of fun q hq => by
  simp only [ascE, List.all_eq_true, List.mem_range'_1] at h
  have := h (q + 1) (by omega)
  simp only [Nat.add_sub_cancel, Bool.not_eq_true', Bool.and_eq_false_iff, decide_eq_false_iff_not] at this
  rcases this with h | h
  · omega
  · unfold zEnt at h; omega
theorem Asc_ascE {l : List Entry} (h : AscE l) : ascE l = true := by
  simp only [ascE, List.all_eq_true, List.mem_range'_1]
  intro i hi
  simp only [Bool.not_eq_true', Bool.and_eq_false_iff, decide_eq_false_iff_not]
  by_cases h0 : 0 < i
  · refine .inr ?_
    have := h (i - 1) i (by omega) (by omega)
    unfold zEnt; omega
  · exact .inl h0
theorem better_at {a b : Entry} (h : a.1 = b.1) : (better a b).1 = a.1 := by unfold better; split <;> simp [h]
theorem better_or (a b : Entry) : better a b = a ∨ better a b = b := by unfold better; split <;> simp
theorem keepL_at {l : List Entry} {e z : Entry} (h : z ∈ keepL l e) : z.1 = e.1 ∨ ∃ y ∈ l, y.1 = z.1 := by
  induction l with
  | nil => simp [keepL] at h; subst h; exact .inl rfl
  | cons y l ih =>
    unfold keepL at h
    split at h
    · rename_i hy
      rcases List.mem_cons.1 h with rfl | h
      · exact .inl ((better_at hy).trans hy)
      · exact .inr ⟨z, List.mem_cons_of_mem _ h, rfl⟩
    · split at h
      · rcases List.mem_cons.1 h with rfl | h
        · exact .inl rfl
        · exact .inr ⟨z, h, rfl⟩
      · rcases List.mem_cons.1 h with rfl | h
        · exact .inr ⟨z, List.mem_cons_self, rfl⟩
        · rcases ih h with h | ⟨y', h1, h2⟩
          · exact .inl h
          · exact .inr ⟨y', List.mem_cons_of_mem _ h1, h2⟩
theorem keepL_mem {l : List Entry} {e z : Entry} (h : z ∈ keepL l e) : z = e ∨ z ∈ l := by
  induction l with
  | nil => simp [keepL] at h; exact .inl h
  | cons y l ih =>
    unfold keepL at h
    split at h
    · rcases List.mem_cons.1 h with rfl | h
      · rcases better_or y e with h | h
        · exact .inr (by rw [h]; exact List.mem_cons_self)
        · exact .inl h
      · exact .inr (List.mem_cons_of_mem _ h)
    · split at h
      · rcases List.mem_cons.1 h with rfl | h
        · exact .inl rfl
        · exact .inr h
      · rcases List.mem_cons.1 h with rfl | h
        · exact .inr List.mem_cons_self
        · exact (ih h).imp id (List.mem_cons_of_mem _)
theorem keepL_pw {l : List Entry} {e : Entry} (h : l.Pairwise (fun a b => a.1 < b.1)) : (keepL l e).Pairwise (fun a b => a.1 < b.1) := by
  induction l with
  | nil => simp [keepL]
  | cons y l ih =>
    rw [List.pairwise_cons] at h
    unfold keepL
    split
    · rename_i hy
      exact List.pairwise_cons.2 ⟨fun z hz => by rw [better_at hy]; exact h.1 z hz, h.2⟩
    · rename_i hy
      split
      · rename_i hlt
        refine List.pairwise_cons.2 ⟨fun z hz => ?_, List.pairwise_cons.2 h⟩
        rcases List.mem_cons.1 hz with rfl | hz
        · exact hlt
        · have := h.1 z hz; omega
      · rename_i hlt
        refine List.pairwise_cons.2 ⟨fun z hz => ?_, ih h.2⟩
        rcases keepL_at hz with hz | ⟨u, h1, h2⟩
        · omega
        · have := h.1 u h1; omega
theorem AscE.keep {l : List Entry} {e : Entry} (h : AscE l) : AscE (keepL l e) := AscE.of_pw (keepL_pw h.pw)
theorem EG.keep {n : Nat} {l : List Entry} {e : Entry} (h : EG n l) (he : InR e.1) : EG (n + 1) (keepL l e) :=
  ⟨by have := keepL_len l e; have := h.1; omega, fun z hz => by
    rcases keepL_mem hz with rfl | hz
    · exact he
    · exact h.2 z hz⟩
theorem ents_small {l : List Entry} (h : Gd (.sl tEntry) l) : EG l.length l := ⟨Nat.le_refl _, fun e he => InR_of (h.2 e he).1⟩
theorem cnt_len {t : Ty} (xs : (Ty.sl t).den) : List.length xs ≤ cnt (.sl t) xs := by
  show List.length xs ≤ List.length xs + _
  omega
theorem ents_cnt (l : List Entry) : cnt (.sl tEntry) l = l.length + (l.map fun x => cnt tEntry x).sum := rfl
theorem keepL_cnt (l : List Entry) (e : Entry) : cnt (.sl tEntry) (keepL l e) ≤ cnt (.sl tEntry) l + cnt tEntry e + 1 := by
  rw [ents_cnt, ents_cnt]
  induction l with
  | nil => simp [keepL]; omega
  | cons y l ih =>
    unfold keepL
    split
    · have : cnt tEntry (better y e) ≤ cnt tEntry y + cnt tEntry e := by
        rcases better_or y e with h | h <;> rw [h] <;> omega
      simp only [List.length_cons, List.map_cons, List.sum_cons]; omega
    · split
      · simp only [List.length_cons, List.map_cons, List.sum_cons]; omega
      · simp only [List.length_cons, List.map_cons, List.sum_cons]; omega
/-- The entry of a place. -/
noncomputable def getF : List Entry → Int → Entry × Bool
  | [], _ => (((0 : Int), ((0 : Int), (false, ((⟨#[]⟩ : ByteArray), ())))), false)
  | y :: l, x => if y.1 = x then (y, true) else getF l x
theorem getF_none {x : Int} : ∀ {l : List Entry}, (∀ y ∈ l, ¬ y.1 = x) → getF l x = (((0 : Int), ((0 : Int), (false, ((⟨#[]⟩ : ByteArray), ())))), false) := by
  intro l
  induction l with
  | nil => intro _; rfl
  | cons y l ih =>
    intro h
    unfold getF
    rw [if_neg (h y List.mem_cons_self)]
    exact ih fun z hz => h z (List.mem_cons_of_mem _ hz)
theorem getF_some {x : Int} : ∀ {l : List Entry} {i : Nat}, i < l.length → (∀ q, q < i → ¬ (l.getD q zEnt).1 = x) → (l.getD i zEnt).1 = x → getF l x = (l.getD i zEnt, true) := by
  intro l
  induction l with
  | nil => intro i h; exact absurd h (Nat.not_lt_zero _)
  | cons y l ih =>
    intro i hi h1 h2
    unfold getF
    cases i with
    | zero =>
      have h2' : y.1 = x := h2
      rw [if_pos h2']; rfl
    | succ i =>
      have h0 : ¬ y.1 = x := h1 0 (Nat.zero_lt_succ _)
      rw [if_neg h0, getD_cons_succ']
      rw [getD_cons_succ'] at h2
      exact ih (by simpa using hi) (fun q hq => by have := h1 (q + 1) (by omega); rwa [getD_cons_succ'] at this) h2
theorem getF_true {x : Int} {l : List Entry} {e : Entry} (h : getF l x = (e, true)) : e ∈ l ∧ e.1 = x := by
  induction l with
  | nil => simp [getF] at h
  | cons y l ih =>
    unfold getF at h
    split at h
    · rename_i hy
      have : y = e := congrArg Prod.fst h
      subst this
      exact ⟨List.mem_cons_self, hy⟩
    · exact ⟨List.mem_cons_of_mem _ (ih h).1, (ih h).2⟩

def SG (n m : Nat) (s : Store) : Prop := EG n s.1 ∧ EG m s.2.1 ∧ InR s.2.2.1
theorem SG.zero {n m : Nat} : SG n m (([] : List Entry), (([] : List Entry), ((0 : Int), ()))) := ⟨EG.nil, EG.nil, by show InR (0 : Int); unfold InR; decide⟩
noncomputable def keepsL (s l : List Entry) : List Entry := l.foldl keepL s
theorem keepsL_len : ∀ (l s : List Entry), (keepsL s l).length ≤ s.length + l.length := by
  intro l
  induction l with
  | nil => intro s; exact Nat.le_refl _
  | cons e l ih => intro s; have := ih (keepL s e); have := keepL_len s e; show (keepsL (keepL s e) l).length ≤ _; simp only [List.length_cons]; omega
theorem keepsL_asc : ∀ (l s : List Entry), AscE s → AscE (keepsL s l) := by
  intro l
  induction l with
  | nil => intro s h; exact h
  | cons e l ih => intro s h; exact ih _ h.keep
noncomputable def unionL (s : List Entry) (l : List Store) : List Entry := l.foldl (fun s t => keepsL s t.1) s
def ktS (l : List Store) : Nat := (l.map fun s => s.1.length).sum
/-- Stores whose places are numbers of 64 bits. -/
def StG (l : List Store) : Prop := l.length ≤ 1048576 ∧ ∀ s ∈ l, EG 1048576 s.1 ∧ EG 1048576 s.2.1 ∧ InR s.2.2.1
noncomputable def zSto : Store := (([] : List Entry), (([] : List Entry), ((0 : Int), ())))
theorem ktS_cons (s : Store) (l : List Store) : ktS (s :: l) = s.1.length + ktS l := by simp [ktS]
theorem unionL_asc : ∀ (l : List Store) (s : List Entry), AscE s → AscE (unionL s l) := by
  intro l
  induction l with
  | nil => intro s h; exact h
  | cons t l ih => intro s h; exact ih _ (keepsL_asc _ _ h)
theorem unionL_len : ∀ (l : List Store) (s : List Entry), (unionL s l).length ≤ s.length + ktS l := by
  intro l
  induction l with
  | nil => intro s; exact Nat.le_add_right _ _
  | cons t l ih => intro s; have := ih (keepsL s t.1); have := keepsL_len t.1 s; rw [ktS_cons]; show (unionL (keepsL s t.1) l).length ≤ _; omega
/-- The stores of those that are not lost. -/
noncomputable def othersL (lost : List Int) : Nat → List Store → List Store
  | _, [] => []
  | i, s :: l => if lost.contains (i : Int) = true then othersL lost (i + 1) l else s :: othersL lost (i + 1) l
theorem othersL_cons {lost : List Int} {i : Nat} {s : Store} {l : List Store} : othersL lost i (s :: l) = if lost.contains (i : Int) = true then othersL lost (i + 1) l else s :: othersL lost (i + 1) l := rfl
theorem othersL_mem {lost : List Int} {x : Store} : ∀ {l : List Store} {i : Nat}, x ∈ othersL lost i l → x ∈ l := by
  intro l
  induction l with
  | nil => intro i h; exact h
  | cons s l ih =>
    intro i h
    unfold othersL at h
    split at h
    · exact List.mem_cons_of_mem _ (ih h)
    · rcases List.mem_cons.1 h with rfl | h
      · exact List.mem_cons_self
      · exact List.mem_cons_of_mem _ (ih h)
theorem othersL_len {lost : List Int} : ∀ {l : List Store} {i : Nat}, (othersL lost i l).length ≤ l.length ∧ ktS (othersL lost i l) ≤ ktS l := by
  intro l
  induction l with
  | nil => intro i; exact ⟨Nat.le_refl _, Nat.le_refl _⟩
  | cons s l ih =>
    intro i
    have h1 := (ih (i := i + 1)).1
    have h2 := (ih (i := i + 1)).2
    unfold othersL
    split
    · rw [ktS_cons, List.length_cons]; omega
    · rw [ktS_cons, ktS_cons, List.length_cons, List.length_cons]; omega
theorem StG.others {lost : List Int} {l : List Store} (h : StG l) (i : Nat) : StG (othersL lost i l) := ⟨Nat.le_trans othersL_len.1 h.1, fun s hs => h.2 s (othersL_mem hs)⟩

def MG (s n h w : Nat) (m : Mend) : Prop := m.2.2.1.length ≤ s ∧ EG n m.2.2.2.1 ∧ (m.2.2.2.2.2.1.length ≤ h ∧ ∀ l ∈ m.2.2.2.2.2.1, l.length ≤ w) ∧ InR m.1 ∧ InR m.2.1
theorem MG.mono {s n h w s' n' h' w' : Nat} {m : Mend} (g : MG s n h w m) (h1 : s ≤ s') (h2 : n ≤ n') (h3 : h ≤ h') (h4 : w ≤ w') : MG s' n' h' w' m :=
  ⟨by have := g.1; omega, g.2.1.mono h2, ⟨by have := g.2.2.1.1; omega, fun l hl => by have := g.2.2.1.2 l hl; omega⟩, g.2.2.2⟩
theorem MG.get {s n h w : Nat} {m : Mend} (g : MG s n h w m) (i : Nat) : (m.2.2.2.2.2.1.getD i []).length ≤ w := by
  by_cases hi : i < m.2.2.2.2.2.1.length
  · exact g.2.2.1.2 _ (getD_mem hi)
  · rw [List.getD_eq_getElem?_getD, List.getElem?_eq_none (by omega)]; exact Nat.zero_le _
theorem mend_small {m : Mend} (h : Gd tMend m) (hc : cnt tMend m ≤ 1048576) : MG m.2.2.1.length m.2.2.2.1.length m.2.2.2.2.2.1.length 1048576 m := by
  have hc : 0 + (0 + (cnt (.sl (.int .i64)) m.2.2.1 + (cnt (.sl tEntry) m.2.2.2.1 + (0 + (cnt (.sl (.sl (.int .i64))) m.2.2.2.2.2.1 + 0))))) ≤ 1048576 := hc
  refine ⟨Nat.le_refl _, ents_small h.2.2.2.1, ⟨Nat.le_refl _, fun l hl => ?_⟩, InR_of h.1, InR_of h.2.1⟩
  have hw : cnt (.sl (.sl (.int .i64))) m.2.2.2.2.2.1 = m.2.2.2.2.2.1.length + (m.2.2.2.2.2.1.map fun x => cnt (.sl (.int .i64)) x).sum := rfl
  have := sum_mem (f := fun x => cnt (.sl (.int .i64)) x) hl
  have h2 : cnt (.sl (.int .i64)) l = l.length := cnt_ints l
  have this : cnt (.sl (.int .i64)) l ≤ (m.2.2.2.2.2.1.map fun x => cnt (.sl (.int .i64)) x).sum := this
  omega
theorem mend_cnt (m : Mend) : cnt tMend m = m.2.2.1.length + (cnt (.sl tEntry) m.2.2.2.1 + cnt (.sl (.sl (.int .i64))) m.2.2.2.2.2.1) := by
  show 0 + (0 + (cnt (.sl (.int .i64)) m.2.2.1 + (cnt (.sl tEntry) m.2.2.2.1 + (0 + (cnt (.sl (.sl (.int .i64))) m.2.2.2.2.2.1 + 0))))) = _
  rw [cnt_ints]; omega

/-- A cursor over bytes: where it stands. -/
def Cu (c : l1Cur) : Prop := c.1.length ≤ 1048576 ∧ 0 ≤ c.2.1
theorem spec_l1New_l (b : List Int) (hb : b.length ≤ 1048576) : ∀ (m i : Nat) (h : Int), i + m = b.length → Evp (fun k => spec_l1New.p7 k b h (i : Int)) Cu := by
  intro m
  induction m with
  | zero =>
    intro i h hi
    refine Evp.succ ?_
    simp only [spec_l1New.p7]
    exact Evp.neg (by omega) (Evp.ret ⟨hb, Int.le_refl _⟩)
  | succ m ih =>
    intro i h hi
    refine Evp.succ ?_
    simp only [spec_l1New.p7]
    refine Evp.pos (by omega) (Evp.ite (fun _ => Evp.pos (by omega) ?_) (fun _ => Evp.ret ⟨hb, Int.le_refl _⟩))
    rw [wrap_up (i := i) (n := b.length) (by omega) (by omega)]
    exact ih (i + 1) _ (by omega)
theorem spec_l1New_d (b : List Int) (hb : b.length ≤ 1048576) : Evp (fun k => spec_l1New.f k b) Cu := spec_l1New_l b hb b.length 0 _ (by omega)

theorem and255 (x : Int) : 0 ≤ andK .i64 x 255 ∧ andK .i64 x 255 ≤ 255 := by
  have e : andK .i64 x 255 = wrap64 (((BitVec.ofInt 64 x &&& BitVec.ofInt 64 255).toNat : Nat) : Int) := rfl
  have h : (BitVec.ofInt 64 x &&& BitVec.ofInt 64 255).toNat ≤ 255 := by
    rw [BitVec.toNat_and]
    exact Nat.le_trans Nat.and_le_right (by decide)
  rw [e, wrap64_id (by omega) (by omega)]
  omega
theorem spec_l1Byte_d (c : l1Cur) (h : Cu c) : Op (spec_l1Byte.f c) (fun r => 0 ≤ r.1 ∧ r.1 ≤ 255 ∧ Cu r.2) := by
  obtain ⟨h1, h2⟩ := h
  unfold spec_l1Byte.f
  refine Op.ite (fun hl => Op.pos ⟨h2, hl⟩ (Op.ret ⟨(and255 _).1, (and255 _).2, h1, ?_⟩)) (fun hl => Op.ret ⟨(and255 _).1, (and255 _).2, h1, h2⟩)
  show (0 : Int) ≤ wrap64 (c.2.1 + 1)
  rw [wrap64_id (by omega) (by omega)]; omega

theorem spec_l1Below_d (c : l1Cur) (n : Int) (h : Cu c) : Op (spec_l1Below.f c n) (fun r => 0 ≤ r.1 ∧ (0 < n → r.1 < n) ∧ (n ≤ 0 → r.1 = 0) ∧ Cu r.2) := by
  unfold spec_l1Below.f
  refine Op.ite (fun h0 => Op.ret ⟨by show (0 : Int) ≤ 0; omega, fun h1 => by omega, fun _ => rfl, h⟩) (fun h0 => Op.ite (fun h1 => Op.bind (spec_l1Byte_d c h) fun r hr => ?_) (fun h1 => ?_))
  · refine Op.neg (by omega) (Op.ret ?_)
    show 0 ≤ Int.tmod r.1 n ∧ (0 < n → Int.tmod r.1 n < n) ∧ (n ≤ 0 → Int.tmod r.1 n = 0) ∧ Cu r.2
    rw [Int.tmod_eq_emod_of_nonneg hr.1]
    exact ⟨Int.emod_nonneg _ (by omega), fun _ => Int.emod_lt_of_pos _ (by omega), fun _ => by omega, hr.2.2⟩
  · refine Op.bind (spec_l1Byte_d c h) fun r hr => Op.bind (spec_l1Byte_d _ hr.2.2) fun s hs => Op.bind (spec_l1Byte_d _ hs.2.2) fun t ht => Op.bind (spec_l1Byte_d _ ht.2.2) fun u hu => Op.neg (by omega) (Op.ret ?_)
    obtain ⟨a1, a2, _⟩ := hr
    obtain ⟨b1, b2, _⟩ := hs
    obtain ⟨c1, c2, _⟩ := ht
    obtain ⟨d1, d2, d3⟩ := hu
    rw [wrap64_id (x := r.1 * 16777216) (by omega) (by omega), wrap64_id (x := s.1 * 65536) (by omega) (by omega), wrap64_id (x := r.1 * 16777216 + s.1 * 65536) (by omega) (by omega), wrap64_id (x := t.1 * 256) (by omega) (by omega), wrap64_id (x := r.1 * 16777216 + s.1 * 65536 + t.1 * 256) (by omega) (by omega), wrap64_id (x := r.1 * 16777216 + s.1 * 65536 + t.1 * 256 + u.1) (by omega) (by omega)]
    have hz : (0 : Int) ≤ r.1 * 16777216 + s.1 * 65536 + t.1 * 256 + u.1 := by omega
    show 0 ≤ Int.tmod _ n ∧ (0 < n → Int.tmod _ n < n) ∧ (n ≤ 0 → Int.tmod _ n = 0) ∧ Cu u.2
    rw [Int.tmod_eq_emod_of_nonneg hz]
    exact ⟨Int.emod_nonneg _ (by omega), fun _ => Int.emod_lt_of_pos _ (by omega), fun _ => by omega, d3⟩

theorem spec_l1Once_d (c : l1Cur) (n : Int) (h : Cu c) : Op (spec_l1Once.f c n) (fun r => Cu r.2) := by
  unfold spec_l1Once.f
  exact Op.bind (spec_l1Below_d c n h) fun r hr => Op.ret hr.2.2.2

theorem spec_l4DrawRight_l (n : Int) (h3 : 0 ≤ n) (hn : n ≤ 8) (z : Config) : ∀ (m i : Nat) (a : Config) (c : l1Cur), (i : Int) + m = n → a.1.length = i → (∀ x ∈ a.1, 0 ≤ x ∧ x ≤ 4) → Cu c →
    Evp (fun k => spec_l4DrawRight.p9 k n (i : Int) z a c) (fun r => (r.1.1.length : Int) = n ∧ (∀ x ∈ r.1.1, 0 ≤ x ∧ x ≤ 4) ∧ (r.1.2.1 = a.2.1 ∨ r.1.2.1 = 2) ∧ Cu r.2) := by
  intro m
  induction m with
  | zero =>
    intro i a c hi ha hx hc
    refine Evp.succ ?_
    simp only [spec_l4DrawRight.p9]
    refine Evp.neg (by omega) (Evp.bindc (spec_l1Once_d c 2 hc) fun r hr => Evp.ite (fun _ => Evp.ret ⟨by show (a.1.length : Int) = n; omega, hx, .inr rfl, hr⟩) (fun _ => Evp.ret ⟨by show (a.1.length : Int) = n; omega, hx, .inl rfl, hr⟩))
  | succ m ih =>
    intro i a c hi ha hx hc
    refine Evp.succ ?_
    simp only [spec_l4DrawRight.p9]
    refine Evp.pos (by omega) (Evp.bindc (spec_l1Below_d c 5 hc) fun r hr => Evp.pos (by simp only [lim_eq, List.length_cons, List.length_nil]; omega) ?_)
    rw [wrap_up (i := i) (n := 8) (by omega) (by omega)]
    exact ih (i + 1) (a.1 ++ [r.1], a.2) r.2 (by omega) (by show (a.1 ++ [r.1]).length = i + 1; simp [ha]) (fun x hm => by
      rcases List.mem_append.1 hm with h | h
      · exact hx x h
      · rw [List.mem_singleton] at h; subst h; have := hr.2.1 (by omega); exact ⟨hr.1, by omega⟩) hr.2.2.2
theorem spec_l4DrawRight_d (c : l1Cur) (h : Cu c) : Evp (fun k => spec_l4DrawRight.f k c) (fun r => 3 ≤ r.1.1.length ∧ r.1.1.length ≤ 8 ∧ (∀ x ∈ r.1.1, 0 ≤ x ∧ x ≤ 4) ∧ 1 ≤ r.1.2.1 ∧ r.1.2.1 ≤ 3 ∧ Cu r.2) := by
  simp only [spec_l4DrawRight.f]
  refine Evp.bindc (spec_l1Below_d c 3 h) fun r hr => Evp.bindc (spec_l1Below_d _ 5 hr.2.2.2) fun s hs => ?_
  have h1 := hr.2.1 (by omega)
  have h2 := hs.2.1 (by omega)
  have h0 := hr.1
  have h0' := hs.1
  rw [wrap64_id (x := 3 + s.1) (by omega) (by omega), wrap64_id (x := 1 + r.1) (by omega) (by omega)]
  refine (spec_l4DrawRight_l (3 + s.1) (by omega) (by omega) _ (3 + s.1).toNat 0 _ _ (by omega) rfl (fun x hx => by cases hx) hs.2.2.2).mono fun q hq => ?_
  obtain ⟨q1, q2, q3, q4⟩ := hq
  have q3 : q.1.2.1 = 1 + r.1 ∨ q.1.2.1 = 2 := q3
  exact ⟨by omega, by omega, q2, by omega, by omega, q4⟩

theorem spec_l1PickInt_d (c : l1Cur) (l : List Int) (h : Cu c) (hl : 0 < l.length) : Op (spec_l1PickInt.f c l) (fun r => r.1 ∈ l ∧ Cu r.2) := by
  unfold spec_l1PickInt.f
  refine Op.bind (spec_l1Below_d c _ h) fun r hr => ?_
  have h1 := hr.2.1 (by omega)
  exact Op.pos ⟨hr.1, h1⟩ (Op.ret ⟨getD_mem (by omega), hr.2.2.2⟩)

theorem spec_l4Draw_d (c : l1Cur) (h : Cu c) : Evp (fun k => spec_l4Draw.f k c) (fun r => r.1.1.length ≤ 9 ∧ Cu r.2) := by
  simp only [spec_l4Draw.f]
  refine Evp.bind (spec_l4DrawRight_d c h) fun r hr => Evp.bindc (spec_l1Below_d _ 20 hr.2.2.2.2.2) fun s hs => ?_
  refine Evp.ite (fun _ => Evp.bindc (spec_l1PickInt_d _ _ hs.2.2.2 (by decide)) fun t ht => Evp.ret ⟨by show r.1.1.length ≤ 9; omega, ht.2⟩) fun _ => ?_
  refine Evp.ite (fun _ => Evp.bindc (spec_l1PickInt_d _ _ hs.2.2.2 (by decide)) fun t ht => Evp.pos (by omega) (Evp.ret ⟨by show (r.1.1.set _ _).length ≤ 9; rw [List.length_set]; omega, ht.2⟩)) fun _ => ?_
  refine Evp.ite (fun _ => Evp.bindc (spec_l1PickInt_d _ _ hs.2.2.2 (by decide)) fun t ht => ?_) fun _ => Evp.ret ⟨by show r.1.1.length ≤ 9; omega, hs.2.2.2⟩
  have hm : t.1 = 0 ∨ t.1 = 8 ∨ t.1 = 9 := by simpa using ht.1
  refine Evp.pos (by rw [lim_eq]; omega) (Evp.ret ⟨?_, ht.2⟩)
  show (List.replicate t.1.toNat (0 : Int)).length ≤ 9
  rw [List.length_replicate]; omega

theorem spec_l1Max_d (a b : Int) : Op (spec_l1Max.f a b) (fun r => a ≤ r ∧ b ≤ r ∧ (r = a ∨ r = b)) := by
  unfold spec_l1Max.f
  exact Op.ite (fun h => Op.ret ⟨by omega, by omega, .inl rfl⟩) (fun h => Op.ret ⟨by omega, by omega, .inr rfl⟩)

theorem spec_l4Has_l (l : List Int) (x : Int) (hl : l.length ≤ 1048576) : ∀ (m i : Nat), i + m = l.length → Ev (fun k => spec_l4Has.p5 k l x (i : Int)) ((l.drop i).contains x) := by
  intro m
  induction m with
  | zero =>
    intro i h
    refine Ev.succ ?_
    simp only [spec_l4Has.p5]
    rw [List.drop_eq_nil_of_le (by omega)]
    exact Ev.neg (by omega) Ev.ret
  | succ m ih =>
    intro i h
    refine Ev.succ ?_
    simp only [spec_l4Has.p5, Int.toNat_natCast]
    rw [drop_get (d := (0 : Int)) (i := i) (l := l) (by omega), List.contains_cons, wrap_up (i := i) (n := l.length) (by omega) (by omega)]
    refine Ev.pos (by omega) (Ev.pos (by omega) ?_)
    by_cases hx : l.getD i 0 = x
    · exact (Ev.pos hx Ev.ret).eq (by rw [hx]; simp)
    · refine (Ev.neg hx (ih (i + 1) (by omega))).eq ?_
      rw [show (x == l.getD i 0) = false by simpa using fun e => hx e.symm, Bool.false_or]
theorem spec_l4Has_ev (l : List Int) (x : Int) (hl : l.length ≤ 1048576) : Ev (fun k => spec_l4Has.f k l x) (l.contains x) := spec_l4Has_l l x hl l.length 0 (by omega)

theorem spec_l4Put_l (l : List Int) (x : Int) (hl : l.length ≤ 1048576) : ∀ (m i : Nat) (o : List Int) (b : Bool), i + m = l.length → o.length ≤ i + (if b = true then 1 else 0) → Evp (fun k => spec_l4Put.p9 k l x o b (i : Int)) (fun r => r.length ≤ o.length + m + (if b = true then 0 else 1)) := by
  intro m
  induction m with
  | zero =>
    intro i o b h ho
    refine Evp.succ ?_
    simp only [spec_l4Put.p9]
    refine Evp.neg (by omega) ?_
    cases b with
    | true => exact Evp.pos rfl (Evp.ret (by simp))
    | false => simp at ho; exact Evp.neg (by decide) (Evp.pos (by simp only [lim_eq, List.length_cons, List.length_nil]; omega) (Evp.ret (by simp)))
  | succ m ih =>
    intro i o b h ho
    refine Evp.succ ?_
    simp only [spec_l4Put.p9]
    rw [wrap_up (i := i) (n := l.length) (by omega) (by omega)]
    refine Evp.pos (by omega) ?_
    cases b with
    | true =>
      simp at ho
      refine Evp.pos rfl (Evp.pos (by omega) (Evp.pos (by simp only [lim_eq, List.length_cons, List.length_nil]; omega) ?_))
      exact (ih (i + 1) _ true (by omega) (by simp; omega)).mono fun r hr => by simp at hr ⊢; omega
    | false =>
      simp at ho
      refine Evp.neg (by decide) (Evp.pos (by omega) (Evp.ite (fun _ => Evp.pos (by simp only [lim_eq, List.length_cons, List.length_nil]; omega) (Evp.pos (by omega) (Evp.pos (by simp only [lim_eq, List.length_append, List.length_cons, List.length_nil]; omega) ?_))) (fun _ => Evp.pos (by omega) (Evp.pos (by simp only [lim_eq, List.length_cons, List.length_nil]; omega) ?_))))
      · exact (ih (i + 1) _ true (by omega) (by simp; omega)).mono fun r hr => by simp at hr ⊢; omega
      · exact (ih (i + 1) _ false (by omega) (by simp; omega)).mono fun r hr => by simp at hr ⊢; omega
theorem spec_l4Put_d (l : List Int) (x : Int) (hl : l.length ≤ 1048576) : Evp (fun k => spec_l4Put.f k l x) (fun r => r.length ≤ l.length + 1) := by
  simp only [spec_l4Put.f]
  refine Evp.bindv (spec_l4Has_ev l x hl) ((spec_l4Put_l l x hl l.length 0 [] (l.contains x) (by omega) (by simp)).mono fun r hr => ?_)
  have h2 : (if l.contains x = true then 0 else 1) ≤ 1 := by split <;> omega
  simp only [List.length_nil] at hr
  omega
theorem spec_l4Put_ll (l : List Int) (x : Int) (hl : l.length ≤ 1048576) : ∀ (m i : Nat) (o : List Int) (b : Bool), i + m = l.length → o.length ≤ i + (if b = true then 1 else 0) → Ev (fun k => spec_l4Put.p9 k l x o b (i : Int)) (o ++ if b = true then l.drop i else insB (l.drop i) x) := by
  intro m
  induction m with
  | zero =>
    intro i o b h ho
    refine Ev.succ ?_
    simp only [spec_l4Put.p9]
    rw [List.drop_eq_nil_of_le (by omega)]
    refine Ev.neg (by omega) ?_
    cases b with
    | true => exact Ev.pos rfl (Ev.ret.eq (by simp))
    | false => simp at ho; exact Ev.neg (by decide) (Ev.pos (by simp only [lim_eq, List.length_cons, List.length_nil]; omega) (Ev.ret.eq (by simp [insB])))
  | succ m ih =>
    intro i o b h ho
    refine Ev.succ ?_
    simp only [spec_l4Put.p9, Int.toNat_natCast]
    rw [wrap_up (i := i) (n := l.length) (by omega) (by omega), drop_get (d := 0) (by omega : i < l.length)]
    refine Ev.pos (by omega) ?_
    cases b with
    | true =>
      simp at ho
      refine Ev.pos rfl (Ev.pos (by omega) (Ev.pos (by simp only [lim_eq, List.length_cons, List.length_nil]; omega) ?_))
      exact (ih (i + 1) _ true (by omega) (by simp; omega)).eq (by simp)
    | false =>
      simp at ho
      refine Ev.neg (by decide) (Ev.pos (by omega) ?_)
      by_cases hx : x < l.getD i 0
      · refine Ev.pos hx (Ev.pos (by simp only [lim_eq, List.length_cons, List.length_nil]; omega) (Ev.pos (by omega) (Ev.pos (by simp only [lim_eq, List.length_append, List.length_cons, List.length_nil]; omega) ?_)))
        exact (ih (i + 1) _ true (by omega) (by simp; omega)).eq (by (conv => rhs; unfold insB); rw [if_pos hx]; simp)
      · refine Ev.neg hx (Ev.pos (by omega) (Ev.pos (by simp only [lim_eq, List.length_cons, List.length_nil]; omega) ?_))
        exact (ih (i + 1) _ false (by omega) (by simp; omega)).eq (by (conv => rhs; unfold insB); rw [if_neg hx]; simp)
theorem spec_l4Put_ev (l : List Int) (x : Int) (hl : l.length ≤ 1048576) : Ev (fun k => spec_l4Put.f k l x) (insL l x) := by
  simp only [spec_l4Put.f]
  refine Ev.bind (spec_l4Has_ev l x hl) ((spec_l4Put_ll l x hl l.length 0 [] (l.contains x) (by omega) (by simp)).eq ?_)
  unfold insL
  simp

theorem spec_l4DrawNodes_l (n : Int) (a : Config) (hn : n ≤ 1048576) (ha : a.1.length ≤ 1048576) : ∀ (m i : Nat) (l : List Int) (c : l1Cur), (i : Int) + m = n → l.length ≤ i → Cu c →
    Evp (fun k => spec_l4DrawNodes.p9 k l n (i : Int) a c) (fun r => r.1.length ≤ i + m + 1 ∧ Cu r.2) := by
  intro m
  induction m with
  | zero =>
    intro i l c hi hl hc
    refine Evp.succ ?_
    simp only [spec_l4DrawNodes.p9]
    refine Evp.neg (by omega) (Evp.bindc (spec_l1Once_d c 20 hc) fun r hr => Evp.ite (fun _ => Evp.bindc (spec_l1PickInt_d _ _ hr (by simp)) fun s hs => Evp.pos (by simp only [lim_eq, List.length_cons, List.length_nil]; omega) (Evp.ret ⟨by simp; omega, hs.2⟩)) (fun _ => Evp.ret ⟨by show l.length ≤ _; omega, hr⟩))
  | succ m ih =>
    intro i l c hi hl hc
    refine Evp.succ ?_
    simp only [spec_l4DrawNodes.p9, spec_l1Max.f]
    refine Evp.pos (by omega) ?_
    have hm : ∃ z : Int, (if (1 : Int) < ((a.1.length : Nat) : Int) then some ((a.1.length : Nat) : Int) else some (1 : Int)) = some z := by split <;> exact ⟨_, rfl⟩
    obtain ⟨z, hz⟩ := hm
    simp only [hz, Option.bind_some]
    refine Evp.bindc (spec_l1Below_d c z hc) fun r hr => Evp.bind (spec_l4Put_d l r.1 (by omega)) fun s hs => ?_
    rw [wrap_up (i := i) (n := i + 1) (by omega) (by omega)]
    exact (ih (i + 1) s r.2 (by omega) (by omega) hr.2.2.2).mono fun q hq => ⟨by omega, hq.2⟩
theorem spec_l4DrawNodes_d (c : l1Cur) (a : Config) (h : Cu c) (ha : a.1.length ≤ 9) : Evp (fun k => spec_l4DrawNodes.f k c a) (fun r => r.1.length ≤ 12 ∧ Cu r.2) := by
  simp only [spec_l4DrawNodes.f]
  rw [wrap64_id (by omega) (by omega)]
  refine Evp.bindc (spec_l1Below_d c _ h) fun r hr => ?_
  have h1 := hr.2.1 (by omega)
  have h0 := hr.1
  exact (spec_l4DrawNodes_l r.1 a (by omega) (by omega) r.1.toNat 0 [] r.2 (by omega) (by simp) hr.2.2.2).mono fun q hq => ⟨by omega, hq.2⟩

theorem spec_l1In_is (x a b : Int) : spec_l1In.f x a b = some (inB x a b) := ite_inB x a b

/-- A config that is right: its domains, its copies. -/
noncomputable def cfgB (a : Config) : Bool := inB ((a.1.length : Nat) : Int) 1 8 && (inB a.2.1 1 4 && (List.range' 0 a.1.length).all fun i => inB (a.1.getD i 0) 0 7)
theorem cfgB_len {a : Config} (h : cfgB a = true) : 1 ≤ a.1.length ∧ a.1.length ≤ 8 ∧ 1 ≤ a.2.1 ∧ a.2.1 ≤ 4 ∧ ∀ i, i < a.1.length → 0 ≤ a.1.getD i 0 ∧ a.1.getD i 0 ≤ 7 := by
  simp only [cfgB, Bool.and_eq_true, inB_true, List.all_eq_true, List.mem_range'_1] at h
  obtain ⟨h1, h2, h3⟩ := h
  exact ⟨by omega, by omega, h2.1, h2.2, fun i hi => h3 i (by omega)⟩
theorem spec_ConfigOk_ev (a : Config) (hl : a.1.length ≤ 1048576) : Ev (fun k => spec_ConfigOk.f k a) (cfgB a) := by
  have h := all_loop (n := a.1.length) (p := fun k i => spec_ConfigOk.p9 k i a) (q := fun i => inB (a.1.getD i 0) 0 7) (zb := true) (fun i hi b hb => by
    simp only [spec_ConfigOk.p9, spec_l1In_is]
    refine Ev.pos (by omega) (Ev.pos (by omega) (Ev.bindc rfl (Ev.and fun _ => ?_)))
    rw [wrap_up hi (by omega)]; exact hb) (by
    simp only [spec_ConfigOk.p9]
    exact Ev.neg (by omega) Ev.ret) a.1.length 0 (by omega)
  simp only [spec_ConfigOk.f, spec_l1In_is, cfgB]
  refine Ev.bindc rfl (Ev.and fun _ => Ev.bindc rfl (Ev.and fun _ => ?_))
  simpa using h

/-- Ascending numbers from lo to hi. -/
noncomputable def ascB (l : List Int) (lo hi : Int) : Bool := (List.range' 0 l.length).all fun i => inB (l.getD i 0) lo hi && (decide (i = 0) || !decide (l.getD i 0 ≤ l.getD (i - 1) 0))
theorem ascB_mem {l : List Int} {lo hi : Int} (h : ascB l lo hi = true) {i : Nat} (hi' : i < l.length) : lo ≤ l.getD i 0 ∧ l.getD i 0 ≤ hi := by
  simp only [ascB, List.all_eq_true, List.mem_range'_1, Bool.and_eq_true, inB_true] at h
  exact (h i (by omega)).1
theorem spec_l4Asc_ev (l : List Int) (lo hi : Int) (hl : l.length ≤ 1048576) : Ev (fun k => spec_l4Asc.f k l lo hi) (ascB l lo hi) := by
  have h := all_loop (n := l.length) (p := fun k i => spec_l4Asc.p5 k l lo hi i) (q := fun i => inB (l.getD i 0) lo hi && (decide (i = 0) || !decide (l.getD i 0 ≤ l.getD (i - 1) 0))) (zb := true) (fun i hi' b hb => by
    simp only [spec_l4Asc.p5, spec_l1In_is]
    refine Ev.pos (by omega) (Ev.pos (by omega) (Ev.bindc rfl ?_))
    rw [Bool.and_assoc]
    refine Ev.and fun _ => ?_
    rw [wrap_up hi' (by omega)]
    by_cases h0 : i = 0
    · subst h0
      exact (Ev.neg (by omega) hb).eq (by simp)
    · have e : wrap64 ((i : Int) - 1) = ((i - 1 : Nat) : Int) := by rw [wrap64_id (by omega) (by omega)]; omega
      rw [e]
      refine Ev.pos (by omega) (Ev.pos (by omega) (Ev.pos (by omega) ?_))
      rw [decide_eq_false h0, Bool.false_or]
      exact Ev.nand fun _ => hb) (by
    simp only [spec_l4Asc.p5]
    exact Ev.neg (by omega) Ev.ret) l.length 0 (by omega)
  exact (Ev.cg h fun k => rfl).eq (by unfold ascB; rw [Bool.and_true])
theorem ascB_Asc {l : List Int} {lo hi : Int} (h : ascB l lo hi = true) : Asc l := Asc.of fun q hq => by
  simp only [ascB, List.all_eq_true, List.mem_range'_1, Bool.and_eq_true, Bool.or_eq_true, decide_eq_true_eq, Bool.not_eq_true', decide_eq_false_iff_not] at h
  have := (h (q + 1) (by omega)).2
  simp only [Nat.add_sub_cancel] at this
  omega
theorem ascB_iff {l : List Int} {lo hi : Int} : ascB l lo hi = true ↔ (∀ x ∈ l, lo ≤ x ∧ x ≤ hi) ∧ l.Pairwise (· < ·) := by
  constructor
  · intro h
    refine ⟨fun x hx => ?_, (ascB_Asc h).pw⟩
    obtain ⟨q, hq, rfl⟩ := getD_of_mem hx
    exact ascB_mem h hq
  · rintro ⟨h1, h2⟩
    simp only [ascB, List.all_eq_true, List.mem_range'_1, Bool.and_eq_true, Bool.or_eq_true, decide_eq_true_eq, Bool.not_eq_true', decide_eq_false_iff_not, inB_true]
    intro i hi
    refine ⟨h1 _ (getD_mem (by omega)), ?_⟩
    by_cases h0 : i = 0
    · exact .inl h0
    · have := Asc.of_pw h2 (i - 1) i (by omega) (by omega)
      exact .inr (by omega)
theorem ascB_len {l : List Int} {lo hi : Int} (h : ascB l lo hi = true) : l.length = 0 ∨ (l.length : Int) ≤ hi - lo + 1 := by
  have ha := ascB_Asc h
  have key : ∀ q, q < l.length → lo + (q : Int) ≤ l.getD q 0 := by
    intro q
    induction q with
    | zero => intro hq; have := (ascB_mem h hq).1; omega
    | succ q ih => intro hq; have := ih (by omega); have := ha q (q + 1) (by omega) hq; omega
  by_cases h0 : l.length = 0
  · exact .inl h0
  · have := key (l.length - 1) (by omega)
    have := (ascB_mem h (i := l.length - 1) (by omega)).2
    exact .inr (by omega)

noncomputable def nodesB (a : Config) (l : List Int) : Bool := cfgB a && ascB l 0 (((a.1.length : Nat) : Int) - 1)
theorem spec_NodesOk_ev (a : Config) (l : List Int) (ha : a.1.length ≤ 1048576) (hl : l.length ≤ 1048576) : Ev (fun k => spec_NodesOk.f k a l) (nodesB a l) := by
  simp only [spec_NodesOk.f, nodesB]
  refine Ev.bind (spec_ConfigOk_ev a ha) (Ev.and fun _ => ?_)
  rw [wrap64_id (by omega) (by omega)]
  exact Ev.bind (spec_l4Asc_ev l 0 _ hl) Ev.ret
theorem nodesB_len {a : Config} {l : List Int} (h : nodesB a l = true) : l.length ≤ 8 := by
  simp only [nodesB, Bool.and_eq_true] at h
  have := cfgB_len h.1
  have := ascB_len h.2
  omega
theorem nodesB_Asc {a : Config} {l : List Int} (h : nodesB a l = true) : Asc l := by
  simp only [nodesB, Bool.and_eq_true] at h
  exact ascB_Asc h.2
theorem nodesB_filter {a : Config} {l : List Int} (p : Int → Bool) (h : nodesB a l = true) : nodesB a (l.filter p) = true := by
  simp only [nodesB, Bool.and_eq_true, ascB_iff] at h ⊢
  exact ⟨h.1, fun x hx => h.2.1 x (List.mem_filter.1 hx).1, h.2.2.filter _⟩
theorem nodesB_ins {a : Config} {l : List Int} {x : Int} (h : nodesB a l = true) (h0 : 0 ≤ x) (h1 : x ≤ ((a.1.length : Nat) : Int) - 1) : nodesB a (insL l x) = true := by
  simp only [nodesB, Bool.and_eq_true, ascB_iff] at h ⊢
  refine ⟨h.1, fun y hy => ?_, insL_pw h.2.2⟩
  rcases mem_insL.1 hy with rfl | hy
  · exact ⟨h0, h1⟩
  · exact h.2.1 y hy

/-- The domains of nodes, each once, behind those that were met. -/
noncomputable def domsOf (a : Config) : List Int → List Int → List Int
  | [], acc => acc
  | n :: l, acc => domsOf a l (if acc.contains (a.1.getD n.toNat 0) then acc else acc ++ [a.1.getD n.toNat 0])
noncomputable def spanOf (a : Config) (l : List Int) : Int := ((domsOf a l []).length : Int)
theorem spec_l4Span_l (a : Config) (l : List Int) (hdom : ∀ i, i < a.1.length → 0 ≤ a.1.getD i 0 ∧ a.1.getD i 0 ≤ 7) (hl : l.length ≤ 1048576) (hmem : ∀ i, i < l.length → 0 ≤ l.getD i 0 ∧ l.getD i 0 < ((a.1.length : Nat) : Int)) :
    ∀ (m i : Nat) (seen : List Bool) (acc : List Int), i + m = l.length → seen.length = 8 → acc.length ≤ i → (∀ x : Int, 0 ≤ x → x ≤ 7 → (seen.getD x.toNat false = acc.contains x)) →
    Ev (fun k => spec_l4Span.p9 k l seen (acc.length : Int) (i : Int) a) ((domsOf a (l.drop i) acc).length : Int) := by
  intro m
  induction m with
  | zero =>
    intro i seen acc h hs ha hx
    refine Ev.succ ?_
    simp only [spec_l4Span.p9]
    rw [List.drop_eq_nil_of_le (by omega)]
    exact Ev.neg (by omega) Ev.ret
  | succ m ih =>
    intro i seen acc h hs ha hx
    have hi : i < l.length := by omega
    have hn := hmem i hi
    have hv := hdom (l.getD i 0).toNat (by omega)
    refine Ev.succ ?_
    simp only [spec_l4Span.p9, Int.toNat_natCast]
    rw [drop_get (d := (0 : Int)) hi]
    simp only [domsOf]
    generalize hw : a.1.getD (l.getD i 0).toNat 0 = x at *
    refine Ev.pos (by omega) (Ev.pos (by omega) (Ev.pos (by omega) (Ev.pos (by omega) ?_)))
    rw [hx _ hv.1 hv.2, wrap_up hi (by omega)]
    by_cases hc : acc.contains x = true
    · rw [if_pos hc]
      exact Ev.pos hc (ih (i + 1) seen acc (by omega) hs (by omega) hx)
    · rw [if_neg hc]
      refine Ev.neg hc (Ev.pos (by omega) ?_)
      have := ih (i + 1) (seen.set x.toNat true) (acc ++ [x]) (by omega) (by simp [hs]) (by simp; omega) (by
        intro y h0 h7
        by_cases e : y = x
        · subst e
          simp [List.getD_eq_getElem?_getD, List.getElem?_set, hs, show y.toNat < 8 by omega]
        · have he : x.toNat ≠ y.toNat := by omega
          have := hx y h0 h7
          rw [List.getD_eq_getElem?_getD, List.getElem?_set, if_neg he, ← List.getD_eq_getElem?_getD, this]
          simp [e])
      have e1 : wrap64 ((acc.length : Int) + 1) = ((acc ++ [x]).length : Int) := by rw [wrap64_id (by omega) (by omega)]; simp
      rw [e1]; exact this
theorem spec_l4Span_ev (a : Config) (l : List Int) (hok : nodesB a l = true) (hl : l.length ≤ 1048576) : Ev (fun k => spec_l4Span.f k a l) (spanOf a l) := by
  simp only [nodesB, Bool.and_eq_true] at hok
  obtain ⟨h1, h2, _, _, h5⟩ := cfgB_len hok.1
  simp only [spec_l4Span.f]
  refine Ev.pos (by simp [lim_eq]) ?_
  have := spec_l4Span_l a l h5 hl (fun i hi => by have := ascB_mem hok.2 hi; omega) l.length 0 (List.replicate 8 false) [] (by omega) (by simp) (by simp) (by
    intro x h0 h7
    rw [List.getD_eq_getElem?_getD, List.getElem?_replicate, if_pos (by omega)]
    rfl)
  rw [List.drop_zero] at this
  exact this
theorem nodup_len {l m : List Int} (h : l.Nodup) (hs : ∀ x ∈ l, x ∈ m) : l.length ≤ m.length := by
  induction l generalizing m with
  | nil => exact Nat.zero_le _
  | cons x l ih =>
    rw [List.nodup_cons] at h
    have hx := hs x List.mem_cons_self
    have := ih (m := m.erase x) h.2 fun y hy => by
      have hne : y ≠ x := fun e => h.1 (e ▸ hy)
      exact (List.mem_erase_of_ne hne).2 (hs y (List.mem_cons_of_mem _ hy))
    rw [List.length_erase_of_mem hx] at this
    have hp := List.length_pos_of_mem hx
    rw [List.length_cons]; omega
theorem domsOf_nodup (a : Config) : ∀ (l acc : List Int), acc.Nodup → (domsOf a l acc).Nodup := by
  intro l
  induction l with
  | nil => intro acc h; exact h
  | cons n l ih =>
    intro acc h
    unfold domsOf
    refine ih _ ?_
    split
    · exact h
    · rename_i hc
      rw [List.contains_iff_mem] at hc
      refine List.nodup_append.2 ⟨h, by simp, fun x hx y hy => ?_⟩
      rw [List.mem_singleton] at hy
      intro e
      exact hc (hy ▸ e ▸ hx)
theorem domsOf_mem (a : Config) : ∀ (l acc : List Int) (x : Int), x ∈ domsOf a l acc ↔ x ∈ acc ∨ ∃ n ∈ l, a.1.getD n.toNat 0 = x := by
  intro l
  induction l with
  | nil => intro acc x; simp [domsOf]
  | cons n l ih =>
    intro acc x
    unfold domsOf
    rw [ih]
    split
    · rename_i hc
      rw [List.contains_iff_mem] at hc
      constructor
      · rintro (h | ⟨m, h1, h2⟩)
        · exact .inl h
        · exact .inr ⟨m, List.mem_cons_of_mem _ h1, h2⟩
      · rintro (h | ⟨m, h1, h2⟩)
        · exact .inl h
        · rcases List.mem_cons.1 h1 with rfl | h1
          · exact .inl (h2 ▸ hc)
          · exact .inr ⟨m, h1, h2⟩
    · constructor
      · rintro (h | ⟨m, h1, h2⟩)
        · rcases List.mem_append.1 h with h | h
          · exact .inl h
          · rw [List.mem_singleton] at h
            exact .inr ⟨n, List.mem_cons_self, h.symm⟩
        · exact .inr ⟨m, List.mem_cons_of_mem _ h1, h2⟩
      · rintro (h | ⟨m, h1, h2⟩)
        · exact .inl (List.mem_append_left _ h)
        · rcases List.mem_cons.1 h1 with rfl | h1
          · exact .inl (List.mem_append_right _ (List.mem_singleton.2 h2.symm))
          · exact .inr ⟨m, h1, h2⟩
theorem spanOf_mono (a : Config) {l m : List Int} (h : ∀ x ∈ l, x ∈ m) : spanOf a l ≤ spanOf a m := by
  unfold spanOf
  have := nodup_len (domsOf_nodup a l [] List.nodup_nil) (m := domsOf a m []) fun x hx => by
    rw [domsOf_mem] at hx ⊢
    rcases hx with hx | ⟨n, h1, h2⟩
    · exact .inl hx
    · exact .inr ⟨n, h n h1, h2⟩
  omega

noncomputable def holdsB (a : Config) (l : List Int) : Bool := nodesB a l && decide (a.2.1 ≤ spanOf a l)
theorem spec_Holds_ev (a : Config) (l : List Int) (ha : a.1.length ≤ 1048576) (hl : l.length ≤ 1048576) : Ev (fun k => spec_Holds.f k a l) (holdsB a l) := by
  simp only [spec_Holds.f, holdsB]
  exact Ev.bind (spec_NodesOk_ev a l ha hl) (Ev.and fun h => Ev.bind (spec_l4Span_ev a l h hl) Ev.ret)
theorem holdsB_mono {a : Config} {l m : List Int} (hm : nodesB a m = true) (h : ∀ x ∈ l, x ∈ m) (hl : holdsB a l = true) : holdsB a m = true := by
  unfold holdsB at *
  rw [hm, Bool.true_and, decide_eq_true_eq]
  have := spanOf_mono a h
  simp only [Bool.and_eq_true, decide_eq_true_eq] at hl
  omega

theorem spec_l7DrawSet_l (a : Config) (ha : a.1.length ≤ 9) : ∀ (m i : Nat) (l : List Int) (c : l1Cur), i + m = a.1.length → l.length ≤ 12 + i → Cu c →
    Evp (fun k => spec_l7DrawSet.p7 k l (i : Int) a c) (fun r => r.1.length ≤ 24 ∧ Cu r.2) := by
  intro m
  induction m with
  | zero =>
    intro i l c hi hl hc
    refine Evp.succ ?_
    simp only [spec_l7DrawSet.p7]
    exact Evp.neg (by omega) (Evp.ret ⟨by show l.length ≤ 24; omega, hc⟩)
  | succ m ih =>
    intro i l c hi hl hc
    refine Evp.succ ?_
    simp only [spec_l7DrawSet.p7]
    refine Evp.pos (by omega) (Evp.bindv (spec_Holds_ev a l (by omega) (by omega)) (Evp.ite (fun _ => Evp.ret ⟨by show l.length ≤ 24; omega, hc⟩) (fun _ => Evp.bind (spec_l4Put_d l _ (by omega)) fun s hs => ?_)))
    rw [wrap_up (i := i) (n := i + 1) (by omega) (by omega)]
    exact ih (i + 1) s c (by omega) (by omega) hc
theorem spec_l7DrawSet_d (c : l1Cur) (a : Config) (h : Cu c) (ha : a.1.length ≤ 9) : Evp (fun k => spec_l7DrawSet.f k c a) (fun r => r.1.length ≤ 24 ∧ Cu r.2) := by
  simp only [spec_l7DrawSet.f]
  exact Evp.bind (spec_l4DrawNodes_d c a h ha) fun r hr => spec_l7DrawSet_l a ha a.1.length 0 r.1 r.2 (by omega) (by omega) hr.2

/-- A place: its epoch, its offset. -/
def placeOk (x : Int) : Bool := decide (0 < x) && (inB (x / 4294967296) 1 30 && inB (x % 4294967296) 1 60)
def epochOf (x : Int) : Int := if placeOk x = true then x / 4294967296 else 0
def offOf (x : Int) : Int := if placeOk x = true then x % 4294967296 else 0
theorem tdiv_pos {x : Int} (h : 0 ≤ x) : Int.tdiv x 4294967296 = x / 4294967296 := Int.tdiv_eq_ediv_of_nonneg h
theorem tmod_pos {x : Int} (h : 0 ≤ x) : Int.tmod x 4294967296 = x % 4294967296 := Int.tmod_eq_emod_of_nonneg h
theorem tdiv_neg' {x : Int} (h : x ≤ 0) : Int.tdiv x 4294967296 = -((-x) / 4294967296) := by
  have h1 : Int.tdiv (-x) 4294967296 = (-x) / 4294967296 := Int.tdiv_eq_ediv_of_nonneg (by omega)
  have h2 := Int.neg_tdiv (-x) 4294967296
  rw [Int.neg_neg] at h2
  rw [h2, h1]
theorem placeOk_pos {x : Int} (h : placeOk x = true) : 0 < x ∧ (1 ≤ x / 4294967296 ∧ x / 4294967296 ≤ 30) ∧ (1 ≤ x % 4294967296 ∧ x % 4294967296 ≤ 60) := by
  simpa only [placeOk, Bool.and_eq_true, inB_true, decide_eq_true_eq] using h
theorem epochOf_pos {x : Int} (h : placeOk x = true) : epochOf x = x / 4294967296 ∧ 1 ≤ epochOf x ∧ epochOf x ≤ 30 := by
  have h' := placeOk_pos h
  unfold epochOf
  rw [if_pos h]
  omega
theorem spec_PlaceOk_is (x : Int) (hx : InR x) : spec_PlaceOk.f x = some (placeOk x) := by
  have h2 := hx.2
  simp only [spec_PlaceOk.f, placeOk, spec_l1In_is]
  by_cases h : 0 < x
  · rw [if_pos h, tdiv_pos (by omega), tmod_pos (by omega), wrap64_id (by omega) (by omega)]
    cases inB (x / 4294967296) 1 30 <;> simp [h]
  · rw [if_neg h]
    simp [h]

theorem spec_EpochOf_is (x : Int) (hx : InR x) : spec_EpochOf.f x = some (epochOf x) := by
  have h2 := hx.2
  simp only [spec_EpochOf.f, spec_PlaceOk_is x hx, Option.bind_some, epochOf]
  by_cases h : placeOk x = true
  · have := placeOk_pos h
    rw [if_pos h, if_pos h, tdiv_pos (by omega), wrap64_id (by omega) (by omega)]
  · rw [if_neg h, if_neg h]

/-- An era that is right by itself; one of a register; what is given up. -/
noncomputable def zEra : Era := (([] : List Int), (false, ((0 : Int), ())))
noncomputable def eraB (a : Config) (e : Era) : Bool := holdsB a e.1 && (inB e.2.2.1 0 60 && (e.2.1 || decide (e.2.2.1 = 0)))
noncomputable def eraAt (a : Config) (l : List Era) (i : Nat) : Bool := eraB a (l.getD i zEra) && (!(l.getD i zEra).2.1 || (!decide (i = l.length - 1) && (decide (i = 0) || (l.getD (i - 1) zEra).2.1)))
noncomputable def erasB (a : Config) (l : List Era) : Bool := (List.range' 0 l.length).all (eraAt a l)
noncomputable def trimB (n : Nat) (t : Int) : Bool := decide (t = 0) || inB (epochOf t) 1 n
noncomputable def regB (a : Config) (r : Register) : Bool := cfgB a && (decide (((r.1.length : Nat) : Int) ≤ 30) && (trimB r.1.length r.2.1 && erasB a r.1))
theorem trimB_is (n : Nat) (t : Int) : trimB n t = (decide (t = 0) || (placeOk t && !decide ((n : Int) < epochOf t))) := by
  unfold trimB
  by_cases h : placeOk t = true
  · obtain ⟨_, h1, h2⟩ := epochOf_pos h
    rw [h]
    by_cases h3 : (n : Int) < epochOf t
    · rw [decide_eq_true h3, show inB (epochOf t) 1 n = false by rw [Bool.eq_false_iff]; intro he; rw [inB_true] at he; omega]
      simp
    · rw [decide_eq_false h3, show inB (epochOf t) 1 n = true by rw [inB_true]; omega]
      simp
  · have h0 : epochOf t = 0 := by unfold epochOf; rw [if_neg h]
    rw [h0, show inB 0 1 n = false by rw [Bool.eq_false_iff]; intro he; rw [inB_true] at he; omega]
    cases hp : placeOk t
    · simp
    · exact absurd hp h
theorem spec_RegOk_l (a : Config) (r : Register) (ha : a.1.length ≤ 1048576) (hl : r.1.length ≤ 1048576) (he : ∀ i, i < r.1.length → (r.1.getD i zEra).1.length ≤ 1048576) : Ev (fun k => spec_RegOk.p11 k ((r.1.length : Nat) : Int) ((0 : Nat) : Int) a r) (erasB a r.1) := by
  have h := all_loop (n := r.1.length) (p := fun k i => spec_RegOk.p11 k ((r.1.length : Nat) : Int) i a r) (q := eraAt a r.1) (zb := true) (fun i hi b hb => by
    simp only [spec_RegOk.p11, spec_l1In_is, Int.toNat_natCast]
    have hz := he i hi
    have hw : wrap64 ((i : Int) + 1) = ((i + 1 : Nat) : Int) := wrap_up hi (by omega)
    unfold eraAt eraB
    change Ev (fun k => if (i : Int) < ((r.1.length : Nat) : Int) then _ else _) _
    refine Ev.pos (by omega) (Ev.pos (by omega) (Ev.bind (spec_Holds_ev a _ ha hz) ?_))
    rw [Bool.and_assoc, Bool.and_assoc, Bool.and_assoc]
    change Ev (fun k => if holdsB a (r.1.getD i zEra).1 = true then _ else some false) _
    refine Ev.and fun _ => Ev.bindc rfl (Ev.and fun _ => ?_)
    -- behind the checks of the era itself
    have tail : ∀ (p q u v w x : Bool) (z : Int), Ev (fun k => spec_RegOk.p20 k ((r.1.length : Nat) : Int) (i : Int) z p q u v w x a r (r.1.getD i zEra)) ((!(r.1.getD i zEra).2.1 || (!decide (i = r.1.length - 1) && (decide (i = 0) || (r.1.getD (i - 1) zEra).2.1))) && b) := by
      intro p q u v w x z
      refine Ev.succ ?_
      simp only [spec_RegOk.p20, hw]
      by_cases hc : (r.1.getD i zEra).2.1 = true
      · refine Ev.pos hc ?_
        have e1 : wrap64 (((r.1.length : Nat) : Int) - 1) = ((r.1.length - 1 : Nat) : Int) := by rw [wrap64_id (by omega) (by omega)]; omega
        rw [e1, hc, Bool.not_true, Bool.false_or, Bool.and_assoc]
        by_cases hq : i = r.1.length - 1
        · rw [decide_eq_true hq]
          exact Ev.pos (by omega) Ev.ret
        · rw [decide_eq_false hq]
          refine Ev.neg (by omega) ?_
          by_cases h0 : i = 0
          · subst h0
            exact (Ev.neg (by omega) hb).eq (by rfl)
          · have e2 : wrap64 ((i : Int) - 1) = ((i - 1 : Nat) : Int) := by rw [wrap64_id (by omega) (by omega)]; omega
            rw [e2, decide_eq_false h0]
            refine Ev.pos (by omega) (Ev.pos (by omega) ?_)
            exact (Ev.and fun _ => hb).eq (by rfl)
      · refine (Ev.neg hc hb).eq ?_
        simp only [Bool.not_eq_true] at hc
        rw [hc]; rfl
    by_cases hc : (r.1.getD i zEra).2.1 = true
    · exact (Ev.pos hc (tail _ _ _ _ _ _ _)).eq (by rw [hc]; rfl)
    · refine (Ev.neg hc (Ev.andc (b := (!(r.1.getD i zEra).2.1 || (!decide (i = r.1.length - 1) && (decide (i = 0) || (r.1.getD (i - 1) zEra).2.1))) && b) fun hz => tail _ _ _ _ _ _ _)).eq ?_
      simp only [Bool.not_eq_true] at hc
      rw [hc]; rfl) (by
    simp only [spec_RegOk.p11]
    exact Ev.neg (by omega) Ev.ret) r.1.length 0 (by omega)
  exact h.eq (by unfold erasB; rw [Bool.and_true])
theorem spec_RegOk_ev (a : Config) (r : Register) (ht : InR r.2.1) (ha : a.1.length ≤ 1048576) (hl : r.1.length ≤ 1048576) (he : ∀ i, i < r.1.length → (r.1.getD i zEra).1.length ≤ 1048576) : Ev (fun k => spec_RegOk.f k a r) (regB a r) := by
  have hp8 : Ev (fun k => spec_RegOk.p8 k ((r.1.length : Nat) : Int) a r) (erasB a r.1) := Ev.succ (Ev.cg (spec_RegOk_l a r ha hl he) fun k => rfl)
  simp only [spec_RegOk.f, regB, spec_PlaceOk_is _ ht, spec_EpochOf_is _ ht, Option.bind_some]
  refine Ev.bind (spec_ConfigOk_ev a ha) (Ev.and fun _ => ?_)
  by_cases h30 : (30 : Int) < ((r.1.length : Nat) : Int)
  · refine (Ev.pos h30 Ev.ret).eq ?_
    rw [decide_eq_false (by omega)]; rfl
  · refine Ev.neg h30 ?_
    rw [decide_eq_true (by omega), Bool.true_and, trimB_is]
    by_cases h0 : r.2.1 = 0
    · exact (Ev.pos h0 hp8).eq (by rw [decide_eq_true h0]; rfl)
    · refine Ev.neg h0 ?_
      rw [decide_eq_false h0, Bool.false_or, Bool.and_assoc]
      exact Ev.and fun _ => Ev.nand fun _ => hp8

theorem spec_l7Copy_ev (r : Register) (hl : r.1.length ≤ 1048576) (he : ∀ i, i < r.1.length → (r.1.getD i zEra).1.length ≤ 1048576) : Ev (fun k => spec_l7Copy.f k r) r := by
  have h : ∀ (m i : Nat) (z : Register) (acc : List Era), i + m = r.1.length → acc.length = i → Ev (fun k => spec_l7Copy.p7 k (i : Int) r z (acc, (r.2.1, ()))) (acc ++ r.1.drop i, (r.2.1, ())) := by
    intro m
    induction m with
    | zero =>
      intro i z acc hi ha
      refine Ev.succ ?_
      simp only [spec_l7Copy.p7]
      rw [List.drop_eq_nil_of_le (by omega), List.append_nil]
      exact Ev.neg (by omega) Ev.ret
    | succ m ih =>
      intro i z acc hi ha
      have hlt : i < r.1.length := by omega
      have hz := he i hlt
      refine Ev.succ ?_
      simp only [spec_l7Copy.p7, Int.toNat_natCast, List.nil_append]
      change Ev (fun k => if (i : Int) < ((r.1.length : Nat) : Int) then (if (0 : Int) ≤ (i : Int) ∧ (i : Int) < ((r.1.length : Nat) : Int) then (if (((([] : List Int).length : Nat) : Int) + (((r.1.getD i zEra).1.length : Nat) : Int)) ≤ lim then (if ((acc.length : Nat) : Int) + (([r.1.getD i zEra].length : Nat) : Int) ≤ lim then spec_l7Copy.p7 k (wrap64 ((i : Int) + 1)) r z (acc ++ [r.1.getD i zEra], (r.2.1, ())) else none) else none) else none) else some (acc, (r.2.1, ()))) _
      refine Ev.pos (by omega) (Ev.pos (by omega) (Ev.pos (by simp only [lim_eq, List.length_nil]; omega) (Ev.pos (by simp only [lim_eq, List.length_cons, List.length_nil]; omega) ?_)))
      rw [wrap_up hlt (by omega), drop_get (d := zEra) hlt]
      exact (ih (i + 1) z (acc ++ [r.1.getD i zEra]) (by omega) (by rw [List.length_append, ha]; rfl)).eq (by rw [List.append_assoc]; rfl)
  have := h r.1.length 0 (([] : List Era), ((0 : Int), ())) [] (by omega) rfl
  rw [List.drop_zero, List.nil_append] at this
  exact Ev.cg this fun k => rfl

/-- A register with a further epoch. -/
noncomputable def openF (a : Config) (r : Register) (l : List Int) : Register × Int × Bool := if regB a r = true then (if holdsB a l = true then (if ((r.1.length : Nat) : Int) = (30 : Int) then (r, (0 : Int), false) else (((r.1 ++ [(l, (false, ((0 : Int), ())))]), r.2), (((r.1 ++ [(l, (false, ((0 : Int), ())))]).length : Nat) : Int), true)) else (r, (0 : Int), false)) else ((([] : List Era), ((0 : Int), ())), (0 : Int), false)
theorem spec_RegOpen_ev (a : Config) (r : Register) (l : List Int) (hr : InR r.2.1) (ha : a.1.length ≤ 1048576) (hl : r.1.length ≤ 1048576) (he : ∀ i, i < r.1.length → (r.1.getD i zEra).1.length ≤ 1048576) (hls : l.length ≤ 1048576) : Ev (fun k => spec_RegOpen.f k a r l) (openF a r l) := by
  have s1 := spec_RegOk_ev a r hr ha hl he
  have s3 := spec_l7Copy_ev r hl he
  have s6 := spec_Holds_ev a l ha hls
  simp only [spec_RegOpen.f, List.nil_append, openF]
  refine Ev.bind s1 (Ev.ite (fun hb => Ev.bind s3 (Ev.bind s6 (Ev.ite (fun hh => Ev.ite (fun _ => Ev.ret) (fun _ => Ev.pos ?_ (Ev.pos ?_ Ev.ret))) (fun _ => Ev.ret)))) (fun _ => Ev.ret))
  · simp only [lim_eq, List.length_nil]; omega
  · simp only [lim_eq, List.length_cons, List.length_nil]; omega

/-- The first epoch that is open, counted from one. -/
noncomputable def fO : List Era → Int → Int
  | [], _ => 0
  | e :: l, i => if e.2.1 = true then fO l (i + 1) else i + 1
theorem fO_or : ∀ (l : List Era) (i : Int), 0 ≤ i → fO l i = 0 ∨ (i + 1 ≤ fO l i ∧ fO l i ≤ i + l.length) := by
  intro l
  induction l with
  | nil => intro i _; exact .inl rfl
  | cons e l ih =>
    intro i hi
    simp only [fO, List.length_cons]
    split
    · rcases ih (i + 1) (by omega) with h | h
      · exact .inl h
      · exact .inr ⟨by omega, by omega⟩
    · exact .inr ⟨by omega, by omega⟩
theorem spec_FirstOpen_l (r : Register) (hl : r.1.length ≤ 1048576) : ∀ (m i : Nat), i + m = r.1.length → Ev (fun k => spec_FirstOpen.p5 k (i : Int) r) (fO (r.1.drop i) i) := by
  intro m
  induction m with
  | zero =>
    intro i hi
    refine Ev.succ ?_
    simp only [spec_FirstOpen.p5]
    rw [List.drop_eq_nil_of_le (by omega)]
    exact Ev.neg (by omega) Ev.ret
  | succ m ih =>
    intro i hi
    refine Ev.succ ?_
    simp only [spec_FirstOpen.p5, Int.toNat_natCast]
    rw [drop_get (d := zEra) (i := i) (l := r.1) (by omega), wrap_up (i := i) (n := r.1.length) (by omega) (by omega)]
    exact Ev.pos (by omega) (Ev.pos (by omega) (Ev.ite (fun _ => ih (i + 1) (by omega)) (fun _ => Ev.ret)))
theorem spec_FirstOpen_ev (r : Register) (hl : r.1.length ≤ 1048576) : Ev (fun k => spec_FirstOpen.f k r) (fO r.1 0) := spec_FirstOpen_l r hl r.1.length 0 (by omega)

/-- A register of at most n epochs, with small sets. -/
def RG (n : Nat) (r : Register) : Prop := r.1.length ≤ n ∧ (∀ e ∈ r.1, e.1.length ≤ 64) ∧ InR r.2.1
theorem RG.at {n : Nat} {r : Register} (h : RG n r) : ∀ i, i < r.1.length → (r.1.getD i zEra).1.length ≤ 1048576 := fun i hi => by
  have := h.2.1 _ (getD_mem (d := zEra) hi); omega
theorem RG.mono {n m : Nat} {r : Register} (h : RG n r) (hm : n ≤ m) : RG m r := ⟨by have := h.1; omega, h.2⟩
theorem RG.nil {n : Nat} : RG n (([] : List Era), ((0 : Int), ())) := ⟨by simp, fun e he => (by cases he), by unfold InR; decide⟩
theorem RG.set {n : Nat} {l : List Era} {t : Int} {i : Nat} {e : Era} (h : RG n (l, (t, ()))) (he : e.1.length ≤ 64) : RG n (l.set i e, (t, ())) := by
  refine ⟨by show (l.set i e).length ≤ n; rw [List.length_set]; exact h.1, fun x hx => ?_, h.2.2⟩
  rcases List.mem_or_eq_of_mem_set hx with h' | rfl
  · exact h.2.1 x h'
  · exact he
theorem RG.get {n : Nat} {r : Register} (h : RG n r) (i : Nat) : (r.1.getD i zEra).1.length ≤ 64 := by
  by_cases hi : i < r.1.length
  · exact h.2.1 _ (getD_mem hi)
  · rw [List.getD_eq_getElem?_getD, List.getElem?_eq_none (by omega)]; decide
theorem spec_RegClose_d {n : Nat} (a : Config) (r : Register) (e last : Int) (ha : a.1.length ≤ 1048576) (hn : n ≤ 1048576) (h : RG n r) : Evp (fun k => spec_RegClose.f k a r e last) (fun q => RG n q.1) := by
  have hl := h.1
  simp only [spec_RegClose.f]
  refine Evp.bindv (spec_RegOk_ev a r h.2.2 ha (by omega) h.at) (Evp.ite (fun _ => Evp.bindv (spec_l7Copy_ev r (by omega) h.at) (Evp.bindv (spec_FirstOpen_ev r (by omega)) ?_)) (fun _ => Evp.ret RG.nil))
  refine Evp.ite (fun _ => Evp.ite (fun _ => Evp.ret h) (fun h0 => Evp.ite (fun _ => Evp.ret h) (fun _ => Evp.bindc (P := fun _ => True) ⟨_, spec_l1In_is _ _ _, trivial⟩ fun b _ => Evp.ite (fun _ => ?_) (fun _ => Evp.ret h)))) (fun _ => Evp.ret h)
  have hf := fO_or r.1 0 (by omega)
  rw [wrap64_id (x := fO r.1 0 - 1) (by omega) (by omega)]
  refine Evp.pos (by omega) (Evp.pos (by rw [List.length_set]; omega) (Evp.ret ?_))
  have h1 : RG n ((r.1.set (fO r.1 0 - 1).toNat ((r.1.getD (fO r.1 0 - 1).toNat zEra).1, (true, (r.1.getD (fO r.1 0 - 1).toNat zEra).2.2))), (r.2.1, ())) := RG.set h (h.get _)
  exact RG.set h1 (h1.get _)
/-- An era that is closed; a register in which the first epoch that is open is closed. -/
noncomputable def closE (e : Era) (last : Int) : Era := (e.1, (true, (last, e.2.2.2)))
noncomputable def closR (r : Register) (first last : Int) : Register := (r.1.set (first - 1).toNat (closE (r.1.getD (first - 1).toNat zEra) last), r.2)
noncomputable def closF (a : Config) (r : Register) (e last : Int) : Register × Bool :=
  if regB a r = true then (if e = ((r.1.length : Nat) : Int) ∧ ¬ fO r.1 0 = 0 ∧ ¬ e = fO r.1 0 ∧ inB last 0 60 = true then (closR r (fO r.1 0) last, true) else (r, false)) else ((([] : List Era), ((0 : Int), ())), false)
theorem clos_set {l : List Era} {i : Nat} (hi : i < l.length) (last : Int) :
    ((l.set i ((l.getD i zEra).1, (true, (l.getD i zEra).2.2))).set i (((l.set i ((l.getD i zEra).1, (true, (l.getD i zEra).2.2))).getD i zEra).1, (((l.set i ((l.getD i zEra).1, (true, (l.getD i zEra).2.2))).getD i zEra).2.1, (last, ((l.set i ((l.getD i zEra).1, (true, (l.getD i zEra).2.2))).getD i zEra).2.2.2)))) = l.set i (closE (l.getD i zEra) last) := by
  have : (l.set i ((l.getD i zEra).1, (true, (l.getD i zEra).2.2))).getD i zEra = ((l.getD i zEra).1, (true, (l.getD i zEra).2.2)) := by
    rw [List.getD_eq_getElem?_getD, List.getElem?_set, if_pos rfl, if_pos hi]; rfl
  rw [this, List.set_set]; rfl
theorem spec_RegClose_ev (a : Config) (r : Register) (e last : Int) (ht : InR r.2.1) (ha : a.1.length ≤ 1048576) (hl : r.1.length ≤ 1048576) (he : ∀ i, i < r.1.length → (r.1.getD i zEra).1.length ≤ 1048576) : Ev (fun k => spec_RegClose.f k a r e last) (closF a r e last) := by
  simp only [spec_RegClose.f, spec_l1In_is, Option.bind_some]
  unfold closF
  refine Ev.bind (spec_RegOk_ev a r ht ha hl he) (Ev.ite (fun _ => Ev.bind (spec_l7Copy_ev r hl he) (Ev.bind (spec_FirstOpen_ev r hl) ?_)) (fun _ => Ev.ret))
  by_cases h1 : e = ((r.1.length : Nat) : Int)
  case neg => exact (Ev.neg h1 Ev.ret).eq (if_neg (fun h => h1 h.1)).symm
  refine Ev.pos h1 ?_
  by_cases h2 : fO r.1 0 = 0
  · exact (Ev.pos h2 Ev.ret).eq (if_neg (fun h => h.2.1 h2)).symm
  refine Ev.neg h2 ?_
  by_cases h3 : e = fO r.1 0
  · exact (Ev.pos h3 Ev.ret).eq (if_neg (fun h => h.2.2.1 h3)).symm
  refine Ev.neg h3 ?_
  by_cases h4 : inB last 0 60 = true
  case neg => exact (Ev.neg h4 Ev.ret).eq (if_neg (fun h => h4 h.2.2.2)).symm
  refine Ev.eq (v := (closR r (fO r.1 0) last, true)) ?_ (if_pos ⟨h1, h2, h3, h4⟩).symm
  have hf := fO_or r.1 0 (by omega)
  rw [wrap64_id (x := fO r.1 0 - 1) (by omega) (by omega)]
  refine Ev.pos h4 (Ev.pos (by omega) (Ev.pos (by rw [List.length_set]; omega) (Ev.ret.eq ?_)))
  exact congrArg (fun q => ((q, r.2), true)) (clos_set (by omega) last)

theorem InR_wrap (x : Int) : InR (wrap64 x) := by
  have h : wrap64 x = (if (true && decide (x % 2 ^ 64 ≥ 2 ^ (64 - 1))) = true then x % 2 ^ 64 - 2 ^ 64 else x % 2 ^ 64) := rfl
  rw [h]
  have h1 : 0 ≤ x % 2 ^ 64 := Int.emod_nonneg _ (by decide)
  have h2 : x % 2 ^ 64 < 2 ^ 64 := Int.emod_lt_of_pos _ (by decide)
  unfold InR
  split
  · rename_i h; simp at h; omega
  · rename_i h; simp at h; omega
theorem spec_l1Place_is (a b : Int) : Op (spec_l1Place.f a b) InR := ⟨_, rfl, InR_wrap _⟩

/-- A register that is trimmed. -/
noncomputable def trimF (a : Config) (r : Register) (t : Int) : Register × Bool := if regB a r = true then (if inB (epochOf t) 1 ((r.1.length : Nat) : Int) = true then ((r.1, ((max r.2.1 t), r.2.2)), true) else (r, false)) else ((([] : List Era), ((0 : Int), ())), false)
theorem spec_RegTrim_ev (a : Config) (r : Register) (t : Int) (hr : InR r.2.1) (ht : InR t) (ha : a.1.length ≤ 1048576) (hl : r.1.length ≤ 1048576) (he : ∀ i, i < r.1.length → (r.1.getD i zEra).1.length ≤ 1048576) : Ev (fun k => spec_RegTrim.f k a r t) (trimF a r t) := by
  have s1 := spec_RegOk_ev a r hr ha hl he
  have s3 := spec_l7Copy_ev r hl he
  simp only [spec_RegTrim.f, spec_PlaceOk_is t ht, spec_EpochOf_is t ht, Option.bind_some, spec_l1Max.f, trimF]
  refine Ev.bind s1 (Ev.ite (fun hb => Ev.bind s3 ?_) (fun _ => Ev.ret))
  by_cases hp : placeOk t = true
  · obtain ⟨_, p1, p2⟩ := epochOf_pos hp
    refine Ev.pos hp ?_
    by_cases hlt : ((r.1.length : Nat) : Int) < epochOf t
    · rw [if_neg (show ¬ inB (epochOf t) 1 ((r.1.length : Nat) : Int) = true by rw [inB_true]; omega)]
      exact Ev.pos hlt Ev.ret
    · rw [if_pos (show inB (epochOf t) 1 ((r.1.length : Nat) : Int) = true by rw [inB_true]; omega)]
      refine Ev.neg hlt (Ev.of ?_)
      by_cases hm : t < r.2.1
      · rw [if_pos hm, Option.bind_some, Int.max_eq_left (by omega)]
      · rw [if_neg hm, Option.bind_some, Int.max_eq_right (by omega)]
  · have h0 : epochOf t = 0 := by unfold epochOf; rw [if_neg hp]
    rw [if_neg (show ¬ inB (epochOf t) 1 ((r.1.length : Nat) : Int) = true by rw [inB_true, h0]; omega)]
    exact Ev.neg hp Ev.ret

theorem spec_l7DrawRight_l (a : Config) (z : Register) (ha : a.1.length ≤ 9) : ∀ (m i : Nat) (r : Register) (c : l1Cur), i + m = 6 → RG i r → Cu c →
    Evp (fun k => spec_l7DrawRight.p7 k (i : Int) a z r c) (fun q => RG 6 q.1 ∧ Cu q.2) := by
  intro m
  induction m with
  | zero =>
    intro i r c hi hr hc
    refine Evp.succ ?_
    simp only [spec_l7DrawRight.p7]
    refine Evp.bindc (spec_l1Below_d c 7 hc) fun b hb => Evp.neg ?_ (Evp.ret ⟨hr.mono (by omega), hb.2.2.2⟩)
    have := hb.2.1 (by omega); omega
  | succ m ih =>
    intro i r c hi hr hc
    have hl := hr.1
    have go : ∀ (r' : Register) (c' : l1Cur), RG (i + 1) r' → Cu c' → Evp (fun k => spec_l7DrawRight.p7 k (wrap64 ((i : Int) + 1)) a z r' c') (fun q => RG 6 q.1 ∧ Cu q.2) := fun r' c' h1 h2 => by
      rw [wrap_up (i := i) (n := 6) (by omega) (by omega)]
      exact ih (i + 1) r' c' (by omega) h1 h2
    have same : RG (i + 1) r := hr.mono (by omega)
    refine Evp.succ ?_
    simp only [spec_l7DrawRight.p7]
    refine Evp.bindc (spec_l1Below_d c 7 hc) fun b hb => Evp.ite (fun _ => ?_) (fun _ => Evp.ret ⟨hr.mono (by omega), hb.2.2.2⟩)
    refine Evp.bind (spec_l7DrawSet_d b.2 a hb.2.2.2 ha) fun s hs => Evp.bindv (spec_RegOpen_ev a r s.1 hr.2.2 (by omega) (by omega) hr.at (by omega)) (Evp.bindc (spec_l1Below_d _ 4 hs.2) fun t ht => ?_)
    refine Evp.ite (fun _ => Evp.bindc (spec_l1Below_d _ 5 ht.2.2.2) fun u hu => Evp.bind (spec_RegClose_d a r _ _ (by omega) (by omega) hr) fun w hw => Evp.ite (fun _ => go _ _ (hw.mono (by omega)) hu.2.2.2) (fun _ => go _ _ same hu.2.2.2)) (fun _ => Evp.ite (fun _ => ?_) (fun _ => Evp.ite (fun ho => go _ _ ?_ ht.2.2.2) (fun _ => go _ _ same ht.2.2.2)))
    · refine Evp.bindc (spec_l1Below_d _ 2 ht.2.2.2) fun u hu => Evp.bindc (spec_l1Below_d _ 4 hu.2.2.2) fun v hv => Evp.bindc (spec_l1Place_is _ _) fun p hp => Evp.bindv (spec_RegTrim_ev a r p hr.2.2 hp (by omega) (by omega) hr.at) (Evp.ite (fun _ => go _ _ ?_ hv.2.2.2) (fun _ => go _ _ same hv.2.2.2))
      unfold trimF
      split
      · split
        · refine ⟨by show r.1.length ≤ i + 1; omega, hr.2.1, ?_⟩
          have h1 := hr.2.2
          show InR (max r.2.1 p)
          unfold InR at *
          omega
        · exact same
      · exact RG.nil
    · unfold openF
      split
      · split
        · split
          · exact same
          · refine ⟨by show (r.1 ++ [_]).length ≤ i + 1; simp; omega, fun e he => ?_, hr.2.2⟩
            rcases List.mem_append.1 he with h | h
            · exact hr.2.1 e h
            · rw [List.mem_singleton] at h; subst h; show s.1.length ≤ 64; omega
        · exact same
      · exact RG.nil
theorem spec_l7DrawRight_d (c : l1Cur) (a : Config) (h : Cu c) (ha : a.1.length ≤ 9) : Evp (fun k => spec_l7DrawRight.f k c a) (fun q => RG 6 q.1 ∧ Cu q.2) := spec_l7DrawRight_l a _ ha 6 0 _ c (by omega) RG.nil h

theorem spec_l1DrawPlace_d (c : l1Cur) (h : Cu c) : Op (spec_l1DrawPlace.f c) (fun r => InR r.1 ∧ Cu r.2) := by
  unfold spec_l1DrawPlace.f
  refine Op.bind (spec_l1Below_d c 3 h) fun r hr => Op.bind (spec_l1Below_d _ 6 hr.2.2.2) fun s hs => Op.bind (spec_l1Place_is _ _) fun p hp => Op.bind (spec_l1Below_d _ 15 hs.2.2.2) fun t ht => ?_
  refine Op.ite (fun _ => Op.bind (spec_l1PickInt_d _ _ ht.2.2.2 (by decide)) fun u hu => Op.ret ⟨?_, hu.2⟩) (fun _ => Op.ite (fun _ => Op.bind (spec_l1PickInt_d _ _ ht.2.2.2 (by decide)) fun u hu => Op.bind (spec_l1PickInt_d _ _ hu.2 (by decide)) fun v hv => Op.bind (spec_l1Place_is _ _) fun q hq => Op.ret ⟨hq, hv.2⟩) (fun _ => Op.ret ⟨hp, ht.2.2.2⟩))
  have := hu.1
  simp only [List.mem_cons, List.not_mem_nil, or_false] at this
  unfold InR
  rcases this with h | h | h | h | h | h <;> rw [h] <;> decide

theorem spec_l7Draw_l (l : List Int) (hl : l.length ≤ 64) (z : Register) : ∀ (m : Nat) (r : Register) (c : l1Cur), r.1.length + m = 31 → RG 31 r → Cu c →
    Evp (fun k => spec_l7Draw.p35 k l z r c) (fun q => RG 31 q.1 ∧ Cu q.2) := by
  intro m
  induction m with
  | zero =>
    intro r c hi hr hc
    refine Evp.succ ?_
    simp only [spec_l7Draw.p35]
    refine Evp.bindc (spec_l1Below_d c 2 hc) fun b hb => Evp.neg ?_ (Evp.ret ⟨hr, hb.2.2.2⟩)
    have h1 := hb.2.1 (by omega); have h0 := hb.1
    rw [wrap64_id (by omega) (by omega)]; omega
  | succ m ih =>
    intro r c hi hr hc
    refine Evp.succ ?_
    simp only [spec_l7Draw.p35]
    refine Evp.bindc (spec_l1Below_d c 2 hc) fun b hb => Evp.ite (fun _ => Evp.pos (by simp only [lim_eq, List.length_cons, List.length_nil]; omega) ?_) (fun _ => Evp.ret ⟨hr, hb.2.2.2⟩)
    refine ih _ b.2 (by show (r.1 ++ [_]).length + m = 31; simp; omega) ⟨by show (r.1 ++ [_]).length ≤ 31; simp; omega, fun e he => ?_, hr.2.2⟩ hb.2.2.2
    rcases List.mem_append.1 he with h | h
    · exact hr.2.1 e h
    · rw [List.mem_singleton] at h; subst h; exact hl
theorem spec_l7Draw_d (c : l1Cur) (a : Config) (h : Cu c) (ha : a.1.length ≤ 9) : Evp (fun k => spec_l7Draw.f k c a) (fun q => RG 31 q.1 ∧ Cu q.2) := by
  simp only [spec_l7Draw.f]
  refine Evp.bind (spec_l7DrawRight_d c a h ha) fun r hr => Evp.bindc (spec_l1Below_d _ 25 hr.2) fun b hb => ?_
  have hg := hr.1
  have hg31 : RG 31 r.1 := hg.mono (by omega)
  have hl := hg.1
  refine Evp.ite (fun _ => Evp.bindc (spec_l1DrawPlace_d _ hb.2.2.2) fun p hp => Evp.ret ⟨⟨by show r.1.1.length ≤ 31; omega, hg.2.1, hp.1⟩, hp.2⟩) fun _ => ?_
  refine Evp.ite (fun _ => Evp.ite (fun h0 => ?_) (fun _ => Evp.ret ⟨hg31, hb.2.2.2⟩)) fun _ => ?_
  · rw [wrap64_id (by omega) (by omega)]
    exact Evp.pos (by omega) (Evp.ret ⟨RG.set hg31 (hg.get _), hb.2.2.2⟩)
  refine Evp.ite (fun _ => Evp.ite (fun h0 => Evp.bindc (spec_l1PickInt_d _ _ hb.2.2.2 (by decide)) fun p hp => Evp.pos (by omega) (Evp.ret ⟨RG.set hg31 (hg.get _), hp.2⟩)) (fun _ => Evp.ret ⟨hg31, hb.2.2.2⟩)) fun _ => ?_
  refine Evp.ite (fun _ => Evp.ite (fun h0 => Evp.bind (spec_l4DrawNodes_d _ a hb.2.2.2 ha) fun p hp => Evp.pos (by omega) (Evp.ret ⟨RG.set hg31 (by show p.1.length ≤ 64; omega), hp.2⟩)) (fun _ => Evp.ret ⟨hg31, hb.2.2.2⟩)) fun _ => ?_
  refine Evp.ite (fun _ => Evp.bind (spec_l7DrawSet_d _ a hb.2.2.2 ha) fun p hp => ?_) (fun _ => Evp.ret ⟨hg31, hb.2.2.2⟩)
  exact spec_l7Draw_l p.1 (by omega) _ (31 - r.1.1.length) r.1 p.2 (by omega) hg31 hp.2

theorem spec_DrawRegClose_d (b : List Int) (hb : b.length ≤ 1048576) : Evp (fun k => spec_DrawRegClose.f k b) (fun r => r.1.1.length ≤ 9 ∧ RG 31 r.2.1) := by
  have fin : ∀ (x : Int) (z1 : Config) (z2 : Register) (a : Config) (r : Register) (c : l1Cur), a.1.length ≤ 9 → RG 31 r → Cu c → Evp (fun k => spec_DrawRegClose.p14 k x z1 z2 a r c) (fun r => r.1.1.length ≤ 9 ∧ RG 31 r.2.1) := fun x z1 z2 a r c ha hr hc => by
    refine Evp.succ ?_
    simp only [spec_DrawRegClose.p14]
    exact Evp.bindc (spec_l1PickInt_d _ _ hc (by simp)) fun p hp => Evp.ret ⟨ha, hr⟩
  simp only [spec_DrawRegClose.f]
  exact Evp.bind (spec_l1New_d b hb) fun c hc => Evp.bind (spec_l4Draw_d c hc) fun a ha => Evp.bind (spec_l7Draw_d _ _ ha.2 ha.1) fun r hr => Evp.bindc (spec_l1Once_d _ 5 hr.2) fun o ho => Evp.ite (fun _ => Evp.bindc (spec_l1Below_d _ 5 ho) fun p hp => fin _ _ _ _ _ _ ha.1 hr.1 hp.2.2.2) (fun _ => fin _ _ _ _ _ _ ha.1 hr.1 ho)

theorem laws_big_is (b : List Int) : laws_big.f b = some (decide ((1048576 : Int) < ((b.length : Nat) : Int))) := rfl

theorem impl_within_is (x a b : Int) : impl_within.f x a b = some (inB x a b) := ite_inB x a b

theorem impl_ConfigOk_ev (a : Config) (hl : a.1.length ≤ 1048576) : Ev (fun k => impl_ConfigOk.f k a) (cfgB a) := by
  have h := all_loop (n := a.1.length) (p := fun k i => impl_ConfigOk.p5 k a.1 ((a.1.length : Nat) : Int) i a) (q := fun i => inB (a.1.getD i 0) 0 7) (zb := inB ((a.1.length : Nat) : Int) 1 8 && (inB a.2.1 1 4 && true)) (fun i hi b hb => by
    simp only [impl_ConfigOk.p5, impl_within_is]
    refine Ev.pos (by omega) (Ev.pos (by omega) (Ev.bindc rfl (Ev.and fun _ => ?_)))
    rw [wrap_up hi (by omega)]; exact hb) (by
    simp only [impl_ConfigOk.p5, impl_within_is]
    refine Ev.neg (by omega) (Ev.bindc rfl (Ev.and fun _ => Ev.bindc rfl (Ev.ret.eq (by simp))))) a.1.length 0 (by omega)
  refine (Ev.cg h fun k => rfl).eq ?_
  unfold cfgB
  cases inB ((a.1.length : Nat) : Int) 1 8 <;> cases inB a.2.1 1 4 <;> simp

theorem impl_ascends_ev (l : List Int) (hi : Int) (hl : l.length ≤ 1048576) : Ev (fun k => impl_ascends.f k l hi) (ascB l 0 hi) := by
  have h := all_loop (n := l.length) (p := fun k i => impl_ascends.p5 k l hi l ((l.length : Nat) : Int) i) (q := fun i => inB (l.getD i 0) 0 hi && (decide (i = 0) || !decide (l.getD i 0 ≤ l.getD (i - 1) 0))) (zb := true) (fun i hi' b hb => by
    simp only [impl_ascends.p5, impl_within_is]
    refine Ev.pos (by omega) (Ev.pos (by omega) (Ev.bindc rfl ?_))
    rw [Bool.and_assoc]
    refine Ev.and fun _ => ?_
    rw [wrap_up hi' (by omega)]
    by_cases h0 : i = 0
    · subst h0
      exact (Ev.neg (by omega) hb).eq (by simp)
    · have e : wrap64 ((i : Int) - 1) = ((i - 1 : Nat) : Int) := by rw [wrap64_id (by omega) (by omega)]; omega
      rw [e]
      refine Ev.pos (by omega) (Ev.pos (by omega) ?_)
      rw [decide_eq_false h0, Bool.false_or]
      exact Ev.nand fun _ => hb) (by
    simp only [impl_ascends.p5]
    exact Ev.neg (by omega) Ev.ret) l.length 0 (by omega)
  exact (Ev.cg h fun k => rfl).eq (by unfold ascB; rw [Bool.and_true])

theorem impl_NodesOk_ev (a : Config) (l : List Int) (ha : a.1.length ≤ 1048576) (hl : l.length ≤ 1048576) : Ev (fun k => impl_NodesOk.f k a l) (nodesB a l) := by
  simp only [impl_NodesOk.f, nodesB]
  refine Ev.bind (impl_ConfigOk_ev a ha) (Ev.and fun _ => ?_)
  rw [wrap64_id (by omega) (by omega)]
  exact Ev.bind (impl_ascends_ev l _ hl) Ev.ret

theorem slices_Index_l (l : List Int) (x : Int) (hl : l.length ≤ 1048576) : ∀ (m i : Nat), i + m = l.length → ∃ r : Int, Ev (fun k => slices_Index_int_int.p5 k l x ((l.length : Nat) : Int) (i : Int)) r ∧ (decide (0 ≤ r) = (l.drop i).contains x) := by
  intro m
  induction m with
  | zero =>
    intro i h
    refine ⟨-1, Ev.succ ?_, by rw [List.drop_eq_nil_of_le (by omega)]; rfl⟩
    simp only [slices_Index_int_int.p5]
    exact Ev.neg (by omega) Ev.ret
  | succ m ih =>
    intro i h
    have hi : i < l.length := by omega
    rw [drop_get (d := (0 : Int)) hi]
    by_cases hx : x = l.getD i 0
    · refine ⟨i, Ev.succ ?_, by simp [hx]⟩
      simp only [slices_Index_int_int.p5, Int.toNat_natCast]
      exact Ev.pos (by omega) (Ev.pos (by omega) (Ev.pos hx Ev.ret))
    · obtain ⟨r, h1, h2⟩ := ih (i + 1) (by omega)
      refine ⟨r, Ev.succ ?_, by rw [h2, List.contains_cons, beq_eq_false_iff_ne.2 hx, Bool.false_or]⟩
      simp only [slices_Index_int_int.p5, Int.toNat_natCast]
      refine Ev.pos (by omega) (Ev.pos (by omega) (Ev.neg hx ?_))
      rw [wrap_up hi (by omega)]; exact h1

theorem slices_Contains_ev (l : List Int) (x : Int) (hl : l.length ≤ 1048576) : Ev (fun k => slices_Contains_int_int.f k l x) (l.contains x) := by
  obtain ⟨r, h1, h2⟩ := slices_Index_l l x hl l.length 0 (by omega)
  simp only [slices_Contains_int_int.f, slices_Index_int_int.f]
  exact (Ev.bind h1 (Ev.ret (v := decide (0 ≤ r)))).eq (by rw [h2, List.drop_zero])

theorem impl_SpanOf_l (a : Config) (l : List Int) (hl : l.length ≤ 1048576) (hmem : ∀ i, i < l.length → 0 ≤ l.getD i 0 ∧ l.getD i 0 < ((a.1.length : Nat) : Int)) :
    ∀ (m i : Nat) (acc : List Int), i + m = l.length → acc.length ≤ i → Ev (fun k => impl_SpanOf.p11 k acc l ((l.length : Nat) : Int) (i : Int) a) ((domsOf a (l.drop i) acc).length : Int) := by
  intro m
  induction m with
  | zero =>
    intro i acc h ha
    refine Ev.succ ?_
    simp only [impl_SpanOf.p11]
    rw [List.drop_eq_nil_of_le (by omega)]
    exact Ev.neg (by omega) Ev.ret
  | succ m ih =>
    intro i acc h ha
    have hi : i < l.length := by omega
    have hn := hmem i hi
    refine Ev.succ ?_
    simp only [impl_SpanOf.p11, Int.toNat_natCast]
    rw [drop_get (d := (0 : Int)) hi]
    simp only [domsOf]
    generalize hw : a.1.getD (l.getD i 0).toNat 0 = x at *
    refine Ev.pos (by omega) (Ev.pos (by omega) (Ev.pos (by omega) (Ev.bind (slices_Contains_ev acc x (by omega)) ?_)))
    rw [wrap_up hi (by omega)]
    by_cases hc : acc.contains x = true
    · rw [if_pos hc]
      exact Ev.pos hc (ih (i + 1) acc (by omega) (by omega))
    · rw [if_neg hc]
      refine Ev.neg hc (Ev.pos (by omega) (Ev.pos (by simp [lim_eq]; omega) ?_))
      exact ih (i + 1) (acc ++ [x]) (by omega) (by simp; omega)
theorem impl_SpanOf_ev (a : Config) (l : List Int) (ha : a.1.length ≤ 1048576) (hl : l.length ≤ 1048576) : Ev (fun k => impl_SpanOf.f k a l) (if nodesB a l = true then spanOf a l else -1) := by
  simp only [impl_SpanOf.f]
  refine Ev.bind (impl_NodesOk_ev a l ha hl) (Ev.ite (fun h => ?_) fun _ => Ev.ret)
  simp only [nodesB, Bool.and_eq_true] at h
  have := impl_SpanOf_l a l hl (fun i hi => by have := ascB_mem h.2 hi; omega) l.length 0 [] (by omega) (by simp)
  rw [List.drop_zero] at this
  exact this

theorem impl_Holds_ev (a : Config) (l : List Int) (ha : a.1.length ≤ 1048576) (hl : l.length ≤ 1048576) : Ev (fun k => impl_Holds.f k a l) (holdsB a l) := by
  simp only [impl_Holds.f, holdsB]
  refine Ev.bind (impl_NodesOk_ev a l ha hl) (Ev.and fun h => Ev.bind (impl_SpanOf_ev a l ha hl) ?_)
  rw [if_pos h]; exact Ev.ret

theorem impl_eraOk_ev (a : Config) (e : Era) (ha : a.1.length ≤ 1048576) (he : e.1.length ≤ 1048576) : Ev (fun k => impl_eraOk.f k a e) (eraB a e) := by
  simp only [impl_eraOk.f, impl_within_is, eraB]
  refine Ev.bind (impl_Holds_ev a e.1 ha he) (Ev.and fun _ => Ev.bindc rfl (Ev.and fun _ => ?_))
  by_cases hc : e.2.1 = true
  · exact (Ev.pos hc Ev.ret).eq (by rw [hc]; rfl)
  · refine (Ev.neg hc Ev.ret).eq ?_
    simp only [Bool.not_eq_true] at hc
    rw [hc, Bool.false_or]

theorem impl_PlaceOk_is (x : Int) (hx : InR x) : impl_PlaceOk.f x = some (placeOk x) := by
  have h1 := hx.1; have h2 := hx.2
  simp only [impl_PlaceOk.f, placeOk, impl_isEpoch.f, impl_isOff.f, impl_within_is]
  by_cases h : 0 < x
  · rw [tdiv_pos (by omega), tmod_pos (by omega), wrap64_id (by omega) (by omega)]
    cases inB (x / 4294967296) 1 30 <;> simp [h]
  · rw [tdiv_neg' (by omega), wrap64_id (by omega) (by omega), show inB (-(-x / 4294967296)) 1 30 = false by
      rw [Bool.eq_false_iff]
      intro he
      rw [inB_true] at he
      omega]
    simp [h]

theorem impl_EpochOf_is (x : Int) (hx : InR x) : impl_EpochOf.f x = some (epochOf x) := by
  have h2 := hx.2
  simp only [impl_EpochOf.f, impl_PlaceOk_is x hx, Option.bind_some, epochOf]
  by_cases h : placeOk x = true
  · have := placeOk_pos h
    rw [if_pos h, if_pos h, tdiv_pos (by omega), wrap64_id (by omega) (by omega)]
  · rw [if_neg h, if_neg h]

theorem impl_RegOk_ev (a : Config) (r : Register) (ht : InR r.2.1) (ha : a.1.length ≤ 1048576) (hl : r.1.length ≤ 1048576) (he : ∀ i, i < r.1.length → (r.1.getD i zEra).1.length ≤ 1048576) : Ev (fun k => impl_RegOk.f k a r) (regB a r) := by
  have hend : ∀ q : Bool, Ev (fun k => impl_RegOk.p16 k q a r) (cfgB a && (decide (((r.1.length : Nat) : Int) ≤ 30) && q)) := fun q => by
    refine Ev.succ ?_
    simp only [impl_RegOk.p16]
    exact Ev.bind (impl_ConfigOk_ev a ha) (Ev.and fun _ => Ev.andc fun _ => Ev.ret)
  have h := all_loop (n := r.1.length) (p := fun k i => impl_RegOk.p5 k r.1 ((r.1.length : Nat) : Int) i a r) (q := eraAt a r.1) (zb := cfgB a && (decide (((r.1.length : Nat) : Int) ≤ 30) && trimB r.1.length r.2.1)) (fun i hi b hb => by
    simp only [impl_RegOk.p5, Int.toNat_natCast]
    have hz := he i hi
    have hw : wrap64 ((i : Int) + 1) = ((i + 1 : Nat) : Int) := wrap_up hi (by omega)
    unfold eraAt
    refine Ev.pos (by omega) (Ev.pos (by omega) (Ev.bind (impl_eraOk_ev a (r.1.getD i zEra) ha hz) ?_))
    rw [Bool.and_assoc]
    refine Ev.and fun _ => ?_
    simp only [hw]
    by_cases hc : (r.1.getD i zEra).2.1 = true
    · refine Ev.pos hc ?_
      have e1 : wrap64 (((r.1.length : Nat) : Int) - 1) = ((r.1.length - 1 : Nat) : Int) := by rw [wrap64_id (by omega) (by omega)]; omega
      rw [e1, hc, Bool.not_true, Bool.false_or, Bool.and_assoc]
      by_cases hq : i = r.1.length - 1
      · rw [decide_eq_true hq]
        exact Ev.pos (by omega) Ev.ret
      · rw [decide_eq_false hq]
        refine Ev.neg (by omega) ?_
        by_cases h0 : i = 0
        · subst h0
          exact (Ev.neg (by omega) hb).eq (by rfl)
        · have e2 : wrap64 ((i : Int) - 1) = ((i - 1 : Nat) : Int) := by rw [wrap64_id (by omega) (by omega)]; omega
          rw [e2, decide_eq_false h0]
          refine Ev.pos (by omega) (Ev.pos (by omega) ?_)
          exact (Ev.and fun _ => hb).eq (by rfl)
    · refine (Ev.neg hc hb).eq ?_
      simp only [Bool.not_eq_true] at hc
      rw [hc]; rfl) (by
    simp only [impl_RegOk.p5, impl_EpochOf_is _ ht, impl_within_is, Option.bind_some]
    refine Ev.neg (by omega) ?_
    unfold trimB
    by_cases h0 : r.2.1 = 0
    · exact (Ev.pos h0 (hend true)).eq (by rw [decide_eq_true h0]; rfl)
    · exact (Ev.neg h0 (hend _)).eq (by rw [decide_eq_false h0]; rfl)) r.1.length 0 (by omega)
  refine (Ev.cg h fun k => rfl).eq ?_
  unfold regB erasB
  cases cfgB a <;> cases decide (((r.1.length : Nat) : Int) ≤ 30) <;> cases trimB r.1.length r.2.1 <;> simp

theorem impl_FirstOpen_l (l : List Era) (hl : l.length ≤ 1048576) : ∀ (m i : Nat), i + m = l.length → Ev (fun k => impl_FirstOpen.p5 k l ((l.length : Nat) : Int) (i : Int)) (fO (l.drop i) i) := by
  intro m
  induction m with
  | zero =>
    intro i hi
    refine Ev.succ ?_
    simp only [impl_FirstOpen.p5]
    rw [List.drop_eq_nil_of_le (by omega)]
    exact Ev.neg (by omega) Ev.ret
  | succ m ih =>
    intro i hi
    refine Ev.succ ?_
    simp only [impl_FirstOpen.p5, Int.toNat_natCast]
    rw [drop_get (d := zEra) (i := i) (l := l) (by omega), wrap_up (i := i) (n := l.length) (by omega) (by omega)]
    exact Ev.pos (by omega) (Ev.pos (by omega) (Ev.ite (fun _ => ih (i + 1) (by omega)) (fun _ => Ev.ret)))
theorem impl_FirstOpen_ev (r : Register) (hl : r.1.length ≤ 1048576) : Ev (fun k => impl_FirstOpen.f k r) (fO r.1 0) := impl_FirstOpen_l r.1 hl r.1.length 0 (by omega)

theorem impl_copyInts_is (l : List Int) (h : l.length ≤ 1048576) : impl_copyInts.f l = some l := by
  simp only [impl_copyInts.f]
  rw [if_pos (by simp [lim_eq]; omega)]; rfl

theorem impl_copyRegister_ev (r : Register) (hl : r.1.length ≤ 1048576) (he : ∀ i, i < r.1.length → (r.1.getD i zEra).1.length ≤ 1048576) : Ev (fun k => impl_copyRegister.f k r) r := by
  have h : ∀ (m i : Nat) (z : Register) (acc : List Era), i + m = r.1.length → acc.length = i → Ev (fun k => impl_copyRegister.p7 k r.1 ((r.1.length : Nat) : Int) (i : Int) z (acc, (r.2.1, ()))) (acc ++ r.1.drop i, (r.2.1, ())) := by
    intro m
    induction m with
    | zero =>
      intro i z acc hi ha
      refine Ev.succ ?_
      simp only [impl_copyRegister.p7]
      rw [List.drop_eq_nil_of_le (by omega), List.append_nil]
      exact Ev.neg (by omega) Ev.ret
    | succ m ih =>
      intro i z acc hi ha
      have hlt : i < r.1.length := by omega
      have hz := he i hlt
      refine Ev.succ ?_
      simp only [impl_copyRegister.p7, Int.toNat_natCast]
      refine Ev.pos (by omega) (Ev.pos (by omega) (Ev.bindc (impl_copyInts_is (r.1.getD i zEra).1 hz) ?_))
      change Ev (fun k => if ((acc.length : Nat) : Int) + (([r.1.getD i zEra].length : Nat) : Int) ≤ lim then impl_copyRegister.p7 k r.1 ((r.1.length : Nat) : Int) (wrap64 ((i : Int) + 1)) z (acc ++ [r.1.getD i zEra], (r.2.1, ())) else none) _
      refine Ev.pos (by simp only [lim_eq, List.length_cons, List.length_nil]; omega) ?_
      rw [wrap_up hlt (by omega), drop_get (d := zEra) hlt]
      exact (ih (i + 1) z (acc ++ [r.1.getD i zEra]) (by omega) (by rw [List.length_append, ha]; rfl)).eq (by rw [List.append_assoc]; rfl)
  have := h r.1.length 0 (([] : List Era), ((0 : Int), ())) [] (by omega) rfl
  rw [List.drop_zero, List.nil_append] at this
  exact Ev.cg this fun k => rfl

theorem impl_regAsWas_ev (a : Config) (r : Register) (ht : InR r.2.1) (ha : a.1.length ≤ 1048576) (hl : r.1.length ≤ 1048576) (he : ∀ i, i < r.1.length → (r.1.getD i zEra).1.length ≤ 1048576) : Ev (fun k => impl_regAsWas.f k a r) (if regB a r = true then r else (([] : List Era), ((0 : Int), ()))) := by
  simp only [impl_regAsWas.f]
  exact Ev.bind (impl_RegOk_ev a r ht ha hl he) (Ev.ite (fun _ => Ev.bind (impl_copyRegister_ev r hl he) Ev.ret) fun _ => Ev.ret)

theorem fO_zero : ∀ (l : List Era) (i : Int), 0 ≤ i → fO l i = 0 → ∀ e ∈ l, e.2.1 = true := by
  intro l
  induction l with
  | nil => intro i _ _ e he; cases he
  | cons x l ih =>
    intro i hi h e he
    simp only [fO] at h
    split at h
    · rename_i hx
      rcases List.mem_cons.1 he with rfl | he
      · exact hx
      · exact ih (i + 1) (by omega) h e he
    · omega
theorem regB_era {a : Config} {r : Register} (h : regB a r = true) {i : Nat} (hi : i < r.1.length) : eraAt a r.1 i = true := by
  simp only [regB, erasB, Bool.and_eq_true, List.all_eq_true, List.mem_range'_1] at h
  exact h.2.2.2 i (by omega)
/-- In a register that is right the last epoch is open. -/
theorem reg_first {a : Config} {r : Register} (h : regB a r = true) (hn : ¬ ((r.1.length : Nat) : Int) = fO r.1 0) : ¬ fO r.1 0 = 0 := by
  intro h0
  have hall := fO_zero r.1 0 (by omega) h0
  have hl : 0 < r.1.length := by omega
  have he := regB_era h (i := r.1.length - 1) (by omega)
  have hc := hall _ (getD_mem (d := zEra) (show r.1.length - 1 < r.1.length by omega))
  simp only [eraAt, Bool.and_eq_true, Bool.or_eq_true, Bool.not_eq_true', decide_eq_false_iff_not] at he
  rcases he.2 with h | h
  · rw [hc] at h; cases h
  · exact h.1 trivial
theorem impl_RegClose_ev (a : Config) (r : Register) (e last : Int) (ht : InR r.2.1) (ha : a.1.length ≤ 1048576) (hl : r.1.length ≤ 1048576) (he : ∀ i, i < r.1.length → (r.1.getD i zEra).1.length ≤ 1048576) : Ev (fun k => impl_RegClose.f k a r e last) (closF a r e last) := by
  have was := impl_regAsWas_ev a r ht ha hl he
  simp only [impl_RegClose.f, impl_within_is, Option.bind_some]
  unfold closF
  refine Ev.bind (impl_FirstOpen_ev r hl) (Ev.bind (impl_RegOk_ev a r ht ha hl he) (Ev.ite (fun hr => ?_) (fun hr => by rw [if_neg hr] at was; exact Ev.bind was Ev.ret)))
  rw [if_pos hr] at was
  by_cases h1 : e = ((r.1.length : Nat) : Int)
  case neg => exact Ev.eq (v := (r, false)) (Ev.neg h1 (Ev.bind was Ev.ret)) (if_neg (c := e = ((r.1.length : Nat) : Int) ∧ ¬ fO r.1 0 = 0 ∧ ¬ e = fO r.1 0 ∧ inB last 0 60 = true) (fun h => h1 h.1)).symm
  refine Ev.pos h1 ?_
  by_cases h3 : fO r.1 0 = e
  · exact Ev.eq (v := (r, false)) (Ev.pos h3 (Ev.bind was Ev.ret)) (if_neg (c := e = ((r.1.length : Nat) : Int) ∧ ¬ fO r.1 0 = 0 ∧ ¬ e = fO r.1 0 ∧ inB last 0 60 = true) (fun h => h.2.2.1 h3.symm)).symm
  refine Ev.neg h3 ?_
  by_cases h4 : inB last 0 60 = true
  case neg => exact Ev.eq (v := (r, false)) (Ev.neg h4 (Ev.bind was Ev.ret)) (if_neg (c := e = ((r.1.length : Nat) : Int) ∧ ¬ fO r.1 0 = 0 ∧ ¬ e = fO r.1 0 ∧ inB last 0 60 = true) (fun h => h4 h.2.2.2)).symm
  have h2 := reg_first hr (by omega)
  refine Ev.eq (v := (closR r (fO r.1 0) last, true)) ?_ (if_pos ⟨h1, h2, fun h => h3 h.symm, h4⟩).symm
  have hf := fO_or r.1 0 (by omega)
  rw [wrap64_id (x := fO r.1 0 - 1) (by omega) (by omega)]
  refine Ev.pos h4 (Ev.bind (impl_copyRegister_ev r hl he) (Ev.pos (by omega) (Ev.pos (by rw [List.length_set]; omega) (Ev.ret.eq ?_))))
  exact congrArg (fun q => ((q, r.2), true)) (clos_set (by omega) last)


theorem fO_some : ∀ (l : List Era) (i : Int), 0 ≤ i → ¬ fO l i = 0 → ∃ j : Nat, j < l.length ∧ fO l i = i + j + 1 ∧ (∀ q, q < j → (l.getD q zEra).2.1 = true) ∧ ¬ (l.getD j zEra).2.1 = true := by
  intro l
  induction l with
  | nil => intro i _ h; exact absurd rfl h
  | cons x l ih =>
    intro i hi h
    by_cases hx : x.2.1 = true
    · have hst : fO (x :: l) i = fO l (i + 1) := by simp only [fO]; rw [if_pos hx]
      rw [hst] at h
      obtain ⟨j, h1, h2, h3, h4⟩ := ih (i + 1) (by omega) h
      refine ⟨j + 1, by simpa using h1, by rw [hst, h2]; omega, fun q hq => ?_, ?_⟩
      · cases q with
        | zero => exact hx
        | succ q => have := h3 q (by omega); simpa using this
      · simpa using h4
    · have hst : fO (x :: l) i = i + 1 := by simp only [fO]; rw [if_neg hx]
      exact ⟨0, by simp, by rw [hst]; omega, fun q hq => absurd hq (Nat.not_lt_zero _), hx⟩
theorem fO_of : ∀ (l : List Era) (i : Int) (j : Nat), j < l.length → (∀ q, q < j → (l.getD q zEra).2.1 = true) → ¬ (l.getD j zEra).2.1 = true → fO l i = i + j + 1 := by
  intro l
  induction l with
  | nil => intro i j h; exact absurd h (Nat.not_lt_zero _)
  | cons x l ih =>
    intro i j hj h1 h2
    cases j with
    | zero =>
      have hx : ¬ x.2.1 = true := h2
      simp only [fO]
      rw [if_neg hx]; omega
    | succ j =>
      have hx : x.2.1 = true := h1 0 (Nat.zero_lt_succ _)
      simp only [fO]
      rw [if_pos hx, ih (i + 1) j (by simpa using hj) (fun q hq => by have := h1 (q + 1) (by omega); simpa using this) (by simpa using h2)]
      omega
theorem set_self {l : List Era} {i : Nat} {e : Era} (hi : i < l.length) : (l.set i e).getD i zEra = e := by
  rw [List.getD_eq_getElem?_getD, List.getElem?_set, if_pos rfl, if_pos hi]; rfl
theorem set_other {l : List Era} {i j : Nat} {e : Era} (h : i ≠ j) : (l.set i e).getD j zEra = l.getD j zEra := by
  rw [List.getD_eq_getElem?_getD, List.getElem?_set, if_neg h, ← List.getD_eq_getElem?_getD]
theorem clos_ok {a : Config} {r : Register} {j : Nat} {last : Int} (h : regB a r = true) (hj : j < r.1.length) (hn : j ≠ r.1.length - 1) (hq : ∀ q, q < j → (r.1.getD q zEra).2.1 = true) (hl : inB last 0 60 = true) : regB a (r.1.set j (closE (r.1.getD j zEra) last), r.2) = true := by
  have hera := fun {i : Nat} (hi : i < r.1.length) => regB_era h hi
  simp only [regB, Bool.and_eq_true] at h ⊢
  refine ⟨h.1, ?_, ?_, ?_⟩
  · show decide ((((r.1.set j (closE (r.1.getD j zEra) last)).length : Nat) : Int) ≤ 30) = true
    rw [List.length_set]; exact h.2.1
  · show trimB (r.1.set j (closE (r.1.getD j zEra) last)).length r.2.1 = true
    rw [List.length_set]; exact h.2.2.1
  · simp only [erasB, List.all_eq_true, List.mem_range'_1]
    intro i hi0
    have hi : i < r.1.length := by have := hi0.2; rw [List.length_set] at this; omega
    clear hi0
    have hi2 := hera hi
    simp only [eraAt, Bool.and_eq_true, Bool.or_eq_true, Bool.not_eq_true', decide_eq_false_iff_not, decide_eq_true_eq, List.length_set] at hi2 ⊢
    by_cases hij : i = j
    · subst hij
      rw [set_self hi]
      refine ⟨?_, .inr ⟨hn, ?_⟩⟩
      · have h1 := hi2.1
        simp only [eraB, Bool.and_eq_true] at h1 ⊢
        exact ⟨h1.1, hl, rfl⟩
      · by_cases h0 : i = 0
        · exact .inl h0
        · rw [set_other (by omega)]
          exact .inr (hq (i - 1) (by omega))
    · rw [set_other (fun e => hij e.symm)]
      refine ⟨hi2.1, hi2.2.imp (fun h => h) (fun h => ⟨h.1, h.2.imp (fun h => h) (fun h => ?_)⟩)⟩
      by_cases hp : j = i - 1
      · subst hp; rw [set_self hj]; rfl
      · rw [set_other hp]; exact h
theorem pureL (a0 : List Int) (h0 : Gd (.sl (.int .u8)) a0) : ∃ k, laws_FnClosed.f k a0 = some true := by
  refine Ev.get (v := true) ?_
  simp only [laws_FnClosed.f, laws_big_is, Option.bind_some]
  by_cases hb : (1048576 : Int) < ((a0.length : Nat) : Int)
  · exact Ev.pos (by simpa using hb) Ev.ret
  refine Ev.neg (by simpa using hb) ?_
  obtain ⟨⟨a, r, e, last⟩, e0, ha, hr⟩ := spec_DrawRegClose_d a0 (by omega)
  have ha : a.1.length ≤ 9 := ha
  have hr : RG 31 r := hr
  have hl := hr.1
  have e1 := impl_RegOk_ev a r hr.2.2 (by omega) (by omega) hr.at
  have e2 := spec_RegOk_ev a r hr.2.2 (by omega) (by omega) hr.at
  have e3 := impl_RegClose_ev a r e last hr.2.2 (by omega) (by omega) hr.at
  have e4 := spec_RegClose_ev a r e last hr.2.2 (by omega) (by omega) hr.at
  refine Ev.bind e0 (Ev.bind e1 (Ev.bind e2 (Ev.pos rfl (Ev.bind e0 (Ev.bind e3 (Ev.bind e4 (Ev.pos rfl ?_)))))))
  unfold closF
  by_cases hg : regB a r = true
  · rw [if_pos hg]
    by_cases hc : e = ((r.1.length : Nat) : Int) ∧ ¬ fO r.1 0 = 0 ∧ ¬ e = fO r.1 0 ∧ inB last 0 60 = true
    · rw [if_pos hc]
      obtain ⟨hE, h0, hn, hlast⟩ := hc
      obtain ⟨j, j1, j2, j3, j4⟩ := fO_some r.1 0 (by omega) h0
      have j2 : fO r.1 0 = (j : Int) + 1 := by rw [j2]; omega
      have hjl : j + 1 < r.1.length := by omega
      refine Ev.pos rfl (Ev.bind (impl_FirstOpen_ev r (by omega)) ?_)
      have hR : closR r (fO r.1 0) last = (r.1.set j (closE (r.1.getD j zEra) last), r.2) := by
        unfold closR
        rw [j2, show ((j : Int) + 1 - 1).toNat = j by omega]
      have hok := clos_ok hg j1 (by omega) j3 hlast
      have hlen : (closR r (fO r.1 0) last).1.length = r.1.length := List.length_set ..
      have hgj : (closR r (fO r.1 0) last).1.getD j zEra = closE (r.1.getD j zEra) last := by rw [hR]; exact set_self j1
      have hgo : ∀ i, j ≠ i → (closR r (fO r.1 0) last).1.getD i zEra = r.1.getD i zEra := fun i hi => by rw [hR]; exact set_other hi
      rw [← hR] at hok
      have hnext : ¬ (r.1.getD (j + 1) zEra).2.1 = true := fun hcl => by
        have := regB_era hg hjl
        simp only [eraAt, Bool.and_eq_true, Bool.or_eq_true, Bool.not_eq_true', decide_eq_false_iff_not, decide_eq_true_eq, Nat.add_sub_cancel] at this
        rcases this.2 with h | h
        · rw [hcl] at h; cases h
        · rcases h.2 with h | h
          · omega
          · exact j4 h
      have hfo : fO (closR r (fO r.1 0) last).1 0 = (j : Int) + 1 + 1 := by
        have h1 : ∀ q, q < j + 1 → ((closR r (fO r.1 0) last).1.getD q zEra).2.1 = true := fun q hq => by
          by_cases hqj : j = q
          · subst hqj; rw [hgj]; rfl
          · rw [hgo q hqj]; exact j3 q (by omega)
        have h2 : ¬ ((closR r (fO r.1 0) last).1.getD (j + 1) zEra).2.1 = true := by rw [hgo (j + 1) (by omega)]; exact hnext
        rw [fO_of _ 0 (j + 1) (by omega) h1 h2]; omega
      have hRG : RG 31 (closR r (fO r.1 0) last) := RG.set (l := r.1) (t := r.2.1) hr (hr.get _)
      have s1 := impl_FirstOpen_ev (closR r (fO r.1 0) last) (by omega)
      have s2 := impl_RegOk_ev a (closR r (fO r.1 0) last) hr.2.2 (by omega) (by omega) hRG.at
      rw [hok] at s2
      rw [hfo] at s1
      rw [j2] at *
      have w1 : wrap64 ((j : Int) + 1 - 1) = (j : Int) := by rw [wrap64_id (by omega) (by omega)]; omega
      have w2 : wrap64 ((j : Int) + 1 + 1) = (j : Int) + 1 + 1 := wrap64_id (by omega) (by omega)
      generalize closR r ((j : Int) + 1) last = N at *
      have loop : ∀ (d i : Nat), i + d = r.1.length → Ev (fun k => laws_FnClosed.p31 k e last ((j : Int) + 1) (i : Int) a r N) true := by
        intro d
        induction d with
        | zero =>
          intro i hi
          refine Ev.succ ?_
          simp only [laws_FnClosed.p31]
          rw [w1, w2, Int.toNat_natCast]
          refine Ev.neg (by omega) (Ev.bind s1 (Ev.pos hE (Ev.pos (by omega) ?_)))
          change Ev (fun k => if (N.1.getD j zEra).2.1 = true then (if (0 : Int) ≤ (j : Int) ∧ (j : Int) < ((N.1.length : Nat) : Int) then (if (N.1.getD j zEra).2.2.1 = last then _ else some false) else none) else some false) true
          rw [hgj]
          exact Ev.pos rfl (Ev.pos (by omega) (Ev.pos rfl (Ev.pos rfl (Ev.bind s2 Ev.ret))))
        | succ d ih =>
          intro i hi
          have hn := ih (i + 1) (by omega)
          refine Ev.succ ?_
          simp only [laws_FnClosed.p31]
          rw [w1, Int.toNat_natCast, wrap_up (i := i) (n := r.1.length) (by omega) (by omega)]
          refine Ev.pos (by omega) ?_
          by_cases hij : (i : Int) = (j : Int)
          · exact Ev.pos hij hn
          · refine Ev.neg hij (Ev.pos (by omega) (Ev.pos (by omega) ?_))
            change Ev (fun k => if (N.1.getD i zEra).2.1 = (r.1.getD i zEra).2.1 then _ else some false) true
            rw [hgo i (by omega)]
            exact Ev.pos rfl hn
      exact loop r.1.length 0 (by omega)
    · rw [if_neg hc]; exact Ev.neg nft (Ev.pos rfl Ev.ret)
  · rw [if_neg hg]
    refine Ev.neg nft ?_
    by_cases hz : (((([] : List Era).length : Nat) : Int)) = ((r.1.length : Nat) : Int)
    · exact Ev.pos hz Ev.ret
    · exact (Ev.neg hz Ev.ret).eq (by decide)

end Go.Proofs.Ytllmifioelbleaa.OmFnClosed
