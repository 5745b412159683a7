/- The plain law: a drawn store is read from its bytes as it was; bytes that are read are those of the store. Conditions: what is known of a value that came in. -/
import Derived.Test.YtllmifioelbleaaFamFnStoreBytes
set_option linter.unusedVariables false
set_option linter.unusedSimpArgs false
set_option linter.unusedSectionVars false
namespace Go.Proofs.Ytllmifioelbleaa.OmFnStoreBytes
open Go Go.OM
/-- x lies between a and b. -/
def inB (x a b : Int) : Bool := decide (a ≤ x) && decide (x ≤ b)
theorem inB_true {x a b : Int} : inB x a b = true ↔ a ≤ x ∧ x ≤ b := by simp [inB]
theorem ite_inB (x a b : Int) : (if a ≤ x then some (decide (x ≤ b)) else some false) = some (inB x a b) := by
  unfold inB
  by_cases h : a ≤ x <;> simp [h]
def InR (x : Int) : Prop := -9223372036854775808 ≤ x ∧ x ≤ 9223372036854775807
theorem InR_of {x : Int} (h : Gd (.int .i64) x) : InR x := by
  have h : (Lit.int .i64 x).wf = true := h
  simp [Lit.wf, IntKind.min, IntKind.max, IntKind.signed, IntKind.bits] at h
  exact ⟨by omega, by omega⟩
theorem Ev.and {q b : Bool} {A : Nat → Option Bool} (h : q = true → Ev A b) : Ev (fun k => if q = true then A k else some false) (q && b) := by
  cases q with
  | false => exact Ev.neg (by decide) Ev.ret
  | true => exact Ev.pos rfl (h rfl)
theorem Ev.andc {c : Prop} [Decidable c] {b : Bool} {A : Nat → Option Bool} (h : c → Ev A b) : Ev (fun k => if c then A k else some false) (decide c && b) := by
  by_cases hc : c
  · rw [decide_eq_true hc]; exact Ev.pos hc (h hc)
  · rw [decide_eq_false hc]; exact Ev.neg hc Ev.ret
theorem Ev.nand {c : Prop} [Decidable c] {b : Bool} {A : Nat → Option Bool} (h : ¬ c → Ev A b) : Ev (fun k => if c then some false else A k) (!decide c && b) := by
  by_cases hc : c
  · rw [decide_eq_true hc]; exact Ev.pos hc Ev.ret
  · rw [decide_eq_false hc]; exact Ev.neg hc (h hc)
theorem Ev.ite {c : Prop} [Decidable c] {α : Type} {A B : Nat → Option α} {v u : α} (h1 : c → Ev A v) (h2 : ¬ c → Ev B u) : Ev (fun k => if c then A k else B k) (if c then v else u) := by
  by_cases hc : c
  · rw [if_pos hc]; exact Ev.pos hc (h1 hc)
  · rw [if_neg hc]; exact Ev.neg hc (h2 hc)
theorem all_loop {n : Nat} {p : Nat → Int → Option Bool} {q : Nat → Bool} {zb : Bool} (hp : ∀ (i : Nat), i < n → ∀ b, Ev (fun k => p k (((i + 1 : Nat)) : Int)) b → Ev (fun k => p (k + 1) (i : Int)) (q i && b)) (h0 : Ev (fun k => p (k + 1) (n : Int)) zb) :
    ∀ (m i : Nat), i + m = n → Ev (fun k => p k (i : Int)) ((List.range' i m).all q && zb) := by
  intro m
  induction m with
  | zero => intro i h; rw [show i = n by omega]; exact Ev.succ h0
  | succ m ih =>
    intro i h
    refine (Ev.succ (hp i (by omega) _ (ih (i + 1) (by omega)))).eq ?_
    rw [List.range'_succ, List.all_cons, Bool.and_assoc]
theorem wrap_up {i n : Nat} (h : i < n) (hn : n ≤ 4611686018427387904) : wrap64 ((i : Int) + (1 : Int)) = ((i + 1 : Nat) : Int) := wrap64_id (by omega) (by omega)
theorem cnt_ints (l : List Int) : cnt (.sl (.int .i64)) l = l.length := by
  show l.length + (l.map fun _ => 0).sum = l.length
  have : (l.map fun _ => 0).sum = 0 := by induction l with
    | nil => rfl
    | cons x l ih => simpa using ih
  omega
/-- It comes to something with P. -/
def Evp {α : Type} (f : Nat → Option α) (P : α → Prop) : Prop := ∃ v, Ev f v ∧ P v
def Op {α : Type} (f : Option α) (P : α → Prop) : Prop := ∃ v, f = some v ∧ P v
section
variable {α β : Type} {P : α → Prop} {Q : β → Prop}
theorem Evp.ret {v : α} (h : P v) : Evp (fun _ => some v) P := ⟨v, Ev.ret, h⟩
theorem Evp.of {f : Nat → Option α} {v : α} (h : Ev f v) (hp : P v) : Evp f P := ⟨v, h, hp⟩
theorem Evp.bind {f : Nat → Option α} {g : Nat → α → Option β} (h : Evp f P) (hg : ∀ a, P a → Evp (fun k => g k a) Q) : Evp (fun k => (f k).bind (g k)) Q := by
  obtain ⟨a, h1, h2⟩ := h
  obtain ⟨b, h3, h4⟩ := hg a h2
  exact ⟨b, h1.bind h3, h4⟩
theorem Evp.bindv {f : Nat → Option α} {g : Nat → α → Option β} {a : α} (h : Ev f a) (hg : Evp (fun k => g k a) Q) : Evp (fun k => (f k).bind (g k)) Q := by
  obtain ⟨b, h3, h4⟩ := hg
  exact ⟨b, h.bind h3, h4⟩
theorem Evp.bindc {f : Option α} {g : Nat → α → Option β} (h : Op f P) (hg : ∀ a, P a → Evp (fun k => g k a) Q) : Evp (fun k => f.bind (g k)) Q := by
  obtain ⟨a, h1, h2⟩ := h
  obtain ⟨b, h3, h4⟩ := hg a h2
  exact ⟨b, Ev.bindc h1 h3, h4⟩
theorem Evp.succ {f : Nat → Option α} (h : Evp (fun k => f (k + 1)) P) : Evp f P := by
  obtain ⟨a, h1, h2⟩ := h
  exact ⟨a, Ev.succ h1, h2⟩
theorem Evp.pos {c : Prop} [Decidable c] {f g : Nat → Option α} (hc : c) (h : Evp f P) : Evp (fun k => if c then f k else g k) P := by
  obtain ⟨a, h1, h2⟩ := h
  exact ⟨a, Ev.pos hc h1, h2⟩
theorem Evp.neg {c : Prop} [Decidable c] {f g : Nat → Option α} (hc : ¬ c) (h : Evp g P) : Evp (fun k => if c then f k else g k) P := by
  obtain ⟨a, h1, h2⟩ := h
  exact ⟨a, Ev.neg hc h1, h2⟩
theorem Evp.ite {c : Prop} [Decidable c] {f g : Nat → Option α} (h1 : c → Evp f P) (h2 : ¬ c → Evp g P) : Evp (fun k => if c then f k else g k) P := by
  by_cases hc : c
  · exact Evp.pos hc (h1 hc)
  · exact Evp.neg hc (h2 hc)
theorem Evp.mono {f : Nat → Option α} {P' : α → Prop} (h : Evp f P) (hp : ∀ a, P a → P' a) : Evp f P' := by
  obtain ⟨a, h1, h2⟩ := h
  exact ⟨a, h1, hp a h2⟩
theorem Evp.opt {f : Option α} (h : Op f P) : Evp (fun _ => f) P := by
  obtain ⟨a, h1, h2⟩ := h
  exact ⟨a, Ev.of h1, h2⟩
theorem Evp.cg {f g : Nat → Option α} (h : Evp g P) (e : ∀ k, f k = g k) : Evp f P := by
  obtain ⟨a, h1, h2⟩ := h
  exact ⟨a, h1.cg e, h2⟩
theorem Op.ret {v : α} (h : P v) : Op (some v) P := ⟨v, rfl, h⟩
theorem Op.bind {f : Option α} {g : α → Option β} (h : Op f P) (hg : ∀ a, P a → Op (g a) Q) : Op (f.bind g) Q := by
  obtain ⟨a, h1, h2⟩ := h
  obtain ⟨b, h3, h4⟩ := hg a h2
  exact ⟨b, by rw [h1, Option.bind_some, h3], h4⟩
theorem Op.pos {c : Prop} [Decidable c] {f g : Option α} (hc : c) (h : Op f P) : Op (if c then f else g) P := by rw [if_pos hc]; exact h
theorem Op.neg {c : Prop} [Decidable c] {f g : Option α} (hc : ¬ c) (h : Op g P) : Op (if c then f else g) P := by rw [if_neg hc]; exact h
theorem Op.ite {c : Prop} [Decidable c] {f g : Option α} (h1 : c → Op f P) (h2 : ¬ c → Op g P) : Op (if c then f else g) P := by
  by_cases hc : c
  · exact Op.pos hc (h1 hc)
  · exact Op.neg hc (h2 hc)
end
theorem nft : ¬ (false = true) := by decide
/-- x among numbers: ahead of the first greater one. -/
noncomputable def insB : List Int → Int → List Int
  | [], x => [x]
  | y :: l, x => if x < y then x :: y :: l else y :: insB l x
noncomputable def insL (l : List Int) (x : Int) : List Int := if l.contains x = true then l else insB l x
theorem insB_len (l : List Int) (x : Int) : (insB l x).length = l.length + 1 := by
  induction l with
  | nil => rfl
  | cons y l ih =>
    unfold insB
    split
    · rfl
    · rw [List.length_cons, List.length_cons, ih]
theorem insL_len (l : List Int) (x : Int) : (insL l x).length ≤ l.length + 1 := by
  unfold insL
  split
  · omega
  · rw [insB_len]; omega
theorem insB_at {x : Int} : ∀ {l : List Int} {i : Nat}, i ≤ l.length → (∀ q, q < i → l.getD q 0 < x) → (i < l.length → x < l.getD i 0) → l.take i ++ [x] ++ l.drop i = insB l x := by
  intro l
  induction l with
  | nil => intro i hi _ _; have : i = 0 := by simpa using hi
           subst this; rfl
  | cons y l ih =>
    intro i hi h1 h2
    cases i with
    | zero =>
      have : x < y := h2 (Nat.zero_lt_succ _)
      unfold insB; rw [if_pos this]; rfl
    | succ i =>
      have : ¬ x < y := by have := h1 0 (Nat.zero_lt_succ _); change y < x at this; omega
      unfold insB; rw [if_neg this]
      show y :: (l.take i ++ [x] ++ l.drop i) = _
      rw [ih (by simpa using hi) (fun q hq => by have := h1 (q + 1) (by omega); simpa using this) (fun h => by have := h2 (by simp; omega); simpa using this)]
theorem wrapu (x : Int) (h0 : 0 ≤ x) (h1 : x ≤ 9223372036854775807) : IntKind.wrap .u64 x = x := by
  show (if (false && decide (x % 2 ^ 64 ≥ 2 ^ (64 - 1))) = true then x % 2 ^ 64 - 2 ^ 64 else x % 2 ^ 64) = x
  rw [Bool.false_and, if_neg (by decide)]
  exact Int.emod_eq_of_lt h0 (by omega)
theorem mid_is {i j n : Nat} (h : i < j) (hj : j ≤ n) (hn : n ≤ 4611686018427387904) : wrap64 (shrK .u64 (IntKind.wrap .u64 (wrap64 ((i : Int) + (j : Int)))) (1 : Int)) = (((i + j) / 2 : Nat) : Int) := by
  rw [wrap64_id (x := (i : Int) + (j : Int)) (by omega) (by omega), wrapu _ (by omega) (by omega)]
  have e : shrK .u64 ((i : Int) + (j : Int)) 1 = (((i + j) / 2 : Nat) : Int) := by
    show Int.fdiv ((i : Int) + (j : Int)) (2 ^ 1) = _
    rw [Int.fdiv_eq_ediv_of_nonneg _ (by decide)]
    omega
  rw [e, wrap64_id (by omega) (by omega)]
/-- A search by halves. -/
theorem bs_loop {β : Type} {n : Nat} {p : Nat → Int → Int → Option β} {lt : Nat → Bool} {v : β} (hm : ∀ q r, q ≤ r → r < n → lt r = true → lt q = true)
    (hp : ∀ i j : Nat, i < j → j ≤ n → ∀ b, (lt ((i + j) / 2) = true → Ev (fun k => p k (((i + j) / 2 + 1 : Nat) : Int) (j : Int)) b) → (lt ((i + j) / 2) = false → Ev (fun k => p k (i : Int) (((i + j) / 2 : Nat) : Int)) b) → Ev (fun k => p (k + 1) (i : Int) (j : Int)) b)
    (h0 : ∀ i : Nat, i ≤ n → (∀ q, q < i → lt q = true) → (∀ q, i ≤ q → q < n → lt q = false) → Ev (fun k => p (k + 1) (i : Int) (i : Int)) v) :
    ∀ (d i j : Nat), j - i ≤ d → i ≤ j → j ≤ n → (∀ q, q < i → lt q = true) → (∀ q, j ≤ q → q < n → lt q = false) → Ev (fun k => p k (i : Int) (j : Int)) v := by
  intro d
  induction d with
  | zero =>
    intro i j hd hij hj h1 h2
    have : i = j := by omega
    subst this
    exact Ev.succ (h0 i hj h1 h2)
  | succ d ih =>
    intro i j hd hij hj h1 h2
    by_cases hlt : i < j
    · refine Ev.succ (hp i j hlt hj v (fun hb => ?_) (fun hb => ?_))
      · exact ih _ _ (by omega) (by omega) hj (fun q hq => hm q _ (by omega) (by omega) hb) h2
      · refine ih _ _ (by omega) (by omega) (by omega) h1 (fun q hq hqn => ?_)
        cases hc : lt q with
        | false => rfl
        | true => exact absurd (hm _ q hq hqn hc) (by rw [hb]; decide)
    · have : i = j := by omega
      subst this
      exact Ev.succ (h0 i hj h1 h2)
/-- Numbers that ascend. -/
def Asc (l : List Int) : Prop := ∀ q r, q < r → r < l.length → l.getD q 0 < l.getD r 0
theorem Asc.of {l : List Int} (h : ∀ q, q + 1 < l.length → l.getD q 0 < l.getD (q + 1) 0) : Asc l := by
  intro q r hqr hr
  induction r with
  | zero => omega
  | succ r ih =>
    have h1 := h r hr
    by_cases hq : q = r
    · subst hq; exact h1
    · have := ih (by omega) (by omega); omega
theorem getD_of_mem {l : List Int} {x : Int} (h : x ∈ l) : ∃ q, q < l.length ∧ l.getD q 0 = x := by
  obtain ⟨q, hq, e⟩ := List.getElem_of_mem h
  exact ⟨q, hq, by rw [List.getD_eq_getElem?_getD, List.getElem?_eq_getElem hq]; exact e⟩
theorem getD_is {α : Type} {l : List α} {q : Nat} {d : α} (hq : q < l.length) : l.getD q d = l[q] := by
  rw [List.getD_eq_getElem?_getD, List.getElem?_eq_getElem hq]; rfl
theorem Asc.pw {l : List Int} (h : Asc l) : l.Pairwise (· < ·) :=
  List.pairwise_iff_getElem.2 fun i j hi hj hij => by have := h i j hij hj; rwa [getD_is hi, getD_is hj] at this
theorem Asc.of_pw {l : List Int} (h : l.Pairwise (· < ·)) : Asc l := fun q r hqr hr => by
  rw [getD_is (by omega), getD_is hr]; exact List.pairwise_iff_getElem.1 h q r (by omega) hr hqr
theorem mem_insB {l : List Int} {x y : Int} : y ∈ insB l x ↔ y = x ∨ y ∈ l := by
  induction l with
  | nil => simp [insB]
  | cons z l ih =>
    unfold insB
    split
    · simp
    · rw [List.mem_cons, ih, List.mem_cons]
      exact ⟨fun h => h.elim (fun h => .inr (.inl h)) (fun h => h.elim .inl (fun h => .inr (.inr h))), fun h => h.elim (fun h => .inr (.inl h)) (fun h => h.elim .inl (fun h => .inr (.inr h)))⟩
theorem mem_insL {l : List Int} {x y : Int} : y ∈ insL l x ↔ y = x ∨ y ∈ l := by
  unfold insL
  split
  · rename_i h
    rw [List.contains_iff_mem] at h
    exact ⟨.inr, fun h' => h'.elim (fun e => e ▸ h) id⟩
  · exact mem_insB
theorem insB_pw {l : List Int} {x : Int} (h : l.Pairwise (· < ·)) (hx : x ∉ l) : (insB l x).Pairwise (· < ·) := by
  induction l with
  | nil => simp [insB]
  | cons z l ih =>
    rw [List.pairwise_cons] at h
    unfold insB
    split
    · rename_i hz
      refine List.pairwise_cons.2 ⟨fun y hy => ?_, List.pairwise_cons.2 h⟩
      rcases List.mem_cons.1 hy with rfl | hy
      · exact hz
      · have := h.1 y hy; omega
    · rename_i hz
      have hne : x ≠ z := fun e => hx (e ▸ List.mem_cons_self)
      refine List.pairwise_cons.2 ⟨fun y hy => ?_, ih h.2 (fun h => hx (List.mem_cons_of_mem _ h))⟩
      rcases mem_insB.1 hy with rfl | hy
      · omega
      · exact h.1 y hy
theorem insL_pw {l : List Int} {x : Int} (h : l.Pairwise (· < ·)) : (insL l x).Pairwise (· < ·) := by
  unfold insL
  split
  · exact h
  · rename_i hc
    exact insB_pw h (fun hm => hc (List.contains_iff_mem.2 hm))
/-- A row whose first elements are told anew. -/
theorem map_get {α : Type} {F : α → α} {l : List α} {i : Nat} {d : α} (hi : i < l.length) : ((l.take i).map F ++ l.drop i).getD i d = l.getD i d := by
  have hl : ((l.take i).map F).length = i := by rw [List.length_map, List.length_take]; omega
  rw [List.getD_eq_getElem?_getD, List.getElem?_append_right (by omega), hl, Nat.sub_self, List.getElem?_drop, Nat.add_zero, ← List.getD_eq_getElem?_getD]
theorem map_step {α : Type} {F : α → α} {l : List α} {i : Nat} {d : α} (hi : i < l.length) : ((l.take i).map F ++ l.drop i).set i (F (l.getD i d)) = (l.take (i + 1)).map F ++ l.drop (i + 1) := by
  have hl : ((l.take i).map F).length = i := by rw [List.length_map, List.length_take]; omega
  have ht : l.take (i + 1) = l.take i ++ [l.getD i d] := by
    rw [List.take_add_one, List.getElem?_eq_getElem hi, getD_is hi]; rfl
  rw [List.set_append_right _ _ (by omega), hl, Nat.sub_self, drop_get (d := d) hi, ht, List.map_append, List.append_assoc]
  rfl
theorem map_len {α : Type} {F : α → α} {l : List α} {i : Nat} : ((l.take i).map F ++ l.drop i).length = l.length := by
  rw [List.length_append, List.length_map, List.length_take, List.length_drop]; omega
theorem has_one (x v : Int) : [x].contains v = decide (v = x) := by
  by_cases h : v = x <;> simp [h]
theorem filter_not {α : Type} (p : α → Bool) (l : List α) : (l.filter p).length + (l.filter fun v => !p v).length = l.length := by
  induction l with
  | nil => rfl
  | cons x l ih =>
    rw [List.filter_cons, List.filter_cons]
    cases p x <;> simp <;> omega
theorem set_getD_self {α : Type} {l : List α} {i : Nat} {d : α} (hi : i < l.length) : l.set i (l.getD i d) = l := by
  rw [getD_is hi]; exact List.set_getElem_self hi

noncomputable def better (a b : Entry) : Entry := if a.2.1 < b.2.1 then b else a
/-- An entry among entries: the better one at its place, else ahead of the first at a greater place. -/
noncomputable def keepL : List Entry → Entry → List Entry
  | [], e => [e]
  | y :: l, e => if y.1 = e.1 then better y e :: l else if e.1 < y.1 then e :: y :: l else y :: keepL l e
theorem keepL_len (l : List Entry) (e : Entry) : (keepL l e).length ≤ l.length + 1 := by
  induction l with
  | nil => exact Nat.le_refl _
  | cons y l ih =>
    unfold keepL
    split
    · simp
    · split
      · exact Nat.le_refl _
      · rw [List.length_cons, List.length_cons]; omega
theorem getD_cons_succ' {α : Type} {y d : α} {l : List α} {i : Nat} : (y :: l).getD (i + 1) d = l.getD i d := by simp
theorem keepL_ins {e : Entry} {d : Entry} : ∀ {l : List Entry} {i : Nat}, i ≤ l.length → (∀ q, q < i → (l.getD q d).1 < e.1) → (i < l.length → e.1 < (l.getD i d).1) → l.take i ++ [e] ++ l.drop i = keepL l e := by
  intro l
  induction l with
  | nil => intro i hi _ _; have : i = 0 := by simpa using hi
           subst this; rfl
  | cons y l ih =>
    intro i hi h1 h2
    cases i with
    | zero =>
      have h : e.1 < y.1 := h2 (Nat.zero_lt_succ _)
      have hn : ¬ y.1 = e.1 := by omega
      unfold keepL; rw [if_neg hn, if_pos h]; rfl
    | succ i =>
      have h : y.1 < e.1 := h1 0 (Nat.zero_lt_succ _)
      have hn : ¬ y.1 = e.1 := by omega
      have hn2 : ¬ e.1 < y.1 := by omega
      unfold keepL; rw [if_neg hn, if_neg hn2]
      show y :: (l.take i ++ [e] ++ l.drop i) = _
      rw [ih (by simpa using hi) (fun q hq => by have := h1 (q + 1) (by omega); rwa [getD_cons_succ'] at this) (fun h => by have := h2 (by simp; omega); rwa [getD_cons_succ'] at this)]
theorem keepL_set {e : Entry} {d : Entry} : ∀ {l : List Entry} {i : Nat}, i < l.length → (∀ q, q < i → (l.getD q d).1 < e.1) → (l.getD i d).1 = e.1 → l.set i (better (l.getD i d) e) = keepL l e := by
  intro l
  induction l with
  | nil => intro i hi; exact absurd hi (Nat.not_lt_zero _)
  | cons y l ih =>
    intro i hi h1 h2
    cases i with
    | zero =>
      have h : y.1 = e.1 := h2
      unfold keepL; rw [if_pos h]; rfl
    | succ i =>
      have h : y.1 < e.1 := h1 0 (Nat.zero_lt_succ _)
      have hn : ¬ y.1 = e.1 := by omega
      have hn2 : ¬ e.1 < y.1 := by omega
      rw [getD_cons_succ'] at h2
      unfold keepL; rw [if_neg hn, if_neg hn2, List.set_cons_succ, getD_cons_succ']
      rw [ih (by simpa using hi) (fun q hq => by have := h1 (q + 1) (by omega); rwa [getD_cons_succ'] at this) h2]
noncomputable def zEnt : Entry := ((0 : Int), ((0 : Int), (false, ((⟨#[]⟩ : ByteArray), ()))))
noncomputable def ascE (l : List Entry) : Bool := (List.range' 0 l.length).all fun i => !(decide (0 < i) && decide ((l.getD i zEnt).1 ≤ (l.getD (i - 1) zEnt).1))
/-- Rows of entries whose places are numbers of 64 bits. -/
def EG (n : Nat) (l : List Entry) : Prop := l.length ≤ n ∧ ∀ e ∈ l, InR e.1
theorem EG.at {n : Nat} {l : List Entry} (h : EG n l) : ∀ i, i < l.length → InR (l.getD i zEnt).1 := fun i hi => h.2 _ (getD_mem hi)
theorem EG.get {n : Nat} {l : List Entry} (h : EG n l) (i : Nat) : InR (l.getD i zEnt).1 := by
  by_cases hi : i < l.length
  · exact h.at i hi
  · rw [List.getD_eq_getElem?_getD, List.getElem?_eq_none (by omega)]; show InR (0 : Int); unfold InR; decide
theorem EG.nil {n : Nat} : EG n [] := ⟨Nat.zero_le _, fun e he => by cases he⟩
theorem EG.mono {n m : Nat} {l : List Entry} (h : EG n l) (hm : n ≤ m) : EG m l := ⟨by have := h.1; omega, h.2⟩
theorem EG.app {n : Nat} {l : List Entry} {e : Entry} (h : EG n l) (he : InR e.1) : EG (n + 1) (l ++ [e]) := by
  refine ⟨by have := h.1; simp; omega, fun x hx => ?_⟩
  rcases List.mem_append.1 hx with h' | h'
  · exact h.2 x h'
  · rw [List.mem_singleton] at h'; subst h'; exact he
/-- Entries whose places ascend. -/
def AscE (l : List Entry) : Prop := ∀ q r, q < r → r < l.length → (l.getD q ((0 : Int), ((0 : Int), (false, ((⟨#[]⟩ : ByteArray), ()))))).1 < (l.getD r ((0 : Int), ((0 : Int), (false, ((⟨#[]⟩ : ByteArray), ()))))).1
theorem AscE.of {l : List Entry} (h : ∀ q, q + 1 < l.length → (l.getD q ((0 : Int), ((0 : Int), (false, ((⟨#[]⟩ : ByteArray), ()))))).1 < (l.getD (q + 1) ((0 : Int), ((0 : Int), (false, ((⟨#[]⟩ : ByteArray), ()))))).1) : AscE l := by
  intro q r hqr hr
  induction r with
  | zero => omega
  | succ r ih =>
    have h1 := h r hr
    by_cases hq : q = r
    · subst hq; exact h1
    · have := ih (by omega) (by omega); omega
theorem AscE.pw {l : List Entry} (h : AscE l) : l.Pairwise (fun a b => a.1 < b.1) :=
  List.pairwise_iff_getElem.2 fun i j hi hj hij => by have := h i j hij hj; rwa [getD_is hi, getD_is hj] at this
theorem AscE.of_pw {l : List Entry} (h : l.Pairwise (fun a b => a.1 < b.1)) : AscE l := fun q r hqr hr => by
  rw [getD_is (by omega), getD_is hr]; exact List.pairwise_iff_getElem.1 h q r (by omega) hr hqr
theorem ascE_Asc {l : List Entry} (h : ascE l = true) : AscE l := AscE.of fun q hq => by
  simp only [ascE, List.all_eq_true, List.mem_range'_1] at h
  have := h (q + 1) (by omega)
  simp only [Nat.add_sub_cancel, Bool.not_eq_true', Bool.and_eq_false_iff, decide_eq_false_iff_not] at this
  rcases this with h | h
  · omega
  · unfold zEnt at h; omega
theorem Asc_ascE {l : List Entry} (h : AscE l) : ascE l = true := by
  simp only [ascE, List.all_eq_true, List.mem_range'_1]
  intro i hi
  simp only [Bool.not_eq_true', Bool.and_eq_false_iff, decide_eq_false_iff_not]
  by_cases h0 : 0 < i
  · refine .inr ?_
    have := h (i - 1) i (by omega) (by omega)
    unfold zEnt; omega
  · exact .inl h0
theorem better_at {a b : Entry} (h : a.1 = b.1) : (better a b).1 = a.1 := by unfold better; split <;> simp [h]
theorem better_or (a b : Entry) : better a b = a ∨ better a b = b := by unfold better; split <;> simp
theorem keepL_at {l : List Entry} {e z : Entry} (h : z ∈ keepL l e) : z.1 = e.1 ∨ ∃ y ∈ l, y.1 = z.1 := by
  induction l with
  | nil => simp [keepL] at h; subst h; exact .inl rfl
  | cons y l ih =>
    unfold keepL at h
    split at h
    · rename_i hy
      rcases List.mem_cons.1 h with rfl | h
      · exact .inl ((better_at hy).trans hy)
      · exact .inr ⟨z, List.mem_cons_of_mem _ h, rfl⟩
    · split at h
      · rcases List.mem_cons.1 h with rfl | h
        · exact .inl rfl
        · exact .inr ⟨z, h, rfl⟩
      · rcases List.mem_cons.1 h with rfl | h
        · exact .inr ⟨z, List.mem_cons_self, rfl⟩
        · rcases ih h with h | ⟨y', h1, h2⟩
          · exact .inl h
          · exact .inr ⟨y', List.mem_cons_of_mem _ h1, h2⟩
theorem keepL_mem {l : List Entry} {e z : Entry} (h : z ∈ keepL l e) : z = e ∨ z ∈ l := by
  induction l with
  | nil => simp [keepL] at h; exact .inl h
  | cons y l ih =>
    unfold keepL at h
    split at h
    · rcases List.mem_cons.1 h with rfl | h
      · rcases better_or y e with h | h
        · exact .inr (by rw [h]; exact List.mem_cons_self)
        · exact .inl h
      · exact .inr (List.mem_cons_of_mem _ h)
    · split at h
      · rcases List.mem_cons.1 h with rfl | h
        · exact .inl rfl
        · exact .inr h
      · rcases List.mem_cons.1 h with rfl | h
        · exact .inr List.mem_cons_self
        · exact (ih h).imp id (List.mem_cons_of_mem _)
theorem keepL_pw {l : List Entry} {e : Entry} (h : l.Pairwise (fun a b => a.1 < b.1)) : (keepL l e).Pairwise (fun a b => a.1 < b.1) := by
  induction l with
  | nil => simp [keepL]
  | cons y l ih =>
    rw [List.pairwise_cons] at h
    unfold keepL
    split
    · rename_i hy
      exact List.pairwise_cons.2 ⟨fun z hz => by rw [better_at hy]; exact h.1 z hz, h.2⟩
    · rename_i hy
      split
      · rename_i hlt
        refine List.pairwise_cons.2 ⟨fun z hz => ?_, List.pairwise_cons.2 h⟩
        rcases List.mem_cons.1 hz with rfl | hz
        · exact hlt
        · have := h.1 z hz; omega
      · rename_i hlt
        refine List.pairwise_cons.2 ⟨fun z hz => ?_, ih h.2⟩
        rcases keepL_at hz with hz | ⟨u, h1, h2⟩
        · omega
        · have := h.1 u h1; omega
theorem AscE.keep {l : List Entry} {e : Entry} (h : AscE l) : AscE (keepL l e) := AscE.of_pw (keepL_pw h.pw)
theorem EG.keep {n : Nat} {l : List Entry} {e : Entry} (h : EG n l) (he : InR e.1) : EG (n + 1) (keepL l e) :=
  ⟨by have := keepL_len l e; have := h.1; omega, fun z hz => by
    rcases keepL_mem hz with rfl | hz
    · exact he
    · exact h.2 z hz⟩
theorem ents_small {l : List Entry} (h : Gd (.sl tEntry) l) : EG l.length l := ⟨Nat.le_refl _, fun e he => InR_of (h.2 e he).1⟩
theorem cnt_len {t : Ty} (xs : (Ty.sl t).den) : List.length xs ≤ cnt (.sl t) xs := by
  show List.length xs ≤ List.length xs + _
  omega
theorem ents_cnt (l : List Entry) : cnt (.sl tEntry) l = l.length + (l.map fun x => cnt tEntry x).sum := rfl
theorem keepL_cnt (l : List Entry) (e : Entry) : cnt (.sl tEntry) (keepL l e) ≤ cnt (.sl tEntry) l + cnt tEntry e + 1 := by
  rw [ents_cnt, ents_cnt]
  induction l with
  | nil => simp [keepL]; omega
  | cons y l ih =>
    unfold keepL
    split
    · have : cnt tEntry (better y e) ≤ cnt tEntry y + cnt tEntry e := by
        rcases better_or y e with h | h <;> rw [h] <;> omega
      simp only [List.length_cons, List.map_cons, List.sum_cons]; omega
    · split
      · simp only [List.length_cons, List.map_cons, List.sum_cons]; omega
      · simp only [List.length_cons, List.map_cons, List.sum_cons]; omega
/-- The entry of a place. -/
noncomputable def getF : List Entry → Int → Entry × Bool
  | [], _ => (((0 : Int), ((0 : Int), (false, ((⟨#[]⟩ : ByteArray), ())))), false)
  | y :: l, x => if y.1 = x then (y, true) else getF l x
theorem getF_none {x : Int} : ∀ {l : List Entry}, (∀ y ∈ l, ¬ y.1 = x) → getF l x = (((0 : Int), ((0 : Int), (false, ((⟨#[]⟩ : ByteArray), ())))), false) := by
  intro l
  induction l with
  | nil => intro _; rfl
  | cons y l ih =>
    intro h
    unfold getF
    rw [if_neg (h y List.mem_cons_self)]
    exact ih fun z hz => h z (List.mem_cons_of_mem _ hz)
theorem getF_some {x : Int} : ∀ {l : List Entry} {i : Nat}, i < l.length → (∀ q, q < i → ¬ (l.getD q zEnt).1 = x) → (l.getD i zEnt).1 = x → getF l x = (l.getD i zEnt, true) := by
  intro l
  induction l with
  | nil => intro i h; exact absurd h (Nat.not_lt_zero _)
  | cons y l ih =>
    intro i hi h1 h2
    unfold getF
    cases i with
    | zero =>
      have h2' : y.1 = x := h2
      rw [if_pos h2']; rfl
    | succ i =>
      have h0 : ¬ y.1 = x := h1 0 (Nat.zero_lt_succ _)
      rw [if_neg h0, getD_cons_succ']
      rw [getD_cons_succ'] at h2
      exact ih (by simpa using hi) (fun q hq => by have := h1 (q + 1) (by omega); rwa [getD_cons_succ'] at this) h2
theorem getF_true {x : Int} {l : List Entry} {e : Entry} (h : getF l x = (e, true)) : e ∈ l ∧ e.1 = x := by
  induction l with
  | nil => simp [getF] at h
  | cons y l ih =>
    unfold getF at h
    split at h
    · rename_i hy
      have : y = e := congrArg Prod.fst h
      subst this
      exact ⟨List.mem_cons_self, hy⟩
    · exact ⟨List.mem_cons_of_mem _ (ih h).1, (ih h).2⟩

def SG (n m : Nat) (s : Store) : Prop := EG n s.1 ∧ EG m s.2.1 ∧ InR s.2.2.1
theorem SG.zero {n m : Nat} : SG n m (([] : List Entry), (([] : List Entry), ((0 : Int), ()))) := ⟨EG.nil, EG.nil, by show InR (0 : Int); unfold InR; decide⟩
noncomputable def keepsL (s l : List Entry) : List Entry := l.foldl keepL s
theorem keepsL_len : ∀ (l s : List Entry), (keepsL s l).length ≤ s.length + l.length := by
  intro l
  induction l with
  | nil => intro s; exact Nat.le_refl _
  | cons e l ih => intro s; have := ih (keepL s e); have := keepL_len s e; show (keepsL (keepL s e) l).length ≤ _; simp only [List.length_cons]; omega
theorem keepsL_asc : ∀ (l s : List Entry), AscE s → AscE (keepsL s l) := by
  intro l
  induction l with
  | nil => intro s h; exact h
  | cons e l ih => intro s h; exact ih _ h.keep
noncomputable def unionL (s : List Entry) (l : List Store) : List Entry := l.foldl (fun s t => keepsL s t.1) s
def ktS (l : List Store) : Nat := (l.map fun s => s.1.length).sum
/-- Stores whose places are numbers of 64 bits. -/
def StG (l : List Store) : Prop := l.length ≤ 1048576 ∧ ∀ s ∈ l, EG 1048576 s.1 ∧ EG 1048576 s.2.1 ∧ InR s.2.2.1
noncomputable def zSto : Store := (([] : List Entry), (([] : List Entry), ((0 : Int), ())))
theorem ktS_cons (s : Store) (l : List Store) : ktS (s :: l) = s.1.length + ktS l := by simp [ktS]
theorem unionL_asc : ∀ (l : List Store) (s : List Entry), AscE s → AscE (unionL s l) := by
  intro l
  induction l with
  | nil => intro s h; exact h
  | cons t l ih => intro s h; exact ih _ (keepsL_asc _ _ h)
theorem unionL_len : ∀ (l : List Store) (s : List Entry), (unionL s l).length ≤ s.length + ktS l := by
  intro l
  induction l with
  | nil => intro s; exact Nat.le_add_right _ _
  | cons t l ih => intro s; have := ih (keepsL s t.1); have := keepsL_len t.1 s; rw [ktS_cons]; show (unionL (keepsL s t.1) l).length ≤ _; omega
/-- The stores of those that are not lost. -/
noncomputable def othersL (lost : List Int) : Nat → List Store → List Store
  | _, [] => []
  | i, s :: l => if lost.contains (i : Int) = true then othersL lost (i + 1) l else s :: othersL lost (i + 1) l
theorem othersL_cons {lost : List Int} {i : Nat} {s : Store} {l : List Store} : othersL lost i (s :: l) = if lost.contains (i : Int) = true then othersL lost (i + 1) l else s :: othersL lost (i + 1) l := rfl
theorem othersL_mem {lost : List Int} {x : Store} : ∀ {l : List Store} {i : Nat}, x ∈ othersL lost i l → x ∈ l := by
  intro l
  induction l with
  | nil => intro i h; exact h
  | cons s l ih =>
    intro i h
    unfold othersL at h
    split at h
    · exact List.mem_cons_of_mem _ (ih h)
    · rcases List.mem_cons.1 h with rfl | h
      · exact List.mem_cons_self
      · exact List.mem_cons_of_mem _ (ih h)
theorem othersL_len {lost : List Int} : ∀ {l : List Store} {i : Nat}, (othersL lost i l).length ≤ l.length ∧ ktS (othersL lost i l) ≤ ktS l := by
  intro l
  induction l with
  | nil => intro i; exact ⟨Nat.le_refl _, Nat.le_refl _⟩
  | cons s l ih =>
    intro i
    have h1 := (ih (i := i + 1)).1
    have h2 := (ih (i := i + 1)).2
    unfold othersL
    split
    · rw [ktS_cons, List.length_cons]; omega
    · rw [ktS_cons, ktS_cons, List.length_cons, List.length_cons]; omega
theorem StG.others {lost : List Int} {l : List Store} (h : StG l) (i : Nat) : StG (othersL lost i l) := ⟨Nat.le_trans othersL_len.1 h.1, fun s hs => h.2 s (othersL_mem hs)⟩

def MG (s n h w : Nat) (m : Mend) : Prop := m.2.2.1.length ≤ s ∧ EG n m.2.2.2.1 ∧ (m.2.2.2.2.2.1.length ≤ h ∧ ∀ l ∈ m.2.2.2.2.2.1, l.length ≤ w) ∧ InR m.1 ∧ InR m.2.1
theorem MG.mono {s n h w s' n' h' w' : Nat} {m : Mend} (g : MG s n h w m) (h1 : s ≤ s') (h2 : n ≤ n') (h3 : h ≤ h') (h4 : w ≤ w') : MG s' n' h' w' m :=
  ⟨by have := g.1; omega, g.2.1.mono h2, ⟨by have := g.2.2.1.1; omega, fun l hl => by have := g.2.2.1.2 l hl; omega⟩, g.2.2.2⟩
theorem MG.get {s n h w : Nat} {m : Mend} (g : MG s n h w m) (i : Nat) : (m.2.2.2.2.2.1.getD i []).length ≤ w := by
  by_cases hi : i < m.2.2.2.2.2.1.length
  · exact g.2.2.1.2 _ (getD_mem hi)
  · rw [List.getD_eq_getElem?_getD, List.getElem?_eq_none (by omega)]; exact Nat.zero_le _
theorem mend_small {m : Mend} (h : Gd tMend m) (hc : cnt tMend m ≤ 1048576) : MG m.2.2.1.length m.2.2.2.1.length m.2.2.2.2.2.1.length 1048576 m := by
  have hc : 0 + (0 + (cnt (.sl (.int .i64)) m.2.2.1 + (cnt (.sl tEntry) m.2.2.2.1 + (0 + (cnt (.sl (.sl (.int .i64))) m.2.2.2.2.2.1 + 0))))) ≤ 1048576 := hc
  refine ⟨Nat.le_refl _, ents_small h.2.2.2.1, ⟨Nat.le_refl _, fun l hl => ?_⟩, InR_of h.1, InR_of h.2.1⟩
  have hw : cnt (.sl (.sl (.int .i64))) m.2.2.2.2.2.1 = m.2.2.2.2.2.1.length + (m.2.2.2.2.2.1.map fun x => cnt (.sl (.int .i64)) x).sum := rfl
  have := sum_mem (f := fun x => cnt (.sl (.int .i64)) x) hl
  have h2 : cnt (.sl (.int .i64)) l = l.length := cnt_ints l
  have this : cnt (.sl (.int .i64)) l ≤ (m.2.2.2.2.2.1.map fun x => cnt (.sl (.int .i64)) x).sum := this
  omega
theorem mend_cnt (m : Mend) : cnt tMend m = m.2.2.1.length + (cnt (.sl tEntry) m.2.2.2.1 + cnt (.sl (.sl (.int .i64))) m.2.2.2.2.2.1) := by
  show 0 + (0 + (cnt (.sl (.int .i64)) m.2.2.1 + (cnt (.sl tEntry) m.2.2.2.1 + (0 + (cnt (.sl (.sl (.int .i64))) m.2.2.2.2.2.1 + 0))))) = _
  rw [cnt_ints]; omega

/-- A cursor over bytes: where it stands. -/
def Cu (c : l1Cur) : Prop := c.1.length ≤ 1048576 ∧ 0 ≤ c.2.1
theorem spec_l1New_l (b : List Int) (hb : b.length ≤ 1048576) : ∀ (m i : Nat) (h : Int), i + m = b.length → Evp (fun k => spec_l1New.p7 k b h (i : Int)) Cu := by
  intro m
  induction m with
  | zero =>
    intro i h hi
    refine Evp.succ ?_
    simp only [spec_l1New.p7]
    exact Evp.neg (by omega) (Evp.ret ⟨hb, Int.le_refl _⟩)
  | succ m ih =>
    intro i h hi
    refine Evp.succ ?_
    simp only [spec_l1New.p7]
    refine Evp.pos (by omega) (Evp.ite (fun _ => Evp.pos (by omega) ?_) (fun _ => Evp.ret ⟨hb, Int.le_refl _⟩))
    rw [wrap_up (i := i) (n := b.length) (by omega) (by omega)]
    exact ih (i + 1) _ (by omega)
theorem spec_l1New_d (b : List Int) (hb : b.length ≤ 1048576) : Evp (fun k => spec_l1New.f k b) Cu := spec_l1New_l b hb b.length 0 _ (by omega)

theorem and255 (x : Int) : 0 ≤ andK .i64 x 255 ∧ andK .i64 x 255 ≤ 255 := by
  have e : andK .i64 x 255 = wrap64 (((BitVec.ofInt 64 x &&& BitVec.ofInt 64 255).toNat : Nat) : Int) := rfl
  have h : (BitVec.ofInt 64 x &&& BitVec.ofInt 64 255).toNat ≤ 255 := by
    rw [BitVec.toNat_and]
    exact Nat.le_trans Nat.and_le_right (by decide)
  rw [e, wrap64_id (by omega) (by omega)]
  omega
theorem spec_l1Byte_d (c : l1Cur) (h : Cu c) : Op (spec_l1Byte.f c) (fun r => 0 ≤ r.1 ∧ r.1 ≤ 255 ∧ Cu r.2) := by
  obtain ⟨h1, h2⟩ := h
  unfold spec_l1Byte.f
  refine Op.ite (fun hl => Op.pos ⟨h2, hl⟩ (Op.ret ⟨(and255 _).1, (and255 _).2, h1, ?_⟩)) (fun hl => Op.ret ⟨(and255 _).1, (and255 _).2, h1, h2⟩)
  show (0 : Int) ≤ wrap64 (c.2.1 + 1)
  rw [wrap64_id (by omega) (by omega)]; omega

theorem spec_l1Below_d (c : l1Cur) (n : Int) (h : Cu c) : Op (spec_l1Below.f c n) (fun r => 0 ≤ r.1 ∧ (0 < n → r.1 < n) ∧ (n ≤ 0 → r.1 = 0) ∧ Cu r.2) := by
  unfold spec_l1Below.f
  refine Op.ite (fun h0 => Op.ret ⟨by show (0 : Int) ≤ 0; omega, fun h1 => by omega, fun _ => rfl, h⟩) (fun h0 => Op.ite (fun h1 => Op.bind (spec_l1Byte_d c h) fun r hr => ?_) (fun h1 => ?_))
  · refine Op.neg (by omega) (Op.ret ?_)
    show 0 ≤ Int.tmod r.1 n ∧ (0 < n → Int.tmod r.1 n < n) ∧ (n ≤ 0 → Int.tmod r.1 n = 0) ∧ Cu r.2
    rw [Int.tmod_eq_emod_of_nonneg hr.1]
    exact ⟨Int.emod_nonneg _ (by omega), fun _ => Int.emod_lt_of_pos _ (by omega), fun _ => by omega, hr.2.2⟩
  · refine Op.bind (spec_l1Byte_d c h) fun r hr => Op.bind (spec_l1Byte_d _ hr.2.2) fun s hs => Op.bind (spec_l1Byte_d _ hs.2.2) fun t ht => Op.bind (spec_l1Byte_d _ ht.2.2) fun u hu => Op.neg (by omega) (Op.ret ?_)
    obtain ⟨a1, a2, _⟩ := hr
    obtain ⟨b1, b2, _⟩ := hs
    obtain ⟨c1, c2, _⟩ := ht
    obtain ⟨d1, d2, d3⟩ := hu
    rw [wrap64_id (x := r.1 * 16777216) (by omega) (by omega), wrap64_id (x := s.1 * 65536) (by omega) (by omega), wrap64_id (x := r.1 * 16777216 + s.1 * 65536) (by omega) (by omega), wrap64_id (x := t.1 * 256) (by omega) (by omega), wrap64_id (x := r.1 * 16777216 + s.1 * 65536 + t.1 * 256) (by omega) (by omega), wrap64_id (x := r.1 * 16777216 + s.1 * 65536 + t.1 * 256 + u.1) (by omega) (by omega)]
    have hz : (0 : Int) ≤ r.1 * 16777216 + s.1 * 65536 + t.1 * 256 + u.1 := by omega
    show 0 ≤ Int.tmod _ n ∧ (0 < n → Int.tmod _ n < n) ∧ (n ≤ 0 → Int.tmod _ n = 0) ∧ Cu u.2
    rw [Int.tmod_eq_emod_of_nonneg hz]
    exact ⟨Int.emod_nonneg _ (by omega), fun _ => Int.emod_lt_of_pos _ (by omega), fun _ => by omega, d3⟩

theorem InR_wrap (x : Int) : InR (wrap64 x) := by
  have h : wrap64 x = (if (true && decide (x % 2 ^ 64 ≥ 2 ^ (64 - 1))) = true then x % 2 ^ 64 - 2 ^ 64 else x % 2 ^ 64) := rfl
  rw [h]
  have h1 : 0 ≤ x % 2 ^ 64 := Int.emod_nonneg _ (by decide)
  have h2 : x % 2 ^ 64 < 2 ^ 64 := Int.emod_lt_of_pos _ (by decide)
  unfold InR
  split
  · rename_i h; simp at h; omega
  · rename_i h; simp at h; omega
theorem spec_l1Place_is (a b : Int) : Op (spec_l1Place.f a b) InR := ⟨_, rfl, InR_wrap _⟩

theorem spec_l1Pick_d (c : l1Cur) (l : List ByteArray) (h : Cu c) (hl : 0 < l.length) : Op (spec_l1Pick.f c l) (fun r => Cu r.2) := by
  unfold spec_l1Pick.f
  refine Op.bind (spec_l1Below_d c _ h) fun r hr => ?_
  have h1 := hr.2.1 (by omega)
  exact Op.pos ⟨hr.1, h1⟩ (Op.ret hr.2.2.2)

theorem spec_l1Once_d (c : l1Cur) (n : Int) (h : Cu c) : Op (spec_l1Once.f c n) (fun r => Cu r.2) := by
  unfold spec_l1Once.f
  exact Op.bind (spec_l1Below_d c n h) fun r hr => Op.ret hr.2.2.2

theorem spec_l1In_is (x a b : Int) : spec_l1In.f x a b = some (inB x a b) := ite_inB x a b

/-- A place: its epoch, its offset. -/
def placeOk (x : Int) : Bool := decide (0 < x) && (inB (x / 4294967296) 1 30 && inB (x % 4294967296) 1 60)
def epochOf (x : Int) : Int := if placeOk x = true then x / 4294967296 else 0
def offOf (x : Int) : Int := if placeOk x = true then x % 4294967296 else 0
theorem tdiv_pos {x : Int} (h : 0 ≤ x) : Int.tdiv x 4294967296 = x / 4294967296 := Int.tdiv_eq_ediv_of_nonneg h
theorem tmod_pos {x : Int} (h : 0 ≤ x) : Int.tmod x 4294967296 = x % 4294967296 := Int.tmod_eq_emod_of_nonneg h
theorem tdiv_neg' {x : Int} (h : x ≤ 0) : Int.tdiv x 4294967296 = -((-x) / 4294967296) := by
  have h1 : Int.tdiv (-x) 4294967296 = (-x) / 4294967296 := Int.tdiv_eq_ediv_of_nonneg (by omega)
  have h2 := Int.neg_tdiv (-x) 4294967296
  rw [Int.neg_neg] at h2
  rw [h2, h1]
theorem placeOk_pos {x : Int} (h : placeOk x = true) : 0 < x ∧ (1 ≤ x / 4294967296 ∧ x / 4294967296 ≤ 30) ∧ (1 ≤ x % 4294967296 ∧ x % 4294967296 ≤ 60) := by
  simpa only [placeOk, Bool.and_eq_true, inB_true, decide_eq_true_eq] using h
theorem epochOf_pos {x : Int} (h : placeOk x = true) : epochOf x = x / 4294967296 ∧ 1 ≤ epochOf x ∧ epochOf x ≤ 30 := by
  have h' := placeOk_pos h
  unfold epochOf
  rw [if_pos h]
  omega
theorem spec_PlaceOk_is (x : Int) (hx : InR x) : spec_PlaceOk.f x = some (placeOk x) := by
  have h2 := hx.2
  simp only [spec_PlaceOk.f, placeOk, spec_l1In_is]
  by_cases h : 0 < x
  · rw [if_pos h, tdiv_pos (by omega), tmod_pos (by omega), wrap64_id (by omega) (by omega)]
    cases inB (x / 4294967296) 1 30 <;> simp [h]
  · rw [if_neg h]
    simp [h]

theorem spec_EpochOf_is (x : Int) (hx : InR x) : spec_EpochOf.f x = some (epochOf x) := by
  have h2 := hx.2
  simp only [spec_EpochOf.f, spec_PlaceOk_is x hx, Option.bind_some, epochOf]
  by_cases h : placeOk x = true
  · have := placeOk_pos h
    rw [if_pos h, if_pos h, tdiv_pos (by omega), wrap64_id (by omega) (by omega)]
  · rw [if_neg h, if_neg h]

theorem spec_l3DrawRight_d (c : l1Cur) (h : Cu c) : Op (spec_l3DrawRight.f c) (fun r => InR r.1.1 ∧ Cu r.2) := by
  unfold spec_l3DrawRight.f
  refine Op.bind (spec_l1Below_d c 3 h) fun r hr => Op.bind (spec_l1Below_d _ 6 hr.2.2.2) fun s hs => Op.bind (spec_l1Place_is _ _) fun p hp => Op.bind (spec_l1Pick_d _ _ hs.2.2.2 (by decide)) fun t ht => Op.bind (spec_l1Once_d _ 3 ht) fun u hu => ?_
  refine Op.ite (fun _ => Op.bind (P := fun _ => True) ⟨_, spec_EpochOf_is p hp, trivial⟩ fun e _ => Op.bind (spec_l1Below_d _ 3 hu) fun v hv => Op.bind (spec_l1Once_d _ 2 hv.2.2.2) fun w hw => Op.ite (fun _ => Op.ret ⟨hp, hw⟩) (fun _ => Op.ret ⟨hp, hw⟩)) (fun _ => Op.ret ⟨hp, hu⟩)

/-- An entry that is right. -/
noncomputable def entB (e : Entry) : Bool := placeOk e.1 && (inB e.2.1 0 30 && (!(decide (0 < e.2.1) && decide (e.2.1 ≤ epochOf e.1)) && (decide (((e.2.2.2.1.size : Nat) : Int) ≤ 40) && (!e.2.2.1 || (decide (0 < e.2.1) && decide (e.2.2.2.1 = (⟨#[]⟩ : ByteArray)))))))
theorem spec_EntryOk_ev (e : Entry) (ha : InR e.1) : Ev (fun k => spec_EntryOk.f k e) (entB e) := by
  have tail : Ev (fun k => spec_EntryOk.p6 k e) (!e.2.2.1 || (decide (0 < e.2.1) && decide (e.2.2.2.1 = (⟨#[]⟩ : ByteArray)))) := by
    refine Ev.succ ?_
    simp only [spec_EntryOk.p6]
    cases hc : e.2.2.1 with
    | true => exact Ev.pos rfl (Ev.andc fun _ => Ev.ret)
    | false => exact Ev.neg (by decide) Ev.ret
  have tail2 : Ev (fun k => if (40 : Int) < ((e.2.2.2.1.size : Nat) : Int) then some false else spec_EntryOk.p6 k e) (decide (((e.2.2.2.1.size : Nat) : Int) ≤ 40) && (!e.2.2.1 || (decide (0 < e.2.1) && decide (e.2.2.2.1 = (⟨#[]⟩ : ByteArray))))) :=
    (Ev.nand fun _ => tail).eq (by
      by_cases h : (40 : Int) < ((e.2.2.2.1.size : Nat) : Int)
      · rw [decide_eq_true h, decide_eq_false (show ¬ ((e.2.2.2.1.size : Nat) : Int) ≤ 40 by omega)]; rfl
      · rw [decide_eq_false h, decide_eq_true (show ((e.2.2.2.1.size : Nat) : Int) ≤ 40 by omega)]; rfl)
  simp only [spec_EntryOk.f, spec_PlaceOk_is _ ha, spec_EpochOf_is _ ha, spec_l1In_is, Option.bind_some, entB]
  refine Ev.and fun _ => Ev.and fun _ => ?_
  by_cases h0 : (0 : Int) < e.2.1
  · refine (Ev.pos h0 (Ev.nand fun _ => tail2)).eq ?_
    simp only [decide_eq_true h0, Bool.true_and]
  · rw [show (decide ((0 : Int) < e.2.1) && decide (e.2.1 ≤ epochOf e.1)) = false by rw [decide_eq_false h0]; rfl, Bool.not_false, Bool.true_and]
    exact Ev.neg h0 tail2

noncomputable def entsB (l : List Entry) : Bool := (List.range' 0 l.length).all fun i => entB (l.getD i zEnt)
theorem spec_l6List_ev (l : List Entry) (n : Int) (hl : l.length ≤ 1048576) (ha : ∀ i, i < l.length → InR (l.getD i zEnt).1) : Ev (fun k => spec_l6List.f k l n) (!decide (n < ((l.length : Nat) : Int)) && entsB l) := by
  have h := all_loop (n := l.length) (p := fun k i => spec_l6List.p9 k l i) (q := fun i => entB (l.getD i zEnt)) (zb := true) (fun i hi b hb => by
    simp only [spec_l6List.p9, Int.toNat_natCast]
    rw [wrap_up hi (by omega)]
    exact Ev.pos (by omega) (Ev.pos (by omega) (Ev.bind (spec_EntryOk_ev _ (ha i hi)) (Ev.and fun _ => hb)))) (by
    simp only [spec_l6List.p9]
    exact Ev.neg (by omega) Ev.ret) l.length 0 (by omega)
  rw [Bool.and_true] at h
  simp only [spec_l6List.f]
  exact Ev.nand fun _ => h

theorem spec_l6Asc_ev (l : List Entry) (hl : l.length ≤ 1048576) : Ev (fun k => spec_l6Asc.f k l) (ascE l) := by
  have h := all_loop (n := l.length) (p := fun k i => if i = 0 then spec_l6Asc.p5 k l 1 else spec_l6Asc.p5 k l i) (q := fun i => !(decide (0 < i) && decide ((l.getD i zEnt).1 ≤ (l.getD (i - 1) zEnt).1))) (zb := true) (fun i hi b hb => by
    by_cases h0 : i = 0
    · subst h0
      refine (Ev.pos rfl ?_).eq (v := b) (by rfl)
      have hb' : Ev (fun k => spec_l6Asc.p5 k l 1) b := hb.cg fun k => (if_neg (by decide)).symm
      obtain ⟨K, hK⟩ := hb'
      exact ⟨K, fun k hk => hK (k + 1) (by omega)⟩
    · refine Ev.neg (by omega) ?_
      have hb' : Ev (fun k => spec_l6Asc.p5 k l (((i + 1 : Nat)) : Int)) b := hb.cg fun k => (if_neg (by omega)).symm
      have e2 : wrap64 ((i : Int) - 1) = ((i - 1 : Nat) : Int) := by rw [wrap64_id (by omega) (by omega)]; omega
      simp only [spec_l6Asc.p5, e2, Int.toNat_natCast]
      rw [wrap_up hi (by omega), decide_eq_true (show 0 < i by omega), Bool.true_and]
      exact Ev.pos (by omega) (Ev.pos (by omega) (Ev.pos (by omega) (Ev.nand fun _ => hb')))) (by
    by_cases h0 : l.length = 0
    · refine Ev.pos (by omega) ?_
      simp only [spec_l6Asc.p5]
      exact Ev.neg (by omega) Ev.ret
    · refine Ev.neg (by omega) ?_
      simp only [spec_l6Asc.p5]
      exact Ev.neg (by omega) Ev.ret) l.length 0 (by omega)
  rw [Bool.and_true] at h
  exact h.cg fun k => (if_pos rfl).symm

noncomputable def storeB (s : Store) : Bool := decide (((s.1.length : Nat) : Int) ≤ 200) && (entsB s.1 && (decide (((s.2.1.length : Nat) : Int) ≤ 20) && (entsB s.2.1 && (ascE s.1 && inB s.2.2.1 0 30))))
theorem ndec (a b : Int) : (!decide (a < b)) = decide (b ≤ a) := by
  by_cases h : a < b
  · rw [decide_eq_true h, decide_eq_false (by omega)]; rfl
  · rw [decide_eq_false h, decide_eq_true (by omega)]; rfl
theorem spec_StoreOk_ev (s : Store) (h1 : s.1.length ≤ 1048576) (h2 : s.2.1.length ≤ 1048576) (a1 : ∀ i, i < s.1.length → InR (s.1.getD i zEnt).1) (a2 : ∀ i, i < s.2.1.length → InR (s.2.1.getD i zEnt).1) : Ev (fun k => spec_StoreOk.f k s) (storeB s) := by
  have e1 := spec_l6List_ev s.1 200 h1 a1
  have e2 := spec_l6List_ev s.2.1 20 h2 a2
  simp only [spec_StoreOk.f, spec_l1In_is, Option.bind_some, storeB]
  rw [ndec] at e1 e2
  refine (Ev.bind e1 (Ev.and fun _ => Ev.bind e2 (Ev.and fun _ => Ev.bind (spec_l6Asc_ev s.1 h1) (Ev.and fun _ => Ev.ret)))).eq ?_
  simp only [Bool.and_assoc]
noncomputable def unionF (l : List Store) : List Entry := if l.all storeB = true then unionL [] l else []
theorem StG.ok {l : List Store} (h : StG l) {i : Nat} (hi : i < l.length) : Ev (fun k => spec_StoreOk.f k (l.getD i zSto)) (storeB (l.getD i zSto)) := by
  have := h.2 _ (getD_mem (d := zSto) hi)
  exact spec_StoreOk_ev _ this.1.1 this.2.1.1 this.1.at this.2.1.at
noncomputable def fillS (l : List Store) (upto : Int) : Store := (unionL [] l, (([] : List Entry), (upto, ())))
noncomputable def fillG (l : List Store) (upto : Int) : Store × Bool := if l.all storeB = true then (if storeB (fillS l upto) = true then (fillS l upto, true) else (zSto, false)) else (zSto, false)
theorem unionL_EG (l : List Store) (h : StG l) (hk : ktS l ≤ 1048576) : EG 1048576 (unionL [] l) := by
  refine ⟨by have := unionL_len l []; simp at this; omega, ?_⟩
  have key : ∀ (l : List Store) (s : List Entry), (∀ t ∈ l, ∀ e ∈ t.1, InR e.1) → (∀ e ∈ s, InR e.1) → ∀ e ∈ unionL s l, InR e.1 := by
    intro l
    induction l with
    | nil => intro s _ hs; exact hs
    | cons t l ih =>
      intro s hl hs
      refine ih _ (fun t ht => hl t (List.mem_cons_of_mem _ ht)) ?_
      have hk : ∀ (r s : List Entry), (∀ e ∈ r, InR e.1) → (∀ e ∈ s, InR e.1) → ∀ e ∈ keepsL s r, InR e.1 := by
        intro r
        induction r with
        | nil => intro s _ hs; exact hs
        | cons x r ihr =>
          intro s hr hs
          refine ihr _ (fun e he => hr e (List.mem_cons_of_mem _ he)) fun e he => ?_
          rcases keepL_mem he with rfl | he
          · exact hr _ List.mem_cons_self
          · exact hs e he
      exact hk t.1 s (hl t List.mem_cons_self) hs
  exact key l [] (fun t ht => (h.2 t ht).1.2) (fun e he => by cases he)

theorem spec_l6Copy_is (s : Store) (h1 : s.1.length ≤ 1048576) (h2 : s.2.1.length ≤ 1048576) : spec_l6Copy.f s = some s := by
  unfold spec_l6Copy.f
  rw [if_pos (by simp only [lim_eq, List.length_nil]; omega), if_pos (by simp only [lim_eq, List.length_nil]; omega)]
  rfl

theorem spec_l6Takes_d (s : Store) (e : Entry) (h : InR e.1) : Op (spec_l6Takes.f s e) (fun _ => True) := by
  unfold spec_l6Takes.f
  exact Op.ite (fun _ => Op.bind (P := fun _ => True) ⟨_, spec_EpochOf_is _ h, trivial⟩ fun _ _ => Op.ret trivial) (fun _ => Op.ret trivial)

theorem spec_StorePut_d {n m : Nat} (s : Store) (e : Entry) (hn : n ≤ 4096) (hm : m ≤ 4096) (h : SG n m s) (he : InR e.1) : Evp (fun k => spec_StorePut.f k s e) (fun q => SG n (m + 1) q.1) := by
  obtain ⟨h1, h2, h3⟩ := h
  have l1 := h1.1; have l2 := h2.1
  have same : SG n (m + 1) s := ⟨h1, h2.mono (by omega), h3⟩
  simp only [spec_StorePut.f]
  refine Evp.bindv (spec_StoreOk_ev s (by omega) (by omega) h1.at h2.at) (Evp.ite (fun _ => Evp.bindv (Ev.of (spec_l6Copy_is s (by omega) (by omega))) (Evp.bindv (spec_EntryOk_ev e he) (Evp.ite (fun _ => Evp.bindc (spec_l6Takes_d s e he) fun _ _ => Evp.ite (fun _ => Evp.ite (fun _ => Evp.ret same) (fun _ => Evp.pos (by simp only [lim_eq, List.length_cons, List.length_nil]; omega) (Evp.ret ⟨h1, h2.app he, h3⟩))) (fun _ => Evp.ret same)) (fun _ => Evp.ret same)))) (fun _ => Evp.ret SG.zero))

theorem spec_l6Keep_l (l : List Entry) (e : Entry) (hl : EG 16384 l) (he : InR e.1) : ∀ (m i : Nat) (o : List Entry) (b : Bool), i + m = l.length → EG (i + (if b = true then 1 else 0)) o → Evp (fun k => spec_l6Keep.p9 k l o b (i : Int) e) (fun r => EG (l.length + 1) r) := by
  intro m
  have hll := hl.1
  induction m with
  | zero =>
    intro i o b h ho
    refine Evp.succ ?_
    simp only [spec_l6Keep.p9]
    refine Evp.neg (by omega) ?_
    cases b with
    | true => exact Evp.pos rfl (Evp.ret (ho.mono (by simp; omega)))
    | false => have := ho.1; simp at this; exact Evp.neg (by decide) (Evp.pos (by simp only [lim_eq, List.length_cons, List.length_nil]; omega) (Evp.ret ((ho.app he).mono (by simp; omega))))
  | succ m ih =>
    intro i o b h ho
    have hol := ho.1
    have hob : i + (if b = true then 1 else 0) ≤ i + 1 := by split <;> omega
    have ew : wrap64 ((i : Int) + 1) = ((i + 1 : Nat) : Int) := wrap_up (n := l.length) (by omega) (by omega)
    have h18 : Evp (fun k => spec_l6Keep.p18 k l o b (i : Int) e) (fun r => EG (l.length + 1) r) := by
      refine Evp.succ ?_
      simp only [spec_l6Keep.p18, ew, Int.toNat_natCast]
      cases b with
      | true =>
        refine Evp.pos rfl (Evp.pos (by omega) (Evp.pos (by simp only [lim_eq, List.length_cons, List.length_nil]; omega) ?_))
        exact ih (i + 1) _ true (by omega) ((ho.app (hl.at i (by omega))).mono (by simp))
      | false =>
        refine Evp.neg (by decide) (Evp.pos (by omega) (Evp.ite (fun _ => Evp.pos (by simp only [lim_eq, List.length_cons, List.length_nil]; omega) (Evp.pos (by omega) (Evp.pos (by simp only [lim_eq, List.length_append, List.length_cons, List.length_nil]; omega) ?_))) (fun _ => Evp.pos (by omega) (Evp.pos (by simp only [lim_eq, List.length_cons, List.length_nil]; omega) ?_))))
        · exact ih (i + 1) _ true (by omega) (((ho.app he).app (hl.at i (by omega))).mono (by simp))
        · exact ih (i + 1) _ false (by omega) ((ho.app (hl.at i (by omega))).mono (by simp))
    refine Evp.succ ?_
    simp only [spec_l6Keep.p9, ew, Int.toNat_natCast]
    refine Evp.pos (by omega) (Evp.ite (fun _ => h18) (fun hb => Evp.pos (by omega) (Evp.ite (fun hp => Evp.pos (by omega) ?_) (fun _ => h18))))
    have hbt : ∃ z : Entry, spec_Better.f (l.getD i ((0 : Int), ((0 : Int), (false, ((⟨#[]⟩ : ByteArray), ()))))) e = some z ∧ InR z.1 := by
      unfold spec_Better.f
      split
      · exact ⟨_, rfl, he⟩
      · exact ⟨_, rfl, hl.at i (by omega)⟩
    obtain ⟨z, hz, hzr⟩ := hbt
    refine Evp.bindv (Ev.of hz) (Evp.pos (by simp only [lim_eq, List.length_cons, List.length_nil]; omega) ?_)
    exact ih (i + 1) _ true (by omega) ((ho.app hzr).mono (by simp; split <;> omega))
theorem spec_l6Keep_d (l : List Entry) (e : Entry) (hl : EG 16384 l) (he : InR e.1) : Evp (fun k => spec_l6Keep.f k l e) (fun r => EG (l.length + 1) r) := spec_l6Keep_l l e hl he l.length 0 [] false (by omega) EG.nil
theorem spec_l6Keep_ll (l : List Entry) (e : Entry) (hl : l.length ≤ 1048576) : ∀ (m i : Nat) (o : List Entry) (b : Bool), i + m = l.length → o.length ≤ i + (if b = true then 1 else 0) → Ev (fun k => spec_l6Keep.p9 k l o b (i : Int) e) (o ++ if b = true then l.drop i else keepL (l.drop i) e) := by
  intro m
  induction m with
  | zero =>
    intro i o b h ho
    refine Ev.succ ?_
    simp only [spec_l6Keep.p9]
    rw [List.drop_eq_nil_of_le (by omega)]
    refine Ev.neg (by omega) ?_
    cases b with
    | true => exact Ev.pos (by trivial) (Ev.ret.eq (by simp))
    | false => simp at ho; exact Ev.neg (by decide) (Ev.pos (by simp only [lim_eq, List.length_cons, List.length_nil]; omega) (Ev.ret.eq (by simp [keepL])))
  | succ m ih =>
    intro i o b h ho
    have ew : wrap64 ((i : Int) + 1) = ((i + 1 : Nat) : Int) := wrap_up (n := l.length) (by omega) (by omega)
    have hd := drop_get (d := ((0 : Int), ((0 : Int), (false, ((⟨#[]⟩ : ByteArray), ()))))) (by omega : i < l.length)
    refine Ev.succ ?_
    cases b with
    | true =>
      simp at ho
      simp only [spec_l6Keep.p9]
      refine Ev.pos (by omega) (Ev.pos (by trivial) (Ev.succ ?_))
      simp only [spec_l6Keep.p18, ew, Int.toNat_natCast]
      refine Ev.pos (by trivial) (Ev.pos (by omega) (Ev.pos (by simp only [lim_eq, List.length_cons, List.length_nil]; omega) ?_))
      exact (ih (i + 1) _ true (by omega) (by simp; omega)).eq (by rw [hd]; simp)
    | false =>
      simp at ho
      have h18 : ¬ (l.getD i ((0 : Int), ((0 : Int), (false, ((⟨#[]⟩ : ByteArray), ()))))).1 = e.1 → Ev (fun k => spec_l6Keep.p18 k l o false (i : Int) e) (o ++ keepL (l.drop i) e) := fun hne => by
        refine Ev.succ ?_
        simp only [spec_l6Keep.p18, ew, Int.toNat_natCast]
        refine Ev.neg (by decide) (Ev.pos (by omega) ?_)
        rw [hd]
        by_cases hx : e.1 < (l.getD i ((0 : Int), ((0 : Int), (false, ((⟨#[]⟩ : ByteArray), ()))))).1
        · refine Ev.pos hx (Ev.pos (by simp only [lim_eq, List.length_cons, List.length_nil]; omega) (Ev.pos (by omega) (Ev.pos (by simp only [lim_eq, List.length_append, List.length_cons, List.length_nil]; omega) ?_)))
          exact (ih (i + 1) _ true (by omega) (by simp; omega)).eq (by unfold keepL; rw [if_neg hne, if_pos hx]; simp)
        · refine Ev.neg hx (Ev.pos (by omega) (Ev.pos (by simp only [lim_eq, List.length_cons, List.length_nil]; omega) ?_))
          exact (ih (i + 1) _ false (by omega) (by simp; omega)).eq (by (conv => rhs; unfold keepL); rw [if_neg hne, if_neg hx]; simp)
      simp only [spec_l6Keep.p9, ew, Int.toNat_natCast]
      refine Ev.pos (by omega) (Ev.neg (by decide) (Ev.pos (by omega) ?_))
      by_cases hq : (l.getD i ((0 : Int), ((0 : Int), (false, ((⟨#[]⟩ : ByteArray), ()))))).1 = e.1
      · refine Ev.pos hq (Ev.pos (by omega) (Ev.bindc (a := better (l.getD i ((0 : Int), ((0 : Int), (false, ((⟨#[]⟩ : ByteArray), ()))))) e) ?_ (Ev.pos (by simp only [lim_eq, List.length_cons, List.length_nil]; omega) ?_)))
        · unfold spec_Better.f better; split <;> rfl
        · exact (ih (i + 1) _ true (by omega) (by simp; omega)).eq (by rw [hd]; unfold keepL; rw [if_pos hq]; simp)
      · exact Ev.neg hq (h18 hq)
theorem spec_l6Keep_ev (l : List Entry) (e : Entry) (hl : l.length ≤ 1048576) : Ev (fun k => spec_l6Keep.f k l e) (keepL l e) := (spec_l6Keep_ll l e hl l.length 0 [] false (by omega) (by simp)).eq (by simp)

theorem spec_StoreCrash_l {n : Nat} (x0 : Int) (s z : Store) (hs : SG n n s) (hn : n ≤ 4096) : ∀ (m i : Nat) (t : Store), i + m = s.2.1.length → SG (s.1.length + i) 0 t → Evp (fun k => spec_StoreCrash.p11 k x0 (i : Int) s z t) (fun q => q.2 = true → SG (s.1.length + s.2.1.length) 0 q.1) := by
  obtain ⟨h1, h2, h3⟩ := hs
  have l1 := h1.1; have l2 := h2.1
  intro m
  induction m with
  | zero =>
    intro i t hi ht
    refine Evp.succ ?_
    simp only [spec_StoreCrash.p11, spec_l1In_is, Option.bind_some, spec_l6Copy_is s (by omega) (by omega)]
    refine Evp.neg (by omega) (Evp.ite (fun _ => Evp.ite (fun _ => Evp.ret (fun h => by cases h)) (fun _ => Evp.ret (fun _ => ?_))) (fun _ => Evp.ret (fun h => by cases h)))
    have : i = s.2.1.length := by omega
    subst this; exact ht
  | succ m ih =>
    intro i t hi ht
    refine Evp.succ ?_
    simp only [spec_StoreCrash.p11, Int.toNat_natCast]
    rw [wrap_up (i := i) (n := s.2.1.length) (by omega) (by omega)]
    refine Evp.pos (by omega) (Evp.pos (by omega) (Evp.ite (fun _ => Evp.pos (by omega) (Evp.bind (spec_l6Keep_d t.1 _ (ht.1.mono (by omega)) (h2.at i (by omega))) fun r hr => ?_)) (fun _ => ?_)))
    · exact ih (i + 1) _ (by omega) ⟨hr.mono (by have := ht.1.1; omega), ht.2.1, ht.2.2⟩
    · exact ih (i + 1) _ (by omega) ⟨ht.1.mono (by omega), ht.2.1, ht.2.2⟩
theorem spec_StoreCrash_d {n : Nat} (s : Store) (x0 : Int) (hs : SG n n s) (hn : n ≤ 4096) : Evp (fun k => spec_StoreCrash.f k s x0) (fun q => q.2 = true → SG (s.1.length + s.2.1.length) 0 q.1) := by
  have hs' := hs
  obtain ⟨h1, h2, h3⟩ := hs'
  have l1 := h1.1; have l2 := h2.1
  simp only [spec_StoreCrash.f]
  refine Evp.bindv (spec_StoreOk_ev s (by omega) (by omega) h1.at h2.at) (Evp.ite (fun _ => Evp.pos (by simp only [lim_eq, List.length_nil]; omega) ?_) (fun _ => Evp.ret (fun h => by cases h)))
  exact spec_StoreCrash_l x0 s _ hs hn s.2.1.length 0 _ (by omega) ⟨⟨by show s.1.length ≤ _; omega, h1.2⟩, EG.nil, h3⟩

theorem spec_StoreSync_d {n : Nat} (s : Store) (hs : SG n n s) (hn : n ≤ 4096) : Evp (fun k => spec_StoreSync.f k s) (fun q => q.2 = true → SG (s.1.length + s.2.1.length) 0 q.1) := by
  simp only [spec_StoreSync.f]
  exact Evp.bind (spec_StoreCrash_d s _ hs hn) fun r hr => Evp.ret hr

theorem spec_l1Max_d (a b : Int) : Op (spec_l1Max.f a b) (fun r => a ≤ r ∧ b ≤ r ∧ (r = a ∨ r = b)) := by
  unfold spec_l1Max.f
  exact Op.ite (fun h => Op.ret ⟨by omega, by omega, .inl rfl⟩) (fun h => Op.ret ⟨by omega, by omega, .inr rfl⟩)

theorem spec_StoreSeal_d {n : Nat} (s : Store) (x : Int) (hs : SG n n s) (hn : n ≤ 4096) (hx : InR x) : Evp (fun k => spec_StoreSeal.f k s x) (fun q => q.2 = true → SG (s.1.length + s.2.1.length) 0 q.1) := by
  have hs' := hs
  obtain ⟨h1, h2, h3⟩ := hs'
  have l1 := h1.1; have l2 := h2.1
  simp only [spec_StoreSeal.f, spec_l1In_is, Option.bind_some, spec_l6Copy_is s (by omega) (by omega), spec_l1Max.f]
  refine Evp.bindv (spec_StoreOk_ev s (by omega) (by omega) h1.at h2.at) (Evp.ite (fun _ => Evp.bind (spec_StoreSync_d s hs hn) fun r hr => Evp.ite (fun ht => Evp.ite (fun _ => ?_) (fun _ => Evp.ret (fun h => by cases h))) (fun _ => Evp.ret (fun h => by cases h))) (fun _ => Evp.ret (fun h => by cases h)))
  have g := hr ht
  by_cases hm : x < r.1.2.2.1
  · simp only [if_pos hm, Option.bind_some]
    exact Evp.ret (fun _ => g)
  · simp only [if_neg hm, Option.bind_some]
    exact Evp.ret (fun _ => ⟨g.1, g.2.1, hx⟩)

/-- At most n entries in all. -/
def TG (n : Nat) (s : Store) : Prop := SG n n s ∧ s.1.length + s.2.1.length ≤ n
theorem TG.mono {n m : Nat} {s : Store} (h : TG n s) (hm : n ≤ m) : TG m s := ⟨⟨h.1.1.mono hm, h.1.2.1.mono hm, h.1.2.2⟩, by have := h.2; omega⟩
theorem TG.of {n : Nat} {s t : Store} (h : TG n s) (ht : SG (s.1.length + s.2.1.length) 0 t) : TG n t := by
  have := h.2
  have h1 := ht.1.1; have h2 := ht.2.1.1
  exact ⟨⟨ht.1.mono (by omega), ht.2.1.mono (by omega), ht.2.2⟩, by omega⟩
theorem TG.put {n : Nat} {s t : Store} (h : TG n s) (ht : SG s.1.length (s.2.1.length + 1) t) : TG (n + 1) t := by
  have := h.2
  have h1 := ht.1.1; have h2 := ht.2.1.1
  exact ⟨⟨ht.1.mono (by omega), ht.2.1.mono (by omega), ht.2.2⟩, by omega⟩
theorem spec_l6DrawRight_e (z : Store) (a : Int) : ∀ (m i : Nat) (s : Store) (c : l1Cur) (N : Nat), i + m = 51 → s.1.length + m ≤ N → N ≤ 4096 → EG 4096 s.1 → EG 4096 s.2.1 → InR s.2.2.1 → Cu c →
    (∀ (t : Store) (c : l1Cur), t.1.length ≤ N → EG 4096 t.1 → t.2 = s.2 → Cu c → Evp (fun k => spec_l6DrawRight.p41 k (wrap64 (a + 1)) z t c) (fun q => EG 4096 q.1.1 ∧ EG 4096 q.1.2.1 ∧ InR q.1.2.2.1 ∧ Cu q.2)) →
    Evp (fun k => spec_l6DrawRight.p47 k a (i : Int) z s c) (fun q => EG 4096 q.1.1 ∧ EG 4096 q.1.2.1 ∧ InR q.1.2.2.1 ∧ Cu q.2) := by
  intro m
  induction m with
  | zero =>
    intro i s c N hi hN hN2 h1 h2 h3 hc hk
    refine Evp.succ ?_
    simp only [spec_l6DrawRight.p47]
    exact Evp.neg (by omega) (hk s c (by omega) h1 rfl hc)
  | succ m ih =>
    intro i s c N hi hN hN2 h1 h2 h3 hc hk
    have hl := h1.1
    refine Evp.succ ?_
    simp only [spec_l6DrawRight.p47]
    rw [wrap_up (i := i) (n := 51) (by omega) (by omega)]
    refine Evp.pos (by omega) (Evp.bindc (spec_l1Place_is _ _) fun p hp => Evp.pos (by simp only [lim_eq, List.length_cons, List.length_nil]; omega) ?_)
    exact ih (i + 1) (s.1 ++ [(p, ((0 : Int), (false, ((⟨#[]⟩ : ByteArray), ()))))], s.2) c N (by omega) (by simp; omega) hN2 ⟨by simp; omega, ((EG.app (n := s.1.length) ⟨Nat.le_refl _, h1.2⟩ hp)).2⟩ h2 h3 hc hk
theorem spec_l6DrawRight_g (z : Store) : ∀ (m i : Nat) (s : Store) (c : l1Cur), i + m = 5 → s.1.length + 51 * m ≤ 255 → EG 4096 s.1 → EG 4096 s.2.1 → InR s.2.2.1 → Cu c →
    Evp (fun k => spec_l6DrawRight.p41 k (i : Int) z s c) (fun q => EG 4096 q.1.1 ∧ EG 4096 q.1.2.1 ∧ InR q.1.2.2.1 ∧ Cu q.2) := by
  intro m
  induction m with
  | zero =>
    intro i s c hi hl h1 h2 h3 hc
    refine Evp.succ ?_
    simp only [spec_l6DrawRight.p41]
    exact Evp.neg (by omega) (Evp.ret ⟨h1, h2, h3, hc⟩)
  | succ m ih =>
    intro i s c hi hl h1 h2 h3 hc
    refine Evp.succ ?_
    simp only [spec_l6DrawRight.p41]
    refine Evp.pos (by omega) ?_
    refine spec_l6DrawRight_e z (i : Int) 50 1 s c (s.1.length + 50) (by omega) (by omega) (by omega) h1 h2 h3 hc (fun t c' ht h1' h2' hc' => ?_)
    rw [wrap_up (i := i) (n := 5) (by omega) (by omega)]
    exact ih (i + 1) t c' (by omega) (by omega) h1' (by rw [h2']; exact h2) (by rw [h2']; exact h3) hc'
theorem spec_l6DrawRight_l (n : Int) (hn : n ≤ 8) (z : Store) (hz : SG 0 0 z) : ∀ (m i : Nat) (s : Store) (c : l1Cur), (i : Int) + m = max n i → i ≤ 8 → TG i s → Cu c →
    Evp (fun k => spec_l6DrawRight.p9 k n (i : Int) z s c) (fun q => EG 4096 q.1.1 ∧ EG 4096 q.1.2.1 ∧ InR q.1.2.2.1 ∧ Cu q.2) := by
  intro m
  induction m with
  | zero =>
    intro i s c hi h8 hs hc
    refine Evp.succ ?_
    simp only [spec_l6DrawRight.p9]
    refine Evp.neg (by omega) (Evp.bindc (spec_l1Once_d c 40 hc) fun r hr => Evp.ite (fun _ => ?_) (fun _ => Evp.ret ⟨hs.1.1.mono (by omega), hs.1.2.1.mono (by omega), hs.1.2.2, hr⟩))
    exact spec_l6DrawRight_g z 4 1 _ _ (by omega) (by show (0 : Nat) + 51 * 4 ≤ 255; omega) EG.nil (hs.1.2.1.mono (by omega)) hs.1.2.2 hr
  | succ m ih =>
    intro i s c hi h8 hs hc
    have hT := hs.2
    have hlt : (i : Int) < n := by omega
    have ew : wrap64 ((i : Int) + 1) = ((i + 1 : Nat) : Int) := wrap_up (n := 8) (by omega) (by omega)
    have go : ∀ (t : Store) (c' : l1Cur), TG (i + 1) t → Cu c' → Evp (fun k => spec_l6DrawRight.p9 k n (wrap64 ((i : Int) + 1)) z t c') (fun q => EG 4096 q.1.1 ∧ EG 4096 q.1.2.1 ∧ InR q.1.2.2.1 ∧ Cu q.2) := fun t c' h1 h2 => by
      rw [ew]; exact ih (i + 1) t c' (by omega) (by omega) h1 h2
    have same : TG (i + 1) s := hs.mono (by omega)
    have hSG : SG s.1.length s.2.1.length s := ⟨⟨Nat.le_refl _, hs.1.1.2⟩, ⟨Nat.le_refl _, hs.1.2.1.2⟩, hs.1.2.2⟩
    refine Evp.succ ?_
    simp only [spec_l6DrawRight.p9]
    refine Evp.pos hlt (Evp.bindc (spec_l3DrawRight_d c hc) fun e he => Evp.bind (spec_StorePut_d s e.1 (by omega) (by omega) hSG he.1) fun p hp => Evp.bindc (spec_l1Below_d _ 6 he.2) fun b hb => ?_)
    have hput : TG (i + 1) p.1 := hs.put hp
    refine Evp.ite (fun _ => Evp.bind (spec_StoreSync_d s hs.1 (by omega)) fun y hy => Evp.ite (fun ht => go _ _ (same.of (hy ht)) hb.2.2.2) (fun _ => go _ _ same hb.2.2.2)) (fun _ => ?_)
    refine Evp.ite (fun _ => Evp.bind (spec_StoreSync_d p.1 hput.1 (by omega)) fun y hy => Evp.ite (fun ht => go _ _ (hput.of (hy ht)) hb.2.2.2) (fun _ => go _ _ same hb.2.2.2)) (fun _ => ?_)
    refine Evp.ite (fun _ => Evp.bindc (spec_l1Once_d _ 3 hb.2.2.2) fun o ho => Evp.ite (fun _ => Evp.bindc (spec_l1Below_d _ 4 ho) fun x hx => Evp.bind (spec_StoreSeal_d s x.1 hs.1 (by omega) (by have := hx.1; have := hx.2.1 (by omega); unfold InR; omega)) fun y hy => Evp.ite (fun ht => go _ _ (same.of (hy ht)) hx.2.2.2) (fun _ => go _ _ same hx.2.2.2)) (fun _ => Evp.ite (fun _ => go _ _ hput ho) (fun _ => go _ _ same ho))) (fun _ => Evp.ite (fun _ => go _ _ hput hb.2.2.2) (fun _ => go _ _ same hb.2.2.2))
theorem spec_l6DrawRight_d (c : l1Cur) (h : Cu c) : Evp (fun k => spec_l6DrawRight.f k c) (fun q => EG 4096 q.1.1 ∧ EG 4096 q.1.2.1 ∧ InR q.1.2.2.1 ∧ Cu q.2) := by
  simp only [spec_l6DrawRight.f]
  refine Evp.bindc (spec_l1Below_d c 8 h) fun b hb => ?_
  have h1 := hb.2.1 (by omega); have h0 := hb.1
  exact spec_l6DrawRight_l b.1 (by omega) _ SG.zero b.1.toNat 0 _ _ (by omega) (by omega) ⟨SG.zero, by show (0 : Nat) + 0 ≤ 0; omega⟩ hb.2.2.2

theorem spec_l1PickInt_d (c : l1Cur) (l : List Int) (h : Cu c) (hl : 0 < l.length) : Op (spec_l1PickInt.f c l) (fun r => r.1 ∈ l ∧ Cu r.2) := by
  unfold spec_l1PickInt.f
  refine Op.bind (spec_l1Below_d c _ h) fun r hr => ?_
  have h1 := hr.2.1 (by omega)
  exact Op.pos ⟨hr.1, h1⟩ (Op.ret ⟨getD_mem (by omega), hr.2.2.2⟩)

theorem spec_l1DrawPlace_d (c : l1Cur) (h : Cu c) : Op (spec_l1DrawPlace.f c) (fun r => InR r.1 ∧ Cu r.2) := by
  unfold spec_l1DrawPlace.f
  refine Op.bind (spec_l1Below_d c 3 h) fun r hr => Op.bind (spec_l1Below_d _ 6 hr.2.2.2) fun s hs => Op.bind (spec_l1Place_is _ _) fun p hp => Op.bind (spec_l1Below_d _ 15 hs.2.2.2) fun t ht => ?_
  refine Op.ite (fun _ => Op.bind (spec_l1PickInt_d _ _ ht.2.2.2 (by decide)) fun u hu => Op.ret ⟨?_, hu.2⟩) (fun _ => Op.ite (fun _ => Op.bind (spec_l1PickInt_d _ _ ht.2.2.2 (by decide)) fun u hu => Op.bind (spec_l1PickInt_d _ _ hu.2 (by decide)) fun v hv => Op.bind (spec_l1Place_is _ _) fun q hq => Op.ret ⟨hq, hv.2⟩) (fun _ => Op.ret ⟨hp, ht.2.2.2⟩))
  have := hu.1
  simp only [List.mem_cons, List.not_mem_nil, or_false] at this
  unfold InR
  rcases this with h | h | h | h | h | h <;> rw [h] <;> decide

theorem spec_l3Draw_d (c : l1Cur) (h : Cu c) : Op (spec_l3Draw.f c) (fun r => InR r.1.1 ∧ Cu r.2) := by
  unfold spec_l3Draw.f
  refine Op.bind (spec_l3DrawRight_d c h) fun r hr => Op.bind (spec_l1Below_d _ 15 hr.2) fun s hs => ?_
  refine Op.ite (fun _ => Op.bind (spec_l1DrawPlace_d _ hs.2.2.2) fun p hp => Op.ret ⟨hp.1, hp.2⟩) (fun _ => Op.ite (fun _ => Op.bind (spec_l1PickInt_d _ _ hs.2.2.2 (by decide)) fun p hp => Op.ret ⟨hr.1, hp.2⟩) (fun _ => Op.ite (fun _ => Op.ret ⟨hr.1, hs.2.2.2⟩) (fun _ => Op.ite (fun _ => Op.bind (spec_l1Below_d _ 2 hs.2.2.2) fun p hp => ?_) (fun _ => Op.ret ⟨hr.1, hs.2.2.2⟩))))
  have h1 := hp.2.1 (by omega); have h0 := hp.1
  rw [wrap64_id (by omega) (by omega)]
  exact Op.pos (by rw [lim_eq]; omega) (Op.ret ⟨hr.1, hp.2.2.2⟩)

def DG (n : Nat) (s : Store) : Prop := EG n s.1 ∧ EG n s.2.1 ∧ InR s.2.2.1
theorem spec_l6Draw_l (z : Store) : ∀ (d : Nat) (s : Store) (c : l1Cur), 21 - s.2.1.length ≤ d → DG 4096 s → Cu c → Evp (fun k => spec_l6Draw.p21 k z s c) (fun q => DG 4097 q.1 ∧ Cu q.2) := by
  intro d
  induction d with
  | zero =>
    intro s c hd hs hc
    refine Evp.succ ?_
    simp only [spec_l6Draw.p21]
    refine Evp.bindc (spec_l1Below_d c 2 hc) fun r hr => ?_
    have h1 := hr.2.1 (by omega)
    have h0 := hr.1
    rw [wrap64_id (x := 20 + r.1) (by omega) (by omega)]
    exact Evp.neg (by omega) (Evp.ret ⟨⟨hs.1.mono (by omega), hs.2.1.mono (by omega), hs.2.2⟩, hr.2.2.2⟩)
  | succ d ih =>
    intro s c hd hs hc
    refine Evp.succ ?_
    simp only [spec_l6Draw.p21]
    refine Evp.bindc (spec_l1Below_d c 2 hc) fun r hr => ?_
    have h1 := hr.2.1 (by omega)
    have h0 := hr.1
    rw [wrap64_id (x := 20 + r.1) (by omega) (by omega)]
    refine Evp.ite (fun hl => Evp.bindc (spec_l1Place_is _ _) fun p hp => Evp.pos (by simp only [lim_eq, List.length_cons, List.length_nil]; omega) ?_) (fun _ => Evp.ret ⟨⟨hs.1.mono (by omega), hs.2.1.mono (by omega), hs.2.2⟩, hr.2.2.2⟩)
    have hx : EG s.2.1.length s.2.1 := ⟨Nat.le_refl _, hs.2.1.2⟩
    refine ih _ _ ?_ ⟨hs.1, (hx.app (e := (p, ((0 : Int), (false, ((⟨#[]⟩ : ByteArray), ()))))) hp).mono (by omega), hs.2.2⟩ hr.2.2.2
    show 21 - (s.2.1 ++ [_]).length ≤ d
    rw [List.length_append, List.length_singleton]; omega
theorem spec_l6Draw_d (c : l1Cur) (hc : Cu c) : Evp (fun k => spec_l6Draw.f k c) (fun q => DG 4097 q.1 ∧ Cu q.2) := by
  simp only [spec_l6Draw.f]
  refine Evp.bind (spec_l6DrawRight_d c hc) fun r hr => Evp.bindc (spec_l1Below_d _ 25 hr.2.2.2) fun s hs => ?_
  have g : DG 4096 r.1 := ⟨hr.1, hr.2.1, hr.2.2.1⟩
  have g' : DG 4097 r.1 := ⟨hr.1.mono (by omega), hr.2.1.mono (by omega), hr.2.2.1⟩
  have l1 := hr.1.1
  have l2 := hr.2.1.1
  refine Evp.ite (fun _ => Evp.bindc (spec_l1PickInt_d _ _ hs.2.2.2 (by simp)) fun p hp => Evp.ret ⟨⟨g'.1, g'.2.1, ?_⟩, hp.2⟩) (fun _ => Evp.ite (fun _ => Evp.bindc (spec_l3Draw_d _ hs.2.2.2) fun e he => Evp.pos (by simp only [lim_eq, List.length_cons, List.length_nil]; omega) (Evp.ret ⟨⟨g.1.app he.1, g'.2.1, g'.2.2⟩, he.2⟩)) (fun _ => Evp.ite (fun _ => Evp.bindc (spec_l3Draw_d _ hs.2.2.2) fun e he => Evp.pos (by simp only [lim_eq, List.length_cons, List.length_nil]; omega) (Evp.ret ⟨⟨g'.1, g.2.1.app he.1, g'.2.2⟩, he.2⟩)) (fun _ => Evp.ite (fun _ => spec_l6Draw_l _ 21 r.1 _ (by omega) g hs.2.2.2) (fun _ => Evp.ret ⟨g', hs.2.2.2⟩))))
  show InR p.1
  have := hp.1
  simp only [List.mem_cons, List.not_mem_nil, or_false] at this
  unfold InR; omega

theorem or_add (v c : Int) (i : Nat) (hi : i ≤ 8) (hv : 0 ≤ v) (hv2 : v < 2 ^ (7 * i)) (hc : 0 ≤ c) (hc2 : c ≤ 255) :
    orK .i64 v (shlK .i64 (andK .i64 c 127) (wrap64 (7 * (i : Int)))) = v + (c % 128) * 2 ^ (7 * i) ∧ 0 ≤ v + (c % 128) * 2 ^ (7 * i) ∧ v + (c % 128) * 2 ^ (7 * i) < 2 ^ (7 * (i + 1)) := by
  obtain ⟨a, rfl⟩ : ∃ a : Nat, v = a := ⟨v.toNat, by omega⟩
  obtain ⟨b, rfl⟩ : ∃ b : Nat, c = b := ⟨c.toNat, by omega⟩
  have ha : a < 2 ^ (7 * i) := by exact_mod_cast hv2
  have hm : b % 128 < 128 := Nat.mod_lt _ (by decide)
  have hp : 2 ^ (7 * (i + 1)) = 128 * 2 ^ (7 * i) := by rw [Nat.mul_add, Nat.pow_add]; omega
  have hle : 2 ^ (7 * (i + 1)) ≤ 2 ^ 63 := Nat.pow_le_pow_right (by decide) (by omega)
  have hs : a + (b % 128) * 2 ^ (7 * i) < 2 ^ (7 * (i + 1)) := by
    rw [hp]
    have : (b % 128) * 2 ^ (7 * i) ≤ 127 * 2 ^ (7 * i) := Nat.mul_le_mul_right _ (by omega)
    omega
  have e1 : andK .i64 (b : Int) 127 = ((b % 128 : Nat) : Int) := by
    have e : andK .i64 (b : Int) 127 = wrap64 (((BitVec.ofInt 64 (b : Int) &&& BitVec.ofInt 64 127).toNat : Nat) : Int) := rfl
    have h : (BitVec.ofInt 64 (b : Int) &&& BitVec.ofInt 64 127).toNat = b % 128 := by
      rw [BitVec.toNat_and, BitVec.toNat_ofInt, show (BitVec.ofInt 64 127).toNat = 2 ^ 7 - 1 from rfl, Nat.and_two_pow_sub_one_eq_mod]
      have : ((b : Int) % ((2 ^ 64 : Nat) : Int)).toNat = b := by omega
      rw [this]
    rw [e, h, wrap64_id (by omega) (by omega)]
  have e2 : wrap64 (7 * (i : Int)) = ((7 * i : Nat) : Int) := by rw [wrap64_id (by omega) (by omega)]; omega
  have e3 : shlK .i64 ((b % 128 : Nat) : Int) ((7 * i : Nat) : Int) = (((b % 128) * 2 ^ (7 * i) : Nat) : Int) := by
    have e : shlK .i64 ((b % 128 : Nat) : Int) ((7 * i : Nat) : Int) = wrap64 (((b % 128 : Nat) : Int) * 2 ^ (min ((7 * i : Nat) : Int).toNat 64)) := rfl
    rw [e, Int.toNat_natCast, Nat.min_eq_left (by omega)]
    have : (((b % 128 : Nat) : Int) * 2 ^ (7 * i)) = (((b % 128) * 2 ^ (7 * i) : Nat) : Int) := by push_cast; rfl
    rw [this, wrap64_id (by omega) (by omega)]
  have e4 : orK .i64 (a : Int) (((b % 128) * 2 ^ (7 * i) : Nat) : Int) = ((a + (b % 128) * 2 ^ (7 * i) : Nat) : Int) := by
    have e : orK .i64 (a : Int) (((b % 128) * 2 ^ (7 * i) : Nat) : Int) = wrap64 (((BitVec.ofInt 64 (a : Int) ||| BitVec.ofInt 64 (((b % 128) * 2 ^ (7 * i) : Nat) : Int)).toNat : Nat) : Int) := rfl
    have h : (BitVec.ofInt 64 (a : Int) ||| BitVec.ofInt 64 (((b % 128) * 2 ^ (7 * i) : Nat) : Int)).toNat = a + (b % 128) * 2 ^ (7 * i) := by
      rw [BitVec.toNat_or, BitVec.toNat_ofInt, BitVec.toNat_ofInt]
      have h1 : ((a : Int) % ((2 ^ 64 : Nat) : Int)).toNat = a := by omega
      have h2 : ((((b % 128) * 2 ^ (7 * i) : Nat) : Int) % ((2 ^ 64 : Nat) : Int)).toNat = (b % 128) * 2 ^ (7 * i) := by omega
      rw [h1, h2, Nat.or_comm, ← Nat.shiftLeft_eq, ← Nat.shiftLeft_add_eq_or_of_lt ha, Nat.add_comm]
    rw [e, h, wrap64_id (by omega) (by omega)]
  have e5 : ((b : Int) % 128) * 2 ^ (7 * i) = (((b % 128) * 2 ^ (7 * i) : Nat) : Int) := by push_cast; rfl
  have e6 : (2 : Int) ^ (7 * (i + 1)) = ((2 ^ (7 * (i + 1)) : Nat) : Int) := by push_cast; rfl
  rw [e1, e2, e3, e4, e5, e6]
  exact ⟨by push_cast; rfl, by omega, by omega⟩
/-- What is known of a number that was read. -/
def NumR (n : Nat) (p : Int) (r : Int × Int × Bool) : Prop := (r.2.2 = true → 0 ≤ r.1 ∧ r.1 ≤ 9223372036854775807 ∧ p < r.2.1 ∧ r.2.1 ≤ (n : Int)) ∧ (r.2.2 = false → r = ((0 : Int), (0 : Int), false))
theorem num_l (b : List Int) (hb : b.length ≤ 1048576) (hx : ∀ i, 0 ≤ b.getD i 0 ∧ b.getD i 0 ≤ 255) (p : Nat) (hp : p ≤ b.length) : ∀ (m i : Nat) (v x3 : Int), i + m = 9 → 0 ≤ v → v < 2 ^ (7 * i) → (i < 9 → x3 = 2 ^ (7 * i)) →
    ∃ r, Ev (fun k => spec_GetNum.p13 k b (p : Int) v x3 (i : Int)) r ∧ Ev (fun k => impl_GetNum.p11 k b (p : Int) v (i : Int)) r ∧ NumR b.length p r := by
  intro m
  induction m with
  | zero =>
    intro i v x3 hi h1 h2 h3
    refine ⟨((0 : Int), (0 : Int), false), Ev.succ ?_, Ev.succ ?_, by simp, fun _ => rfl⟩
    · simp only [spec_GetNum.p13]; exact Ev.neg (by omega) Ev.ret
    · simp only [impl_GetNum.p11]; exact Ev.neg (by omega) Ev.ret
  | succ m ih =>
    intro i v x3 hi h1 h2 h3
    have ep : wrap64 ((p : Int) + (i : Int)) = ((p + i : Nat) : Int) := by rw [wrap64_id (by omega) (by omega)]; omega
    have eq : wrap64 (((b.length : Nat) : Int) - (p : Int)) = ((b.length : Nat) : Int) - (p : Int) := wrap64_id (by omega) (by omega)
    by_cases hl : p + i < b.length
    case neg =>
      refine ⟨((0 : Int), (0 : Int), false), Ev.succ ?_, Ev.succ ?_, by simp, fun _ => rfl⟩
      · simp only [spec_GetNum.p13, ep]; exact Ev.pos (by omega) (Ev.neg (by omega) Ev.ret)
      · simp only [impl_GetNum.p11, eq]; exact Ev.pos (by omega) (Ev.neg (by omega) Ev.ret)
    obtain ⟨c0, c1⟩ := hx (p + i)
    have hc : b.getD (p + i) 0 = b.getD (p + i) 0 := rfl
    generalize hg : b.getD (p + i) 0 = c at *
    have ec : wrap64 c = c := wrap64_id (by omega) (by omega)
    have h7 : (0 : Int) ≤ wrap64 ((7 : Int) * (i : Int)) := by rw [wrap64_id (by omega) (by omega)]; omega
    obtain ⟨o1, o2, o3⟩ := or_add v c i (by omega) h1 h2 c0 c1
    have hle : (2 : Int) ^ (7 * (i + 1)) ≤ 2 ^ 63 := by
      have : 2 ^ (7 * (i + 1)) ≤ 2 ^ 63 := Nat.pow_le_pow_right (by decide) (by omega)
      exact_mod_cast this
    have hpos : (0 : Int) < 2 ^ (7 * i) := by
      have : 0 < 2 ^ (7 * i) := Nat.pow_pos (by decide)
      exact_mod_cast this
    have hmod : 0 ≤ c % 128 ∧ c % 128 < 128 := by omega
    have hmul : 0 ≤ (c % 128) * 2 ^ (7 * i) := Int.mul_nonneg hmod.1 (by omega)
    have es : wrap64 (v + wrap64 (Int.tmod c 128 * x3)) = v + (c % 128) * 2 ^ (7 * i) := by
      rw [h3 (by omega), Int.tmod_eq_emod_of_nonneg c0, wrap64_id (x := (c % 128) * 2 ^ (7 * i)) (by omega) (by omega), wrap64_id (by omega) (by omega)]
    have ei : wrap64 ((i : Int) + 1) = ((i + 1 : Nat) : Int) := wrap_up (n := 9) (by omega) (by omega)
    have en : wrap64 (((p + i : Nat) : Int) + 1) = ((p + i + 1 : Nat) : Int) := by rw [wrap64_id (by omega) (by omega)]; omega
    by_cases hbig : c < 128
    · by_cases hz : c = 0 ∧ (0 : Int) < (i : Int)
      · refine ⟨((0 : Int), (0 : Int), false), Ev.succ ?_, Ev.succ ?_, by simp, fun _ => rfl⟩
        · simp only [spec_GetNum.p13, ep, Int.toNat_natCast, hg, ec]
          exact Ev.pos (by omega) (Ev.pos (by omega) (Ev.pos (by omega) (Ev.pos hbig (Ev.pos hz.1 (Ev.pos hz.2 Ev.ret)))))
        · simp only [impl_GetNum.p11, ep, eq, Int.toNat_natCast, hg, ec]
          exact Ev.pos (by omega) (Ev.pos (by omega) (Ev.pos (by omega) (Ev.pos h7 (Ev.neg (by omega) (Ev.pos hz.2 (Ev.pos hz.1 Ev.ret))))))
      · refine ⟨(v + (c % 128) * 2 ^ (7 * i), ((p + i + 1 : Nat) : Int), true), Ev.succ ?_, Ev.succ ?_, fun _ => ⟨o2, by show v + (c % 128) * 2 ^ (7 * i) ≤ _; omega, by show (p : Int) < ((p + i + 1 : Nat) : Int); omega, by show ((p + i + 1 : Nat) : Int) ≤ _; omega⟩, by simp⟩
        · simp only [spec_GetNum.p13, ep, Int.toNat_natCast, hg, ec, es, en]
          refine Ev.pos (by omega) (Ev.pos (by omega) (Ev.pos (by omega) (Ev.pos hbig ?_)))
          by_cases hz0 : c = 0
          · exact Ev.pos hz0 (Ev.neg (fun h => hz ⟨hz0, h⟩) Ev.ret)
          · exact Ev.neg hz0 Ev.ret
        · simp only [impl_GetNum.p11, ep, eq, Int.toNat_natCast, hg, ec, o1, en]
          refine Ev.pos (by omega) (Ev.pos (by omega) (Ev.pos (by omega) (Ev.pos h7 (Ev.neg (by omega) ?_))))
          by_cases hi0 : (0 : Int) < (i : Int)
          · exact Ev.pos hi0 (Ev.neg (fun h => hz ⟨h, hi0⟩) Ev.ret)
          · exact Ev.neg hi0 Ev.ret
    · obtain ⟨r, r1, r2, r3⟩ := ih (i + 1) (v + (c % 128) * 2 ^ (7 * i)) (wrap64 (x3 * 128)) (by omega) o2 o3 (fun h9 => by
        have hl2 : (2 : Int) ^ (7 * (i + 1)) ≤ 2 ^ 56 := by
          have : 2 ^ (7 * (i + 1)) ≤ 2 ^ 56 := Nat.pow_le_pow_right (by decide) (by omega)
          exact_mod_cast this
        have hq : (2 : Int) ^ (7 * i) * 128 = 2 ^ (7 * (i + 1)) := by rw [Nat.mul_add, Int.pow_add]; rfl
        rw [h3 (by omega), hq, wrap64_id (by omega) (by omega)])
      refine ⟨r, Ev.succ ?_, Ev.succ ?_, r3⟩
      · simp only [spec_GetNum.p13, ep, Int.toNat_natCast, hg, ec, es, ei]
        exact Ev.pos (by omega) (Ev.pos (by omega) (Ev.pos (by omega) (Ev.neg hbig r1)))
      · simp only [impl_GetNum.p11, ep, eq, Int.toNat_natCast, hg, ec, o1, ei]
        exact Ev.pos (by omega) (Ev.pos (by omega) (Ev.pos (by omega) (Ev.pos h7 (Ev.pos (by omega) r2))))
theorem num_both (b : List Int) (hb : b.length ≤ 1048576) (hx : ∀ i, 0 ≤ b.getD i 0 ∧ b.getD i 0 ≤ 255) (p : Int) (h0 : 0 ≤ p) (hp : p ≤ (b.length : Int)) :
    ∃ r, Ev (fun k => spec_GetNum.f k b p) r ∧ Ev (fun k => impl_GetNum.f k b p) r ∧ NumR b.length p r := by
  obtain ⟨p, rfl⟩ : ∃ q : Nat, p = q := ⟨p.toNat, by omega⟩
  obtain ⟨r, r1, r2, r3⟩ := num_l b hb hx p (by omega) 9 0 0 1 (by omega) (by omega) (by decide) (fun _ => by decide)
  by_cases he : ((b.length : Nat) : Int) ≤ (p : Int)
  · refine ⟨((0 : Int), (0 : Int), false), ?_, ?_, by simp, fun _ => rfl⟩
    · simp only [spec_GetNum.f]
      exact Ev.neg (by omega) (Ev.pos he Ev.ret)
    · simp only [impl_GetNum.f]
      refine Ev.neg (by omega) (Ev.succ ?_)
      simp only [impl_GetNum.p11]
      rw [wrap64_id (x := ((b.length : Nat) : Int) - (p : Int)) (by omega) (by omega)]
      exact Ev.pos (by omega) (Ev.neg (by omega) Ev.ret)
  · refine ⟨r, ?_, ?_, r3⟩
    · simp only [spec_GetNum.f]
      exact Ev.neg (by omega) (Ev.neg he r1)
    · simp only [impl_GetNum.f]
      exact Ev.neg (by omega) r2

theorem laws_big_is (b : List Int) : laws_big.f b = some (decide ((1048576 : Int) < ((b.length : Nat) : Int))) := rfl

theorem impl_within_is (x a b : Int) : impl_within.f x a b = some (inB x a b) := ite_inB x a b

theorem impl_PlaceOk_is (x : Int) (hx : InR x) : impl_PlaceOk.f x = some (placeOk x) := by
  have h1 := hx.1; have h2 := hx.2
  simp only [impl_PlaceOk.f, placeOk, impl_isEpoch.f, impl_isOff.f, impl_within_is]
  by_cases h : 0 < x
  · rw [tdiv_pos (by omega), tmod_pos (by omega), wrap64_id (by omega) (by omega)]
    cases inB (x / 4294967296) 1 30 <;> simp [h]
  · rw [tdiv_neg' (by omega), wrap64_id (by omega) (by omega), show inB (-(-x / 4294967296)) 1 30 = false by
      rw [Bool.eq_false_iff]
      intro he
      rw [inB_true] at he
      omega]
    simp [h]

theorem impl_dataOk_is (s : ByteArray) : impl_dataOk.f s = some (!decide ((40 : Int) < ((s.size : Nat) : Int))) := by
  simp only [impl_dataOk.f]
  by_cases h : ((s.size : Nat) : Int) ≤ 40
  · rw [decide_eq_true h, decide_eq_false (by omega)]; rfl
  · rw [decide_eq_false h, decide_eq_true (by omega)]; rfl

theorem impl_EpochOf_is (x : Int) (hx : InR x) : impl_EpochOf.f x = some (epochOf x) := by
  have h2 := hx.2
  simp only [impl_EpochOf.f, impl_PlaceOk_is x hx, Option.bind_some, epochOf]
  by_cases h : placeOk x = true
  · have := placeOk_pos h
    rw [if_pos h, if_pos h, tdiv_pos (by omega), wrap64_id (by omega) (by omega)]
  · rw [if_neg h, if_neg h]

theorem impl_EntryOk_ev (e : Entry) (ha : InR e.1) : Ev (fun k => impl_EntryOk.f k e) (entB e) := by
  have h6 : ∀ p q : Bool, Ev (fun k => impl_EntryOk.p6 k p q e) (placeOk e.1 && (p && (q && decide (((e.2.2.2.1.size : Nat) : Int) ≤ 40)))) := fun p q => by
    refine Ev.succ ?_
    simp only [impl_EntryOk.p6, impl_PlaceOk_is _ ha, impl_dataOk.f, Option.bind_some]
    exact Ev.and fun _ => Ev.and fun _ => Ev.and fun _ => Ev.ret
  have h4 : ∀ p : Bool, Ev (fun k => impl_EntryOk.p4 k p e) (placeOk e.1 && (p && ((!e.2.2.1 || (decide (0 < e.2.1) && decide (e.2.2.2.1 = (⟨#[]⟩ : ByteArray)))) && decide (((e.2.2.2.1.size : Nat) : Int) ≤ 40)))) := fun p => by
    refine Ev.succ ?_
    simp only [impl_EntryOk.p4]
    cases hc : e.2.2.1 with
    | true =>
      refine Ev.pos rfl ?_
      by_cases h0 : (0 : Int) < e.2.1
      · exact (Ev.pos h0 (h6 p _)).eq (by rw [decide_eq_true h0]; simp)
      · exact (Ev.neg h0 (h6 p _)).eq (by rw [decide_eq_false h0]; simp)
    | false => exact (Ev.neg (by decide) (h6 p _)).eq (by simp)
  simp only [impl_EntryOk.f, impl_EpochOf_is _ ha, impl_within_is, Option.bind_some]
  have key : ∀ v : Bool, v = (inB e.2.1 0 30 && !(decide (0 < e.2.1) && decide (e.2.1 ≤ epochOf e.1))) → Ev (fun k => impl_EntryOk.p4 k v e) (entB e) := fun v hv => (h4 v).eq (by
    unfold entB
    rw [hv]
    cases placeOk e.1 <;> cases inB e.2.1 0 30 <;> cases decide ((0 : Int) < e.2.1) <;> cases decide (e.2.1 ≤ epochOf e.1) <;> cases e.2.2.1 <;> cases decide (((e.2.2.2.1.size : Nat) : Int) ≤ 40) <;> cases decide (e.2.2.2.1 = (⟨#[]⟩ : ByteArray)) <;> rfl)
  by_cases hi : inB e.2.1 0 30 = true
  · have hb := inB_true.1 hi
    refine Ev.pos hi ?_
    by_cases h0 : e.2.1 = 0
    · exact Ev.pos h0 (key true (by rw [hi, decide_eq_false (show ¬ (0 : Int) < e.2.1 by omega)]; rfl))
    · refine Ev.neg h0 (key _ ?_)
      rw [hi, decide_eq_true (show (0 : Int) < e.2.1 by omega)]
      by_cases h1 : epochOf e.1 < e.2.1
      · rw [decide_eq_true h1, decide_eq_false (by omega)]; rfl
      · rw [decide_eq_false h1, decide_eq_true (by omega)]; rfl
  · exact Ev.neg hi (key false (by rw [Bool.not_eq_true] at hi; rw [hi]; rfl))

theorem impl_entriesOk_ev (l : List Entry) (hl : l.length ≤ 1048576) (ha : ∀ i, i < l.length → InR (l.getD i zEnt).1) : Ev (fun k => impl_entriesOk.f k l) (entsB l) := by
  have h := all_loop (n := l.length) (p := fun k i => impl_entriesOk.p5 k l ((l.length : Nat) : Int) i) (q := fun i => entB (l.getD i zEnt)) (zb := true) (fun i hi b hb => by
    simp only [impl_entriesOk.p5, Int.toNat_natCast]
    rw [wrap_up hi (by omega)]
    exact Ev.pos (by omega) (Ev.pos (by omega) (Ev.bind (impl_EntryOk_ev _ (ha i hi)) (Ev.and fun _ => hb)))) (by
    simp only [impl_entriesOk.p5]
    exact Ev.neg (by omega) Ev.ret) l.length 0 (by omega)
  rw [Bool.and_true] at h
  exact h

theorem impl_placesAscend_ev (l : List Entry) (hl : l.length ≤ 1048576) : Ev (fun k => impl_placesAscend.f k l) (ascE l) := by
  have h := all_loop (n := l.length) (p := fun k i => impl_placesAscend.p5 k l l ((l.length : Nat) : Int) i) (q := fun i => !(decide (0 < i) && decide ((l.getD i zEnt).1 ≤ (l.getD (i - 1) zEnt).1))) (zb := true) (fun i hi b hb => by
    simp only [impl_placesAscend.p5, Int.toNat_natCast]
    rw [wrap_up hi (by omega)]
    refine Ev.pos (by omega) (Ev.pos (by omega) ?_)
    by_cases h0 : i = 0
    · subst h0
      exact (Ev.neg (by omega) hb).eq (by rfl)
    · have e2 : wrap64 ((i : Int) - 1) = ((i - 1 : Nat) : Int) := by rw [wrap64_id (by omega) (by omega)]; omega
      rw [e2, decide_eq_true (show 0 < i by omega), Bool.true_and, Int.toNat_natCast]
      exact Ev.pos (by omega) (Ev.pos (by omega) (Ev.nand fun _ => hb))) (by
    simp only [impl_placesAscend.p5]
    exact Ev.neg (by omega) Ev.ret) l.length 0 (by omega)
  rw [Bool.and_true] at h
  exact h

theorem impl_StoreOk_ev (s : Store) (h1 : s.1.length ≤ 1048576) (h2 : s.2.1.length ≤ 1048576) (a1 : ∀ i, i < s.1.length → InR (s.1.getD i zEnt).1) (a2 : ∀ i, i < s.2.1.length → InR (s.2.1.getD i zEnt).1) : Ev (fun k => impl_StoreOk.f k s) (storeB s) := by
  simp only [impl_StoreOk.f, impl_within_is, Option.bind_some, storeB]
  refine (Ev.nand fun _ => Ev.nand fun _ => Ev.bind (impl_entriesOk_ev s.1 h1 a1) (Ev.and fun _ => Ev.bind (impl_entriesOk_ev s.2.1 h2 a2) (Ev.and fun _ => Ev.bind (impl_placesAscend_ev s.1 h1) (Ev.and fun _ => Ev.ret)))).eq ?_
  rw [ndec, ndec]
  cases decide (((s.1.length : Nat) : Int) ≤ 200) <;> cases entsB s.1 <;> cases decide (((s.2.1.length : Nat) : Int) ≤ 20) <;> cases entsB s.2.1 <;> simp
theorem StG.ok' {l : List Store} (h : StG l) {i : Nat} (hi : i < l.length) : Ev (fun k => impl_StoreOk.f k (l.getD i zSto)) (storeB (l.getD i zSto)) := by
  have := h.2 _ (getD_mem (d := zSto) hi)
  exact impl_StoreOk_ev _ this.1.1 this.2.1.1 this.1.at this.2.1.at

theorem num_ok {b : List Int} {p : Int} {r : Int × Int × Bool} (h : Ev (fun k => impl_GetNum.f k b p) r) (hr : r.2.2 = true) : Ev (fun k => impl_reader_num.f k (b, (p, (false, ())))) (r.1, (b, (r.2.1, (false, ())))) := by
  simp only [impl_reader_num.f]
  exact Ev.bind h (Ev.neg (by decide) (Ev.pos hr Ev.ret))
theorem num_no {b : List Int} {p : Int} {r : Int × Int × Bool} (h : Ev (fun k => impl_GetNum.f k b p) r) (hr : r.2.2 = false) : Ev (fun k => impl_reader_num.f k (b, (p, (false, ())))) ((0 : Int), (b, (p, (true, ())))) := by
  simp only [impl_reader_num.f]
  exact Ev.bind h (Ev.neg (by decide) (Ev.neg (by rw [hr]; decide) Ev.ret))
theorem num_bad {b : List Int} {p : Int} (hb : b.length ≤ 1048576) (hx : ∀ i, 0 ≤ b.getD i 0 ∧ b.getD i 0 ≤ 255) (h0 : 0 ≤ p) (hp : p ≤ (b.length : Int)) : Ev (fun k => impl_reader_num.f k (b, (p, (true, ())))) ((0 : Int), (b, (p, (true, ())))) := by
  obtain ⟨r, _, h, _⟩ := num_both b hb hx p h0 hp
  simp only [impl_reader_num.f]
  exact Ev.bind h (Ev.pos trivial Ev.ret)

theorem count_bad {b : List Int} {p n : Int} (hb : b.length ≤ 1048576) (hx : ∀ i, 0 ≤ b.getD i 0 ∧ b.getD i 0 ≤ 255) (h0 : 0 ≤ p) (hp : p ≤ (b.length : Int)) (hn : 0 ≤ n) : Ev (fun k => impl_reader_count.f k (b, (p, (true, ()))) n) ((0 : Int), (b, (p, (true, ())))) := by
  simp only [impl_reader_count.f]
  exact Ev.bind (num_bad hb hx h0 hp) (Ev.neg (by show ¬ n < 0; omega) Ev.ret)

theorem text_bad {b : List Int} {p : Int} (hb : b.length ≤ 1048576) (hx : ∀ i, 0 ≤ b.getD i 0 ∧ b.getD i 0 ≤ 255) (h0 : 0 ≤ p) (hp : p ≤ (b.length : Int)) : Ev (fun k => impl_reader_text.f k (b, (p, (true, ())))) ((⟨#[]⟩ : ByteArray), (b, (p, (true, ())))) := by
  simp only [impl_reader_text.f]
  exact Ev.bind (num_bad hb hx h0 hp) (Ev.pos rfl Ev.ret)
theorem text_both {b : List Int} {p : Int} (hb : b.length ≤ 1048576) (hx : ∀ i, 0 ≤ b.getD i 0 ∧ b.getD i 0 ≤ 255) (h0 : 0 ≤ p) (hp : p ≤ (b.length : Int)) :
    ∃ t : ByteArray × Int × Bool, Ev (fun k => spec_GetText.f k b p) t ∧ (t.2.2 = true → p < t.2.1 ∧ t.2.1 ≤ (b.length : Int) ∧ Ev (fun k => impl_reader_text.f k (b, (p, (false, ())))) (t.1, (b, (t.2.1, (false, ()))))) ∧
      (t.2.2 = false → t = ((⟨#[]⟩ : ByteArray), (0 : Int), false) ∧ ∃ q, 0 ≤ q ∧ q ≤ (b.length : Int) ∧ Ev (fun k => impl_reader_text.f k (b, (p, (false, ())))) ((⟨#[]⟩ : ByteArray), (b, (q, (true, ()))))) := by
  obtain ⟨r, r1, r2, r3, r4⟩ := num_both b hb hx p h0 hp
  cases hr : r.2.2 with
  | false =>
    refine ⟨((⟨#[]⟩ : ByteArray), (0 : Int), false), ?_, by simp, fun _ => ⟨rfl, p, h0, hp, ?_⟩⟩
    · simp only [spec_GetText.f]
      exact Ev.bind r1 (Ev.neg (by rw [hr]; decide) Ev.ret)
    · simp only [impl_reader_text.f]
      exact Ev.bind (num_no r2 hr) (Ev.pos rfl Ev.ret)
  | true =>
    obtain ⟨v0, v1, q0, q1⟩ := r3 hr
    have e1 : wrap64 (((b.length : Nat) : Int) - r.2.1) = ((b.length : Nat) : Int) - r.2.1 := wrap64_id (by omega) (by omega)
    by_cases hl : ((b.length : Nat) : Int) - r.2.1 < r.1
    · refine ⟨((⟨#[]⟩ : ByteArray), (0 : Int), false), ?_, by simp, fun _ => ⟨rfl, r.2.1, by omega, q1, ?_⟩⟩
      · simp only [spec_GetText.f]
        refine Ev.bind r1 (Ev.pos hr (Ev.pos ?_ Ev.ret))
        rw [e1]; exact hl
      · simp only [impl_reader_text.f]
        refine Ev.bind (num_ok r2 hr) (Ev.neg nft (Ev.pos ?_ Ev.ret))
        rw [e1]; exact hl
    · have e2 : wrap64 (r.2.1 + r.1) = r.2.1 + r.1 := wrap64_id (by omega) (by omega)
      have e3 : wrap64 (r.2.1 + r.1 - r.1) = r.2.1 := by rw [wrap64_id (by omega) (by omega)]; omega
      refine ⟨(bytesOf (List.take ((r.2.1 + r.1).toNat - r.2.1.toNat) (b.drop r.2.1.toNat)), r.2.1 + r.1, true), ?_, fun _ => ⟨by show p < r.2.1 + r.1; omega, by show r.2.1 + r.1 ≤ _; omega, ?_⟩, by simp⟩
      · simp only [spec_GetText.f]
        refine Ev.bind r1 (Ev.pos hr ?_)
        rw [e1, e2]
        exact Ev.neg hl (Ev.pos (by omega) Ev.ret)
      · simp only [impl_reader_text.f]
        refine Ev.bind (num_ok r2 hr) (Ev.neg nft ?_)
        show Ev (fun k => if wrap64 (((b.length : Nat) : Int) - r.2.1) < r.1 then _ else if (0 : Int) ≤ wrap64 (wrap64 (r.2.1 + r.1) - r.1) ∧ wrap64 (wrap64 (r.2.1 + r.1) - r.1) ≤ wrap64 (r.2.1 + r.1) ∧ wrap64 (r.2.1 + r.1) ≤ ((b.length : Nat) : Int) then some (bytesOf (List.take ((wrap64 (r.2.1 + r.1)).toNat - (wrap64 (wrap64 (r.2.1 + r.1) - r.1)).toNat) (b.drop (wrap64 (wrap64 (r.2.1 + r.1) - r.1)).toNat)), (b, ((wrap64 (r.2.1 + r.1)), (false, ())))) else none) _
        rw [e1, e2, e3]
        exact Ev.neg hl (Ev.pos (by omega) Ev.ret)

theorem flag_bad {b : List Int} {p : Int} (hb : b.length ≤ 1048576) (hx : ∀ i, 0 ≤ b.getD i 0 ∧ b.getD i 0 ≤ 255) (h0 : 0 ≤ p) (hp : p ≤ (b.length : Int)) : Ev (fun k => impl_reader_flag.f k (b, (p, (true, ())))) (false, (b, (p, (true, ())))) := by
  simp only [impl_reader_flag.f]
  exact Ev.bind (count_bad hb hx h0 hp (by decide)) Ev.ret
theorem entry_both {b : List Int} {p : Int} (hb : b.length ≤ 1048576) (hx : ∀ i, 0 ≤ b.getD i 0 ∧ b.getD i 0 ≤ 255) (h0 : 0 ≤ p) (hp : p ≤ (b.length : Int)) :
    ∃ e : Entry × Int × Bool, Ev (fun k => spec_EntryRead.f k b p) e ∧ InR e.1.1 ∧ (e.2.2 = true → p < e.2.1 ∧ e.2.1 ≤ (b.length : Int) ∧ Ev (fun k => impl_reader_entry.f k (b, (p, (false, ())))) (e.1, (b, (e.2.1, (false, ()))))) ∧
      (e.2.2 = false → e.2.1 = 0 ∧ ∃ q, 0 ≤ q ∧ q ≤ (b.length : Int) ∧ Ev (fun k => impl_reader_entry.f k (b, (p, (false, ())))) (e.1, (b, (q, (true, ()))))) := by
  have z0 : InR zEnt.1 := by unfold InR zEnt; decide
  obtain ⟨r, r1, r2, r3, r4⟩ := num_both b hb hx p h0 hp
  simp only [spec_EntryRead.f, impl_reader_entry.f]
  cases hr : r.2.2 with
  | false =>
    refine ⟨(zEnt, (0 : Int), false), Ev.bind r1 (Ev.neg (by rw [hr]; decide) Ev.ret), z0, by simp, fun _ => ⟨rfl, p, h0, hp, ?_⟩⟩
    exact Ev.bind (num_no r2 hr) (Ev.bind (num_bad hb hx h0 hp) (Ev.bind (flag_bad hb hx h0 hp) (Ev.bind (text_bad hb hx h0 hp) (Ev.pos rfl Ev.ret))))
  | true =>
  obtain ⟨v0, v1, q0, q1⟩ := r3 hr
  obtain ⟨s, s1, s2, s3, s4⟩ := num_both b hb hx r.2.1 (by omega) q1
  have sr : InR r.1 := ⟨by omega, v1⟩
  cases hs : s.2.2 with
  | false =>
    refine ⟨(zEnt, (0 : Int), false), Ev.bind r1 (Ev.pos hr (Ev.bind s1 (Ev.neg (by rw [hs]; decide) Ev.ret))), z0, by simp, fun _ => ⟨rfl, r.2.1, by omega, q1, ?_⟩⟩
    exact Ev.bind (num_ok r2 hr) (Ev.bind (num_no s2 hs) (Ev.bind (flag_bad hb hx (by omega) q1) (Ev.bind (text_bad hb hx (by omega) q1) (Ev.pos rfl Ev.ret))))
  | true =>
  obtain ⟨u0, u1, p0, p1⟩ := s3 hs
  obtain ⟨t, t1, t2, t3, t4⟩ := num_both b hb hx s.2.1 (by omega) p1
  have fl : ∀ {x : Bool × reader}, Ev (fun k => (impl_reader_count.f k (b, (s.2.1, (false, ()))) (1 : Int)).bind fun r1 => some ((decide (r1.1 = (1 : Int))), r1.2)) x → Ev (fun k => impl_reader_flag.f k (b, (s.2.1, (false, ())))) x := fun h => h
  cases ht : t.2.2 with
  | false =>
    refine ⟨(zEnt, (0 : Int), false), Ev.bind r1 (Ev.pos hr (Ev.bind s1 (Ev.pos hs (Ev.bind t1 (Ev.neg (by rw [ht]; decide) Ev.ret))))), z0, by simp, fun _ => ⟨rfl, s.2.1, by omega, p1, ?_⟩⟩
    have f : Ev (fun k => impl_reader_flag.f k (b, (s.2.1, (false, ())))) (false, (b, (s.2.1, (true, ())))) := fl (Ev.bind (Ev.bind (num_no t2 ht) (Ev.neg (show ¬ ((1 : Int) < 0) by decide) Ev.ret)) Ev.ret)
    exact Ev.bind (num_ok r2 hr) (Ev.bind (num_ok s2 hs) (Ev.bind f (Ev.bind (text_bad hb hx (by omega) p1) (Ev.pos rfl Ev.ret))))
  | true =>
  obtain ⟨w0, w1, o0, o1⟩ := t3 ht
  by_cases hbig : (1 : Int) < t.1
  · refine ⟨(zEnt, (0 : Int), false), Ev.bind r1 (Ev.pos hr (Ev.bind s1 (Ev.pos hs (Ev.bind t1 (Ev.pos ht (Ev.pos hbig Ev.ret)))))), z0, by simp, fun _ => ⟨rfl, t.2.1, by omega, o1, ?_⟩⟩
    have f : Ev (fun k => impl_reader_flag.f k (b, (s.2.1, (false, ())))) (false, (b, (t.2.1, (true, ())))) := fl (Ev.bind (Ev.bind (num_ok t2 ht) (Ev.pos hbig Ev.ret)) Ev.ret)
    exact Ev.bind (num_ok r2 hr) (Ev.bind (num_ok s2 hs) (Ev.bind f (Ev.bind (text_bad hb hx (by omega) o1) (Ev.pos rfl Ev.ret))))
  have f : Ev (fun k => impl_reader_flag.f k (b, (s.2.1, (false, ())))) (decide (t.1 = 1), (b, (t.2.1, (false, ())))) := fl (Ev.bind (Ev.bind (num_ok t2 ht) (Ev.neg hbig Ev.ret)) Ev.ret)
  obtain ⟨x, x1, x2, x3⟩ := text_both (p := t.2.1) hb hx (by omega) o1
  cases hq : x.2.2 with
  | false =>
    obtain ⟨y1, q, y2, y3, y4⟩ := x3 hq
    refine ⟨(zEnt, (0 : Int), false), Ev.bind r1 (Ev.pos hr (Ev.bind s1 (Ev.pos hs (Ev.bind t1 (Ev.pos ht (Ev.neg hbig (Ev.bind x1 (Ev.neg (by rw [hq]; decide) Ev.ret)))))))), z0, by simp, fun _ => ⟨rfl, q, y2, y3, ?_⟩⟩
    exact Ev.bind (num_ok r2 hr) (Ev.bind (num_ok s2 hs) (Ev.bind f (Ev.bind y4 (Ev.pos rfl Ev.ret))))
  | true =>
    obtain ⟨y1, y2, y3⟩ := x2 hq
    have k1 := spec_EntryOk_ev (r.1, (s.1, ((decide (t.1 = (1 : Int))), (x.1, ())))) sr
    have k2 := impl_EntryOk_ev (r.1, (s.1, ((decide (t.1 = (1 : Int))), (x.1, ())))) sr
    cases he : entB (r.1, (s.1, ((decide (t.1 = (1 : Int))), (x.1, ())))) with
    | true =>
      rw [he] at k1 k2
      refine ⟨((r.1, (s.1, ((decide (t.1 = (1 : Int))), (x.1, ())))), x.2.1, true), Ev.bind r1 (Ev.pos hr (Ev.bind s1 (Ev.pos hs (Ev.bind t1 (Ev.pos ht (Ev.neg hbig (Ev.bind x1 (Ev.pos hq (Ev.bind k1 (Ev.pos rfl Ev.ret)))))))))), sr, fun _ => ⟨by show p < x.2.1; omega, y2, ?_⟩, by simp⟩
      exact Ev.bind (num_ok r2 hr) (Ev.bind (num_ok s2 hs) (Ev.bind f (Ev.bind y3 (Ev.neg nft (Ev.bind k2 (Ev.pos rfl Ev.ret))))))
    | false =>
      rw [he] at k1 k2
      refine ⟨(zEnt, (0 : Int), false), Ev.bind r1 (Ev.pos hr (Ev.bind s1 (Ev.pos hs (Ev.bind t1 (Ev.pos ht (Ev.neg hbig (Ev.bind x1 (Ev.pos hq (Ev.bind k1 (Ev.neg (by decide) Ev.ret)))))))))), z0, by simp, fun _ => ⟨rfl, x.2.1, by omega, y2, ?_⟩⟩
      exact Ev.bind (num_ok r2 hr) (Ev.bind (num_ok s2 hs) (Ev.bind f (Ev.bind y3 (Ev.neg nft (Ev.bind k2 (Ev.neg (by decide) Ev.ret))))))

noncomputable def zSt : Store := (([] : List Entry), (([] : List Entry), ((0 : Int), ())))
/-- What is known of what was read. -/
def StR (q : Store × Bool) : Prop := q = (zSt, false) ∨ (storeB q.1 = true ∧ q.1.2.1 = [] ∧ q.2 = true)
section
variable {b : List Int} (hb : b.length ≤ 1048576) (hx : ∀ i, 0 ≤ b.getD i 0 ∧ b.getD i 0 ≤ 255) (v : Int) (z : Store)
include hb hx
theorem app_InR {l : List Entry} {e : Entry} (hl : ∀ i, i < l.length → InR (l.getD i zEnt).1) (he : InR e.1) : ∀ i, i < (l ++ [e]).length → InR ((l ++ [e]).getD i zEnt).1 := fun i hi => by
  rw [List.length_append, List.length_cons, List.length_nil] at hi
  by_cases h : i < l.length
  · rw [List.getD_eq_getElem?_getD, List.getElem?_append_left h, ← List.getD_eq_getElem?_getD]; exact hl i h
  · rw [show i = l.length by omega, List.getD_eq_getElem?_getD, List.getElem?_append_right (Nat.le_refl _), Nat.sub_self]; exact he
theorem spec_end_bad (p : Int) (s : Store) : Ev (fun k => spec_StoreRead.p26 k b p false z s) (zSt, false) := by
  refine Ev.succ ?_
  simp only [spec_StoreRead.p26]
  exact Ev.neg (by decide) Ev.ret
theorem spec_bad (p n i : Int) (s : Store) : Ev (fun k => spec_StoreRead.p15 k b p false n i z s) (zSt, false) := by
  refine Ev.succ ?_
  simp only [spec_StoreRead.p15]
  by_cases h : i < n
  · exact Ev.pos h (Ev.neg (by decide) (spec_end_bad hb hx z p s))
  · exact Ev.neg h (spec_end_bad hb hx z p s)
theorem impl_end_bad (p : Int) (s : Store) : Ev (fun k => impl_StoreRead.p20 k z s (b, (p, (true, ())))) (zSt, false) := by
  refine Ev.succ ?_
  simp only [impl_StoreRead.p20, impl_reader_done.f]
  exact Ev.bindc (if_pos trivial) (Ev.neg nft Ev.ret)
theorem impl_bad (p n i : Int) (s : Store) : Ev (fun k => impl_StoreRead.p13 k n i z s (b, (p, (true, ())))) (zSt, false) := by
  refine Ev.succ ?_
  simp only [impl_StoreRead.p13]
  by_cases h : i < n
  · exact Ev.pos h (Ev.pos trivial (impl_end_bad hb hx z p s))
  · exact Ev.neg h (impl_end_bad hb hx z p s)
theorem end_both (p : Int) (l : List Entry) (hl : l.length ≤ 1048576) (ha : ∀ i, i < l.length → InR (l.getD i zEnt).1) :
    ∃ q, Ev (fun k => spec_StoreRead.p26 k b p true z (l, (([] : List Entry), (v, ())))) q ∧ Ev (fun k => impl_StoreRead.p20 k z (l, (([] : List Entry), (v, ()))) (b, (p, (false, ())))) q ∧ StR q ∧ (200 < l.length → q = (zSt, false)) := by
  have k1 := spec_StoreOk_ev (l, (([] : List Entry), (v, ()))) hl (by show (0 : Nat) ≤ _; omega) ha (fun i hi => by cases hi)
  have k2 := impl_StoreOk_ev (l, (([] : List Entry), (v, ()))) hl (by show (0 : Nat) ≤ _; omega) ha (fun i hi => by cases hi)
  by_cases hp : p = ((b.length : Nat) : Int)
  · cases hs : storeB (l, (([] : List Entry), (v, ()))) with
    | true =>
      rw [hs] at k1 k2
      refine ⟨((l, (([] : List Entry), (v, ()))), true), Ev.succ ?_, Ev.succ ?_, .inr ⟨hs, rfl, rfl⟩, fun h => ?_⟩
      · simp only [spec_StoreRead.p26]
        exact Ev.pos trivial (Ev.pos hp (Ev.bind k1 (Ev.pos rfl Ev.ret)))
      · simp only [impl_StoreRead.p20, impl_reader_done.f]
        exact Ev.bindc (if_neg nft) (Ev.pos (decide_eq_true hp) (Ev.bind k2 (Ev.pos rfl Ev.ret)))
      · unfold storeB at hs
        rw [Bool.and_eq_true, decide_eq_true_eq] at hs
        have : ((l.length : Nat) : Int) ≤ 200 := hs.1
        omega
    | false =>
      rw [hs] at k1 k2
      refine ⟨(zSt, false), Ev.succ ?_, Ev.succ ?_, .inl rfl, fun _ => rfl⟩
      · simp only [spec_StoreRead.p26]
        exact Ev.pos trivial (Ev.pos hp (Ev.bind k1 (Ev.neg nft Ev.ret)))
      · simp only [impl_StoreRead.p20, impl_reader_done.f]
        exact Ev.bindc (if_neg nft) (Ev.pos (decide_eq_true hp) (Ev.bind k2 (Ev.neg nft Ev.ret)))
  · refine ⟨(zSt, false), Ev.succ ?_, Ev.succ ?_, .inl rfl, fun _ => rfl⟩
    · simp only [spec_StoreRead.p26]
      exact Ev.pos trivial (Ev.neg hp Ev.ret)
    · simp only [impl_StoreRead.p20, impl_reader_done.f]
      exact Ev.bindc (if_neg nft) (Ev.neg (by simpa using hp) Ev.ret)
theorem loop_both (n : Int) (hn : n ≤ 200) : ∀ (m i : Nat) (p : Int) (l : List Entry), (i : Int) + m = max n i → i ≤ 200 → l.length = i → (∀ i, i < l.length → InR (l.getD i zEnt).1) → 0 ≤ p → p ≤ (b.length : Int) →
    ∃ q, Ev (fun k => spec_StoreRead.p15 k b p true n (i : Int) z (l, (([] : List Entry), (v, ())))) q ∧ Ev (fun k => impl_StoreRead.p13 k n (i : Int) z (l, (([] : List Entry), (v, ()))) (b, (p, (false, ())))) q ∧ StR q := by
  intro m
  induction m with
  | zero =>
    intro i p l hi h2 hl ha h0 hp
    obtain ⟨q, q1, q2, q3, _⟩ := end_both hb hx v z p l (by omega) ha
    refine ⟨q, Ev.succ ?_, Ev.succ ?_, q3⟩
    · simp only [spec_StoreRead.p15]; exact Ev.neg (by omega) q1
    · simp only [impl_StoreRead.p13]; exact Ev.neg (by omega) q2
  | succ m ih =>
    intro i p l hi h2 hl ha h0 hp
    obtain ⟨e, e1, e2, e3, e4⟩ := entry_both hb hx h0 hp
    have ei : wrap64 ((i : Int) + 1) = ((i + 1 : Nat) : Int) := wrap_up (n := 201) (by omega) (by omega)
    have hlim : (((l.length : Nat) : Int) + ((([e.1] : List Entry).length : Nat) : Int)) ≤ lim := by simp only [lim_eq, List.length_cons, List.length_nil]; omega
    cases he : e.2.2 with
    | true =>
      obtain ⟨f1, f2, f3⟩ := e3 he
      obtain ⟨q, q1, q2, q3⟩ := ih (i + 1) e.2.1 (l ++ [e.1]) (by omega) (by omega) (by simp [hl]) (app_InR hb hx ha e2) (by omega) f2
      refine ⟨q, Ev.succ ?_, Ev.succ ?_, q3⟩
      · simp only [spec_StoreRead.p15, ei]
        refine Ev.pos (by omega) (Ev.pos trivial (Ev.bind e1 (Ev.pos hlim ?_)))
        rw [he]; exact q1
      · simp only [impl_StoreRead.p13, ei]
        exact Ev.pos (by omega) (Ev.neg (by decide) (Ev.bind f3 (Ev.pos hlim q2)))
    | false =>
      obtain ⟨f0, p', f1, f2, f3⟩ := e4 he
      refine ⟨(zSt, false), Ev.succ ?_, Ev.succ ?_, .inl rfl⟩
      · simp only [spec_StoreRead.p15, ei]
        refine Ev.pos (by omega) (Ev.pos trivial (Ev.bind e1 (Ev.pos hlim ?_)))
        rw [he]; exact spec_bad hb hx z _ _ _ _
      · simp only [impl_StoreRead.p13, ei]
        exact Ev.pos (by omega) (Ev.neg (by decide) (Ev.bind f3 (Ev.pos hlim (impl_bad hb hx z _ _ _ _))))
theorem loop_long (n : Int) (hn : 200 < n) : ∀ (m i : Nat) (p : Int) (l : List Entry), (b.length : Int) - p ≤ m → (i : Int) ≤ n → (i : Int) ≤ p → l.length = i → (∀ i, i < l.length → InR (l.getD i zEnt).1) → 0 ≤ p → p ≤ (b.length : Int) →
    Ev (fun k => spec_StoreRead.p15 k b p true n (i : Int) z (l, (([] : List Entry), (v, ())))) (zSt, false) := by
  intro m
  induction m with
  | zero =>
    intro i p l hm hi hip hl ha h0 hp
    refine Ev.succ ?_
    simp only [spec_StoreRead.p15]
    by_cases hlt : (i : Int) < n
    · obtain ⟨e, e1, e2, e3, e4⟩ := entry_both hb hx h0 hp
      cases he : e.2.2 with
      | true => have := e3 he; omega
      | false =>
        refine Ev.pos hlt (Ev.pos trivial (Ev.bind e1 (Ev.pos (by simp only [lim_eq, List.length_cons, List.length_nil]; omega) ?_)))
        rw [he]; exact spec_bad hb hx z _ _ _ _
    · obtain ⟨q, q1, _, _, q4⟩ := end_both hb hx v z p l (by omega) ha
      rw [q4 (by omega)] at q1
      exact Ev.neg hlt q1
  | succ m ih =>
    intro i p l hm hi hip hl ha h0 hp
    refine Ev.succ ?_
    simp only [spec_StoreRead.p15]
    by_cases hlt : (i : Int) < n
    · obtain ⟨e, e1, e2, e3, e4⟩ := entry_both hb hx h0 hp
      refine Ev.pos hlt (Ev.pos trivial (Ev.bind e1 (Ev.pos (by simp only [lim_eq, List.length_cons, List.length_nil]; omega) ?_)))
      cases he : e.2.2 with
      | true =>
        obtain ⟨f1, f2, _⟩ := e3 he
        rw [wrap_up (i := i) (n := 1048577) (by omega) (by omega)]
        exact ih (i + 1) e.2.1 (l ++ [e.1]) (by omega) (by omega) (by omega) (by simp [hl]) (app_InR hb hx ha e2) (by omega) f2
      | false => exact spec_bad hb hx z _ _ _ _
    · obtain ⟨q, q1, _, _, q4⟩ := end_both hb hx v z p l (by omega) ha
      rw [q4 (by omega)] at q1
      exact Ev.neg hlt q1
theorem read_both : ∃ q, Ev (fun k => spec_StoreRead.f k b) q ∧ Ev (fun k => impl_StoreRead.f k b) q ∧ StR q := by
  obtain ⟨r, r1, r2, r3, r4⟩ := num_both b hb hx 0 (by omega) (by omega)
  simp only [spec_StoreRead.f, impl_StoreRead.f]
  cases hr : r.2.2 with
  | false =>
    exact ⟨(zSt, false), Ev.bind r1 (Ev.neg (by rw [hr]; decide) Ev.ret), Ev.bind (num_no r2 hr) (Ev.bind (count_bad hb hx (by omega) (by omega) (by decide)) (impl_bad hb hx _ _ _ _ _)), .inl rfl⟩
  | true =>
  obtain ⟨v0, v1, q0, q1⟩ := r3 hr
  obtain ⟨s, s1, s2, s3, s4⟩ := num_both b hb hx r.2.1 (by omega) q1
  have cn : ∀ {x : Int × reader}, Ev (fun k => (impl_reader_num.f k (b, (r.2.1, (false, ())))).bind fun r1 => if (200 : Int) < r1.1 then some ((0 : Int), (r1.2.1, (r1.2.2.1, (true, r1.2.2.2.2)))) else some (r1.1, r1.2)) x → Ev (fun k => impl_reader_count.f k (b, (r.2.1, (false, ()))) (200 : Int)) x := fun h => h
  cases hs : s.2.2 with
  | false =>
    have h0 := s4 hs
    refine ⟨(zSt, false), Ev.bind r1 (Ev.pos hr (Ev.bind s1 ?_)), Ev.bind (num_ok r2 hr) (Ev.bind (cn (Ev.bind (num_no s2 hs) (Ev.neg (show ¬ ((200 : Int) < 0) by decide) Ev.ret))) (impl_bad hb hx _ _ _ _ _)), .inl rfl⟩
    rw [hs]; exact spec_bad hb hx _ _ _ _ _
  | true =>
  obtain ⟨u0, u1, p0, p1⟩ := s3 hs
  by_cases hbig : (200 : Int) < s.1
  · refine ⟨(zSt, false), Ev.bind r1 (Ev.pos hr (Ev.bind s1 ?_)), Ev.bind (num_ok r2 hr) (Ev.bind (cn (Ev.bind (num_ok s2 hs) (Ev.pos hbig Ev.ret))) (impl_bad hb hx _ _ _ _ _)), .inl rfl⟩
    rw [hs]
    exact loop_long hb hx r.1 _ s.1 hbig b.length 0 s.2.1 [] (by omega) (by omega) (by omega) rfl (fun i hi => by cases hi) (by omega) p1
  · obtain ⟨q, k1, k2, k3⟩ := loop_both hb hx r.1 zSt s.1 (by omega) s.1.toNat 0 s.2.1 [] (by omega) (by omega) rfl (fun i hi => by cases hi) (by omega) p1
    refine ⟨q, Ev.bind r1 (Ev.pos hr (Ev.bind s1 ?_)), Ev.bind (num_ok r2 hr) (Ev.bind (cn (Ev.bind (num_ok s2 hs) (Ev.neg hbig Ev.ret))) k2), k3⟩
    rw [hs]; exact k1
end

theorem laws_sameEntries_l (l : List Entry) (hl : l.length ≤ 1048576) : ∀ (m i : Nat), i + m = l.length → Ev (fun k => laws_sameEntries.p9 k l l (i : Int)) true := by
  intro m
  induction m with
  | zero =>
    intro i hi
    refine Ev.succ ?_
    simp only [laws_sameEntries.p9]
    exact Ev.neg (by omega) Ev.ret
  | succ m ih =>
    intro i hi
    refine Ev.succ ?_
    simp only [laws_sameEntries.p9]
    rw [wrap_up (i := i) (n := l.length) (by omega) (by omega)]
    exact Ev.pos (by omega) (Ev.pos (by omega) (Ev.pos (by omega) (Ev.pos trivial (ih (i + 1) (by omega)))))
theorem laws_sameEntries_ev (l : List Entry) (hl : l.length ≤ 1048576) : Ev (fun k => laws_sameEntries.f k l l) true := by
  simp only [laws_sameEntries.f]
  exact Ev.pos trivial (laws_sameEntries_l l hl l.length 0 (by omega))


/-- A number's bytes. -/
noncomputable def encN (n : Nat) : List Int := if n ≤ 127 then [(n : Int)] else ((n % 128 + 128 : Nat) : Int) :: encN (n / 128)
termination_by n
decreasing_by omega
theorem encN_small {n : Nat} (h : n ≤ 127) : encN n = [(n : Int)] := by rw [encN, if_pos h]
theorem encN_big {n : Nat} (h : ¬ n ≤ 127) : encN n = ((n % 128 + 128 : Nat) : Int) :: encN (n / 128) := by rw [encN, if_neg h]
theorem encN_pos (n : Nat) : 0 < (encN n).length := by rw [encN]; split <;> simp
theorem encN_len : ∀ (k n : Nat), n < 128 ^ (k + 1) → (encN n).length ≤ k + 1 := by
  intro k
  induction k with
  | zero => intro n h; rw [encN_small (by omega)]; simp
  | succ k ih =>
    intro n h
    by_cases hn : n ≤ 127
    · rw [encN_small hn]; simp
    · rw [encN_big hn, List.length_cons]
      have : n / 128 < 128 ^ (k + 1) := Nat.div_lt_of_lt_mul (by rw [Nat.pow_succ] at h; omega)
      have := ih _ this
      omega
theorem encN_byte (n : Nat) : ∀ x ∈ encN n, 0 ≤ x ∧ x ≤ 255 := by
  induction n using Nat.strongRecOn with
  | _ n ih =>
    intro x hx
    by_cases hn : n ≤ 127
    · rw [encN_small hn, List.mem_singleton] at hx; omega
    · rw [encN_big hn] at hx
      rcases List.mem_cons.1 hx with rfl | hx
      · omega
      · exact ih (n / 128) (by omega) x hx
theorem wrap8 (x : Int) (h0 : 0 ≤ x) (h1 : x ≤ 255) : IntKind.wrap .u8 x = x := by
  show (if (false && decide (x % 2 ^ 8 ≥ 2 ^ (8 - 1))) = true then x % 2 ^ 8 - 2 ^ 8 else x % 2 ^ 8) = x
  rw [Bool.false_and, if_neg (by decide)]
  exact Int.emod_eq_of_lt h0 (by omega)
theorem spec_PutNum_l (n : Nat) : n ≤ 9223372036854775807 → ∀ acc : List Int, acc.length + (encN n).length ≤ 1048576 → Ev (fun k => spec_PutNum.p9 k (n : Int) acc) (acc ++ encN n) := by
  induction n using Nat.strongRecOn with
  | _ n ih =>
    intro hn acc hl
    refine Ev.succ ?_
    simp only [spec_PutNum.p9]
    by_cases h : n ≤ 127
    · rw [encN_small h] at hl ⊢
      rw [wrap8 (n : Int) (by omega) (by omega)]
      exact Ev.neg (by omega) (Ev.pos (by simp only [lim_eq, List.length_cons, List.length_nil]; omega) Ev.ret)
    · rw [encN_big h] at hl ⊢
      rw [List.length_cons] at hl
      have e1 : Int.tmod (n : Int) 128 = ((n % 128 : Nat) : Int) := by rw [Int.tmod_eq_emod_of_nonneg (by omega)]; omega
      have e2 : Int.tdiv (n : Int) 128 = ((n / 128 : Nat) : Int) := by rw [Int.tdiv_eq_ediv_of_nonneg (by omega)]; omega
      have e3 : wrap64 (((n % 128 : Nat) : Int) + 128) = ((n % 128 + 128 : Nat) : Int) := by rw [wrap64_id (by omega) (by omega)]; omega
      rw [e1, e2, e3, wrap64_id (x := ((n / 128 : Nat) : Int)) (by omega) (by omega), wrap8 _ (by omega) (by omega)]
      refine Ev.pos (by omega) (Ev.pos (by simp only [lim_eq, List.length_cons, List.length_nil]; omega) ((ih (n / 128) (by omega) (by omega) _ (by rw [List.length_append, List.length_singleton]; omega)).eq ?_))
      rw [List.append_assoc]; rfl
theorem spec_PutNum_ev (n : Nat) (h : n ≤ 9223372036854775807) : Ev (fun k => spec_PutNum.f k (n : Int)) (encN n) := by
  simp only [spec_PutNum.f]
  have hl : (encN n).length ≤ 9 := encN_len 8 n (by omega)
  exact Ev.neg (by omega) (spec_PutNum_l n h [] (by simp; omega))
theorem put_bits (n : Nat) (h : n ≤ 9223372036854775807) : orK .i64 (andK .i64 (n : Int) 127) 128 = ((n % 128 + 128 : Nat) : Int) ∧ shrK .i64 (n : Int) 7 = ((n / 128 : Nat) : Int) := by
  have e1 : andK .i64 (n : Int) 127 = ((n % 128 : Nat) : Int) := by
    have e : andK .i64 (n : Int) 127 = wrap64 (((BitVec.ofInt 64 (n : Int) &&& BitVec.ofInt 64 127).toNat : Nat) : Int) := rfl
    have h2 : (BitVec.ofInt 64 (n : Int) &&& BitVec.ofInt 64 127).toNat = n % 128 := by
      rw [BitVec.toNat_and, BitVec.toNat_ofInt, show (BitVec.ofInt 64 127).toNat = 2 ^ 7 - 1 from rfl, Nat.and_two_pow_sub_one_eq_mod]
      have : ((n : Int) % ((2 ^ 64 : Nat) : Int)).toNat = n := by omega
      rw [this]
    rw [e, h2, wrap64_id (by omega) (by omega)]
  have hm : n % 128 < 128 := Nat.mod_lt _ (by decide)
  refine ⟨?_, ?_⟩
  · rw [e1]
    have e : orK .i64 ((n % 128 : Nat) : Int) 128 = wrap64 (((BitVec.ofInt 64 ((n % 128 : Nat) : Int) ||| BitVec.ofInt 64 128).toNat : Nat) : Int) := rfl
    have h2 : (BitVec.ofInt 64 ((n % 128 : Nat) : Int) ||| BitVec.ofInt 64 128).toNat = n % 128 + 128 := by
      rw [BitVec.toNat_or, BitVec.toNat_ofInt, show (BitVec.ofInt 64 128).toNat = 1 <<< 7 from rfl]
      have h1 : (((n % 128 : Nat) : Int) % ((2 ^ 64 : Nat) : Int)).toNat = n % 128 := by omega
      rw [h1, Nat.or_comm, ← Nat.shiftLeft_add_eq_or_of_lt (show n % 128 < 2 ^ 7 from hm), Nat.add_comm]
      rfl
    rw [e, h2, wrap64_id (by omega) (by omega)]
  · show Int.fdiv (n : Int) (2 ^ 7) = _
    rw [Int.fdiv_eq_ediv_of_nonneg _ (by decide)]
    omega
theorem impl_PutNum_l (n : Nat) : n ≤ 9223372036854775807 → ∀ acc : List Int, acc.length + (encN n).length ≤ 1048576 → Ev (fun k => impl_PutNum.p9 k (n : Int) acc) (acc ++ encN n) := by
  induction n using Nat.strongRecOn with
  | _ n ih =>
    intro hn acc hl
    refine Ev.succ ?_
    simp only [impl_PutNum.p9]
    by_cases h : n ≤ 127
    · rw [encN_small h] at hl ⊢
      rw [wrap8 (n : Int) (by omega) (by omega)]
      exact Ev.neg (by omega) (Ev.pos (by simp only [lim_eq, List.length_cons, List.length_nil]; omega) Ev.ret)
    · rw [encN_big h] at hl ⊢
      rw [List.length_cons] at hl
      obtain ⟨e1, e2⟩ := put_bits n hn
      rw [e1, e2, wrap8 _ (by omega) (by omega)]
      refine Ev.pos (by omega) (Ev.pos (by simp only [lim_eq, List.length_cons, List.length_nil]; omega) ((ih (n / 128) (by omega) (by omega) _ (by rw [List.length_append, List.length_singleton]; omega)).eq ?_))
      rw [List.append_assoc]; rfl
theorem impl_PutNum_ev (n : Nat) (h : n ≤ 9223372036854775807) : Ev (fun k => impl_PutNum.f k (n : Int)) (encN n) := by
  simp only [impl_PutNum.f]
  have hl : (encN n).length ≤ 9 := encN_len 8 n (by omega)
  exact Ev.neg (by omega) (impl_PutNum_l n h [] (by simp; omega))
theorem encN9 {n : Nat} (h : n ≤ 9223372036854775807) : (encN n).length ≤ 9 := encN_len 8 n (by omega)
theorem impl_putNums_ev (l : List Int) (h : ∀ x ∈ l, 0 ≤ x ∧ x ≤ 9223372036854775807) (hl : l.length ≤ 1000) : Ev (fun k => impl_putNums.f k l) (l.flatMap fun x => encN x.toNat) := by
  have loop : ∀ (d i : Nat) (acc : List Int), i + d = l.length → acc.length ≤ 9 * i → Ev (fun k => impl_putNums.p7 k acc l ((l.length : Nat) : Int) (i : Int)) (acc ++ (l.drop i).flatMap fun x => encN x.toNat) := by
    intro d
    induction d with
    | zero =>
      intro i acc hi ha
      refine Ev.succ ?_
      simp only [impl_putNums.p7]
      rw [List.drop_eq_nil_of_le (by omega), List.flatMap_nil, List.append_nil]
      exact Ev.neg (by omega) Ev.ret
    | succ d ih =>
      intro i acc hi ha
      have hlt : i < l.length := by omega
      have hx := h _ (getD_mem (d := (0 : Int)) hlt)
      have hn := encN9 (n := (l.getD i 0).toNat) (by omega)
      have hp := impl_PutNum_ev (l.getD i 0).toNat (by omega)
      rw [Int.toNat_of_nonneg hx.1] at hp
      refine Ev.succ ?_
      simp only [impl_putNums.p7, Int.toNat_natCast]
      rw [wrap_up hlt (by omega), drop_get (d := (0 : Int)) hlt, List.flatMap_cons, ← List.append_assoc]
      exact Ev.pos (by omega) (Ev.pos (by omega) (Ev.bind hp (Ev.pos (by rw [lim_eq]; omega) (ih (i + 1) _ (by omega) (by rw [List.length_append]; omega)))))
  have := loop l.length 0 [] (by omega) (by simp)
  rw [List.drop_zero, List.nil_append] at this
  exact Ev.cg this fun k => rfl
/-- An entry's bytes; a store's. -/
noncomputable def encE (e : Entry) : List Int := encN e.1.toNat ++ (encN e.2.1.toNat ++ (encN (if e.2.2.1 = true then 1 else 0) ++ (encN e.2.2.2.1.size ++ listOf e.2.2.2.1)))
noncomputable def encS (s : Store) : List Int := encN s.2.2.1.toNat ++ (encN s.1.length ++ s.1.flatMap encE)
theorem listOf_len (d : ByteArray) : (listOf d).length = d.size := by
  unfold listOf
  rw [List.length_map, Array.length_toList]; rfl
theorem entB_parts {e : Entry} (h : entB e = true) : (0 < e.1 ∧ e.1 ≤ 9223372036854775807) ∧ (0 ≤ e.2.1 ∧ e.2.1 ≤ 30) ∧ e.2.2.2.1.size ≤ 40 := by
  simp only [entB, Bool.and_eq_true, decide_eq_true_eq, inB_true] at h
  have hp := placeOk_pos h.1
  exact ⟨by omega, by omega, by have := h.2.2.2.1; omega⟩
theorem encE_len {e : Entry} (h : entB e = true) : (encE e).length ≤ 76 := by
  obtain ⟨h1, h2, h3⟩ := entB_parts h
  have l1 := encN9 (n := e.1.toNat) (by omega)
  have l2 := encN9 (n := e.2.1.toNat) (by omega)
  have l3 := encN9 (n := if e.2.2.1 = true then 1 else 0) (by split <;> omega)
  have l4 := encN9 (n := e.2.2.2.1.size) (by omega)
  have l5 := listOf_len e.2.2.2.1
  unfold encE
  simp only [List.length_append]
  omega
theorem spec_l3Pack_ev (e : Entry) (h : entB e = true) : Ev (fun k => spec_l3Pack.f k e) (encE e) := by
  obtain ⟨h1, h2, h3⟩ := entB_parts h
  have l1 := encN9 (n := e.1.toNat) (by omega)
  have l2 := encN9 (n := e.2.1.toNat) (by omega)
  have l3 := encN9 (n := if e.2.2.1 = true then 1 else 0) (by split <;> omega)
  have l4 := encN9 (n := e.2.2.2.1.size) (by omega)
  have l5 := listOf_len e.2.2.2.1
  have p1 := spec_PutNum_ev e.1.toNat (by omega)
  have p2 := spec_PutNum_ev e.2.1.toNat (by omega)
  have p3 := spec_PutNum_ev (if e.2.2.1 = true then 1 else 0) (by split <;> omega)
  have p4 := spec_PutNum_ev e.2.2.2.1.size (by omega)
  rw [Int.toNat_of_nonneg (by omega)] at p1 p2
  have hb : spec_l3Bit.f e.2.2.1 = some (((if e.2.2.1 = true then 1 else 0 : Nat)) : Int) := by
    unfold spec_l3Bit.f
    split <;> rfl
  simp only [spec_l3Pack.f, spec_PutText.f]
  refine Ev.bind p1 (Ev.bind p2 (Ev.pos (by rw [lim_eq]; omega) (Ev.bindc hb (Ev.bind p3 (Ev.pos (by rw [lim_eq]; simp only [List.length_append]; omega) (Ev.bind (Ev.bind p4 (Ev.pos (by rw [lim_eq]; omega) Ev.ret)) (Ev.pos (by rw [lim_eq]; simp only [List.length_append]; omega) (Ev.ret.eq ?_))))))))
  unfold encE
  simp only [List.append_assoc]
theorem impl_EntryPack_ev (e : Entry) (h : entB e = true) : Ev (fun k => impl_EntryPack.f k e) (encE e, true) := by
  obtain ⟨h1, h2, h3⟩ := entB_parts h
  have l1 := encN9 (n := e.1.toNat) (by omega)
  have l2 := encN9 (n := e.2.1.toNat) (by omega)
  have l3 := encN9 (n := if e.2.2.1 = true then 1 else 0) (by split <;> omega)
  have l4 := encN9 (n := e.2.2.2.1.size) (by omega)
  have l5 := listOf_len e.2.2.2.1
  have p0 := impl_EntryOk_ev e (by unfold InR; omega)
  rw [h] at p0
  have hb : impl_flagNum.f e.2.2.1 = some (((if e.2.2.1 = true then 1 else 0 : Nat)) : Int) := by
    unfold impl_flagNum.f
    split <;> rfl
  have p3 := impl_putNums_ev [e.1, e.2.1, (((if e.2.2.1 = true then 1 else 0 : Nat)) : Int)] (fun x hx => by
    simp only [List.mem_cons, List.not_mem_nil, or_false] at hx
    rcases hx with rfl | rfl | rfl
    · omega
    · omega
    · split <;> omega) (by simp)
  have p4 := impl_PutNum_ev e.2.2.2.1.size (by omega)
  simp only [impl_EntryPack.f, impl_PutText.f]
  refine Ev.bind p0 (Ev.pos rfl (Ev.bindc hb (Ev.bind p3 (Ev.bind (Ev.bind p4 (Ev.pos (by rw [lim_eq]; omega) Ev.ret)) (Ev.pos ?_ (Ev.ret.eq ?_))))))
  · rw [lim_eq]
    simp only [List.flatMap_cons, List.flatMap_nil, List.length_append, List.length_nil, Int.toNat_natCast]
    omega
  · unfold encE
    simp only [List.flatMap_cons, List.flatMap_nil, List.append_assoc, List.nil_append, Int.toNat_natCast]
theorem storeB_parts {s : Store} (h : storeB s = true) : s.1.length ≤ 200 ∧ (∀ e ∈ s.1, entB e = true) ∧ (0 ≤ s.2.2.1 ∧ s.2.2.1 ≤ 30) := by
  simp only [storeB, Bool.and_eq_true, decide_eq_true_eq, inB_true] at h
  refine ⟨by omega, fun e he => ?_, h.2.2.2.2.2⟩
  have h2 := h.2.1
  simp only [entsB, List.all_eq_true, List.mem_range'_1] at h2
  obtain ⟨q, hq, e1⟩ := List.getElem_of_mem he
  have := h2 q (by omega)
  rw [getD_is hq, e1] at this
  exact this
theorem flat_len {l : List Entry} (h : ∀ e ∈ l, entB e = true) : (l.flatMap encE).length ≤ 76 * l.length := by
  induction l with
  | nil => exact Nat.le_refl _
  | cons e l ih =>
    have h1 := encE_len (h e List.mem_cons_self)
    have h2 := ih fun x hx => h x (List.mem_cons_of_mem _ hx)
    rw [List.flatMap_cons, List.length_append, List.length_cons]; omega
theorem encS_len {s : Store} (h : storeB s = true) : (encS s).length ≤ 15218 := by
  obtain ⟨h1, h2, h3⟩ := storeB_parts h
  have l1 := encN9 (n := s.2.2.1.toNat) (by omega)
  have l2 := encN9 (n := s.1.length) (by omega)
  have l3 := flat_len h2
  unfold encS
  simp only [List.length_append]; omega
theorem EG_of {s : Store} (h : ∀ e ∈ s.1, entB e = true) : ∀ i, i < s.1.length → InR (s.1.getD i zEnt).1 := fun i hi => by
  have := (entB_parts (h _ (getD_mem (d := zEnt) hi))).1
  unfold InR; omega
theorem spec_StorePack_ev (s : Store) (h : storeB s = true) (hl : s.2.1 = []) : Ev (fun k => spec_StorePack.f k s) (encS s, true) := by
  obtain ⟨h1, h2, h3⟩ := storeB_parts h
  have l1 := encN9 (n := s.2.2.1.toNat) (by omega)
  have l2 := encN9 (n := s.1.length) (by omega)
  have p0 := spec_StoreOk_ev s (by omega) (by rw [hl]; exact Nat.zero_le _) (EG_of h2) (by rw [hl]; intro i hi; exact absurd hi (Nat.not_lt_zero _))
  rw [h] at p0
  have p1 := spec_PutNum_ev s.2.2.1.toNat (by omega)
  have p2 := spec_PutNum_ev s.1.length (by omega)
  rw [Int.toNat_of_nonneg h3.1] at p1
  have loop : ∀ (d i : Nat) (acc : List Int), i + d = s.1.length → acc.length ≤ 18 + 76 * i → Ev (fun k => spec_StorePack.p11 k acc (i : Int) s) (acc ++ (s.1.drop i).flatMap encE, true) := by
    intro d
    induction d with
    | zero =>
      intro i acc hi ha
      refine Ev.succ ?_
      simp only [spec_StorePack.p11]
      rw [List.drop_eq_nil_of_le (by omega), List.flatMap_nil, List.append_nil]
      exact Ev.neg (by omega) Ev.ret
    | succ d ih =>
      intro i acc hi ha
      have hlt : i < s.1.length := by omega
      have he := h2 _ (getD_mem (d := zEnt) hlt)
      have hn := encE_len he
      have h9 : (acc ++ encE (s.1.getD i zEnt)).length ≤ 18 + 76 * (i + 1) := by rw [List.length_append]; omega
      refine Ev.succ ?_
      simp only [spec_StorePack.p11, Int.toNat_natCast]
      rw [wrap_up hlt (by omega), drop_get (d := zEnt) hlt, List.flatMap_cons, ← List.append_assoc]
      exact Ev.pos (by omega) (Ev.pos (by omega) (Ev.bind (spec_l3Pack_ev _ he) (Ev.pos (by rw [lim_eq]; show ((acc.length : Nat) : Int) + (((encE (s.1.getD i zEnt)).length : Nat) : Int) ≤ _; omega) (ih (i + 1) _ (by omega) h9))))
  simp only [spec_StorePack.f]
  have hz : s.2.1.length = 0 := by rw [hl]; rfl
  have := loop s.1.length 0 (encN s.2.2.1.toNat ++ encN s.1.length) (by omega) (by rw [List.length_append]; omega)
  rw [List.drop_zero, List.append_assoc] at this
  exact Ev.bind p0 (Ev.pos rfl (Ev.neg (by omega) (Ev.bind p1 (Ev.bind p2 (Ev.pos (by rw [lim_eq]; omega) this)))))
theorem impl_StorePack_ev (s : Store) (h : storeB s = true) (hl : s.2.1 = []) : Ev (fun k => impl_StorePack.f k s) (encS s, true) := by
  obtain ⟨h1, h2, h3⟩ := storeB_parts h
  have l1 := encN9 (n := s.2.2.1.toNat) (by omega)
  have l2 := encN9 (n := s.1.length) (by omega)
  have p0 := impl_StoreOk_ev s (by omega) (by rw [hl]; exact Nat.zero_le _) (EG_of h2) (by rw [hl]; intro i hi; exact absurd hi (Nat.not_lt_zero _))
  rw [h] at p0
  have p1 := impl_putNums_ev [s.2.2.1, ((s.1.length : Nat) : Int)] (fun x hx => by
    simp only [List.mem_cons, List.not_mem_nil, or_false] at hx
    rcases hx with rfl | rfl <;> omega) (by simp)
  have loop : ∀ (d i : Nat) (acc : List Int), i + d = s.1.length → acc.length ≤ 18 + 76 * i → Ev (fun k => impl_StorePack.p11 k acc s.1 ((s.1.length : Nat) : Int) (i : Int)) (acc ++ (s.1.drop i).flatMap encE, true) := by
    intro d
    induction d with
    | zero =>
      intro i acc hi ha
      refine Ev.succ ?_
      simp only [impl_StorePack.p11]
      rw [List.drop_eq_nil_of_le (by omega), List.flatMap_nil, List.append_nil]
      exact Ev.neg (by omega) Ev.ret
    | succ d ih =>
      intro i acc hi ha
      have hlt : i < s.1.length := by omega
      have he := h2 _ (getD_mem (d := zEnt) hlt)
      have hn := encE_len he
      have h9 : (acc ++ encE (s.1.getD i zEnt)).length ≤ 18 + 76 * (i + 1) := by rw [List.length_append]; omega
      refine Ev.succ ?_
      simp only [impl_StorePack.p11, Int.toNat_natCast]
      rw [wrap_up hlt (by omega), drop_get (d := zEnt) hlt, List.flatMap_cons, ← List.append_assoc]
      exact Ev.pos (by omega) (Ev.pos (by omega) (Ev.bind (impl_EntryPack_ev _ he) (Ev.pos (by rw [lim_eq]; show ((acc.length : Nat) : Int) + (((encE (s.1.getD i zEnt)).length : Nat) : Int) ≤ _; omega) (ih (i + 1) _ (by omega) h9))))
  simp only [impl_StorePack.f]
  have hz : s.2.1.length = 0 := by rw [hl]; rfl
  have he : ([s.2.2.1, ((s.1.length : Nat) : Int)] : List Int).flatMap (fun x => encN x.toNat) = encN s.2.2.1.toNat ++ encN s.1.length := by
    simp only [List.flatMap_cons, List.flatMap_nil, List.append_nil, Int.toNat_natCast]
  rw [he] at p1
  have := loop s.1.length 0 (encN s.2.2.1.toNat ++ encN s.1.length) (by omega) (by rw [List.length_append]; omega)
  rw [List.drop_zero, List.append_assoc] at this
  exact Ev.bind p0 (Ev.pos rfl (Ev.neg (by omega) (Ev.bind p1 this)))
/-! Reading. -/
theorem get_l (b : List Int) (hb : b.length ≤ 1048576) (hx : ∀ i, 0 ≤ b.getD i 0 ∧ b.getD i 0 ≤ 255) (p : Nat) : ∀ (m i v : Nat) (x3 : Int), i + m = 9 → v < 2 ^ (7 * i) → p + i ≤ b.length → (i < 9 → x3 = ((2 ^ (7 * i) : Nat) : Int)) →
    ∃ r, Ev (fun k => spec_GetNum.p13 k b (p : Int) (v : Int) x3 (i : Int)) r ∧
      ((∃ y rest, (i = 0 ∨ 1 ≤ y) ∧ v + y * 2 ^ (7 * i) ≤ 9223372036854775807 ∧ b.drop (p + i) = encN y ++ rest ∧ r = (((v + y * 2 ^ (7 * i) : Nat) : Int), ((p + i + (encN y).length : Nat) : Int), true)) ∨
       ((¬ ∃ y rest, (i = 0 ∨ 1 ≤ y) ∧ v + y * 2 ^ (7 * i) ≤ 9223372036854775807 ∧ b.drop (p + i) = encN y ++ rest) ∧ r = ((0 : Int), (0 : Int), false))) := by
  intro m
  induction m with
  | zero =>
    intro i v x3 hi hv hp h3
    have hi : i = 9 := by omega
    subst hi
    refine ⟨((0 : Int), (0 : Int), false), Ev.succ ?_, .inr ⟨?_, rfl⟩⟩
    · simp only [spec_GetNum.p13]; exact Ev.neg (by omega) Ev.ret
    · rintro ⟨y, rest, h1, h2, _⟩
      have : 1 ≤ y := h1.resolve_left (by omega)
      have e : (2 : Nat) ^ (7 * 9) = 9223372036854775808 := by decide
      rw [e] at h2
      omega
  | succ m ih =>
    intro i v x3 hi hv hp h3
    have ep : wrap64 ((p : Int) + (i : Int)) = ((p + i : Nat) : Int) := by rw [wrap64_id (by omega) (by omega)]; omega
    by_cases hl : p + i < b.length
    case neg =>
      refine ⟨((0 : Int), (0 : Int), false), Ev.succ ?_, .inr ⟨?_, rfl⟩⟩
      · simp only [spec_GetNum.p13, ep]; exact Ev.pos (by omega) (Ev.neg (by omega) Ev.ret)
      · rintro ⟨y, rest, h1, h2, h4⟩
        rw [List.drop_eq_nil_of_le (by omega)] at h4
        have := congrArg List.length h4
        have hpos := encN_pos y
        rw [List.length_append, List.length_nil] at this
        omega
    have hdrop : b.drop (p + i) = b.getD (p + i) 0 :: b.drop (p + i + 1) := drop_get hl
    obtain ⟨c0, c1⟩ := hx (p + i)
    rw [hdrop]
    generalize hg : b.getD (p + i) 0 = c at *
    obtain ⟨c, rfl⟩ : ∃ d : Nat, c = d := ⟨c.toNat, by omega⟩
    have ec : wrap64 (c : Int) = c := wrap64_id (by omega) (by omega)
    have hP : 0 < 2 ^ (7 * i) := Nat.pow_pos (by decide)
    have hP1 : 2 ^ (7 * (i + 1)) = 128 * 2 ^ (7 * i) := by rw [Nat.mul_add, Nat.pow_add]; omega
    have hle : 2 ^ (7 * (i + 1)) ≤ 9223372036854775808 := Nat.le_trans (Nat.pow_le_pow_right (by decide) (show 7 * (i + 1) ≤ 63 by omega)) (by decide)
    have hx3 := h3 (by omega)
    generalize hPP : 2 ^ (7 * i) = P at *
    have hmod : c % 128 < 128 := Nat.mod_lt _ (by decide)
    have hmul : (c % 128) * P ≤ 127 * P := Nat.mul_le_mul_right _ (by omega)
    have es : wrap64 ((v : Int) + wrap64 (Int.tmod (c : Int) 128 * x3)) = ((v + (c % 128) * P : Nat) : Int) := by
      rw [hx3, Int.tmod_eq_emod_of_nonneg (by omega)]
      have e1 : (c : Int) % 128 * (P : Int) = (((c % 128) * P : Nat) : Int) := by push_cast; rfl
      rw [e1, wrap64_id (x := (((c % 128) * P : Nat) : Int)) (by omega) (by omega), wrap64_id (by omega) (by omega)]; push_cast; rfl
    have ei : wrap64 ((i : Int) + 1) = ((i + 1 : Nat) : Int) := wrap_up (n := 9) (by omega) (by omega)
    have en : wrap64 (((p + i : Nat) : Int) + 1) = ((p + i + 1 : Nat) : Int) := by rw [wrap64_id (by omega) (by omega)]; omega
    by_cases hbig : c < 128
    · -- the last byte
      have only : ∀ y rest, (c : Int) :: b.drop (p + i + 1) = encN y ++ rest → y = c := fun y rest h => by
        by_cases hy : y ≤ 127
        · rw [encN_small hy] at h
          have := (List.cons.inj h).1
          omega
        · rw [encN_big hy] at h
          have := (List.cons.inj h).1
          omega
      have hm : c % 128 = c := Nat.mod_eq_of_lt hbig
      by_cases hz : c = 0 ∧ 0 < i
      · refine ⟨((0 : Int), (0 : Int), false), Ev.succ ?_, .inr ⟨?_, rfl⟩⟩
        · simp only [spec_GetNum.p13, ep, Int.toNat_natCast, hg, ec]
          exact Ev.pos (by omega) (Ev.pos (by omega) (Ev.pos (by omega) (Ev.pos (by omega) (Ev.pos (by omega) (Ev.pos (by omega) Ev.ret)))))
        · rintro ⟨y, rest, h1, h2, h4⟩
          have := only y rest h4
          omega
      · refine ⟨(((v + c * P : Nat) : Int), ((p + i + 1 : Nat) : Int), true), Ev.succ ?_, .inl ⟨c, b.drop (p + i + 1), by omega, by rw [← hm]; omega, by rw [encN_small (by omega)]; rfl, by rw [encN_small (by omega)]; rfl⟩⟩
        simp only [spec_GetNum.p13, ep, Int.toNat_natCast, hg, ec, es, en, hm]
        refine Ev.pos (by omega) (Ev.pos (by omega) (Ev.pos (by omega) (Ev.pos (by omega) ?_)))
        by_cases hz0 : (c : Int) = 0
        · exact Ev.pos hz0 (Ev.neg (fun h => hz ⟨by omega, by omega⟩) Ev.ret)
        · exact Ev.neg hz0 Ev.ret
    · -- more bytes
      have hm : c % 128 = c - 128 := by omega
      obtain ⟨r, r1, r2⟩ := ih (i + 1) (v + (c % 128) * P) (wrap64 (x3 * 128)) (by omega) (by rw [hP1]; omega) (by omega) (fun h9 => by
        have : 2 ^ (7 * (i + 1)) ≤ 72057594037927936 := Nat.le_trans (Nat.pow_le_pow_right (by decide) (show 7 * (i + 1) ≤ 56 by omega)) (by decide)
        rw [hx3, hP1, wrap64_id (by omega) (by omega)]; push_cast; omega)
      rw [hP1, show p + (i + 1) = p + i + 1 by omega] at r2
      have val : ∀ y, v + (c % 128) * P + y * (128 * P) = v + (128 * y + (c - 128)) * P := fun y => by
        rw [hm, Nat.add_mul, Nat.mul_comm 128 y, Nat.mul_assoc]; omega
      refine ⟨r, Ev.succ ?_, ?_⟩
      · simp only [spec_GetNum.p13, ep, Int.toNat_natCast, hg, ec, es, ei]
        exact Ev.pos (by omega) (Ev.pos (by omega) (Ev.pos (by omega) (Ev.neg (by omega) r1)))
      · rcases r2 with ⟨y, rest, h1, h2, h4, h5⟩ | ⟨h1, h2⟩
        · have hy : 1 ≤ y := h1.resolve_left (by omega)
          have hen : encN (128 * y + (c - 128)) = (c : Int) :: encN y := by
            rw [encN_big (by omega), show (128 * y + (c - 128)) % 128 + 128 = c by omega, show (128 * y + (c - 128)) / 128 = y by omega]
          refine .inl ⟨128 * y + (c - 128), rest, .inr (by omega), by rw [← val]; exact h2, by rw [hen, h4]; rfl, ?_⟩
          rw [h5, val, hen, List.length_cons, show p + i + 1 + (encN y).length = p + i + ((encN y).length + 1) by omega]
        · refine .inr ⟨?_, h2⟩
          rintro ⟨y, rest, h3, h4, h5⟩
          have hy : ¬ y ≤ 127 := fun hy => by
            rw [encN_small hy] at h5
            have := (List.cons.inj h5).1
            omega
          rw [encN_big hy] at h5
          obtain ⟨h6, h7⟩ := List.cons.inj h5
          refine h1 ⟨y / 128, rest, .inr (by omega), ?_, h7⟩
          rw [val, show 128 * (y / 128) + (c - 128) = y by omega]
          exact h4
/-- No number's bytes begin another's. -/
theorem encN_inj : ∀ (n m : Nat) (r s : List Int), encN n ++ r = encN m ++ s → n = m ∧ r = s := by
  intro n
  induction n using Nat.strongRecOn with
  | _ n ih =>
    intro m r s h
    by_cases hn : n ≤ 127
    · by_cases hm : m ≤ 127
      · rw [encN_small hn, encN_small hm] at h
        obtain ⟨h1, h2⟩ := List.cons.inj h
        exact ⟨by omega, h2⟩
      · rw [encN_small hn, encN_big hm] at h
        have := (List.cons.inj h).1
        omega
    · by_cases hm : m ≤ 127
      · rw [encN_big hn, encN_small hm] at h
        have := (List.cons.inj h).1
        omega
      · rw [encN_big hn, encN_big hm] at h
        obtain ⟨h1, h2⟩ := List.cons.inj h
        obtain ⟨h3, h4⟩ := ih (n / 128) (by omega) (m / 128) r s h2
        exact ⟨by omega, h4⟩
/-- What a number that is read from T at p comes to. -/
def NumS (T : List Int) (p : Nat) (r : Int × Int × Bool) : Prop :=
  (∃ n rest, n ≤ 9223372036854775807 ∧ T = encN n ++ rest ∧ r = ((n : Int), ((p + (encN n).length : Nat) : Int), true)) ∨ ((¬ ∃ n rest, n ≤ 9223372036854775807 ∧ T = encN n ++ rest) ∧ r = ((0 : Int), (0 : Int), false))
theorem get_ev (b : List Int) (hb : b.length ≤ 1048576) (hx : ∀ i, 0 ≤ b.getD i 0 ∧ b.getD i 0 ≤ 255) (p : Nat) (hp : p ≤ b.length) : ∃ r, Ev (fun k => spec_GetNum.f k b (p : Int)) r ∧ NumS (b.drop p) p r := by
  by_cases he : b.length ≤ p
  · refine ⟨((0 : Int), (0 : Int), false), ?_, .inr ⟨?_, rfl⟩⟩
    · simp only [spec_GetNum.f]
      exact Ev.neg (by omega) (Ev.pos (by omega) Ev.ret)
    · rintro ⟨n, rest, _, h⟩
      rw [List.drop_eq_nil_of_le he] at h
      have := congrArg List.length h
      have hpos := encN_pos n
      rw [List.length_append, List.length_nil] at this
      omega
  · obtain ⟨r, r1, r2⟩ := get_l b hb hx p 9 0 0 1 (by omega) (by decide) (by omega) (fun _ => by decide)
    refine ⟨r, ?_, ?_⟩
    · simp only [spec_GetNum.f]
      exact Ev.neg (by omega) (Ev.neg (by omega) r1)
    · have e : ∀ y : Nat, 0 + y * 2 ^ (7 * 0) = y := fun y => by rw [Nat.mul_zero, Nat.pow_zero]; omega
      rcases r2 with ⟨y, rest, h1, h2, h3, h4⟩ | ⟨h1, h2⟩
      · rw [e] at h2 h4
        exact .inl ⟨y, rest, h2, h3, h4⟩
      · exact .inr ⟨fun ⟨n, rest, h3, h4⟩ => h1 ⟨n, rest, .inl rfl, by rw [e]; exact h3, h4⟩, h2⟩
theorem drop_app {b : List Int} {p : Nat} {x rest : List Int} (h : b.drop p = x ++ rest) : b.drop (p + x.length) = rest := by
  rw [← List.drop_drop, h, List.drop_left]
theorem drop_le {b : List Int} {p : Nat} {x rest : List Int} (hp : p ≤ b.length) (h : b.drop p = x ++ rest) : p + x.length ≤ b.length := by
  have := congrArg List.length h
  rw [List.length_drop, List.length_append] at this
  omega
theorem bytes_list (d : ByteArray) : bytesOf (listOf d) = d := by
  unfold bytesOf listOf
  rw [List.map_map]
  have : (fun n : Int => UInt8.ofNat n.toNat) ∘ (fun b : UInt8 => (b.toNat : Int)) = id := by
    funext b
    show UInt8.ofNat ((b.toNat : Int).toNat) = b
    rw [Int.toNat_natCast, UInt8.ofNat_toNat]
  rw [this, List.map_id, Array.toArray_toList]
theorem list_bytes {l : List Int} (h : ∀ x ∈ l, 0 ≤ x ∧ x ≤ 255) : listOf (bytesOf l) = l := by
  unfold bytesOf listOf
  show List.map (fun b : UInt8 => (b.toNat : Int)) ((l.map fun n : Int => UInt8.ofNat n.toNat).toArray).toList = l
  rw [List.toList_toArray, List.map_map]
  have : ∀ x ∈ l, ((fun b : UInt8 => (b.toNat : Int)) ∘ fun n : Int => UInt8.ofNat n.toNat) x = id x := fun x hx => by
    obtain ⟨h1, h2⟩ := h x hx
    show ((UInt8.ofNat x.toNat).toNat : Int) = x
    rw [UInt8.toNat_ofNat']
    omega
  rw [List.map_congr_left this, List.map_id]
/-- What an entry that is read from T at p comes to. -/
def EntS (T : List Int) (p : Nat) (r : Entry × Int × Bool) : Prop :=
  (∃ e rest, entB e = true ∧ T = encE e ++ rest ∧ r = (e, ((p + (encE e).length : Nat) : Int), true)) ∨ ((¬ ∃ e rest, entB e = true ∧ T = encE e ++ rest) ∧ r.2.2 = false)
theorem entry_ev (b : List Int) (hb : b.length ≤ 1048576) (hx : ∀ i, 0 ≤ b.getD i 0 ∧ b.getD i 0 ≤ 255) (p : Nat) (hp : p ≤ b.length) : ∃ r, Ev (fun k => spec_EntryRead.f k b (p : Int)) r ∧ EntS (b.drop p) p r := by
  have parts : ∀ e : Entry, entB e = true → e.1.toNat ≤ 9223372036854775807 ∧ e.2.1.toNat ≤ 9223372036854775807 ∧ e.2.2.2.1.size ≤ 9223372036854775807 ∧ 0 ≤ e.1 ∧ 0 ≤ e.2.1 := fun e he => by
    obtain ⟨h1, h2, h3⟩ := entB_parts he
    omega
  have asc : ∀ (e : Entry) (rest : List Int), encE e ++ rest = encN e.1.toNat ++ (encN e.2.1.toNat ++ (encN (if e.2.2.1 = true then 1 else 0) ++ (encN e.2.2.2.1.size ++ (listOf e.2.2.2.1 ++ rest)))) := fun e rest => by
    unfold encE; simp only [List.append_assoc]
  obtain ⟨r1, e1, n1⟩ := get_ev b hb hx p hp
  rcases n1 with ⟨a1, t1, b1, c1, rfl⟩ | ⟨c1, rfl⟩
  case inr =>
    refine ⟨((((0 : Int), ((0 : Int), (false, ((⟨#[]⟩ : ByteArray), ()))))), (0 : Int), false), ?_, .inr ⟨fun ⟨e, rest, h1, h2⟩ => c1 ⟨e.1.toNat, _, (parts e h1).1, h2.trans (asc e rest)⟩, rfl⟩⟩
    simp only [spec_EntryRead.f]
    exact Ev.bind e1 (Ev.neg nft Ev.ret)
  have d1 := drop_app c1
  have q1 := drop_le hp c1
  obtain ⟨r2, e2, n2⟩ := get_ev b hb hx (p + (encN a1).length) q1
  rw [d1] at n2
  rcases n2 with ⟨a2, t2, b2, c2, rfl⟩ | ⟨c2, rfl⟩
  case inr =>
    refine ⟨((((0 : Int), ((0 : Int), (false, ((⟨#[]⟩ : ByteArray), ()))))), (0 : Int), false), ?_, .inr ⟨fun ⟨e, rest, h1, h2⟩ => ?_, rfl⟩⟩
    · simp only [spec_EntryRead.f]
      exact Ev.bind e1 (Ev.pos rfl (Ev.bind e2 (Ev.neg nft Ev.ret)))
    · rw [c1, asc] at h2
      obtain ⟨_, h3⟩ := encN_inj _ _ _ _ h2
      exact c2 ⟨e.2.1.toNat, _, (parts e h1).2.1, h3⟩
  have d2 := drop_app (d1.trans c2)
  have q2 := drop_le q1 (d1.trans c2)
  obtain ⟨r3, e3, n3⟩ := get_ev b hb hx (p + (encN a1).length + (encN a2).length) q2
  rw [d2] at n3
  rcases n3 with ⟨a3, t3, b3, c3, rfl⟩ | ⟨c3, rfl⟩
  case inr =>
    refine ⟨((((0 : Int), ((0 : Int), (false, ((⟨#[]⟩ : ByteArray), ()))))), (0 : Int), false), ?_, .inr ⟨fun ⟨e, rest, h1, h2⟩ => ?_, rfl⟩⟩
    · simp only [spec_EntryRead.f]
      exact Ev.bind e1 (Ev.pos rfl (Ev.bind e2 (Ev.pos rfl (Ev.bind e3 (Ev.neg nft Ev.ret)))))
    · rw [c1, asc] at h2
      obtain ⟨_, h3⟩ := encN_inj _ _ _ _ h2
      rw [c2] at h3
      obtain ⟨_, h4⟩ := encN_inj _ _ _ _ h3
      exact c3 ⟨_, _, by split <;> omega, h4⟩
  have d3 := drop_app (d2.trans c3)
  have q3 := drop_le q2 (d2.trans c3)
  -- any entry that stands here has these numbers
  have same : ∀ (e : Entry) (rest : List Int), b.drop p = encE e ++ rest → a1 = e.1.toNat ∧ a2 = e.2.1.toNat ∧ a3 = (if e.2.2.1 = true then 1 else 0) ∧ t3 = encN e.2.2.2.1.size ++ (listOf e.2.2.2.1 ++ rest) := fun e rest h => by
    rw [c1, asc] at h
    obtain ⟨f1, h⟩ := encN_inj _ _ _ _ h
    rw [c2] at h
    obtain ⟨f2, h⟩ := encN_inj _ _ _ _ h
    rw [c3] at h
    obtain ⟨f3, h⟩ := encN_inj _ _ _ _ h
    exact ⟨f1, f2, f3, h⟩
  by_cases hf : (1 : Int) < (a3 : Int)
  · refine ⟨((((0 : Int), ((0 : Int), (false, ((⟨#[]⟩ : ByteArray), ()))))), (0 : Int), false), ?_, .inr ⟨fun ⟨e, rest, h1, h2⟩ => ?_, rfl⟩⟩
    · simp only [spec_EntryRead.f]
      exact Ev.bind e1 (Ev.pos rfl (Ev.bind e2 (Ev.pos rfl (Ev.bind e3 (Ev.pos rfl (Ev.pos hf Ev.ret))))))
    · have := (same e rest h2).2.2.1
      split at this <;> omega
  obtain ⟨r4, e4, n4⟩ := get_ev b hb hx (p + (encN a1).length + (encN a2).length + (encN a3).length) q3
  rw [d3] at n4
  rcases n4 with ⟨a4, t4, b4, c4, rfl⟩ | ⟨c4, rfl⟩
  case inr =>
    refine ⟨((((0 : Int), ((0 : Int), (false, ((⟨#[]⟩ : ByteArray), ()))))), (0 : Int), false), ?_, .inr ⟨fun ⟨e, rest, h1, h2⟩ => ?_, rfl⟩⟩
    · simp only [spec_EntryRead.f, spec_GetText.f]
      exact Ev.bind e1 (Ev.pos rfl (Ev.bind e2 (Ev.pos rfl (Ev.bind e3 (Ev.pos rfl (Ev.neg hf (Ev.bind (Ev.bind e4 (Ev.neg nft Ev.ret)) (Ev.neg nft Ev.ret))))))))
    · exact c4 ⟨_, _, (parts e h1).2.2.1, (same e rest h2).2.2.2⟩
  have d4 := drop_app (d3.trans c4)
  have q4 := drop_le q3 (d3.trans c4)
  generalize hQ : p + (encN a1).length + (encN a2).length + (encN a3).length + (encN a4).length = Q at *
  have hl4 : t4.length = b.length - Q := by rw [← d4, List.length_drop]
  by_cases hs : ((b.length : Nat) : Int) - (Q : Int) < (a4 : Int)
  · refine ⟨((((0 : Int), ((0 : Int), (false, ((⟨#[]⟩ : ByteArray), ()))))), (0 : Int), false), ?_, .inr ⟨fun ⟨e, rest, h1, h2⟩ => ?_, rfl⟩⟩
    · simp only [spec_EntryRead.f, spec_GetText.f]
      refine Ev.bind e1 (Ev.pos rfl (Ev.bind e2 (Ev.pos rfl (Ev.bind e3 (Ev.pos rfl (Ev.neg hf (Ev.bind (Ev.bind e4 (Ev.pos rfl (Ev.pos ?_ Ev.ret))) (Ev.neg nft Ev.ret))))))))
      show wrap64 (((b.length : Nat) : Int) - (Q : Int)) < (a4 : Int)
      rw [wrap64_id (by omega) (by omega)]; exact hs
    · have h3 := (same e rest h2).2.2.2
      rw [c4] at h3
      obtain ⟨h4, h5⟩ := encN_inj _ _ _ _ h3
      have := congrArg List.length h5
      rw [List.length_append, listOf_len] at this
      omega
  have ha4 : a4 ≤ t4.length := by omega
  have htk : List.take a4 (b.drop Q) = t4.take a4 := by rw [d4]
  have hbyte : ∀ x ∈ t4.take a4, 0 ≤ x ∧ x ≤ 255 := fun x hx' => by
    have h1 : x ∈ b := by
      have := List.mem_of_mem_take hx'
      rw [← d4] at this
      exact List.mem_of_mem_drop this
    obtain ⟨i, hi, e⟩ := List.getElem_of_mem h1
    have := hx i
    rw [getD_is hi, e] at this; exact this
  have hlb : listOf (bytesOf (t4.take a4)) = t4.take a4 := list_bytes hbyte
  have hsz : (bytesOf (t4.take a4)).size = a4 := by
    rw [← listOf_len, hlb, List.length_take]; omega
  have eT : Ev (fun k => spec_GetText.f k b (((p + (encN a1).length + (encN a2).length + (encN a3).length : Nat)) : Int)) (bytesOf (t4.take a4), ((Q + a4 : Nat) : Int), true) := by
    simp only [spec_GetText.f]
    have w1 : wrap64 (((b.length : Nat) : Int) - (Q : Int)) = ((b.length : Nat) : Int) - (Q : Int) := wrap64_id (by omega) (by omega)
    have w2 : wrap64 ((Q : Int) + (a4 : Int)) = ((Q + a4 : Nat) : Int) := by rw [wrap64_id (by omega) (by omega)]; omega
    refine Ev.bind e4 (Ev.pos rfl ?_)
    show Ev (fun _ => if wrap64 (((b.length : Nat) : Int) - (Q : Int)) < (a4 : Int) then _ else if (0 : Int) ≤ (Q : Int) ∧ (Q : Int) ≤ wrap64 ((Q : Int) + (a4 : Int)) ∧ wrap64 ((Q : Int) + (a4 : Int)) ≤ ((b.length : Nat) : Int) then some (bytesOf (List.take ((wrap64 ((Q : Int) + (a4 : Int))).toNat - (Q : Int).toNat) (b.drop (Q : Int).toNat)), wrap64 ((Q : Int) + (a4 : Int)), true) else none) _
    rw [w1, w2, Int.toNat_natCast, Int.toNat_natCast, show Q + a4 - Q = a4 by omega, htk]
    exact Ev.neg hs (Ev.pos (by omega) Ev.ret)
  have hE : encE ((a1 : Int), ((a2 : Int), (decide ((a3 : Int) = 1), (bytesOf (t4.take a4), ())))) = encN a1 ++ (encN a2 ++ (encN a3 ++ (encN a4 ++ t4.take a4))) := by
    unfold encE
    simp only [Int.toNat_natCast]
    rw [hlb, hsz]
    have : (if decide ((a3 : Int) = 1) = true then 1 else 0) = a3 := by
      by_cases h : (a3 : Int) = 1
      · rw [decide_eq_true h, if_pos rfl]; omega
      · rw [decide_eq_false h, if_neg nft]; omega
    rw [this]
  have hT : b.drop p = encE ((a1 : Int), ((a2 : Int), (decide ((a3 : Int) = 1), (bytesOf (t4.take a4), ())))) ++ t4.drop a4 := by
    rw [hE, c1, c2, c3, c4]
    simp only [List.append_assoc]
    rw [List.take_append_drop]
  have hlenE : p + (encE ((a1 : Int), ((a2 : Int), (decide ((a3 : Int) = 1), (bytesOf (t4.take a4), ()))))).length = Q + a4 := by
    rw [hE]
    simp only [List.length_append, List.length_take]
    omega
  have eo := spec_EntryOk_ev ((a1 : Int), ((a2 : Int), (decide ((a3 : Int) = 1), (bytesOf (t4.take a4), ())))) (by show InR (a1 : Int); unfold InR; omega)
  cases hok : entB ((a1 : Int), ((a2 : Int), (decide ((a3 : Int) = 1), (bytesOf (t4.take a4), ())))) with
  | true =>
    rw [hok] at eo
    refine ⟨(((a1 : Int), ((a2 : Int), (decide ((a3 : Int) = 1), (bytesOf (t4.take a4), ())))), ((Q + a4 : Nat) : Int), true), ?_, .inl ⟨_, _, hok, hT, by rw [hlenE]⟩⟩
    simp only [spec_EntryRead.f]
    exact Ev.bind e1 (Ev.pos rfl (Ev.bind e2 (Ev.pos rfl (Ev.bind e3 (Ev.pos rfl (Ev.neg hf (Ev.bind eT (Ev.pos rfl (Ev.bind eo (Ev.pos rfl Ev.ret))))))))))
  | false =>
    rw [hok] at eo
    refine ⟨((((0 : Int), ((0 : Int), (false, ((⟨#[]⟩ : ByteArray), ()))))), (0 : Int), false), ?_, .inr ⟨fun ⟨e, rest, h1, h2⟩ => ?_, rfl⟩⟩
    · simp only [spec_EntryRead.f]
      exact Ev.bind e1 (Ev.pos rfl (Ev.bind e2 (Ev.pos rfl (Ev.bind e3 (Ev.pos rfl (Ev.neg hf (Ev.bind eT (Ev.pos rfl (Ev.bind eo (Ev.neg nft Ev.ret))))))))))
    · obtain ⟨f1, f2, f3, f4⟩ := same e rest h2
      obtain ⟨g1, g2, g3, g4, g5⟩ := parts e h1
      rw [c4] at f4
      obtain ⟨f5, f6⟩ := encN_inj _ _ _ _ f4
      have hd : t4.take a4 = listOf e.2.2.2.1 := by rw [f6, f5, ← listOf_len, List.take_left]
      have he : ((a1 : Int), ((a2 : Int), (decide ((a3 : Int) = 1), (bytesOf (t4.take a4), ())))) = e := by
        obtain ⟨x1, x2, x3, x4, x5⟩ := e
        rw [hd, bytes_list]
        have k1 : (a1 : Int) = x1 := by rw [f1]; exact Int.toNat_of_nonneg g4
        have k2 : (a2 : Int) = x2 := by rw [f2]; exact Int.toNat_of_nonneg g5
        have k3 : decide ((a3 : Int) = 1) = x3 := by
          rw [f3]
          cases x3 <;> rfl
        rw [k1, k2, k3]
      rw [he, h1] at hok
      cases hok
theorem Ev.uniq {α : Type} {f : Nat → Option α} {v u : α} (h : Ev f v) (k : Ev f u) : v = u := by
  obtain ⟨K, hK⟩ := h
  obtain ⟨L, hL⟩ := k
  have h1 := hK (max K L) (Nat.le_max_left _ _)
  have h2 := hL (max K L) (Nat.le_max_right _ _)
  rw [h1] at h2
  exact Option.some.inj h2
theorem encE_inj {e e' : Entry} {r r' : List Int} (h : entB e = true) (h' : entB e' = true) (k : encE e ++ r = encE e' ++ r') : e = e' ∧ r = r' := by
  obtain ⟨p1, p2, p3⟩ := entB_parts h
  obtain ⟨q1, q2, q3⟩ := entB_parts h'
  unfold encE at k
  simp only [List.append_assoc] at k
  obtain ⟨f1, k⟩ := encN_inj _ _ _ _ k
  obtain ⟨f2, k⟩ := encN_inj _ _ _ _ k
  obtain ⟨f3, k⟩ := encN_inj _ _ _ _ k
  obtain ⟨f4, k⟩ := encN_inj _ _ _ _ k
  have hl : (listOf e.2.2.2.1).length = (listOf e'.2.2.2.1).length := by rw [listOf_len, listOf_len, f4]
  obtain ⟨f5, f6⟩ := List.append_inj k hl
  refine ⟨?_, f6⟩
  obtain ⟨x1, x2, x3, x4, x5⟩ := e
  obtain ⟨y1, y2, y3, y4, y5⟩ := e'
  have k1 : x1 = y1 := by have : x1.toNat = y1.toNat := f1; have a : 0 < x1 := p1.1; have b : 0 < y1 := q1.1; omega
  have k2 : x2 = y2 := by have : x2.toNat = y2.toNat := f2; have a : 0 ≤ x2 := p2.1; have b : 0 ≤ y2 := q2.1; omega
  have k3 : x3 = y3 := by
    have : (if x3 = true then 1 else 0) = (if y3 = true then 1 else 0) := f3
    cases x3 <;> cases y3 <;> simp at this ⊢
  have k4 : x4 = y4 := by
    have : listOf x4 = listOf y4 := f5
    rw [← bytes_list x4, this, bytes_list]
  rw [k1, k2, k3, k4]
theorem encE_pos (e : Entry) : 0 < (encE e).length := by
  have := encN_pos e.1.toNat
  unfold encE
  rw [List.length_append]; omega
theorem noEnt : zEnt = ((0 : Int), ((0 : Int), (false, ((⟨#[]⟩ : ByteArray), ())))) := rfl
theorem back_l (b : List Int) (hb : b.length ≤ 1048576) (hx : ∀ i, 0 ≤ b.getD i 0 ∧ b.getD i 0 ≤ 255) (v n : Int) (z : Store) : ∀ (d p i : Nat) (l : List Entry), b.length - p ≤ d → p ≤ b.length → i ≤ p → (i : Int) ≤ n → l.length = i → (∀ e ∈ l, entB e = true) →
    ∃ q, Ev (fun k => spec_StoreRead.p15 k b (p : Int) true n (i : Int) z (l, (([] : List Entry), (v, ())))) q ∧ (q.2 = true → ∃ l' : List Entry, q.1 = (l ++ l', (([] : List Entry), (v, ()))) ∧ n = ((i + l'.length : Nat) : Int) ∧ b.drop p = l'.flatMap encE) := by
  intro d
  induction d with
  | zero =>
    intro p i l hd hp hi hn hl he
    by_cases hlt : (i : Int) < n
    · obtain ⟨r, r1, r2⟩ := entry_ev b hb hx p hp
      have hnil : b.drop p = [] := List.drop_eq_nil_of_le (by omega)
      rcases r2 with ⟨e, rest, _, h2, _⟩ | ⟨_, h2⟩
      · rw [hnil] at h2
        have := congrArg List.length h2
        have := encE_pos e
        simp at *
        omega
      · refine ⟨(zSt, false), Ev.succ ?_, fun h => by cases h⟩
        simp only [spec_StoreRead.p15]
        refine Ev.pos hlt (Ev.pos trivial (Ev.bind r1 (Ev.pos (by simp only [lim_eq, List.length_cons, List.length_nil]; omega) ?_)))
        rw [h2]
        exact spec_bad hb hx z _ _ _ _
    · have hcase : ∃ q, Ev (fun k => spec_StoreRead.p26 k b (p : Int) true z (l, (([] : List Entry), (v, ())))) q ∧ (q.2 = true → q.1 = (l, (([] : List Entry), (v, ()))) ∧ p = b.length) := by
        have so := spec_StoreOk_ev (l, (([] : List Entry), (v, ()))) (by show l.length ≤ _; omega) (Nat.zero_le _) (EG_of (s := (l, (([] : List Entry), (v, ())))) he) (fun i hi => absurd hi (Nat.not_lt_zero _))
        by_cases hpe : (p : Int) = ((b.length : Nat) : Int)
        · cases hs : storeB (l, (([] : List Entry), (v, ()))) with
          | true =>
            rw [hs] at so
            refine ⟨((l, (([] : List Entry), (v, ()))), true), Ev.succ ?_, fun _ => ⟨rfl, by omega⟩⟩
            simp only [spec_StoreRead.p26]
            exact Ev.pos trivial (Ev.pos hpe (Ev.bind so (Ev.pos rfl Ev.ret)))
          | false =>
            rw [hs] at so
            refine ⟨(zSt, false), Ev.succ ?_, fun h => by cases h⟩
            simp only [spec_StoreRead.p26]
            exact Ev.pos trivial (Ev.pos hpe (Ev.bind so (Ev.neg nft Ev.ret)))
        · refine ⟨(zSt, false), Ev.succ ?_, fun h => by cases h⟩
          simp only [spec_StoreRead.p26]
          exact Ev.pos trivial (Ev.neg hpe Ev.ret)
      obtain ⟨q, q1, q2⟩ := hcase
      refine ⟨q, Ev.succ ?_, fun h => ⟨[], by rw [List.append_nil]; exact (q2 h).1, by simp; omega, by rw [List.drop_eq_nil_of_le (by have := (q2 h).2; omega)]; rfl⟩⟩
      simp only [spec_StoreRead.p15]
      exact Ev.neg hlt q1
  | succ d ih =>
    intro p i l hd hp hi hn hl he
    by_cases hlt : (i : Int) < n
    · obtain ⟨r, r1, r2⟩ := entry_ev b hb hx p hp
      have hlim : (((l.length : Nat) : Int) + ((([r.1] : List Entry).length : Nat) : Int)) ≤ lim := by simp only [lim_eq, List.length_cons, List.length_nil]; omega
      rcases r2 with ⟨e, rest, h1, h2, rfl⟩ | ⟨_, h2⟩
      · have hpos := encE_pos e
        have hle := drop_le hp h2
        have hdr := drop_app h2
        obtain ⟨q, q1, q2⟩ := ih (p + (encE e).length) (i + 1) (l ++ [e]) (by omega) hle (by omega) (by omega) (by rw [List.length_append, hl]; rfl) (fun x hx' => by
          rcases List.mem_append.1 hx' with h | h
          · exact he x h
          · rw [List.mem_singleton] at h; subst h; exact h1)
        refine ⟨q, Ev.succ ?_, fun h => ?_⟩
        · simp only [spec_StoreRead.p15]
          rw [wrap_up (i := i) (n := b.length + 1) (by omega) (by omega)]
          exact Ev.pos hlt (Ev.pos trivial (Ev.bind r1 (Ev.pos hlim q1)))
        · obtain ⟨l', k1, k2, k3⟩ := q2 h
          refine ⟨e :: l', by rw [k1, List.append_assoc]; rfl, by rw [k2, List.length_cons]; omega, ?_⟩
          rw [hdr] at k3
          rw [h2, k3, List.flatMap_cons]
      · refine ⟨(zSt, false), Ev.succ ?_, fun h => by cases h⟩
        simp only [spec_StoreRead.p15]
        refine Ev.pos hlt (Ev.pos trivial (Ev.bind r1 (Ev.pos hlim ?_)))
        rw [h2]
        exact spec_bad hb hx z _ _ _ _
    · have so := spec_StoreOk_ev (l, (([] : List Entry), (v, ()))) (by show l.length ≤ _; omega) (Nat.zero_le _) (EG_of (s := (l, (([] : List Entry), (v, ())))) he) (fun i hi => absurd hi (Nat.not_lt_zero _))
      by_cases hpe : (p : Int) = ((b.length : Nat) : Int)
      · cases hs : storeB (l, (([] : List Entry), (v, ()))) with
        | true =>
          rw [hs] at so
          refine ⟨((l, (([] : List Entry), (v, ()))), true), Ev.succ ?_, fun _ => ⟨[], by rw [List.append_nil], by simp; omega, by rw [List.drop_eq_nil_of_le (by omega)]; rfl⟩⟩
          simp only [spec_StoreRead.p15]
          refine Ev.neg hlt (Ev.succ ?_)
          simp only [spec_StoreRead.p26]
          exact Ev.pos trivial (Ev.pos hpe (Ev.bind so (Ev.pos rfl Ev.ret)))
        | false =>
          rw [hs] at so
          refine ⟨(zSt, false), Ev.succ ?_, fun h => by cases h⟩
          simp only [spec_StoreRead.p15]
          refine Ev.neg hlt (Ev.succ ?_)
          simp only [spec_StoreRead.p26]
          exact Ev.pos trivial (Ev.pos hpe (Ev.bind so (Ev.neg nft Ev.ret)))
      · refine ⟨(zSt, false), Ev.succ ?_, fun h => by cases h⟩
        simp only [spec_StoreRead.p15]
        refine Ev.neg hlt (Ev.succ ?_)
        simp only [spec_StoreRead.p26]
        exact Ev.pos trivial (Ev.neg hpe Ev.ret)
/-- What was read is what stood there. -/
theorem read_back {b : List Int} (hb : b.length ≤ 1048576) (hx : ∀ i, 0 ≤ b.getD i 0 ∧ b.getD i 0 ≤ 255) {q : Store × Bool} (h : Ev (fun k => spec_StoreRead.f k b) q) (hq : q.2 = true) : b = encS q.1 := by
  suffices hs : ∃ q', Ev (fun k => spec_StoreRead.f k b) q' ∧ (q'.2 = true → b = encS q'.1) by
    obtain ⟨q', h1, h2⟩ := hs
    have := Ev.uniq h h1
    subst this
    exact h2 hq
  obtain ⟨r1, e1, n1⟩ := get_ev b hb hx 0 (Nat.zero_le _)
  rw [List.drop_zero] at n1
  rcases n1 with ⟨a1, t1, b1, c1, rfl⟩ | ⟨c1, rfl⟩
  case inr =>
    refine ⟨(zSt, false), ?_, fun h => by cases h⟩
    simp only [spec_StoreRead.f]
    exact Ev.bind e1 (Ev.neg nft Ev.ret)
  have c1' : b.drop 0 = encN a1 ++ t1 := by rw [List.drop_zero]; exact c1
  have d1 := drop_app c1'
  have q1 := drop_le (Nat.zero_le _) c1'
  obtain ⟨r2, e2, n2⟩ := get_ev b hb hx (0 + (encN a1).length) q1
  rw [d1] at n2
  rcases n2 with ⟨a2, t2, b2, c2, rfl⟩ | ⟨c2, rfl⟩
  case inr =>
    refine ⟨(zSt, false), ?_, fun h => by cases h⟩
    simp only [spec_StoreRead.f]
    exact Ev.bind e1 (Ev.pos rfl (Ev.bind e2 (spec_bad hb hx _ _ _ _ _)))
  have d2 := drop_app (d1.trans c2)
  have q2 := drop_le q1 (d1.trans c2)
  obtain ⟨q', k1, k2⟩ := back_l b hb hx (a1 : Int) (a2 : Int) (([] : List Entry), (([] : List Entry), ((0 : Int), ()))) b.length (0 + (encN a1).length + (encN a2).length) 0 [] (by omega) q2 (Nat.zero_le _) (by omega) rfl (fun e he => by cases he)
  refine ⟨q', ?_, fun h => ?_⟩
  · simp only [spec_StoreRead.f]
    exact Ev.bind e1 (Ev.pos rfl (Ev.bind e2 k1))
  · obtain ⟨l', m1, m2, m3⟩ := k2 h
    rw [d2] at m3
    rw [m1]
    unfold encS
    show b = encN (a1 : Int).toNat ++ (encN l'.length ++ l'.flatMap encE)
    rw [c1, c2, m3, Int.toNat_natCast, show l'.length = a2 by omega]
theorem read_fore {s : Store} (h : storeB s = true) (hl : s.2.1 = []) (hb : (encS s).length ≤ 1048576) (hx : ∀ i, 0 ≤ (encS s).getD i 0 ∧ (encS s).getD i 0 ≤ 255) : Ev (fun k => spec_StoreRead.f k (encS s)) (s, true) := by
  obtain ⟨h1, h2, h3⟩ := storeB_parts h
  have hs : s = (s.1, (([] : List Entry), (s.2.2.1, ()))) := by
    obtain ⟨x, y, z, u⟩ := s
    have : y = [] := hl
    subst this; rfl
  generalize hB : encS s = b at *
  have hB' : b = encN s.2.2.1.toNat ++ (encN s.1.length ++ s.1.flatMap encE) := by rw [← hB]; rfl
  have num : ∀ (p n : Nat) (rest : List Int), p ≤ b.length → n ≤ 9223372036854775807 → b.drop p = encN n ++ rest → Ev (fun k => spec_GetNum.f k b (p : Int)) ((n : Int), ((p + (encN n).length : Nat) : Int), true) := fun p n rest hp hn hd => by
    obtain ⟨r, e, k⟩ := get_ev b hb hx p hp
    rcases k with ⟨m, rest', _, k2, rfl⟩ | ⟨k, _⟩
    · rw [hd] at k2
      obtain ⟨rfl, _⟩ := encN_inj _ _ _ _ k2
      exact e
    · exact absurd ⟨n, rest, hn, hd⟩ k
  have c0 : b.drop 0 = encN s.2.2.1.toNat ++ (encN s.1.length ++ s.1.flatMap encE) := by rw [List.drop_zero]; exact hB'
  have d0 := drop_app c0
  have q0 := drop_le (Nat.zero_le _) c0
  have d1 := drop_app d0
  have q1 := drop_le q0 d0
  have e1 := num 0 s.2.2.1.toNat _ (Nat.zero_le _) (by omega) c0
  have e2 := num _ s.1.length _ q0 (by omega) d0
  rw [Int.toNat_of_nonneg h3.1] at e1
  have loop : ∀ (d i p : Nat) (z : Store), i + d = s.1.length → p ≤ b.length → b.drop p = (s.1.drop i).flatMap encE → Ev (fun k => spec_StoreRead.p15 k b (p : Int) true ((s.1.length : Nat) : Int) (i : Int) z (s.1.take i, (([] : List Entry), (s.2.2.1, ())))) (s, true) := by
    intro d
    induction d with
    | zero =>
      intro i p z hi hp hd
      have so := spec_StoreOk_ev s (by omega) (by rw [hl]; exact Nat.zero_le _) (EG_of h2) (by rw [hl]; intro i hi; exact absurd hi (Nat.not_lt_zero _))
      rw [h] at so
      rw [List.drop_eq_nil_of_le (show s.1.length ≤ i by omega), List.flatMap_nil] at hd
      have hpe : p = b.length := by
        have := congrArg List.length hd
        rw [List.length_drop, List.length_nil] at this; omega
      refine Ev.succ ?_
      simp only [spec_StoreRead.p15]
      rw [List.take_of_length_le (by omega), ← hs]
      refine Ev.neg (by omega) (Ev.succ ?_)
      simp only [spec_StoreRead.p26]
      exact Ev.pos trivial (Ev.pos (by omega) (Ev.bind so (Ev.pos rfl Ev.ret)))
    | succ d ih =>
      intro i p z hi hp hd
      have hlt : i < s.1.length := by omega
      have he := h2 _ (getD_mem (d := zEnt) hlt)
      rw [drop_get (d := zEnt) hlt, List.flatMap_cons] at hd
      have hdr := drop_app hd
      have hle := drop_le hp hd
      obtain ⟨r, e, k⟩ := entry_ev b hb hx p hp
      have hr : r = (s.1.getD i zEnt, ((p + (encE (s.1.getD i zEnt)).length : Nat) : Int), true) := by
        rcases k with ⟨e', rest', k1, k2, rfl⟩ | ⟨k, _⟩
        · rw [hd] at k2
          obtain ⟨rfl, _⟩ := encE_inj he k1 k2
          rfl
        · exact absurd ⟨_, _, he, hd⟩ k
      rw [hr] at e
      refine Ev.succ ?_
      simp only [spec_StoreRead.p15]
      rw [wrap_up hlt (by omega)]
      refine Ev.pos (by omega) (Ev.pos trivial (Ev.bind e (Ev.pos (by simp only [lim_eq, List.length_cons, List.length_nil, List.length_take]; omega) ?_)))
      have htk : s.1.take i ++ [s.1.getD i zEnt] = s.1.take (i + 1) := by
        rw [List.take_add_one, List.getElem?_eq_getElem hlt, getD_is hlt]; rfl
      show Ev (fun k => spec_StoreRead.p15 k b (((p + (encE (s.1.getD i zEnt)).length : Nat)) : Int) true ((s.1.length : Nat) : Int) ((i + 1 : Nat) : Int) z (s.1.take i ++ [s.1.getD i zEnt], (([] : List Entry), (s.2.2.1, ())))) (s, true)
      rw [htk]
      exact ih (i + 1) _ z (by omega) hle hdr
  simp only [spec_StoreRead.f]
  refine Ev.bind e1 (Ev.pos rfl (Ev.bind e2 ?_))
  exact loop s.1.length 0 _ _ (by omega) q1 d1
/-- Rows of bytes. -/
def BL (n : Nat) (l : List Int) : Prop := l.length ≤ n ∧ ∀ x ∈ l, 0 ≤ x ∧ x ≤ 255
theorem BL.at {n : Nat} {l : List Int} (h : BL n l) : ∀ i, 0 ≤ l.getD i 0 ∧ l.getD i 0 ≤ 255 := fun i => by
  by_cases hi : i < l.length
  · exact h.2 _ (getD_mem hi)
  · rw [List.getD_eq_getElem?_getD, List.getElem?_eq_none (by omega)]; decide
theorem BL.nil {n : Nat} : BL n [] := ⟨Nat.zero_le _, fun e he => by cases he⟩
theorem listOf_byte (d : ByteArray) : ∀ x ∈ listOf d, 0 ≤ x ∧ x ≤ 255 := fun x hx => by
  unfold listOf at hx
  obtain ⟨y, _, rfl⟩ := List.mem_map.1 hx
  have := y.toNat_lt
  constructor <;> omega
theorem encS_byte {s : Store} : ∀ x ∈ encS s, 0 ≤ x ∧ x ≤ 255 := fun x hx => by
  unfold encS at hx
  rcases List.mem_append.1 hx with h | h
  · exact encN_byte _ x h
  rcases List.mem_append.1 h with h | h
  · exact encN_byte _ x h
  obtain ⟨e, _, h⟩ := List.mem_flatMap.1 h
  unfold encE at h
  rcases List.mem_append.1 h with h | h
  · exact encN_byte _ x h
  rcases List.mem_append.1 h with h | h
  · exact encN_byte _ x h
  rcases List.mem_append.1 h with h | h
  · exact encN_byte _ x h
  rcases List.mem_append.1 h with h | h
  · exact encN_byte _ x h
  exact listOf_byte _ x h
theorem encS_BL {s : Store} (h : storeB s = true) : BL 15218 (encS s) := ⟨encS_len h, encS_byte⟩
/-- What a packing answers. -/
def PackS (s : Store) (r : List Int × Bool) : Prop := (storeB s = true ∧ s.2.1 = [] ∧ r = (encS s, true)) ∨ r = (([] : List Int), false)
theorem pack_both (s : Store) (h : DG 4097 s) : ∃ r, Ev (fun k => impl_StorePack.f k s) r ∧ Ev (fun k => spec_StorePack.f k s) r ∧ PackS s r := by
  have l1 := h.1.1
  have l2 := h.2.1.1
  have p1 := impl_StoreOk_ev s (by omega) (by omega) h.1.at h.2.1.at
  have p2 := spec_StoreOk_ev s (by omega) (by omega) h.1.at h.2.1.at
  cases hs : storeB s with
  | false =>
    rw [hs] at p1 p2
    refine ⟨(([] : List Int), false), ?_, ?_, .inr rfl⟩
    · simp only [impl_StorePack.f]
      exact Ev.bind p1 (Ev.neg nft Ev.ret)
    · simp only [spec_StorePack.f]
      exact Ev.bind p2 (Ev.neg nft Ev.ret)
  | true =>
    by_cases hl : s.2.1.length = 0
    · have hl' : s.2.1 = [] := List.length_eq_zero_iff.1 hl
      exact ⟨(encS s, true), impl_StorePack_ev s hs hl', spec_StorePack_ev s hs hl', .inl ⟨hs, hl', rfl⟩⟩
    · rw [hs] at p1 p2
      refine ⟨(([] : List Int), false), ?_, ?_, .inr rfl⟩
      · simp only [impl_StorePack.f]
        exact Ev.bind p1 (Ev.pos rfl (Ev.pos (by omega) Ev.ret))
      · simp only [spec_StorePack.f]
        exact Ev.bind p2 (Ev.pos rfl (Ev.pos (by omega) Ev.ret))
theorem spec_DrawStorePack_d (b : List Int) (hb : b.length ≤ 1048576) : Evp (fun k => spec_DrawStorePack.f k b) (DG 4097) := by
  simp only [spec_DrawStorePack.f]
  refine Evp.bind (spec_l1New_d b hb) fun c hc => Evp.bind (spec_l6Draw_d c hc) fun s hs => Evp.bindc (spec_l1Once_d _ 4 hs.2) fun o ho => Evp.ite (fun _ => Evp.ret hs.1) (fun _ => Evp.ret ⟨hs.1.1, EG.nil, hs.1.2.2⟩)
theorem BL.set {n : Nat} {l : List Int} (h : BL n l) (i : Nat) {x : Int} (h0 : 0 ≤ x) (h1 : x ≤ 255) : BL n (l.set i x) := by
  refine ⟨by rw [List.length_set]; exact h.1, fun y hy => ?_⟩
  rcases List.mem_or_eq_of_mem_set hy with h' | h'
  · exact h.2 y h'
  · subst h'; exact ⟨h0, h1⟩
theorem spec_DrawStoreRead_d (b : List Int) (hb : b.length ≤ 1048576) : Evp (fun k => spec_DrawStoreRead.f k b) (BL 15219) := by
  simp only [spec_DrawStoreRead.f]
  refine Evp.bind (spec_l1New_d b hb) fun c hc => Evp.bind (spec_l6DrawRight_d c hc) fun s hs => ?_
  obtain ⟨r, _, e, hr⟩ := pack_both (s.1.1, (([] : List Entry), s.1.2.2)) ⟨hs.1.mono (by omega), EG.nil, hs.2.2.1⟩
  refine Evp.bindv e ?_
  rcases hr with ⟨h1, _, rfl⟩ | rfl
  case inr => exact Evp.neg nft (Evp.ret BL.nil)
  have hB := encS_BL h1
  have hpos : 0 < (encS (s.1.1, (([] : List Entry), s.1.2.2))).length := by
    unfold encS
    have := encN_pos (s.1.2.2.1.toNat)
    simp only [List.length_append]; omega
  revert hB hpos
  generalize encS (s.1.1, (([] : List Entry), s.1.2.2)) = x
  intro hB hpos
  have hl := hB.1
  simp only
  have hB' : BL 15219 x := ⟨by omega, hB.2⟩
  refine Evp.pos trivial (Evp.bindc (spec_l1Below_d _ 5 hs.2.2.2) fun d hd => Evp.ite (fun _ => ?_) (fun _ => Evp.ite (fun _ => ?_) (fun _ => Evp.ite (fun _ => ?_) (fun _ => Evp.ret hB'))))
  · refine Evp.bindc (spec_l1Below_d _ _ hd.2.2.2) fun p hp => Evp.bindc (spec_l1PickInt_d _ _ hp.2.2.2 (by simp)) fun v hv => ?_
    have h3 := hp.2.1 (by omega)
    have h4 := hp.1
    have hv' := hv.1
    simp only [List.mem_cons, List.not_mem_nil, or_false] at hv'
    refine Evp.pos (by omega) (Evp.ret ?_)
    rw [wrap8 _ (by omega) (by omega)]
    exact hB'.set _ (by omega) (by omega)
  · refine Evp.bindc (spec_l1Below_d _ _ hd.2.2.2) fun p hp => ?_
    have h0 := hp.1
    have h2 := hp.2.1
    rw [wrap64_id (x := ((x.length : Nat) : Int) + 1) (by omega) (by omega)] at h2
    have h3 := h2 (by omega)
    refine Evp.pos ⟨by omega, by omega, by omega⟩ (Evp.ret ⟨?_, fun y hy => ?_⟩)
    · rw [List.length_take, List.length_drop]; omega
    · exact hB.2 y (List.mem_of_mem_drop (List.mem_of_mem_take hy))
  · refine Evp.pos (by simp only [lim_eq, List.length_cons, List.length_nil]; omega) (Evp.ret ⟨by simp; omega, fun y hy => ?_⟩)
    rcases List.mem_append.1 hy with h | h
    · exact hB.2 y h
    · rw [List.mem_singleton] at h; subst h; decide
theorem laws_FnStoreBytes_r (a0 : List Int) (hb : a0.length ≤ 1048576) : Ev (fun k => laws_FnStoreBytes.p24 k a0) true := by
  obtain ⟨x, e0, hx⟩ := spec_DrawStoreRead_d a0 hb
  have hl := hx.1
  obtain ⟨q, e1, e2, hq⟩ := read_both (b := x) (by omega) hx.at
  refine Ev.succ ?_
  simp only [laws_FnStoreBytes.p24]
  rcases hq with rfl | ⟨h1, h2, h3⟩
  · obtain ⟨r, e3, _, _⟩ := pack_both zSt ⟨EG.nil, EG.nil, by unfold InR; decide⟩
    exact Ev.bind e0 (Ev.bind e2 (Ev.bind e1 (Ev.pos rfl (Ev.bind e3 (Ev.neg nft (Ev.pos rfl Ev.ret))))))
  · have e3 := impl_StorePack_ev q.1 h1 h2
    have hbk := read_back (by omega) hx.at e1 h3
    refine Ev.bind e0 (Ev.bind e2 (Ev.bind e1 (Ev.pos rfl (Ev.bind e3 (Ev.pos h3 (Ev.pos h3 (Ev.pos rfl ?_)))))))
    rw [← hbk]
    exact Ev.ret.eq (decide_eq_true rfl)
theorem pureL (a0 : List Int) (h0 : Gd (.sl (.int .u8)) a0) : ∃ k, laws_FnStoreBytes.f k a0 = some true := by
  refine Ev.get (v := true) ?_
  simp only [laws_FnStoreBytes.f, laws_big_is, Option.bind_some]
  by_cases hb : (1048576 : Int) < ((a0.length : Nat) : Int)
  · exact Ev.pos (by simpa using hb) Ev.ret
  refine Ev.neg (by simpa using hb) ?_
  obtain ⟨s, e0, hs⟩ := spec_DrawStorePack_d a0 (by omega)
  obtain ⟨r, e1, e2, hr⟩ := pack_both s hs
  have hrest := laws_FnStoreBytes_r a0 (by omega)
  rcases hr with ⟨h1, h2, rfl⟩ | rfl
  case inr => exact Ev.bind e0 (Ev.bind e1 (Ev.bind e2 (Ev.pos rfl (Ev.neg nft hrest))))
  have hB := encS_BL h1
  have hl := hB.1
  obtain ⟨q, e3, e4, _⟩ := read_both (b := encS s) (by omega) hB.at
  have := Ev.uniq e3 (read_fore h1 h2 (by omega) hB.at)
  subst this
  have hsl := (storeB_parts h1).1
  exact Ev.bind e0 (Ev.bind e1 (Ev.bind e2 (Ev.pos rfl (Ev.pos rfl (Ev.bind e4 (Ev.pos rfl (Ev.pos rfl (Ev.bind (laws_sameEntries_ev s.1 (by omega)) (Ev.pos rfl hrest)))))))))

end Go.Proofs.Ytllmifioelbleaa.OmFnStoreBytes
