/- Lemmas for the plain law: what the functions of the reference answer. Conditions: told at each. -/
import Derived.Test.YtngfjichhphjeaaGreatFFnWorlds
set_option linter.unusedVariables false
set_option linter.unusedSimpArgs false
set_option linter.unusedSectionVars false
namespace Go.Proofs.YtngfjichhphjeaaGreat.OmFnWorlds
open Go Go.OM
/-- x lies between a and b. -/
def inB (x a b : Int) : Bool := decide (a ≤ x) && decide (x ≤ b)
theorem inB_true {x a b : Int} : inB x a b = true ↔ a ≤ x ∧ x ≤ b := by simp [inB]
theorem ite_inB (x a b : Int) : (if a ≤ x then some (decide (x ≤ b)) else some false) = some (inB x a b) := by
  unfold inB
  by_cases h : a ≤ x <;> simp [h]
def InR (x : Int) : Prop := -9223372036854775808 ≤ x ∧ x ≤ 9223372036854775807
theorem Ev.and {q b : Bool} {A : Nat → Option Bool} (h : q = true → Ev A b) : Ev (fun k => if q = true then A k else some false) (q && b) := by
  cases q with
  | false => exact Ev.neg (by decide) Ev.ret
  | true => exact Ev.pos rfl (h rfl)
theorem Ev.andc {c : Prop} [Decidable c] {b : Bool} {A : Nat → Option Bool} (h : c → Ev A b) : Ev (fun k => if c then A k else some false) (decide c && b) := by
  by_cases hc : c
  · rw [decide_eq_true hc]; exact Ev.pos hc (h hc)
  · rw [decide_eq_false hc]; exact Ev.neg hc Ev.ret
theorem Ev.nand {c : Prop} [Decidable c] {b : Bool} {A : Nat → Option Bool} (h : ¬ c → Ev A b) : Ev (fun k => if c then some false else A k) (!decide c && b) := by
  by_cases hc : c
  · rw [decide_eq_true hc]; exact Ev.pos hc Ev.ret
  · rw [decide_eq_false hc]; exact Ev.neg hc (h hc)
theorem Ev.ite {c : Prop} [Decidable c] {α : Type} {A B : Nat → Option α} {v u : α} (h1 : c → Ev A v) (h2 : ¬ c → Ev B u) : Ev (fun k => if c then A k else B k) (if c then v else u) := by
  by_cases hc : c
  · rw [if_pos hc]; exact Ev.pos hc (h1 hc)
  · rw [if_neg hc]; exact Ev.neg hc (h2 hc)
theorem all_loop {n : Nat} {p : Nat → Int → Option Bool} {q : Nat → Bool} {zb : Bool} (hp : ∀ (i : Nat), i < n → ∀ b, Ev (fun k => p k (((i + 1 : Nat)) : Int)) b → Ev (fun k => p (k + 1) (i : Int)) (q i && b)) (h0 : Ev (fun k => p (k + 1) (n : Int)) zb) :
    ∀ (m i : Nat), i + m = n → Ev (fun k => p k (i : Int)) ((List.range' i m).all q && zb) := by
  intro m
  induction m with
  | zero => intro i h; rw [show i = n by omega]; exact Ev.succ h0
  | succ m ih =>
    intro i h
    refine (Ev.succ (hp i (by omega) _ (ih (i + 1) (by omega)))).eq ?_
    rw [List.range'_succ, List.all_cons, Bool.and_assoc]
theorem wrap_up {i n : Nat} (h : i < n) (hn : n ≤ 4611686018427387904) : wrap64 ((i : Int) + (1 : Int)) = ((i + 1 : Nat) : Int) := wrap64_id (by omega) (by omega)
/-- It comes to something with P. -/
def Evp {α : Type} (f : Nat → Option α) (P : α → Prop) : Prop := ∃ v, Ev f v ∧ P v
def Op {α : Type} (f : Option α) (P : α → Prop) : Prop := ∃ v, f = some v ∧ P v
section
variable {α β : Type} {P : α → Prop} {Q : β → Prop}
theorem Evp.ret {v : α} (h : P v) : Evp (fun _ => some v) P := ⟨v, Ev.ret, h⟩
theorem Evp.of {f : Nat → Option α} {v : α} (h : Ev f v) (hp : P v) : Evp f P := ⟨v, h, hp⟩
theorem Evp.bind {f : Nat → Option α} {g : Nat → α → Option β} (h : Evp f P) (hg : ∀ a, P a → Evp (fun k => g k a) Q) : Evp (fun k => (f k).bind (g k)) Q := by
  obtain ⟨a, h1, h2⟩ := h
  obtain ⟨b, h3, h4⟩ := hg a h2
  exact ⟨b, h1.bind h3, h4⟩
theorem Evp.bindv {f : Nat → Option α} {g : Nat → α → Option β} {a : α} (h : Ev f a) (hg : Evp (fun k => g k a) Q) : Evp (fun k => (f k).bind (g k)) Q := by
  obtain ⟨b, h3, h4⟩ := hg
  exact ⟨b, h.bind h3, h4⟩
theorem Evp.bindc {f : Option α} {g : Nat → α → Option β} (h : Op f P) (hg : ∀ a, P a → Evp (fun k => g k a) Q) : Evp (fun k => f.bind (g k)) Q := by
  obtain ⟨a, h1, h2⟩ := h
  obtain ⟨b, h3, h4⟩ := hg a h2
  exact ⟨b, Ev.bindc h1 h3, h4⟩
theorem Evp.succ {f : Nat → Option α} (h : Evp (fun k => f (k + 1)) P) : Evp f P := by
  obtain ⟨a, h1, h2⟩ := h
  exact ⟨a, Ev.succ h1, h2⟩
theorem Evp.pos {c : Prop} [Decidable c] {f g : Nat → Option α} (hc : c) (h : Evp f P) : Evp (fun k => if c then f k else g k) P := by
  obtain ⟨a, h1, h2⟩ := h
  exact ⟨a, Ev.pos hc h1, h2⟩
theorem Evp.neg {c : Prop} [Decidable c] {f g : Nat → Option α} (hc : ¬ c) (h : Evp g P) : Evp (fun k => if c then f k else g k) P := by
  obtain ⟨a, h1, h2⟩ := h
  exact ⟨a, Ev.neg hc h1, h2⟩
theorem Evp.ite {c : Prop} [Decidable c] {f g : Nat → Option α} (h1 : c → Evp f P) (h2 : ¬ c → Evp g P) : Evp (fun k => if c then f k else g k) P := by
  by_cases hc : c
  · exact Evp.pos hc (h1 hc)
  · exact Evp.neg hc (h2 hc)
theorem Evp.mono {f : Nat → Option α} {P' : α → Prop} (h : Evp f P) (hp : ∀ a, P a → P' a) : Evp f P' := by
  obtain ⟨a, h1, h2⟩ := h
  exact ⟨a, h1, hp a h2⟩
theorem Evp.cg {f g : Nat → Option α} (h : Evp g P) (e : ∀ k, f k = g k) : Evp f P := by
  obtain ⟨a, h1, h2⟩ := h
  exact ⟨a, h1.cg e, h2⟩
theorem Op.ret {v : α} (h : P v) : Op (some v) P := ⟨v, rfl, h⟩
theorem Op.bind {f : Option α} {g : α → Option β} (h : Op f P) (hg : ∀ a, P a → Op (g a) Q) : Op (f.bind g) Q := by
  obtain ⟨a, h1, h2⟩ := h
  obtain ⟨b, h3, h4⟩ := hg a h2
  exact ⟨b, by rw [h1, Option.bind_some, h3], h4⟩
theorem Op.pos {c : Prop} [Decidable c] {f g : Option α} (hc : c) (h : Op f P) : Op (if c then f else g) P := by rw [if_pos hc]; exact h
theorem Op.neg {c : Prop} [Decidable c] {f g : Option α} (hc : ¬ c) (h : Op g P) : Op (if c then f else g) P := by rw [if_neg hc]; exact h
theorem Op.ite {c : Prop} [Decidable c] {f g : Option α} (h1 : c → Op f P) (h2 : ¬ c → Op g P) : Op (if c then f else g) P := by
  by_cases hc : c
  · exact Op.pos hc (h1 hc)
  · exact Op.neg hc (h2 hc)
end
theorem nft : ¬ (false = true) := by decide
/-- x among numbers: ahead of the first greater one. -/
noncomputable def insB : List Int → Int → List Int
  | [], x => [x]
  | y :: l, x => if x < y then x :: y :: l else y :: insB l x
noncomputable def insL (l : List Int) (x : Int) : List Int := if l.contains x = true then l else insB l x
theorem insB_len (l : List Int) (x : Int) : (insB l x).length = l.length + 1 := by
  induction l with
  | nil => rfl
  | cons y l ih =>
    unfold insB
    split
    · rfl
    · rw [List.length_cons, List.length_cons, ih]
theorem insL_len (l : List Int) (x : Int) : (insL l x).length ≤ l.length + 1 := by
  unfold insL
  split
  · omega
  · rw [insB_len]; omega
theorem wrapu (x : Int) (h0 : 0 ≤ x) (h1 : x ≤ 9223372036854775807) : IntKind.wrap .u64 x = x := by
  show (if (false && decide (x % 2 ^ 64 ≥ 2 ^ (64 - 1))) = true then x % 2 ^ 64 - 2 ^ 64 else x % 2 ^ 64) = x
  rw [Bool.false_and, if_neg (by decide)]
  exact Int.emod_eq_of_lt h0 (by omega)
theorem mid_is {i j n : Nat} (h : i < j) (hj : j ≤ n) (hn : n ≤ 4611686018427387904) : wrap64 (shrK .u64 (IntKind.wrap .u64 (wrap64 ((i : Int) + (j : Int)))) (1 : Int)) = (((i + j) / 2 : Nat) : Int) := by
  rw [wrap64_id (x := (i : Int) + (j : Int)) (by omega) (by omega), wrapu _ (by omega) (by omega)]
  have e : shrK .u64 ((i : Int) + (j : Int)) 1 = (((i + j) / 2 : Nat) : Int) := by
    show Int.fdiv ((i : Int) + (j : Int)) (2 ^ 1) = _
    rw [Int.fdiv_eq_ediv_of_nonneg _ (by decide)]
    omega
  rw [e, wrap64_id (by omega) (by omega)]
/-- A search by halves. -/
theorem bs_loop {β : Type} {n : Nat} {p : Nat → Int → Int → Option β} {lt : Nat → Bool} {v : β} (hm : ∀ q r, q ≤ r → r < n → lt r = true → lt q = true)
    (hp : ∀ i j : Nat, i < j → j ≤ n → ∀ b, (lt ((i + j) / 2) = true → Ev (fun k => p k (((i + j) / 2 + 1 : Nat) : Int) (j : Int)) b) → (lt ((i + j) / 2) = false → Ev (fun k => p k (i : Int) (((i + j) / 2 : Nat) : Int)) b) → Ev (fun k => p (k + 1) (i : Int) (j : Int)) b)
    (h0 : ∀ i : Nat, i ≤ n → (∀ q, q < i → lt q = true) → (∀ q, i ≤ q → q < n → lt q = false) → Ev (fun k => p (k + 1) (i : Int) (i : Int)) v) :
    ∀ (d i j : Nat), j - i ≤ d → i ≤ j → j ≤ n → (∀ q, q < i → lt q = true) → (∀ q, j ≤ q → q < n → lt q = false) → Ev (fun k => p k (i : Int) (j : Int)) v := by
  intro d
  induction d with
  | zero =>
    intro i j hd hij hj h1 h2
    have : i = j := by omega
    subst this
    exact Ev.succ (h0 i hj h1 h2)
  | succ d ih =>
    intro i j hd hij hj h1 h2
    by_cases hlt : i < j
    · refine Ev.succ (hp i j hlt hj v (fun hb => ?_) (fun hb => ?_))
      · exact ih _ _ (by omega) (by omega) hj (fun q hq => hm q _ (by omega) (by omega) hb) h2
      · refine ih _ _ (by omega) (by omega) (by omega) h1 (fun q hq hqn => ?_)
        cases hc : lt q with
        | false => rfl
        | true => exact absurd (hm _ q hq hqn hc) (by rw [hb]; decide)
    · have : i = j := by omega
      subst this
      exact Ev.succ (h0 i hj h1 h2)
/-- Numbers that ascend. -/
def Asc (l : List Int) : Prop := ∀ q r, q < r → r < l.length → l.getD q 0 < l.getD r 0
theorem Asc.of {l : List Int} (h : ∀ q, q + 1 < l.length → l.getD q 0 < l.getD (q + 1) 0) : Asc l := by
  intro q r hqr hr
  induction r with
  | zero => omega
  | succ r ih =>
    have h1 := h r hr
    by_cases hq : q = r
    · subst hq; exact h1
    · have := ih (by omega) (by omega); omega
theorem getD_of_mem {l : List Int} {x : Int} (h : x ∈ l) : ∃ q, q < l.length ∧ l.getD q 0 = x := by
  obtain ⟨q, hq, e⟩ := List.getElem_of_mem h
  exact ⟨q, hq, by rw [List.getD_eq_getElem?_getD, List.getElem?_eq_getElem hq]; exact e⟩
theorem getD_is {α : Type} {l : List α} {q : Nat} {d : α} (hq : q < l.length) : l.getD q d = l[q] := by
  rw [List.getD_eq_getElem?_getD, List.getElem?_eq_getElem hq]; rfl
theorem Asc.pw {l : List Int} (h : Asc l) : l.Pairwise (· < ·) :=
  List.pairwise_iff_getElem.2 fun i j hi hj hij => by have := h i j hij hj; rwa [getD_is hi, getD_is hj] at this
theorem Asc.of_pw {l : List Int} (h : l.Pairwise (· < ·)) : Asc l := fun q r hqr hr => by
  rw [getD_is (by omega), getD_is hr]; exact List.pairwise_iff_getElem.1 h q r (by omega) hr hqr
theorem mem_insB {l : List Int} {x y : Int} : y ∈ insB l x ↔ y = x ∨ y ∈ l := by
  induction l with
  | nil => simp [insB]
  | cons z l ih =>
    unfold insB
    split
    · simp
    · rw [List.mem_cons, ih, List.mem_cons]
      exact ⟨fun h => h.elim (fun h => .inr (.inl h)) (fun h => h.elim .inl (fun h => .inr (.inr h))), fun h => h.elim (fun h => .inr (.inl h)) (fun h => h.elim .inl (fun h => .inr (.inr h)))⟩
theorem mem_insL {l : List Int} {x y : Int} : y ∈ insL l x ↔ y = x ∨ y ∈ l := by
  unfold insL
  split
  · rename_i h
    rw [List.contains_iff_mem] at h
    exact ⟨.inr, fun h' => h'.elim (fun e => e ▸ h) id⟩
  · exact mem_insB
theorem insB_pw {l : List Int} {x : Int} (h : l.Pairwise (· < ·)) (hx : x ∉ l) : (insB l x).Pairwise (· < ·) := by
  induction l with
  | nil => simp [insB]
  | cons z l ih =>
    rw [List.pairwise_cons] at h
    unfold insB
    split
    · rename_i hz
      refine List.pairwise_cons.2 ⟨fun y hy => ?_, List.pairwise_cons.2 h⟩
      rcases List.mem_cons.1 hy with rfl | hy
      · exact hz
      · have := h.1 y hy; omega
    · rename_i hz
      have hne : x ≠ z := fun e => hx (e ▸ List.mem_cons_self)
      refine List.pairwise_cons.2 ⟨fun y hy => ?_, ih h.2 (fun h => hx (List.mem_cons_of_mem _ h))⟩
      rcases mem_insB.1 hy with rfl | hy
      · omega
      · exact h.1 y hy
theorem insL_pw {l : List Int} {x : Int} (h : l.Pairwise (· < ·)) : (insL l x).Pairwise (· < ·) := by
  unfold insL
  split
  · exact h
  · rename_i hc
    exact insB_pw h (fun hm => hc (List.contains_iff_mem.2 hm))
/-- A row whose first elements are told anew. -/
theorem map_get {α : Type} {F : α → α} {l : List α} {i : Nat} {d : α} (hi : i < l.length) : ((l.take i).map F ++ l.drop i).getD i d = l.getD i d := by
  have hl : ((l.take i).map F).length = i := by rw [List.length_map, List.length_take]; omega
  rw [List.getD_eq_getElem?_getD, List.getElem?_append_right (by omega), hl, Nat.sub_self, List.getElem?_drop, Nat.add_zero, ← List.getD_eq_getElem?_getD]
theorem map_step {α : Type} {F : α → α} {l : List α} {i : Nat} {d : α} (hi : i < l.length) : ((l.take i).map F ++ l.drop i).set i (F (l.getD i d)) = (l.take (i + 1)).map F ++ l.drop (i + 1) := by
  have hl : ((l.take i).map F).length = i := by rw [List.length_map, List.length_take]; omega
  have ht : l.take (i + 1) = l.take i ++ [l.getD i d] := by
    rw [List.take_add_one, List.getElem?_eq_getElem hi, getD_is hi]; rfl
  rw [List.set_append_right _ _ (by omega), hl, Nat.sub_self, drop_get (d := d) hi, ht, List.map_append, List.append_assoc]
  rfl
theorem map_len {α : Type} {F : α → α} {l : List α} {i : Nat} : ((l.take i).map F ++ l.drop i).length = l.length := by
  rw [List.length_append, List.length_map, List.length_take, List.length_drop]; omega
theorem has_one (x v : Int) : [x].contains v = decide (v = x) := by
  by_cases h : v = x <;> simp [h]
theorem set_getD_self {α : Type} {l : List α} {i : Nat} {d : α} (hi : i < l.length) : l.set i (l.getD i d) = l := by
  rw [getD_is hi]; exact List.set_getElem_self hi

noncomputable def better (a b : Entry) : Entry := if a.2.1 < b.2.1 then b else a
/-- An entry among entries: the better one at its place, else ahead of the first at a greater place. -/
noncomputable def keepL : List Entry → Entry → List Entry
  | [], e => [e]
  | y :: l, e => if y.1 = e.1 then better y e :: l else if e.1 < y.1 then e :: y :: l else y :: keepL l e
theorem keepL_len (l : List Entry) (e : Entry) : (keepL l e).length ≤ l.length + 1 := by
  induction l with
  | nil => exact Nat.le_refl _
  | cons y l ih =>
    unfold keepL
    split
    · simp
    · split
      · exact Nat.le_refl _
      · rw [List.length_cons, List.length_cons]; omega
theorem getD_cons_succ' {α : Type} {y d : α} {l : List α} {i : Nat} : (y :: l).getD (i + 1) d = l.getD i d := by simp
noncomputable def zEnt : Entry := ((0 : Int), ((0 : Int), (false, ((⟨#[]⟩ : ByteArray), ()))))
noncomputable def ascE (l : List Entry) : Bool := (List.range' 0 l.length).all fun i => !(decide (0 < i) && decide ((l.getD i zEnt).1 ≤ (l.getD (i - 1) zEnt).1))
/-- Rows of entries whose places are numbers of 64 bits. -/
def EG (n : Nat) (l : List Entry) : Prop := l.length ≤ n ∧ ∀ e ∈ l, InR e.1
theorem EG.at {n : Nat} {l : List Entry} (h : EG n l) : ∀ i, i < l.length → InR (l.getD i zEnt).1 := fun i hi => h.2 _ (getD_mem hi)
theorem EG.get {n : Nat} {l : List Entry} (h : EG n l) (i : Nat) : InR (l.getD i zEnt).1 := by
  by_cases hi : i < l.length
  · exact h.at i hi
  · rw [List.getD_eq_getElem?_getD, List.getElem?_eq_none (by omega)]; show InR (0 : Int); unfold InR; decide
theorem EG.nil {n : Nat} : EG n [] := ⟨Nat.zero_le _, fun e he => by cases he⟩
theorem EG.mono {n m : Nat} {l : List Entry} (h : EG n l) (hm : n ≤ m) : EG m l := ⟨by have := h.1; omega, h.2⟩
theorem EG.app {n : Nat} {l : List Entry} {e : Entry} (h : EG n l) (he : InR e.1) : EG (n + 1) (l ++ [e]) := by
  refine ⟨by have := h.1; simp; omega, fun x hx => ?_⟩
  rcases List.mem_append.1 hx with h' | h'
  · exact h.2 x h'
  · rw [List.mem_singleton] at h'; subst h'; exact he
/-- Entries whose places ascend. -/
def AscE (l : List Entry) : Prop := ∀ q r, q < r → r < l.length → (l.getD q ((0 : Int), ((0 : Int), (false, ((⟨#[]⟩ : ByteArray), ()))))).1 < (l.getD r ((0 : Int), ((0 : Int), (false, ((⟨#[]⟩ : ByteArray), ()))))).1
theorem AscE.of {l : List Entry} (h : ∀ q, q + 1 < l.length → (l.getD q ((0 : Int), ((0 : Int), (false, ((⟨#[]⟩ : ByteArray), ()))))).1 < (l.getD (q + 1) ((0 : Int), ((0 : Int), (false, ((⟨#[]⟩ : ByteArray), ()))))).1) : AscE l := by
  intro q r hqr hr
  induction r with
  | zero => omega
  | succ r ih =>
    have h1 := h r hr
    by_cases hq : q = r
    · subst hq; exact h1
    · have := ih (by omega) (by omega); omega
theorem AscE.pw {l : List Entry} (h : AscE l) : l.Pairwise (fun a b => a.1 < b.1) :=
  List.pairwise_iff_getElem.2 fun i j hi hj hij => by have := h i j hij hj; rwa [getD_is hi, getD_is hj] at this
theorem AscE.of_pw {l : List Entry} (h : l.Pairwise (fun a b => a.1 < b.1)) : AscE l := fun q r hqr hr => by
  rw [getD_is (by omega), getD_is hr]; exact List.pairwise_iff_getElem.1 h q r (by omega) hr hqr
theorem ascE_Asc {l : List Entry} (h : ascE l = true) : AscE l := AscE.of fun q hq => by
  simp only [ascE, List.all_eq_true, List.mem_range'_1] at h
  have := h (q + 1) (by omega)
  simp only [Nat.add_sub_cancel, Bool.not_eq_true', Bool.and_eq_false_iff, decide_eq_false_iff_not] at this
  rcases this with h | h
  · omega
  · unfold zEnt at h; omega
theorem better_at {a b : Entry} (h : a.1 = b.1) : (better a b).1 = a.1 := by unfold better; split <;> simp [h]
theorem better_or (a b : Entry) : better a b = a ∨ better a b = b := by unfold better; split <;> simp
theorem keepL_at {l : List Entry} {e z : Entry} (h : z ∈ keepL l e) : z.1 = e.1 ∨ ∃ y ∈ l, y.1 = z.1 := by
  induction l with
  | nil => simp [keepL] at h; subst h; exact .inl rfl
  | cons y l ih =>
    unfold keepL at h
    split at h
    · rename_i hy
      rcases List.mem_cons.1 h with rfl | h
      · exact .inl ((better_at hy).trans hy)
      · exact .inr ⟨z, List.mem_cons_of_mem _ h, rfl⟩
    · split at h
      · rcases List.mem_cons.1 h with rfl | h
        · exact .inl rfl
        · exact .inr ⟨z, h, rfl⟩
      · rcases List.mem_cons.1 h with rfl | h
        · exact .inr ⟨z, List.mem_cons_self, rfl⟩
        · rcases ih h with h | ⟨y', h1, h2⟩
          · exact .inl h
          · exact .inr ⟨y', List.mem_cons_of_mem _ h1, h2⟩
theorem keepL_mem {l : List Entry} {e z : Entry} (h : z ∈ keepL l e) : z = e ∨ z ∈ l := by
  induction l with
  | nil => simp [keepL] at h; exact .inl h
  | cons y l ih =>
    unfold keepL at h
    split at h
    · rcases List.mem_cons.1 h with rfl | h
      · rcases better_or y e with h | h
        · exact .inr (by rw [h]; exact List.mem_cons_self)
        · exact .inl h
      · exact .inr (List.mem_cons_of_mem _ h)
    · split at h
      · rcases List.mem_cons.1 h with rfl | h
        · exact .inl rfl
        · exact .inr h
      · rcases List.mem_cons.1 h with rfl | h
        · exact .inr List.mem_cons_self
        · exact (ih h).imp id (List.mem_cons_of_mem _)
theorem keepL_pw {l : List Entry} {e : Entry} (h : l.Pairwise (fun a b => a.1 < b.1)) : (keepL l e).Pairwise (fun a b => a.1 < b.1) := by
  induction l with
  | nil => simp [keepL]
  | cons y l ih =>
    rw [List.pairwise_cons] at h
    unfold keepL
    split
    · rename_i hy
      exact List.pairwise_cons.2 ⟨fun z hz => by rw [better_at hy]; exact h.1 z hz, h.2⟩
    · rename_i hy
      split
      · rename_i hlt
        refine List.pairwise_cons.2 ⟨fun z hz => ?_, List.pairwise_cons.2 h⟩
        rcases List.mem_cons.1 hz with rfl | hz
        · exact hlt
        · have := h.1 z hz; omega
      · rename_i hlt
        refine List.pairwise_cons.2 ⟨fun z hz => ?_, ih h.2⟩
        rcases keepL_at hz with hz | ⟨u, h1, h2⟩
        · omega
        · have := h.1 u h1; omega
theorem AscE.keep {l : List Entry} {e : Entry} (h : AscE l) : AscE (keepL l e) := AscE.of_pw (keepL_pw h.pw)
theorem EG.keep {n : Nat} {l : List Entry} {e : Entry} (h : EG n l) (he : InR e.1) : EG (n + 1) (keepL l e) :=
  ⟨by have := keepL_len l e; have := h.1; omega, fun z hz => by
    rcases keepL_mem hz with rfl | hz
    · exact he
    · exact h.2 z hz⟩
/-- The entry of a place. -/
noncomputable def getF : List Entry → Int → Entry × Bool
  | [], _ => (((0 : Int), ((0 : Int), (false, ((⟨#[]⟩ : ByteArray), ())))), false)
  | y :: l, x => if y.1 = x then (y, true) else getF l x
theorem getF_none {x : Int} : ∀ {l : List Entry}, (∀ y ∈ l, ¬ y.1 = x) → getF l x = (((0 : Int), ((0 : Int), (false, ((⟨#[]⟩ : ByteArray), ())))), false) := by
  intro l
  induction l with
  | nil => intro _; rfl
  | cons y l ih =>
    intro h
    unfold getF
    rw [if_neg (h y List.mem_cons_self)]
    exact ih fun z hz => h z (List.mem_cons_of_mem _ hz)
theorem getF_some {x : Int} : ∀ {l : List Entry} {i : Nat}, i < l.length → (∀ q, q < i → ¬ (l.getD q zEnt).1 = x) → (l.getD i zEnt).1 = x → getF l x = (l.getD i zEnt, true) := by
  intro l
  induction l with
  | nil => intro i h; exact absurd h (Nat.not_lt_zero _)
  | cons y l ih =>
    intro i hi h1 h2
    unfold getF
    cases i with
    | zero =>
      have h2' : y.1 = x := h2
      rw [if_pos h2']; rfl
    | succ i =>
      have h0 : ¬ y.1 = x := h1 0 (Nat.zero_lt_succ _)
      rw [if_neg h0, getD_cons_succ']
      rw [getD_cons_succ'] at h2
      exact ih (by simpa using hi) (fun q hq => by have := h1 (q + 1) (by omega); rwa [getD_cons_succ'] at this) h2
theorem getF_true {x : Int} {l : List Entry} {e : Entry} (h : getF l x = (e, true)) : e ∈ l ∧ e.1 = x := by
  induction l with
  | nil => simp [getF] at h
  | cons y l ih =>
    unfold getF at h
    split at h
    · rename_i hy
      have : y = e := congrArg Prod.fst h
      subst this
      exact ⟨List.mem_cons_self, hy⟩
    · exact ⟨List.mem_cons_of_mem _ (ih h).1, (ih h).2⟩

def SG (n m : Nat) (s : Store) : Prop := EG n s.1 ∧ EG m s.2.1 ∧ InR s.2.2.1
theorem SG.zero {n m : Nat} : SG n m (([] : List Entry), (([] : List Entry), ((0 : Int), ()))) := ⟨EG.nil, EG.nil, by show InR (0 : Int); unfold InR; decide⟩
noncomputable def keepsL (s l : List Entry) : List Entry := l.foldl keepL s
theorem keepsL_len : ∀ (l s : List Entry), (keepsL s l).length ≤ s.length + l.length := by
  intro l
  induction l with
  | nil => intro s; exact Nat.le_refl _
  | cons e l ih => intro s; have := ih (keepL s e); have := keepL_len s e; show (keepsL (keepL s e) l).length ≤ _; simp only [List.length_cons]; omega
noncomputable def unionL (s : List Entry) (l : List Store) : List Entry := l.foldl (fun s t => keepsL s t.1) s
def ktS (l : List Store) : Nat := (l.map fun s => s.1.length).sum
/-- Stores whose places are numbers of 64 bits. -/
def StG (l : List Store) : Prop := l.length ≤ 1048576 ∧ ∀ s ∈ l, EG 1048576 s.1 ∧ EG 1048576 s.2.1 ∧ InR s.2.2.1
noncomputable def zSto : Store := (([] : List Entry), (([] : List Entry), ((0 : Int), ())))
theorem ktS_cons (s : Store) (l : List Store) : ktS (s :: l) = s.1.length + ktS l := by simp [ktS]
theorem unionL_len : ∀ (l : List Store) (s : List Entry), (unionL s l).length ≤ s.length + ktS l := by
  intro l
  induction l with
  | nil => intro s; exact Nat.le_add_right _ _
  | cons t l ih => intro s; have := ih (keepsL s t.1); have := keepsL_len t.1 s; rw [ktS_cons]; show (unionL (keepsL s t.1) l).length ≤ _; omega
/-- The stores of those that are not lost. -/
noncomputable def othersL (lost : List Int) : Nat → List Store → List Store
  | _, [] => []
  | i, s :: l => if lost.contains (i : Int) = true then othersL lost (i + 1) l else s :: othersL lost (i + 1) l
theorem othersL_cons {lost : List Int} {i : Nat} {s : Store} {l : List Store} : othersL lost i (s :: l) = if lost.contains (i : Int) = true then othersL lost (i + 1) l else s :: othersL lost (i + 1) l := rfl
theorem othersL_mem {lost : List Int} {x : Store} : ∀ {l : List Store} {i : Nat}, x ∈ othersL lost i l → x ∈ l := by
  intro l
  induction l with
  | nil => intro i h; exact h
  | cons s l ih =>
    intro i h
    unfold othersL at h
    split at h
    · exact List.mem_cons_of_mem _ (ih h)
    · rcases List.mem_cons.1 h with rfl | h
      · exact List.mem_cons_self
      · exact List.mem_cons_of_mem _ (ih h)
theorem othersL_len {lost : List Int} : ∀ {l : List Store} {i : Nat}, (othersL lost i l).length ≤ l.length ∧ ktS (othersL lost i l) ≤ ktS l := by
  intro l
  induction l with
  | nil => intro i; exact ⟨Nat.le_refl _, Nat.le_refl _⟩
  | cons s l ih =>
    intro i
    have h1 := (ih (i := i + 1)).1
    have h2 := (ih (i := i + 1)).2
    unfold othersL
    split
    · rw [ktS_cons, List.length_cons]; omega
    · rw [ktS_cons, ktS_cons, List.length_cons, List.length_cons]; omega
theorem StG.others {lost : List Int} {l : List Store} (h : StG l) (i : Nat) : StG (othersL lost i l) := ⟨Nat.le_trans othersL_len.1 h.1, fun s hs => h.2 s (othersL_mem hs)⟩

def MG (s n h w : Nat) (m : Mend) : Prop := m.2.2.1.length ≤ s ∧ EG n m.2.2.2.1 ∧ (m.2.2.2.2.2.1.length ≤ h ∧ ∀ l ∈ m.2.2.2.2.2.1, l.length ≤ w) ∧ InR m.1 ∧ InR m.2.1
theorem MG.mono {s n h w s' n' h' w' : Nat} {m : Mend} (g : MG s n h w m) (h1 : s ≤ s') (h2 : n ≤ n') (h3 : h ≤ h') (h4 : w ≤ w') : MG s' n' h' w' m :=
  ⟨by have := g.1; omega, g.2.1.mono h2, ⟨by have := g.2.2.1.1; omega, fun l hl => by have := g.2.2.1.2 l hl; omega⟩, g.2.2.2⟩
theorem MG.get {s n h w : Nat} {m : Mend} (g : MG s n h w m) (i : Nat) : (m.2.2.2.2.2.1.getD i []).length ≤ w := by
  by_cases hi : i < m.2.2.2.2.2.1.length
  · exact g.2.2.1.2 _ (getD_mem hi)
  · rw [List.getD_eq_getElem?_getD, List.getElem?_eq_none (by omega)]; exact Nat.zero_le _
noncomputable def zEra : Era := (([] : List Int), (false, ((0 : Int), ())))

noncomputable def zRd : Reader := ((0 : Int), ((0 : Int), (([] : List Event), ())))
noncomputable def readerB (r : Reader) : Bool := inB r.1 1 31 && (inB r.2.1 1 61 && decide (((r.2.2.1.length : Nat) : Int) ≤ 120))

noncomputable def zAns : Answer := ((0 : Int), (false, (((0 : Int), ((0 : Int), (false, ((⟨#[]⟩ : ByteArray), ())))), ())))
noncomputable def evOf (place : Int) (q : Entry × Bool) : Event := if q.2 = true then (if q.1.2.2.1 = true then ((2 : Int), (place, ((⟨#[]⟩ : ByteArray), ()))) else ((1 : Int), (place, (q.1.2.2.2.1, ())))) else ((3 : Int), (place, ((⟨#[]⟩ : ByteArray), ())))
/-- Answers of at most n nodes, whose places are numbers of 64 bits. -/
def AnG (l : List Answer) : Prop := l.length ≤ 1048576 ∧ ∀ x ∈ l, InR x.2.2.1.1

noncomputable def zWr : Writer := ((0 : Int), (([] : List Word), ()))
noncomputable def zMd : Mend := ((0 : Int), ((0 : Int), (([] : List Int), (([] : List Entry), (false, (([] : List (List Int)), ()))))))
noncomputable def zSn : Sent := ((0 : Int), ((⟨#[]⟩ : ByteArray), (false, ())))
/-- A world that is not too large, its places numbers of 64 bits. -/
structure WG (w : World) : Prop where
  c : w.1.1.length ≤ 1048576
  st : StG w.2.1
  lo : w.2.2.1.length ≤ 1048576
  rt : InR w.2.2.2.1.2.1
  rl : w.2.2.2.1.1.length ≤ 1048576
  re : ∀ e ∈ w.2.2.2.1.1, e.1.length ≤ 1048576
  wl : w.2.2.2.2.1.length ≤ 1048576
  we : ∀ x ∈ w.2.2.2.2.1, x.2.1.length ≤ 1048576 ∧ ∀ y ∈ x.2.1, y.2.1.length ≤ 1048576
  ml : w.2.2.2.2.2.1.length ≤ 1048576
  me : ∀ m ∈ w.2.2.2.2.2.1, MG 1048576 1048576 1048576 1048576 m
  dl : w.2.2.2.2.2.2.1.length ≤ 1048576
  sl : w.2.2.2.2.2.2.2.1.length ≤ 1048576
  se : ∀ x ∈ w.2.2.2.2.2.2.2.1, InR x.1
/-- A cursor over bytes: where it stands. -/
def Cu (c : l1Cur) : Prop := c.1.length ≤ 1048576 ∧ 0 ≤ c.2.1
theorem spec_l1New_l (b : List Int) (hb : b.length ≤ 1048576) : ∀ (m i : Nat) (h : Int), i + m = b.length → Evp (fun k => spec_l1New.p7 k b h (i : Int)) Cu := by
  intro m
  induction m with
  | zero =>
    intro i h hi
    refine Evp.succ ?_
    simp only [spec_l1New.p7]
    exact Evp.neg (by omega) (Evp.ret ⟨hb, Int.le_refl _⟩)
  | succ m ih =>
    intro i h hi
    refine Evp.succ ?_
    simp only [spec_l1New.p7]
    refine Evp.pos (by omega) (Evp.ite (fun _ => Evp.pos (by omega) ?_) (fun _ => Evp.ret ⟨hb, Int.le_refl _⟩))
    rw [wrap_up (i := i) (n := b.length) (by omega) (by omega)]
    exact ih (i + 1) _ (by omega)
theorem spec_l1New_d (b : List Int) (hb : b.length ≤ 1048576) : Evp (fun k => spec_l1New.f k b) Cu := spec_l1New_l b hb b.length 0 _ (by omega)

theorem and255 (x : Int) : 0 ≤ andK .i64 x 255 ∧ andK .i64 x 255 ≤ 255 := by
  have e : andK .i64 x 255 = wrap64 (((BitVec.ofInt 64 x &&& BitVec.ofInt 64 255).toNat : Nat) : Int) := rfl
  have h : (BitVec.ofInt 64 x &&& BitVec.ofInt 64 255).toNat ≤ 255 := by
    rw [BitVec.toNat_and]
    exact Nat.le_trans Nat.and_le_right (by decide)
  rw [e, wrap64_id (by omega) (by omega)]
  omega
theorem spec_l1Byte_d (c : l1Cur) (h : Cu c) : Op (spec_l1Byte.f c) (fun r => 0 ≤ r.1 ∧ r.1 ≤ 255 ∧ Cu r.2) := by
  obtain ⟨h1, h2⟩ := h
  unfold spec_l1Byte.f
  refine Op.ite (fun hl => Op.pos ⟨h2, hl⟩ (Op.ret ⟨(and255 _).1, (and255 _).2, h1, ?_⟩)) (fun hl => Op.ret ⟨(and255 _).1, (and255 _).2, h1, h2⟩)
  show (0 : Int) ≤ wrap64 (c.2.1 + 1)
  rw [wrap64_id (by omega) (by omega)]; omega

theorem spec_l1Below_d (c : l1Cur) (n : Int) (h : Cu c) : Op (spec_l1Below.f c n) (fun r => 0 ≤ r.1 ∧ (0 < n → r.1 < n) ∧ (n ≤ 0 → r.1 = 0) ∧ Cu r.2) := by
  unfold spec_l1Below.f
  refine Op.ite (fun h0 => Op.ret ⟨by show (0 : Int) ≤ 0; omega, fun h1 => by omega, fun _ => rfl, h⟩) (fun h0 => Op.ite (fun h1 => Op.bind (spec_l1Byte_d c h) fun r hr => ?_) (fun h1 => ?_))
  · refine Op.neg (by omega) (Op.ret ?_)
    show 0 ≤ Int.tmod r.1 n ∧ (0 < n → Int.tmod r.1 n < n) ∧ (n ≤ 0 → Int.tmod r.1 n = 0) ∧ Cu r.2
    rw [Int.tmod_eq_emod_of_nonneg hr.1]
    exact ⟨Int.emod_nonneg _ (by omega), fun _ => Int.emod_lt_of_pos _ (by omega), fun _ => by omega, hr.2.2⟩
  · refine Op.bind (spec_l1Byte_d c h) fun r hr => Op.bind (spec_l1Byte_d _ hr.2.2) fun s hs => Op.bind (spec_l1Byte_d _ hs.2.2) fun t ht => Op.bind (spec_l1Byte_d _ ht.2.2) fun u hu => Op.neg (by omega) (Op.ret ?_)
    obtain ⟨a1, a2, _⟩ := hr
    obtain ⟨b1, b2, _⟩ := hs
    obtain ⟨c1, c2, _⟩ := ht
    obtain ⟨d1, d2, d3⟩ := hu
    rw [wrap64_id (x := r.1 * 16777216) (by omega) (by omega), wrap64_id (x := s.1 * 65536) (by omega) (by omega), wrap64_id (x := r.1 * 16777216 + s.1 * 65536) (by omega) (by omega), wrap64_id (x := t.1 * 256) (by omega) (by omega), wrap64_id (x := r.1 * 16777216 + s.1 * 65536 + t.1 * 256) (by omega) (by omega), wrap64_id (x := r.1 * 16777216 + s.1 * 65536 + t.1 * 256 + u.1) (by omega) (by omega)]
    have hz : (0 : Int) ≤ r.1 * 16777216 + s.1 * 65536 + t.1 * 256 + u.1 := by omega
    show 0 ≤ Int.tmod _ n ∧ (0 < n → Int.tmod _ n < n) ∧ (n ≤ 0 → Int.tmod _ n = 0) ∧ Cu u.2
    rw [Int.tmod_eq_emod_of_nonneg hz]
    exact ⟨Int.emod_nonneg _ (by omega), fun _ => Int.emod_lt_of_pos _ (by omega), fun _ => by omega, d3⟩

theorem spec_l1Once_d (c : l1Cur) (n : Int) (h : Cu c) : Op (spec_l1Once.f c n) (fun r => Cu r.2) := by
  unfold spec_l1Once.f
  exact Op.bind (spec_l1Below_d c n h) fun r hr => Op.ret hr.2.2.2

theorem spec_l4DrawRight_l (n : Int) (h3 : 0 ≤ n) (hn : n ≤ 8) (z : Config) : ∀ (m i : Nat) (a : Config) (c : l1Cur), (i : Int) + m = n → a.1.length = i → (∀ x ∈ a.1, 0 ≤ x ∧ x ≤ 4) → Cu c →
    Evp (fun k => spec_l4DrawRight.p9 k n (i : Int) z a c) (fun r => (r.1.1.length : Int) = n ∧ (∀ x ∈ r.1.1, 0 ≤ x ∧ x ≤ 4) ∧ (r.1.2.1 = a.2.1 ∨ r.1.2.1 = 2) ∧ Cu r.2) := by
  intro m
  induction m with
  | zero =>
    intro i a c hi ha hx hc
    refine Evp.succ ?_
    simp only [spec_l4DrawRight.p9]
    refine Evp.neg (by omega) (Evp.bindc (spec_l1Once_d c 2 hc) fun r hr => Evp.ite (fun _ => Evp.ret ⟨by show (a.1.length : Int) = n; omega, hx, .inr rfl, hr⟩) (fun _ => Evp.ret ⟨by show (a.1.length : Int) = n; omega, hx, .inl rfl, hr⟩))
  | succ m ih =>
    intro i a c hi ha hx hc
    refine Evp.succ ?_
    simp only [spec_l4DrawRight.p9]
    refine Evp.pos (by omega) (Evp.bindc (spec_l1Below_d c 5 hc) fun r hr => Evp.pos (by simp only [lim_eq, List.length_cons, List.length_nil]; omega) ?_)
    rw [wrap_up (i := i) (n := 8) (by omega) (by omega)]
    exact ih (i + 1) (a.1 ++ [r.1], a.2) r.2 (by omega) (by show (a.1 ++ [r.1]).length = i + 1; simp [ha]) (fun x hm => by
      rcases List.mem_append.1 hm with h | h
      · exact hx x h
      · rw [List.mem_singleton] at h; subst h; have := hr.2.1 (by omega); exact ⟨hr.1, by omega⟩) hr.2.2.2
theorem spec_l4DrawRight_d (c : l1Cur) (h : Cu c) : Evp (fun k => spec_l4DrawRight.f k c) (fun r => 3 ≤ r.1.1.length ∧ r.1.1.length ≤ 8 ∧ (∀ x ∈ r.1.1, 0 ≤ x ∧ x ≤ 4) ∧ 1 ≤ r.1.2.1 ∧ r.1.2.1 ≤ 3 ∧ Cu r.2) := by
  simp only [spec_l4DrawRight.f]
  refine Evp.bindc (spec_l1Below_d c 3 h) fun r hr => Evp.bindc (spec_l1Below_d _ 5 hr.2.2.2) fun s hs => ?_
  have h1 := hr.2.1 (by omega)
  have h2 := hs.2.1 (by omega)
  have h0 := hr.1
  have h0' := hs.1
  rw [wrap64_id (x := 3 + s.1) (by omega) (by omega), wrap64_id (x := 1 + r.1) (by omega) (by omega)]
  refine (spec_l4DrawRight_l (3 + s.1) (by omega) (by omega) _ (3 + s.1).toNat 0 _ _ (by omega) rfl (fun x hx => by cases hx) hs.2.2.2).mono fun q hq => ?_
  obtain ⟨q1, q2, q3, q4⟩ := hq
  have q3 : q.1.2.1 = 1 + r.1 ∨ q.1.2.1 = 2 := q3
  exact ⟨by omega, by omega, q2, by omega, by omega, q4⟩

theorem spec_l1In_is (x a b : Int) : spec_l1In.f x a b = some (inB x a b) := ite_inB x a b

/-- A config that is right: its domains, its copies. -/
noncomputable def cfgB (a : Config) : Bool := inB ((a.1.length : Nat) : Int) 1 8 && (inB a.2.1 1 4 && (List.range' 0 a.1.length).all fun i => inB (a.1.getD i 0) 0 7)
theorem cfgB_len {a : Config} (h : cfgB a = true) : 1 ≤ a.1.length ∧ a.1.length ≤ 8 ∧ 1 ≤ a.2.1 ∧ a.2.1 ≤ 4 ∧ ∀ i, i < a.1.length → 0 ≤ a.1.getD i 0 ∧ a.1.getD i 0 ≤ 7 := by
  simp only [cfgB, Bool.and_eq_true, inB_true, List.all_eq_true, List.mem_range'_1] at h
  obtain ⟨h1, h2, h3⟩ := h
  exact ⟨by omega, by omega, h2.1, h2.2, fun i hi => h3 i (by omega)⟩
theorem spec_ConfigOk_ev (a : Config) (hl : a.1.length ≤ 1048576) : Ev (fun k => spec_ConfigOk.f k a) (cfgB a) := by
  have h := all_loop (n := a.1.length) (p := fun k i => spec_ConfigOk.p9 k i a) (q := fun i => inB (a.1.getD i 0) 0 7) (zb := true) (fun i hi b hb => by
    simp only [spec_ConfigOk.p9, spec_l1In_is]
    refine Ev.pos (by omega) (Ev.pos (by omega) (Ev.bindc rfl (Ev.and fun _ => ?_)))
    rw [wrap_up hi (by omega)]; exact hb) (by
    simp only [spec_ConfigOk.p9]
    exact Ev.neg (by omega) Ev.ret) a.1.length 0 (by omega)
  simp only [spec_ConfigOk.f, spec_l1In_is, cfgB]
  refine Ev.bindc rfl (Ev.and fun _ => Ev.bindc rfl (Ev.and fun _ => ?_))
  simpa using h

/-- Ascending numbers from lo to hi. -/
noncomputable def ascB (l : List Int) (lo hi : Int) : Bool := (List.range' 0 l.length).all fun i => inB (l.getD i 0) lo hi && (decide (i = 0) || !decide (l.getD i 0 ≤ l.getD (i - 1) 0))
theorem ascB_mem {l : List Int} {lo hi : Int} (h : ascB l lo hi = true) {i : Nat} (hi' : i < l.length) : lo ≤ l.getD i 0 ∧ l.getD i 0 ≤ hi := by
  simp only [ascB, List.all_eq_true, List.mem_range'_1, Bool.and_eq_true, inB_true] at h
  exact (h i (by omega)).1
theorem spec_l4Asc_ev (l : List Int) (lo hi : Int) (hl : l.length ≤ 1048576) : Ev (fun k => spec_l4Asc.f k l lo hi) (ascB l lo hi) := by
  have h := all_loop (n := l.length) (p := fun k i => spec_l4Asc.p5 k l lo hi i) (q := fun i => inB (l.getD i 0) lo hi && (decide (i = 0) || !decide (l.getD i 0 ≤ l.getD (i - 1) 0))) (zb := true) (fun i hi' b hb => by
    simp only [spec_l4Asc.p5, spec_l1In_is]
    refine Ev.pos (by omega) (Ev.pos (by omega) (Ev.bindc rfl ?_))
    rw [Bool.and_assoc]
    refine Ev.and fun _ => ?_
    rw [wrap_up hi' (by omega)]
    by_cases h0 : i = 0
    · subst h0
      exact (Ev.neg (by omega) hb).eq (by simp)
    · have e : wrap64 ((i : Int) - 1) = ((i - 1 : Nat) : Int) := by rw [wrap64_id (by omega) (by omega)]; omega
      rw [e]
      refine Ev.pos (by omega) (Ev.pos (by omega) (Ev.pos (by omega) ?_))
      rw [decide_eq_false h0, Bool.false_or]
      exact Ev.nand fun _ => hb) (by
    simp only [spec_l4Asc.p5]
    exact Ev.neg (by omega) Ev.ret) l.length 0 (by omega)
  exact (Ev.cg h fun k => rfl).eq (by unfold ascB; rw [Bool.and_true])
theorem ascB_Asc {l : List Int} {lo hi : Int} (h : ascB l lo hi = true) : Asc l := Asc.of fun q hq => by
  simp only [ascB, List.all_eq_true, List.mem_range'_1, Bool.and_eq_true, Bool.or_eq_true, decide_eq_true_eq, Bool.not_eq_true', decide_eq_false_iff_not] at h
  have := (h (q + 1) (by omega)).2
  simp only [Nat.add_sub_cancel] at this
  omega
theorem ascB_iff {l : List Int} {lo hi : Int} : ascB l lo hi = true ↔ (∀ x ∈ l, lo ≤ x ∧ x ≤ hi) ∧ l.Pairwise (· < ·) := by
  constructor
  · intro h
    refine ⟨fun x hx => ?_, (ascB_Asc h).pw⟩
    obtain ⟨q, hq, rfl⟩ := getD_of_mem hx
    exact ascB_mem h hq
  · rintro ⟨h1, h2⟩
    simp only [ascB, List.all_eq_true, List.mem_range'_1, Bool.and_eq_true, Bool.or_eq_true, decide_eq_true_eq, Bool.not_eq_true', decide_eq_false_iff_not, inB_true]
    intro i hi
    refine ⟨h1 _ (getD_mem (by omega)), ?_⟩
    by_cases h0 : i = 0
    · exact .inl h0
    · have := Asc.of_pw h2 (i - 1) i (by omega) (by omega)
      exact .inr (by omega)
theorem ascB_len {l : List Int} {lo hi : Int} (h : ascB l lo hi = true) : l.length = 0 ∨ (l.length : Int) ≤ hi - lo + 1 := by
  have ha := ascB_Asc h
  have key : ∀ q, q < l.length → lo + (q : Int) ≤ l.getD q 0 := by
    intro q
    induction q with
    | zero => intro hq; have := (ascB_mem h hq).1; omega
    | succ q ih => intro hq; have := ih (by omega); have := ha q (q + 1) (by omega) hq; omega
  by_cases h0 : l.length = 0
  · exact .inl h0
  · have := key (l.length - 1) (by omega)
    have := (ascB_mem h (i := l.length - 1) (by omega)).2
    exact .inr (by omega)

noncomputable def nodesB (a : Config) (l : List Int) : Bool := cfgB a && ascB l 0 (((a.1.length : Nat) : Int) - 1)
theorem spec_NodesOk_ev (a : Config) (l : List Int) (ha : a.1.length ≤ 1048576) (hl : l.length ≤ 1048576) : Ev (fun k => spec_NodesOk.f k a l) (nodesB a l) := by
  simp only [spec_NodesOk.f, nodesB]
  refine Ev.bind (spec_ConfigOk_ev a ha) (Ev.and fun _ => ?_)
  rw [wrap64_id (by omega) (by omega)]
  exact Ev.bind (spec_l4Asc_ev l 0 _ hl) Ev.ret
theorem nodesB_len {a : Config} {l : List Int} (h : nodesB a l = true) : l.length ≤ 8 := by
  simp only [nodesB, Bool.and_eq_true] at h
  have := cfgB_len h.1
  have := ascB_len h.2
  omega
theorem nodesB_filter {a : Config} {l : List Int} (p : Int → Bool) (h : nodesB a l = true) : nodesB a (l.filter p) = true := by
  simp only [nodesB, Bool.and_eq_true, ascB_iff] at h ⊢
  exact ⟨h.1, fun x hx => h.2.1 x (List.mem_filter.1 hx).1, h.2.2.filter _⟩
theorem nodesB_ins {a : Config} {l : List Int} {x : Int} (h : nodesB a l = true) (h0 : 0 ≤ x) (h1 : x ≤ ((a.1.length : Nat) : Int) - 1) : nodesB a (insL l x) = true := by
  simp only [nodesB, Bool.and_eq_true, ascB_iff] at h ⊢
  refine ⟨h.1, fun y hy => ?_, insL_pw h.2.2⟩
  rcases mem_insL.1 hy with rfl | hy
  · exact ⟨h0, h1⟩
  · exact h.2.1 y hy

/-- The domains of nodes, each once, behind those that were met. -/
noncomputable def domsOf (a : Config) : List Int → List Int → List Int
  | [], acc => acc
  | n :: l, acc => domsOf a l (if acc.contains (a.1.getD n.toNat 0) then acc else acc ++ [a.1.getD n.toNat 0])
noncomputable def spanOf (a : Config) (l : List Int) : Int := ((domsOf a l []).length : Int)
theorem spec_l4Span_l (a : Config) (l : List Int) (hdom : ∀ i, i < a.1.length → 0 ≤ a.1.getD i 0 ∧ a.1.getD i 0 ≤ 7) (hl : l.length ≤ 1048576) (hmem : ∀ i, i < l.length → 0 ≤ l.getD i 0 ∧ l.getD i 0 < ((a.1.length : Nat) : Int)) :
    ∀ (m i : Nat) (seen : List Bool) (acc : List Int), i + m = l.length → seen.length = 8 → acc.length ≤ i → (∀ x : Int, 0 ≤ x → x ≤ 7 → (seen.getD x.toNat false = acc.contains x)) →
    Ev (fun k => spec_l4Span.p9 k l seen (acc.length : Int) (i : Int) a) ((domsOf a (l.drop i) acc).length : Int) := by
  intro m
  induction m with
  | zero =>
    intro i seen acc h hs ha hx
    refine Ev.succ ?_
    simp only [spec_l4Span.p9]
    rw [List.drop_eq_nil_of_le (by omega)]
    exact Ev.neg (by omega) Ev.ret
  | succ m ih =>
    intro i seen acc h hs ha hx
    have hi : i < l.length := by omega
    have hn := hmem i hi
    have hv := hdom (l.getD i 0).toNat (by omega)
    refine Ev.succ ?_
    simp only [spec_l4Span.p9, Int.toNat_natCast]
    rw [drop_get (d := (0 : Int)) hi]
    simp only [domsOf]
    generalize hw : a.1.getD (l.getD i 0).toNat 0 = x at *
    refine Ev.pos (by omega) (Ev.pos (by omega) (Ev.pos (by omega) (Ev.pos (by omega) ?_)))
    rw [hx _ hv.1 hv.2, wrap_up hi (by omega)]
    by_cases hc : acc.contains x = true
    · rw [if_pos hc]
      exact Ev.pos hc (ih (i + 1) seen acc (by omega) hs (by omega) hx)
    · rw [if_neg hc]
      refine Ev.neg hc (Ev.pos (by omega) ?_)
      have := ih (i + 1) (seen.set x.toNat true) (acc ++ [x]) (by omega) (by simp [hs]) (by simp; omega) (by
        intro y h0 h7
        by_cases e : y = x
        · subst e
          simp [List.getD_eq_getElem?_getD, List.getElem?_set, hs, show y.toNat < 8 by omega]
        · have he : x.toNat ≠ y.toNat := by omega
          have := hx y h0 h7
          rw [List.getD_eq_getElem?_getD, List.getElem?_set, if_neg he, ← List.getD_eq_getElem?_getD, this]
          simp [e])
      have e1 : wrap64 ((acc.length : Int) + 1) = ((acc ++ [x]).length : Int) := by rw [wrap64_id (by omega) (by omega)]; simp
      rw [e1]; exact this
theorem spec_l4Span_ev (a : Config) (l : List Int) (hok : nodesB a l = true) (hl : l.length ≤ 1048576) : Ev (fun k => spec_l4Span.f k a l) (spanOf a l) := by
  simp only [nodesB, Bool.and_eq_true] at hok
  obtain ⟨h1, h2, _, _, h5⟩ := cfgB_len hok.1
  simp only [spec_l4Span.f]
  refine Ev.pos (by simp [lim_eq]) ?_
  have := spec_l4Span_l a l h5 hl (fun i hi => by have := ascB_mem hok.2 hi; omega) l.length 0 (List.replicate 8 false) [] (by omega) (by simp) (by simp) (by
    intro x h0 h7
    rw [List.getD_eq_getElem?_getD, List.getElem?_replicate, if_pos (by omega)]
    rfl)
  rw [List.drop_zero] at this
  exact this
theorem nodup_len {l m : List Int} (h : l.Nodup) (hs : ∀ x ∈ l, x ∈ m) : l.length ≤ m.length := by
  induction l generalizing m with
  | nil => exact Nat.zero_le _
  | cons x l ih =>
    rw [List.nodup_cons] at h
    have hx := hs x List.mem_cons_self
    have := ih (m := m.erase x) h.2 fun y hy => by
      have hne : y ≠ x := fun e => h.1 (e ▸ hy)
      exact (List.mem_erase_of_ne hne).2 (hs y (List.mem_cons_of_mem _ hy))
    rw [List.length_erase_of_mem hx] at this
    have hp := List.length_pos_of_mem hx
    rw [List.length_cons]; omega
theorem domsOf_nodup (a : Config) : ∀ (l acc : List Int), acc.Nodup → (domsOf a l acc).Nodup := by
  intro l
  induction l with
  | nil => intro acc h; exact h
  | cons n l ih =>
    intro acc h
    unfold domsOf
    refine ih _ ?_
    split
    · exact h
    · rename_i hc
      rw [List.contains_iff_mem] at hc
      refine List.nodup_append.2 ⟨h, by simp, fun x hx y hy => ?_⟩
      rw [List.mem_singleton] at hy
      intro e
      exact hc (hy ▸ e ▸ hx)
theorem domsOf_mem (a : Config) : ∀ (l acc : List Int) (x : Int), x ∈ domsOf a l acc ↔ x ∈ acc ∨ ∃ n ∈ l, a.1.getD n.toNat 0 = x := by
  intro l
  induction l with
  | nil => intro acc x; simp [domsOf]
  | cons n l ih =>
    intro acc x
    unfold domsOf
    rw [ih]
    split
    · rename_i hc
      rw [List.contains_iff_mem] at hc
      constructor
      · rintro (h | ⟨m, h1, h2⟩)
        · exact .inl h
        · exact .inr ⟨m, List.mem_cons_of_mem _ h1, h2⟩
      · rintro (h | ⟨m, h1, h2⟩)
        · exact .inl h
        · rcases List.mem_cons.1 h1 with rfl | h1
          · exact .inl (h2 ▸ hc)
          · exact .inr ⟨m, h1, h2⟩
    · constructor
      · rintro (h | ⟨m, h1, h2⟩)
        · rcases List.mem_append.1 h with h | h
          · exact .inl h
          · rw [List.mem_singleton] at h
            exact .inr ⟨n, List.mem_cons_self, h.symm⟩
        · exact .inr ⟨m, List.mem_cons_of_mem _ h1, h2⟩
      · rintro (h | ⟨m, h1, h2⟩)
        · exact .inl (List.mem_append_left _ h)
        · rcases List.mem_cons.1 h1 with rfl | h1
          · exact .inl (List.mem_append_right _ (List.mem_singleton.2 h2.symm))
          · exact .inr ⟨m, h1, h2⟩
theorem spanOf_mono (a : Config) {l m : List Int} (h : ∀ x ∈ l, x ∈ m) : spanOf a l ≤ spanOf a m := by
  unfold spanOf
  have := nodup_len (domsOf_nodup a l [] List.nodup_nil) (m := domsOf a m []) fun x hx => by
    rw [domsOf_mem] at hx ⊢
    rcases hx with hx | ⟨n, h1, h2⟩
    · exact .inl hx
    · exact .inr ⟨n, h n h1, h2⟩
  omega

noncomputable def holdsB (a : Config) (l : List Int) : Bool := nodesB a l && decide (a.2.1 ≤ spanOf a l)
theorem spec_Holds_ev (a : Config) (l : List Int) (ha : a.1.length ≤ 1048576) (hl : l.length ≤ 1048576) : Ev (fun k => spec_Holds.f k a l) (holdsB a l) := by
  simp only [spec_Holds.f, holdsB]
  exact Ev.bind (spec_NodesOk_ev a l ha hl) (Ev.and fun h => Ev.bind (spec_l4Span_ev a l h hl) Ev.ret)
theorem holdsB_mono {a : Config} {l m : List Int} (hm : nodesB a m = true) (h : ∀ x ∈ l, x ∈ m) (hl : holdsB a l = true) : holdsB a m = true := by
  unfold holdsB at *
  rw [hm, Bool.true_and, decide_eq_true_eq]
  have := spanOf_mono a h
  simp only [Bool.and_eq_true, decide_eq_true_eq] at hl
  omega

theorem spec_l1Max_d (a b : Int) : Op (spec_l1Max.f a b) (fun r => a ≤ r ∧ b ≤ r ∧ (r = a ∨ r = b)) := by
  unfold spec_l1Max.f
  exact Op.ite (fun h => Op.ret ⟨by omega, by omega, .inl rfl⟩) (fun h => Op.ret ⟨by omega, by omega, .inr rfl⟩)

theorem spec_l4Has_l (l : List Int) (x : Int) (hl : l.length ≤ 1048576) : ∀ (m i : Nat), i + m = l.length → Ev (fun k => spec_l4Has.p5 k l x (i : Int)) ((l.drop i).contains x) := by
  intro m
  induction m with
  | zero =>
    intro i h
    refine Ev.succ ?_
    simp only [spec_l4Has.p5]
    rw [List.drop_eq_nil_of_le (by omega)]
    exact Ev.neg (by omega) Ev.ret
  | succ m ih =>
    intro i h
    refine Ev.succ ?_
    simp only [spec_l4Has.p5, Int.toNat_natCast]
    rw [drop_get (d := (0 : Int)) (i := i) (l := l) (by omega), List.contains_cons, wrap_up (i := i) (n := l.length) (by omega) (by omega)]
    refine Ev.pos (by omega) (Ev.pos (by omega) ?_)
    by_cases hx : l.getD i 0 = x
    · exact (Ev.pos hx Ev.ret).eq (by rw [hx]; simp)
    · refine (Ev.neg hx (ih (i + 1) (by omega))).eq ?_
      rw [show (x == l.getD i 0) = false by simpa using fun e => hx e.symm, Bool.false_or]
theorem spec_l4Has_ev (l : List Int) (x : Int) (hl : l.length ≤ 1048576) : Ev (fun k => spec_l4Has.f k l x) (l.contains x) := spec_l4Has_l l x hl l.length 0 (by omega)

theorem spec_l4Put_l (l : List Int) (x : Int) (hl : l.length ≤ 1048576) : ∀ (m i : Nat) (o : List Int) (b : Bool), i + m = l.length → o.length ≤ i + (if b = true then 1 else 0) → Evp (fun k => spec_l4Put.p9 k l x o b (i : Int)) (fun r => r.length ≤ o.length + m + (if b = true then 0 else 1)) := by
  intro m
  induction m with
  | zero =>
    intro i o b h ho
    refine Evp.succ ?_
    simp only [spec_l4Put.p9]
    refine Evp.neg (by omega) ?_
    cases b with
    | true => exact Evp.pos rfl (Evp.ret (by simp))
    | false => simp at ho; exact Evp.neg (by decide) (Evp.pos (by simp only [lim_eq, List.length_cons, List.length_nil]; omega) (Evp.ret (by simp)))
  | succ m ih =>
    intro i o b h ho
    refine Evp.succ ?_
    simp only [spec_l4Put.p9]
    rw [wrap_up (i := i) (n := l.length) (by omega) (by omega)]
    refine Evp.pos (by omega) ?_
    cases b with
    | true =>
      simp at ho
      refine Evp.pos rfl (Evp.pos (by omega) (Evp.pos (by simp only [lim_eq, List.length_cons, List.length_nil]; omega) ?_))
      exact (ih (i + 1) _ true (by omega) (by simp; omega)).mono fun r hr => by simp at hr ⊢; omega
    | false =>
      simp at ho
      refine Evp.neg (by decide) (Evp.pos (by omega) (Evp.ite (fun _ => Evp.pos (by simp only [lim_eq, List.length_cons, List.length_nil]; omega) (Evp.pos (by omega) (Evp.pos (by simp only [lim_eq, List.length_append, List.length_cons, List.length_nil]; omega) ?_))) (fun _ => Evp.pos (by omega) (Evp.pos (by simp only [lim_eq, List.length_cons, List.length_nil]; omega) ?_))))
      · exact (ih (i + 1) _ true (by omega) (by simp; omega)).mono fun r hr => by simp at hr ⊢; omega
      · exact (ih (i + 1) _ false (by omega) (by simp; omega)).mono fun r hr => by simp at hr ⊢; omega
theorem spec_l4Put_d (l : List Int) (x : Int) (hl : l.length ≤ 1048576) : Evp (fun k => spec_l4Put.f k l x) (fun r => r.length ≤ l.length + 1) := by
  simp only [spec_l4Put.f]
  refine Evp.bindv (spec_l4Has_ev l x hl) ((spec_l4Put_l l x hl l.length 0 [] (l.contains x) (by omega) (by simp)).mono fun r hr => ?_)
  have h2 : (if l.contains x = true then 0 else 1) ≤ 1 := by split <;> omega
  simp only [List.length_nil] at hr
  omega
theorem spec_l4Put_ll (l : List Int) (x : Int) (hl : l.length ≤ 1048576) : ∀ (m i : Nat) (o : List Int) (b : Bool), i + m = l.length → o.length ≤ i + (if b = true then 1 else 0) → Ev (fun k => spec_l4Put.p9 k l x o b (i : Int)) (o ++ if b = true then l.drop i else insB (l.drop i) x) := by
  intro m
  induction m with
  | zero =>
    intro i o b h ho
    refine Ev.succ ?_
    simp only [spec_l4Put.p9]
    rw [List.drop_eq_nil_of_le (by omega)]
    refine Ev.neg (by omega) ?_
    cases b with
    | true => exact Ev.pos rfl (Ev.ret.eq (by simp))
    | false => simp at ho; exact Ev.neg (by decide) (Ev.pos (by simp only [lim_eq, List.length_cons, List.length_nil]; omega) (Ev.ret.eq (by simp [insB])))
  | succ m ih =>
    intro i o b h ho
    refine Ev.succ ?_
    simp only [spec_l4Put.p9, Int.toNat_natCast]
    rw [wrap_up (i := i) (n := l.length) (by omega) (by omega), drop_get (d := 0) (by omega : i < l.length)]
    refine Ev.pos (by omega) ?_
    cases b with
    | true =>
      simp at ho
      refine Ev.pos rfl (Ev.pos (by omega) (Ev.pos (by simp only [lim_eq, List.length_cons, List.length_nil]; omega) ?_))
      exact (ih (i + 1) _ true (by omega) (by simp; omega)).eq (by simp)
    | false =>
      simp at ho
      refine Ev.neg (by decide) (Ev.pos (by omega) ?_)
      by_cases hx : x < l.getD i 0
      · refine Ev.pos hx (Ev.pos (by simp only [lim_eq, List.length_cons, List.length_nil]; omega) (Ev.pos (by omega) (Ev.pos (by simp only [lim_eq, List.length_append, List.length_cons, List.length_nil]; omega) ?_)))
        exact (ih (i + 1) _ true (by omega) (by simp; omega)).eq (by (conv => rhs; unfold insB); rw [if_pos hx]; simp)
      · refine Ev.neg hx (Ev.pos (by omega) (Ev.pos (by simp only [lim_eq, List.length_cons, List.length_nil]; omega) ?_))
        exact (ih (i + 1) _ false (by omega) (by simp; omega)).eq (by (conv => rhs; unfold insB); rw [if_neg hx]; simp)
theorem spec_l4Put_ev (l : List Int) (x : Int) (hl : l.length ≤ 1048576) : Ev (fun k => spec_l4Put.f k l x) (insL l x) := by
  simp only [spec_l4Put.f]
  refine Ev.bind (spec_l4Has_ev l x hl) ((spec_l4Put_ll l x hl l.length 0 [] (l.contains x) (by omega) (by simp)).eq ?_)
  unfold insL
  simp

theorem spec_l1PickInt_d (c : l1Cur) (l : List Int) (h : Cu c) (hl : 0 < l.length) : Op (spec_l1PickInt.f c l) (fun r => r.1 ∈ l ∧ Cu r.2) := by
  unfold spec_l1PickInt.f
  refine Op.bind (spec_l1Below_d c _ h) fun r hr => ?_
  have h1 := hr.2.1 (by omega)
  exact Op.pos ⟨hr.1, h1⟩ (Op.ret ⟨getD_mem (by omega), hr.2.2.2⟩)

theorem spec_l4DrawNodes_l (n : Int) (a : Config) (hn : n ≤ 1048576) (ha : a.1.length ≤ 1048576) : ∀ (m i : Nat) (l : List Int) (c : l1Cur), (i : Int) + m = n → l.length ≤ i → Cu c →
    Evp (fun k => spec_l4DrawNodes.p9 k l n (i : Int) a c) (fun r => r.1.length ≤ i + m + 1 ∧ Cu r.2) := by
  intro m
  induction m with
  | zero =>
    intro i l c hi hl hc
    refine Evp.succ ?_
    simp only [spec_l4DrawNodes.p9]
    refine Evp.neg (by omega) (Evp.bindc (spec_l1Once_d c 20 hc) fun r hr => Evp.ite (fun _ => Evp.bindc (spec_l1PickInt_d _ _ hr (by simp)) fun s hs => Evp.pos (by simp only [lim_eq, List.length_cons, List.length_nil]; omega) (Evp.ret ⟨by simp; omega, hs.2⟩)) (fun _ => Evp.ret ⟨by show l.length ≤ _; omega, hr⟩))
  | succ m ih =>
    intro i l c hi hl hc
    refine Evp.succ ?_
    simp only [spec_l4DrawNodes.p9, spec_l1Max.f]
    refine Evp.pos (by omega) ?_
    have hm : ∃ z : Int, (if (1 : Int) < ((a.1.length : Nat) : Int) then some ((a.1.length : Nat) : Int) else some (1 : Int)) = some z := by split <;> exact ⟨_, rfl⟩
    obtain ⟨z, hz⟩ := hm
    simp only [hz, Option.bind_some]
    refine Evp.bindc (spec_l1Below_d c z hc) fun r hr => Evp.bind (spec_l4Put_d l r.1 (by omega)) fun s hs => ?_
    rw [wrap_up (i := i) (n := i + 1) (by omega) (by omega)]
    exact (ih (i + 1) s r.2 (by omega) (by omega) hr.2.2.2).mono fun q hq => ⟨by omega, hq.2⟩
theorem spec_l4DrawNodes_d (c : l1Cur) (a : Config) (h : Cu c) (ha : a.1.length ≤ 9) : Evp (fun k => spec_l4DrawNodes.f k c a) (fun r => r.1.length ≤ 12 ∧ Cu r.2) := by
  simp only [spec_l4DrawNodes.f]
  rw [wrap64_id (by omega) (by omega)]
  refine Evp.bindc (spec_l1Below_d c _ h) fun r hr => ?_
  have h1 := hr.2.1 (by omega)
  have h0 := hr.1
  exact (spec_l4DrawNodes_l r.1 a (by omega) (by omega) r.1.toNat 0 [] r.2 (by omega) (by simp) hr.2.2.2).mono fun q hq => ⟨by omega, hq.2⟩

theorem spec_l7DrawSet_l (a : Config) (ha : a.1.length ≤ 9) : ∀ (m i : Nat) (l : List Int) (c : l1Cur), i + m = a.1.length → l.length ≤ 12 + i → Cu c →
    Evp (fun k => spec_l7DrawSet.p7 k l (i : Int) a c) (fun r => r.1.length ≤ 24 ∧ Cu r.2) := by
  intro m
  induction m with
  | zero =>
    intro i l c hi hl hc
    refine Evp.succ ?_
    simp only [spec_l7DrawSet.p7]
    exact Evp.neg (by omega) (Evp.ret ⟨by show l.length ≤ 24; omega, hc⟩)
  | succ m ih =>
    intro i l c hi hl hc
    refine Evp.succ ?_
    simp only [spec_l7DrawSet.p7]
    refine Evp.pos (by omega) (Evp.bindv (spec_Holds_ev a l (by omega) (by omega)) (Evp.ite (fun _ => Evp.ret ⟨by show l.length ≤ 24; omega, hc⟩) (fun _ => Evp.bind (spec_l4Put_d l _ (by omega)) fun s hs => ?_)))
    rw [wrap_up (i := i) (n := i + 1) (by omega) (by omega)]
    exact ih (i + 1) s c (by omega) (by omega) hc
theorem spec_l7DrawSet_d (c : l1Cur) (a : Config) (h : Cu c) (ha : a.1.length ≤ 9) : Evp (fun k => spec_l7DrawSet.f k c a) (fun r => r.1.length ≤ 24 ∧ Cu r.2) := by
  simp only [spec_l7DrawSet.f]
  exact Evp.bind (spec_l4DrawNodes_d c a h ha) fun r hr => spec_l7DrawSet_l a ha a.1.length 0 r.1 r.2 (by omega) (by omega) hr.2

/-- The first epoch that is open, counted from one. -/
noncomputable def fO : List Era → Int → Int
  | [], _ => 0
  | e :: l, i => if e.2.1 = true then fO l (i + 1) else i + 1
theorem fO_or : ∀ (l : List Era) (i : Int), 0 ≤ i → fO l i = 0 ∨ (i + 1 ≤ fO l i ∧ fO l i ≤ i + l.length) := by
  intro l
  induction l with
  | nil => intro i _; exact .inl rfl
  | cons e l ih =>
    intro i hi
    simp only [fO, List.length_cons]
    split
    · rcases ih (i + 1) (by omega) with h | h
      · exact .inl h
      · exact .inr ⟨by omega, by omega⟩
    · exact .inr ⟨by omega, by omega⟩
theorem spec_FirstOpen_l (r : Register) (hl : r.1.length ≤ 1048576) : ∀ (m i : Nat), i + m = r.1.length → Ev (fun k => spec_FirstOpen.p5 k (i : Int) r) (fO (r.1.drop i) i) := by
  intro m
  induction m with
  | zero =>
    intro i hi
    refine Ev.succ ?_
    simp only [spec_FirstOpen.p5]
    rw [List.drop_eq_nil_of_le (by omega)]
    exact Ev.neg (by omega) Ev.ret
  | succ m ih =>
    intro i hi
    refine Ev.succ ?_
    simp only [spec_FirstOpen.p5, Int.toNat_natCast]
    rw [drop_get (d := zEra) (i := i) (l := r.1) (by omega), wrap_up (i := i) (n := r.1.length) (by omega) (by omega)]
    exact Ev.pos (by omega) (Ev.pos (by omega) (Ev.ite (fun _ => ih (i + 1) (by omega)) (fun _ => Ev.ret)))
theorem spec_FirstOpen_ev (r : Register) (hl : r.1.length ≤ 1048576) : Ev (fun k => spec_FirstOpen.f k r) (fO r.1 0) := spec_FirstOpen_l r hl r.1.length 0 (by omega)

theorem spec_EraNodes_at (r : Register) (i : Nat) (hi : i < r.1.length) (hl : r.1.length ≤ 1048576) (he : ∀ i, i < r.1.length → (r.1.getD i zEra).1.length ≤ 1048576) : spec_EraNodes.f r (((i + 1 : Nat)) : Int) = some (r.1.getD i zEra).1 := by
  have e1 : wrap64 ((((i + 1 : Nat)) : Int) - 1) = (i : Int) := by rw [wrap64_id (by omega) (by omega)]; omega
  simp only [spec_EraNodes.f, spec_l1In_is, Option.bind_some, e1, Int.toNat_natCast, List.nil_append]
  rw [if_pos (by rw [inB_true]; omega), if_pos (by omega)]
  have := he i hi
  show (if ((([] : List Int).length : Nat) : Int) + (((r.1.getD i zEra).1.length : Nat) : Int) ≤ lim then some (r.1.getD i zEra).1 else none) = _
  rw [if_pos (by simp only [lim_eq, List.length_nil]; omega)]

theorem spec_l1Pick_d (c : l1Cur) (l : List ByteArray) (h : Cu c) (hl : 0 < l.length) : Op (spec_l1Pick.f c l) (fun r => Cu r.2) := by
  unfold spec_l1Pick.f
  refine Op.bind (spec_l1Below_d c _ h) fun r hr => ?_
  have h1 := hr.2.1 (by omega)
  exact Op.pos ⟨hr.1, h1⟩ (Op.ret hr.2.2.2)

/-- A place: its epoch, its offset. -/
def placeOk (x : Int) : Bool := decide (0 < x) && (inB (x / 4294967296) 1 30 && inB (x % 4294967296) 1 60)
def epochOf (x : Int) : Int := if placeOk x = true then x / 4294967296 else 0
def offOf (x : Int) : Int := if placeOk x = true then x % 4294967296 else 0
theorem tdiv_pos {x : Int} (h : 0 ≤ x) : Int.tdiv x 4294967296 = x / 4294967296 := Int.tdiv_eq_ediv_of_nonneg h
theorem tmod_pos {x : Int} (h : 0 ≤ x) : Int.tmod x 4294967296 = x % 4294967296 := Int.tmod_eq_emod_of_nonneg h
theorem tdiv_neg' {x : Int} (h : x ≤ 0) : Int.tdiv x 4294967296 = -((-x) / 4294967296) := by
  have h1 : Int.tdiv (-x) 4294967296 = (-x) / 4294967296 := Int.tdiv_eq_ediv_of_nonneg (by omega)
  have h2 := Int.neg_tdiv (-x) 4294967296
  rw [Int.neg_neg] at h2
  rw [h2, h1]
theorem placeOk_pos {x : Int} (h : placeOk x = true) : 0 < x ∧ (1 ≤ x / 4294967296 ∧ x / 4294967296 ≤ 30) ∧ (1 ≤ x % 4294967296 ∧ x % 4294967296 ≤ 60) := by
  simpa only [placeOk, Bool.and_eq_true, inB_true, decide_eq_true_eq] using h
theorem epochOf_pos {x : Int} (h : placeOk x = true) : epochOf x = x / 4294967296 ∧ 1 ≤ epochOf x ∧ epochOf x ≤ 30 := by
  have h' := placeOk_pos h
  unfold epochOf
  rw [if_pos h]
  omega
theorem spec_PlaceOk_is (x : Int) (hx : InR x) : spec_PlaceOk.f x = some (placeOk x) := by
  have h2 := hx.2
  simp only [spec_PlaceOk.f, placeOk, spec_l1In_is]
  by_cases h : 0 < x
  · rw [if_pos h, tdiv_pos (by omega), tmod_pos (by omega), wrap64_id (by omega) (by omega)]
    cases inB (x / 4294967296) 1 30 <;> simp [h]
  · rw [if_neg h]
    simp [h]

theorem spec_EpochOf_is (x : Int) (hx : InR x) : spec_EpochOf.f x = some (epochOf x) := by
  have h2 := hx.2
  simp only [spec_EpochOf.f, spec_PlaceOk_is x hx, Option.bind_some, epochOf]
  by_cases h : placeOk x = true
  · have := placeOk_pos h
    rw [if_pos h, if_pos h, tdiv_pos (by omega), wrap64_id (by omega) (by omega)]
  · rw [if_neg h, if_neg h]

/-- An entry that is right. -/
noncomputable def entB (e : Entry) : Bool := placeOk e.1 && (inB e.2.1 0 30 && (!(decide (0 < e.2.1) && decide (e.2.1 ≤ epochOf e.1)) && (decide (((e.2.2.2.1.size : Nat) : Int) ≤ 40) && (!e.2.2.1 || (decide (0 < e.2.1) && decide (e.2.2.2.1 = (⟨#[]⟩ : ByteArray)))))))
theorem spec_EntryOk_ev (e : Entry) (ha : InR e.1) : Ev (fun k => spec_EntryOk.f k e) (entB e) := by
  have tail : Ev (fun k => spec_EntryOk.p6 k e) (!e.2.2.1 || (decide (0 < e.2.1) && decide (e.2.2.2.1 = (⟨#[]⟩ : ByteArray)))) := by
    refine Ev.succ ?_
    simp only [spec_EntryOk.p6]
    cases hc : e.2.2.1 with
    | true => exact Ev.pos rfl (Ev.andc fun _ => Ev.ret)
    | false => exact Ev.neg (by decide) Ev.ret
  have tail2 : Ev (fun k => if (40 : Int) < ((e.2.2.2.1.size : Nat) : Int) then some false else spec_EntryOk.p6 k e) (decide (((e.2.2.2.1.size : Nat) : Int) ≤ 40) && (!e.2.2.1 || (decide (0 < e.2.1) && decide (e.2.2.2.1 = (⟨#[]⟩ : ByteArray))))) :=
    (Ev.nand fun _ => tail).eq (by
      by_cases h : (40 : Int) < ((e.2.2.2.1.size : Nat) : Int)
      · rw [decide_eq_true h, decide_eq_false (show ¬ ((e.2.2.2.1.size : Nat) : Int) ≤ 40 by omega)]; rfl
      · rw [decide_eq_false h, decide_eq_true (show ((e.2.2.2.1.size : Nat) : Int) ≤ 40 by omega)]; rfl)
  simp only [spec_EntryOk.f, spec_PlaceOk_is _ ha, spec_EpochOf_is _ ha, spec_l1In_is, Option.bind_some, entB]
  refine Ev.and fun _ => Ev.and fun _ => ?_
  by_cases h0 : (0 : Int) < e.2.1
  · refine (Ev.pos h0 (Ev.nand fun _ => tail2)).eq ?_
    simp only [decide_eq_true h0, Bool.true_and]
  · rw [show (decide ((0 : Int) < e.2.1) && decide (e.2.1 ≤ epochOf e.1)) = false by rw [decide_eq_false h0]; rfl, Bool.not_false, Bool.true_and]
    exact Ev.neg h0 tail2

noncomputable def entsB (l : List Entry) : Bool := (List.range' 0 l.length).all fun i => entB (l.getD i zEnt)
theorem spec_l6List_ev (l : List Entry) (n : Int) (hl : l.length ≤ 1048576) (ha : ∀ i, i < l.length → InR (l.getD i zEnt).1) : Ev (fun k => spec_l6List.f k l n) (!decide (n < ((l.length : Nat) : Int)) && entsB l) := by
  have h := all_loop (n := l.length) (p := fun k i => spec_l6List.p9 k l i) (q := fun i => entB (l.getD i zEnt)) (zb := true) (fun i hi b hb => by
    simp only [spec_l6List.p9, Int.toNat_natCast]
    rw [wrap_up hi (by omega)]
    exact Ev.pos (by omega) (Ev.pos (by omega) (Ev.bind (spec_EntryOk_ev _ (ha i hi)) (Ev.and fun _ => hb)))) (by
    simp only [spec_l6List.p9]
    exact Ev.neg (by omega) Ev.ret) l.length 0 (by omega)
  rw [Bool.and_true] at h
  simp only [spec_l6List.f]
  exact Ev.nand fun _ => h

theorem spec_l6Asc_ev (l : List Entry) (hl : l.length ≤ 1048576) : Ev (fun k => spec_l6Asc.f k l) (ascE l) := by
  have h := all_loop (n := l.length) (p := fun k i => if i = 0 then spec_l6Asc.p5 k l 1 else spec_l6Asc.p5 k l i) (q := fun i => !(decide (0 < i) && decide ((l.getD i zEnt).1 ≤ (l.getD (i - 1) zEnt).1))) (zb := true) (fun i hi b hb => by
    by_cases h0 : i = 0
    · subst h0
      refine (Ev.pos rfl ?_).eq (v := b) (by rfl)
      have hb' : Ev (fun k => spec_l6Asc.p5 k l 1) b := hb.cg fun k => (if_neg (by decide)).symm
      obtain ⟨K, hK⟩ := hb'
      exact ⟨K, fun k hk => hK (k + 1) (by omega)⟩
    · refine Ev.neg (by omega) ?_
      have hb' : Ev (fun k => spec_l6Asc.p5 k l (((i + 1 : Nat)) : Int)) b := hb.cg fun k => (if_neg (by omega)).symm
      have e2 : wrap64 ((i : Int) - 1) = ((i - 1 : Nat) : Int) := by rw [wrap64_id (by omega) (by omega)]; omega
      simp only [spec_l6Asc.p5, e2, Int.toNat_natCast]
      rw [wrap_up hi (by omega), decide_eq_true (show 0 < i by omega), Bool.true_and]
      exact Ev.pos (by omega) (Ev.pos (by omega) (Ev.pos (by omega) (Ev.nand fun _ => hb')))) (by
    by_cases h0 : l.length = 0
    · refine Ev.pos (by omega) ?_
      simp only [spec_l6Asc.p5]
      exact Ev.neg (by omega) Ev.ret
    · refine Ev.neg (by omega) ?_
      simp only [spec_l6Asc.p5]
      exact Ev.neg (by omega) Ev.ret) l.length 0 (by omega)
  rw [Bool.and_true] at h
  exact h.cg fun k => (if_pos rfl).symm

noncomputable def storeB (s : Store) : Bool := decide (((s.1.length : Nat) : Int) ≤ 200) && (entsB s.1 && (decide (((s.2.1.length : Nat) : Int) ≤ 20) && (entsB s.2.1 && (ascE s.1 && inB s.2.2.1 0 30))))
theorem ndec (a b : Int) : (!decide (a < b)) = decide (b ≤ a) := by
  by_cases h : a < b
  · rw [decide_eq_true h, decide_eq_false (by omega)]; rfl
  · rw [decide_eq_false h, decide_eq_true (by omega)]; rfl
theorem spec_StoreOk_ev (s : Store) (h1 : s.1.length ≤ 1048576) (h2 : s.2.1.length ≤ 1048576) (a1 : ∀ i, i < s.1.length → InR (s.1.getD i zEnt).1) (a2 : ∀ i, i < s.2.1.length → InR (s.2.1.getD i zEnt).1) : Ev (fun k => spec_StoreOk.f k s) (storeB s) := by
  have e1 := spec_l6List_ev s.1 200 h1 a1
  have e2 := spec_l6List_ev s.2.1 20 h2 a2
  simp only [spec_StoreOk.f, spec_l1In_is, Option.bind_some, storeB]
  rw [ndec] at e1 e2
  refine (Ev.bind e1 (Ev.and fun _ => Ev.bind e2 (Ev.and fun _ => Ev.bind (spec_l6Asc_ev s.1 h1) (Ev.and fun _ => Ev.ret)))).eq ?_
  simp only [Bool.and_assoc]
theorem StG.ok {l : List Store} (h : StG l) {i : Nat} (hi : i < l.length) : Ev (fun k => spec_StoreOk.f k (l.getD i zSto)) (storeB (l.getD i zSto)) := by
  have := h.2 _ (getD_mem (d := zSto) hi)
  exact spec_StoreOk_ev _ this.1.1 this.2.1.1 this.1.at this.2.1.at
noncomputable def fillS (l : List Store) (upto : Int) : Store := (unionL [] l, (([] : List Entry), (upto, ())))
noncomputable def fillG (l : List Store) (upto : Int) : Store × Bool := if l.all storeB = true then (if storeB (fillS l upto) = true then (fillS l upto, true) else (zSto, false)) else (zSto, false)
theorem unionL_EG (l : List Store) (h : StG l) (hk : ktS l ≤ 1048576) : EG 1048576 (unionL [] l) := by
  refine ⟨by have := unionL_len l []; simp at this; omega, ?_⟩
  have key : ∀ (l : List Store) (s : List Entry), (∀ t ∈ l, ∀ e ∈ t.1, InR e.1) → (∀ e ∈ s, InR e.1) → ∀ e ∈ unionL s l, InR e.1 := by
    intro l
    induction l with
    | nil => intro s _ hs; exact hs
    | cons t l ih =>
      intro s hl hs
      refine ih _ (fun t ht => hl t (List.mem_cons_of_mem _ ht)) ?_
      have hk : ∀ (r s : List Entry), (∀ e ∈ r, InR e.1) → (∀ e ∈ s, InR e.1) → ∀ e ∈ keepsL s r, InR e.1 := by
        intro r
        induction r with
        | nil => intro s _ hs; exact hs
        | cons x r ihr =>
          intro s hr hs
          refine ihr _ (fun e he => hr e (List.mem_cons_of_mem _ he)) fun e he => ?_
          rcases keepL_mem he with rfl | he
          · exact hr _ List.mem_cons_self
          · exact hs e he
      exact hk t.1 s (hl t List.mem_cons_self) hs
  exact key l [] (fun t ht => (h.2 t ht).1.2) (fun e he => by cases he)

noncomputable def zeroB (s : Store) : Bool := decide (s.1.length = 0) && (decide (s.2.1.length = 0) && decide (s.2.2.1 = 0))
theorem spec_l12Zero_is (s : Store) : spec_l12Zero.f s = some (zeroB s) := by
  simp only [spec_l12Zero.f]
  unfold zeroB
  by_cases h1 : s.1.length = 0
  · rw [if_pos (by omega), decide_eq_true h1, Bool.true_and]
    by_cases h2 : s.2.1.length = 0
    · rw [if_pos (by omega), decide_eq_true h2, Bool.true_and]
    · rw [if_neg (by omega), decide_eq_false h2, Bool.false_and]
  · rw [if_neg (by omega), decide_eq_false h1, Bool.false_and]

noncomputable def storeAt (w : World) (i : Nat) : Bool := storeB (w.2.1.getD i zSto) && (!w.2.2.1.contains (i : Int) || zeroB (w.2.1.getD i zSto))
noncomputable def nodesW (w : World) : Bool := cfgB w.1 && (decide (w.2.1.length = w.1.1.length) && (nodesB w.1 w.2.2.1 && ((!holdsB w.1 w.2.2.1 || w.2.2.2.2.2.2.2.2.1) && (List.range' 0 w.2.1.length).all (storeAt w))))
theorem Ev.orb {b c : Bool} {A : Nat → Option Bool} {B : Nat → Option Bool} {v : Bool} (h1 : b = true → Ev A (c && v)) (h2 : b = false → Ev B v) : Ev (fun k => if b = true then A k else B k) ((!b || c) && v) := by
  cases b with
  | true => exact (Ev.pos rfl (h1 rfl)).eq (by simp)
  | false => exact (Ev.neg (by decide) (h2 rfl)).eq (by simp)
theorem spec_l12Nodes_ev (w : World) (g : WG w) : Ev (fun k => spec_l12Nodes.f k w) (nodesW w) := by
  have hl := g.st.1
  have h9 : Ev (fun k => spec_l12Nodes.p9 k (0 : Int) w) ((List.range' 0 w.2.1.length).all (storeAt w)) :=
    (all_loop (n := w.2.1.length) (p := fun k i => spec_l12Nodes.p9 k i w) (q := storeAt w) (zb := true) (fun i hi b hb => by
      simp only [spec_l12Nodes.p9, Int.toNat_natCast, spec_l12Zero_is, Option.bind_some]
      rw [wrap_up hi (by omega)]
      unfold storeAt
      rw [Bool.and_assoc]
      refine Ev.pos (by omega) (Ev.pos (by omega) (Ev.bind (g.st.ok hi) (Ev.and fun _ => Ev.bind (spec_l4Has_ev w.2.2.1 (i : Int) g.lo) (Ev.orb (fun _ => Ev.pos (by omega) (Ev.and fun _ => hb)) (fun _ => hb)))))) (by
      simp only [spec_l12Nodes.p9]
      exact Ev.neg (by omega) Ev.ret) w.2.1.length 0 (by omega)).eq (Bool.and_true _)
  have h6 : Ev (fun k => spec_l12Nodes.p6 k w) ((List.range' 0 w.2.1.length).all (storeAt w)) := Ev.succ (by simp only [spec_l12Nodes.p6]; exact h9)
  simp only [spec_l12Nodes.f]
  unfold nodesW
  refine Ev.bind (spec_ConfigOk_ev w.1 g.c) (Ev.and fun _ => ?_)
  by_cases he : w.2.1.length = w.1.1.length
  · rw [decide_eq_true he, Bool.true_and]
    refine Ev.pos (by omega) (Ev.bind (spec_NodesOk_ev w.1 w.2.2.1 g.c g.lo) (Ev.and fun _ => Ev.bind (spec_Holds_ev w.1 w.2.2.1 g.c g.lo) (Ev.orb (fun _ => ?_) (fun _ => h6))))
    exact Ev.and fun _ => h6
  · rw [decide_eq_false he, Bool.false_and]
    exact Ev.neg (by omega) Ev.ret

/-- An era that is right by itself; one of a register; what is given up. -/
noncomputable def eraB (a : Config) (e : Era) : Bool := holdsB a e.1 && (inB e.2.2.1 0 60 && (e.2.1 || decide (e.2.2.1 = 0)))
noncomputable def eraAt (a : Config) (l : List Era) (i : Nat) : Bool := eraB a (l.getD i zEra) && (!(l.getD i zEra).2.1 || (!decide (i = l.length - 1) && (decide (i = 0) || (l.getD (i - 1) zEra).2.1)))
noncomputable def erasB (a : Config) (l : List Era) : Bool := (List.range' 0 l.length).all (eraAt a l)
noncomputable def trimB (n : Nat) (t : Int) : Bool := decide (t = 0) || inB (epochOf t) 1 n
noncomputable def regB (a : Config) (r : Register) : Bool := cfgB a && (decide (((r.1.length : Nat) : Int) ≤ 30) && (trimB r.1.length r.2.1 && erasB a r.1))
theorem trimB_is (n : Nat) (t : Int) : trimB n t = (decide (t = 0) || (placeOk t && !decide ((n : Int) < epochOf t))) := by
  unfold trimB
  by_cases h : placeOk t = true
  · obtain ⟨_, h1, h2⟩ := epochOf_pos h
    rw [h]
    by_cases h3 : (n : Int) < epochOf t
    · rw [decide_eq_true h3, show inB (epochOf t) 1 n = false by rw [Bool.eq_false_iff]; intro he; rw [inB_true] at he; omega]
      simp
    · rw [decide_eq_false h3, show inB (epochOf t) 1 n = true by rw [inB_true]; omega]
      simp
  · have h0 : epochOf t = 0 := by unfold epochOf; rw [if_neg h]
    rw [h0, show inB 0 1 n = false by rw [Bool.eq_false_iff]; intro he; rw [inB_true] at he; omega]
    cases hp : placeOk t
    · simp
    · exact absurd hp h
theorem spec_RegOk_l (a : Config) (r : Register) (ha : a.1.length ≤ 1048576) (hl : r.1.length ≤ 1048576) (he : ∀ i, i < r.1.length → (r.1.getD i zEra).1.length ≤ 1048576) : Ev (fun k => spec_RegOk.p11 k ((r.1.length : Nat) : Int) ((0 : Nat) : Int) a r) (erasB a r.1) := by
  have h := all_loop (n := r.1.length) (p := fun k i => spec_RegOk.p11 k ((r.1.length : Nat) : Int) i a r) (q := eraAt a r.1) (zb := true) (fun i hi b hb => by
    simp only [spec_RegOk.p11, spec_l1In_is, Int.toNat_natCast]
    have hz := he i hi
    have hw : wrap64 ((i : Int) + 1) = ((i + 1 : Nat) : Int) := wrap_up hi (by omega)
    unfold eraAt eraB
    change Ev (fun k => if (i : Int) < ((r.1.length : Nat) : Int) then _ else _) _
    refine Ev.pos (by omega) (Ev.pos (by omega) (Ev.bind (spec_Holds_ev a _ ha hz) ?_))
    rw [Bool.and_assoc, Bool.and_assoc, Bool.and_assoc]
    change Ev (fun k => if holdsB a (r.1.getD i zEra).1 = true then _ else some false) _
    refine Ev.and fun _ => Ev.bindc rfl (Ev.and fun _ => ?_)
    -- behind the checks of the era itself
    have tail : ∀ (p q u v w x : Bool) (z : Int), Ev (fun k => spec_RegOk.p20 k ((r.1.length : Nat) : Int) (i : Int) z p q u v w x a r (r.1.getD i zEra)) ((!(r.1.getD i zEra).2.1 || (!decide (i = r.1.length - 1) && (decide (i = 0) || (r.1.getD (i - 1) zEra).2.1))) && b) := by
      intro p q u v w x z
      refine Ev.succ ?_
      simp only [spec_RegOk.p20, hw]
      by_cases hc : (r.1.getD i zEra).2.1 = true
      · refine Ev.pos hc ?_
        have e1 : wrap64 (((r.1.length : Nat) : Int) - 1) = ((r.1.length - 1 : Nat) : Int) := by rw [wrap64_id (by omega) (by omega)]; omega
        rw [e1, hc, Bool.not_true, Bool.false_or, Bool.and_assoc]
        by_cases hq : i = r.1.length - 1
        · rw [decide_eq_true hq]
          exact Ev.pos (by omega) Ev.ret
        · rw [decide_eq_false hq]
          refine Ev.neg (by omega) ?_
          by_cases h0 : i = 0
          · subst h0
            exact (Ev.neg (by omega) hb).eq (by rfl)
          · have e2 : wrap64 ((i : Int) - 1) = ((i - 1 : Nat) : Int) := by rw [wrap64_id (by omega) (by omega)]; omega
            rw [e2, decide_eq_false h0]
            refine Ev.pos (by omega) (Ev.pos (by omega) ?_)
            exact (Ev.and fun _ => hb).eq (by rfl)
      · refine (Ev.neg hc hb).eq ?_
        simp only [Bool.not_eq_true] at hc
        rw [hc]; rfl
    by_cases hc : (r.1.getD i zEra).2.1 = true
    · exact (Ev.pos hc (tail _ _ _ _ _ _ _)).eq (by rw [hc]; rfl)
    · refine (Ev.neg hc (Ev.andc (b := (!(r.1.getD i zEra).2.1 || (!decide (i = r.1.length - 1) && (decide (i = 0) || (r.1.getD (i - 1) zEra).2.1))) && b) fun hz => tail _ _ _ _ _ _ _)).eq ?_
      simp only [Bool.not_eq_true] at hc
      rw [hc]; rfl) (by
    simp only [spec_RegOk.p11]
    exact Ev.neg (by omega) Ev.ret) r.1.length 0 (by omega)
  exact h.eq (by unfold erasB; rw [Bool.and_true])
theorem spec_RegOk_ev (a : Config) (r : Register) (ht : InR r.2.1) (ha : a.1.length ≤ 1048576) (hl : r.1.length ≤ 1048576) (he : ∀ i, i < r.1.length → (r.1.getD i zEra).1.length ≤ 1048576) : Ev (fun k => spec_RegOk.f k a r) (regB a r) := by
  have hp8 : Ev (fun k => spec_RegOk.p8 k ((r.1.length : Nat) : Int) a r) (erasB a r.1) := Ev.succ (Ev.cg (spec_RegOk_l a r ha hl he) fun k => rfl)
  simp only [spec_RegOk.f, regB, spec_PlaceOk_is _ ht, spec_EpochOf_is _ ht, Option.bind_some]
  refine Ev.bind (spec_ConfigOk_ev a ha) (Ev.and fun _ => ?_)
  by_cases h30 : (30 : Int) < ((r.1.length : Nat) : Int)
  · refine (Ev.pos h30 Ev.ret).eq ?_
    rw [decide_eq_false (by omega)]; rfl
  · refine Ev.neg h30 ?_
    rw [decide_eq_true (by omega), Bool.true_and, trimB_is]
    by_cases h0 : r.2.1 = 0
    · exact (Ev.pos h0 hp8).eq (by rw [decide_eq_true h0]; rfl)
    · refine Ev.neg h0 ?_
      rw [decide_eq_false h0, Bool.false_or, Bool.and_assoc]
      exact Ev.and fun _ => Ev.nand fun _ => hp8

noncomputable def zWord : Word := ((⟨#[]⟩ : ByteArray), (([] : List Int), (false, ())))
noncomputable def wordB (a : Config) (w : Word) : Bool := !decide ((40 : Int) < ((w.1.size : Nat) : Int)) && (nodesB a w.2.1 && decide (holdsB a w.2.1 = w.2.2.1))
noncomputable def undone : List Word → Int
  | [] => 0
  | w :: l => (if w.2.2.1 = true then 0 else 1) + undone l
theorem undone_t {w : Word} {l : List Word} (h : w.2.2.1 = true) : undone (w :: l) = undone l := by
  show (if w.2.2.1 = true then (0 : Int) else 1) + undone l = undone l
  rw [if_pos h, Int.zero_add]
theorem undone_f {w : Word} {l : List Word} (h : ¬ w.2.2.1 = true) : undone (w :: l) = 1 + undone l := by
  show (if w.2.2.1 = true then (0 : Int) else 1) + undone l = 1 + undone l
  rw [if_neg h]
noncomputable def writerB (a : Config) (w : Writer) : Bool := cfgB a && (inB w.1 1 30 && (!decide ((60 : Int) < ((w.2.1.length : Nat) : Int)) && (w.2.1.all (wordB a) && decide (undone w.2.1 ≤ 6))))
theorem spec_WriterOk_l (a : Config) (w : Writer) (ha : a.1.length ≤ 1048576) (hl : w.2.1.length ≤ 4194304) (he : ∀ i, i < w.2.1.length → (w.2.1.getD i zWord).2.1.length ≤ 1048576) : ∀ (m i : Nat) (n : Int), i + m = w.2.1.length → 0 ≤ n → n ≤ i →
    Ev (fun k => spec_WriterOk.p11 k n (i : Int) a w) ((w.2.1.drop i).all (wordB a) && decide (n + undone (w.2.1.drop i) ≤ 6)) := by
  intro m
  induction m with
  | zero =>
    intro i n h h0 h1
    refine Ev.succ ?_
    simp only [spec_WriterOk.p11]
    rw [List.drop_eq_nil_of_le (by omega)]
    exact (Ev.neg (by omega) Ev.ret).eq (by simp [undone])
  | succ m ih =>
    intro i n h h0 h1
    have hi : i < w.2.1.length := by omega
    have hz := he i hi
    refine Ev.succ ?_
    simp only [spec_WriterOk.p11, Int.toNat_natCast]
    rw [drop_get (d := zWord) hi, List.all_cons]
    simp only [wordB]
    rw [wrap_up hi (by omega), wrap64_id (x := n + 1) (by omega) (by omega), Bool.and_assoc, Bool.and_assoc, Bool.and_assoc]
    refine Ev.pos (by omega) (Ev.pos (by omega) ?_)
    change Ev (fun k => if (40 : Int) < (((w.2.1.getD i zWord).1.size : Nat) : Int) then some false else (spec_NodesOk.f k a (w.2.1.getD i zWord).2.1).bind fun r3 => if r3 = true then ((spec_Holds.f k a (w.2.1.getD i zWord).2.1).bind fun r4 => if r4 = (w.2.1.getD i zWord).2.2.1 then (if (w.2.1.getD i zWord).2.2.1 = true then spec_WriterOk.p11 k n ((i + 1 : Nat) : Int) a w else spec_WriterOk.p11 k (n + 1) ((i + 1 : Nat) : Int) a w) else some false) else some false) _
    refine Ev.nand fun _ => Ev.bind (spec_NodesOk_ev a _ ha hz) (Ev.and fun _ => Ev.bind (spec_Holds_ev a _ ha hz) (Ev.andc fun _ => ?_))
    by_cases hd : (w.2.1.getD i zWord).2.2.1 = true
    · refine Ev.pos hd ((ih (i + 1) n (by omega) h0 (by omega)).eq ?_)
      rw [undone_t hd]
    · refine Ev.neg hd ((ih (i + 1) (n + 1) (by omega) (by omega) (by omega)).eq ?_)
      rw [undone_f hd, Int.add_assoc]
theorem spec_WriterOk_ev (a : Config) (w : Writer) (ha : a.1.length ≤ 1048576) (hl : w.2.1.length ≤ 4194304) (he : ∀ i, i < w.2.1.length → (w.2.1.getD i zWord).2.1.length ≤ 1048576) : Ev (fun k => spec_WriterOk.f k a w) (writerB a w) := by
  simp only [spec_WriterOk.f, spec_l1In_is, writerB]
  refine Ev.bind (spec_ConfigOk_ev a ha) (Ev.and fun _ => Ev.bindc rfl (Ev.and fun _ => Ev.nand fun _ => ?_))
  have := spec_WriterOk_l a w ha hl he w.2.1.length 0 0 (by omega) (by omega) (by omega)
  rw [List.drop_zero, Int.zero_add] at this
  exact this

theorem spec_OffOf_is (x : Int) (hx : InR x) : spec_OffOf.f x = some (offOf x) := by
  simp only [spec_OffOf.f, spec_PlaceOk_is x hx, Option.bind_some, offOf]
  by_cases h : placeOk x = true
  · have := placeOk_pos h
    rw [if_pos h, if_pos h, tmod_pos (by omega)]
  · rw [if_neg h, if_neg h]

/-- The last offset seen. -/
noncomputable def lastB (m : Mend) : Int := if m.2.2.2.1.length = 0 then 0 else offOf (m.2.2.2.1.getD (m.2.2.2.1.length - 1) zEnt).1
theorem lastB_le (m : Mend) : 0 ≤ lastB m ∧ lastB m ≤ 60 := by
  unfold lastB
  split
  · omega
  · unfold offOf
    split
    · rename_i h; have := placeOk_pos h; omega
    · omega
theorem spec_l9Last_is (m : Mend) (hl : m.2.2.2.1.length ≤ 1048576) (h : ∀ i, InR (m.2.2.2.1.getD i zEnt).1) : spec_l9Last.f m = some (lastB m) := by
  unfold spec_l9Last.f lastB
  by_cases h0 : m.2.2.2.1.length = 0
  · rw [if_pos (by omega), if_pos h0]
  · have e : wrap64 (((m.2.2.2.1.length : Nat) : Int) - 1) = ((m.2.2.2.1.length - 1 : Nat) : Int) := by rw [wrap64_id (by omega) (by omega)]; omega
    rw [if_neg (by omega), if_neg h0, e, if_pos (by omega), Int.toNat_natCast]
    exact (congrArg (fun x => x.bind fun r => some r) (spec_OffOf_is _ (h _))).trans rfl

noncomputable def seenAt (m : Mend) (i : Nat) : Bool := entB (m.2.2.2.1.getD i zEnt) && (decide (epochOf (m.2.2.2.1.getD i zEnt).1 = m.2.1) && !decide (m.1 ≤ (m.2.2.2.1.getD i zEnt).2.1))
noncomputable def seenB (m : Mend) : Bool := (List.range' 0 m.2.2.2.1.length).all (seenAt m)
noncomputable def holdB (a : Config) (m : Mend) : Bool := (List.range' 0 m.2.2.2.2.2.1.length).all fun i => nodesB a (m.2.2.2.2.2.1.getD i [])
/-- A mend that is right. -/
noncomputable def mendB (a : Config) (m : Mend) : Bool := cfgB a && (inB m.2.1 1 30 && (inB m.1 (m.2.1 + 1) 30 && (nodesB a m.2.2.1 && (ascE m.2.2.2.1 && (seenB m && (holdB a m && decide (((m.2.2.2.2.2.1.length : Nat) : Int) = if m.2.2.2.2.1 = true then lastB m else 0)))))))
theorem spec_MendOk_ev {s n h w : Nat} (a : Config) (m : Mend) (ha : a.1.length ≤ 1048576) (hs : s ≤ 1048576) (hn : n ≤ 1048576) (hh : h ≤ 1048576) (hw : w ≤ 1048576) (g : MG s n h w m) : Ev (fun k => spec_MendOk.f k a m) (mendB a m) := by
  obtain ⟨g1, g2, g3, g4, g5⟩ := g
  have l2 := g2.1
  have h19 : Ev (fun k => spec_MendOk.p19 k (0 : Int) a m) (holdB a m && decide (((m.2.2.2.2.2.1.length : Nat) : Int) = if m.2.2.2.2.1 = true then lastB m else 0)) :=
    all_loop (n := m.2.2.2.2.2.1.length) (p := fun k i => spec_MendOk.p19 k i a m) (q := fun i => nodesB a (m.2.2.2.2.2.1.getD i [])) (fun i hi b hb => by
      simp only [spec_MendOk.p19, Int.toNat_natCast]
      rw [wrap_up hi (by omega)]
      exact Ev.pos (by omega) (Ev.pos (by omega) (Ev.bind (spec_NodesOk_ev a _ ha (by have := g3.2 _ (getD_mem (d := []) hi); omega)) (Ev.and fun _ => hb)))) (by
      simp only [spec_MendOk.p19, spec_l9Last_is m (by omega) g2.get, Option.bind_some]
      refine Ev.neg (by omega) ?_
      by_cases hp : m.2.2.2.2.1 = true
      · exact (Ev.pos hp Ev.ret).eq (by rw [if_pos hp])
      · exact (Ev.neg hp Ev.ret).eq (by rw [if_neg hp])) m.2.2.2.2.2.1.length 0 (by omega)
  have h9 : Ev (fun k => spec_MendOk.p9 k (0 : Int) a m) (seenB m && (holdB a m && decide (((m.2.2.2.2.2.1.length : Nat) : Int) = if m.2.2.2.2.1 = true then lastB m else 0))) :=
    all_loop (n := m.2.2.2.1.length) (p := fun k i => spec_MendOk.p9 k i a m) (q := seenAt m) (fun i hi b hb => by
      simp only [spec_MendOk.p9, Int.toNat_natCast]
      rw [wrap_up hi (by omega)]
      unfold seenAt
      rw [Bool.and_assoc, Bool.and_assoc]
      exact Ev.pos (by omega) (Ev.pos (by omega) (Ev.bind (spec_EntryOk_ev _ (g2.get i)) (Ev.and fun _ => Ev.pos (by omega) (Ev.bind (Ev.of (spec_EpochOf_is _ (g2.get i))) (Ev.andc fun _ => Ev.pos (by omega) (Ev.nand fun _ => hb)))))) ) (by
      simp only [spec_MendOk.p9]
      exact Ev.neg (by omega) h19) m.2.2.2.1.length 0 (by omega)
  simp only [spec_MendOk.f, spec_l1In_is, Option.bind_some, mendB]
  refine Ev.bind (spec_ConfigOk_ev a ha) (Ev.and fun _ => Ev.and fun h1 => ?_)
  rw [inB_true] at h1
  rw [wrap64_id (by omega) (by omega)]
  exact Ev.and fun _ => Ev.bind (spec_NodesOk_ev a _ ha (by omega)) (Ev.and fun _ => Ev.bind (spec_l6Asc_ev _ (by omega)) (Ev.and fun _ => h9))
theorem mendB_parts {a : Config} {m : Mend} (h : mendB a m = true) : cfgB a = true ∧ (1 ≤ m.2.1 ∧ m.2.1 ≤ 30) ∧ (m.2.1 + 1 ≤ m.1 ∧ m.1 ≤ 30) ∧ nodesB a m.2.2.1 = true ∧ ascE m.2.2.2.1 = true ∧ seenB m = true ∧ (∀ i, i < m.2.2.2.2.2.1.length → nodesB a (m.2.2.2.2.2.1.getD i []) = true) ∧ ((m.2.2.2.2.2.1.length : Nat) : Int) = if m.2.2.2.2.1 = true then lastB m else 0 := by
  simp only [mendB, Bool.and_eq_true, inB_true, decide_eq_true_eq] at h
  refine ⟨h.1, h.2.1, h.2.2.1, h.2.2.2.1, h.2.2.2.2.1, h.2.2.2.2.2.1, fun i hi => ?_, h.2.2.2.2.2.2.2⟩
  have := h.2.2.2.2.2.2.1
  simp only [holdB, List.all_eq_true, List.mem_range'_1] at this
  exact this i (by omega)
theorem mendB_wrote {a : Config} {m : Mend} {l : List (List Int)} (h : mendB a m = true) (hl : l.length = m.2.2.2.2.2.1.length) (hn : ∀ x ∈ l, nodesB a x = true) : mendB a (m.1, (m.2.1, (m.2.2.1, (m.2.2.2.1, (m.2.2.2.2.1, (l, ())))))) = true := by
  simp only [mendB, Bool.and_eq_true] at h ⊢
  refine ⟨h.1, h.2.1, h.2.2.1, h.2.2.2.1, h.2.2.2.2.1, h.2.2.2.2.2.1, ?_, ?_⟩
  · simp only [holdB, List.all_eq_true, List.mem_range'_1]
    intro i hi
    exact hn _ (getD_mem (by omega))
  · have h8 := h.2.2.2.2.2.2.2
    rw [decide_eq_true_eq] at h8 ⊢
    show ((l.length : Nat) : Int) = if m.2.2.2.2.1 = true then lastB m else 0
    rw [hl]; exact h8

noncomputable def writerAt (w : World) (i : Nat) : Bool := writerB w.1 (w.2.2.2.2.1.getD i zWr) && (!decide (((w.2.2.2.1.1.length : Nat) : Int) < (w.2.2.2.2.1.getD i zWr).1) && (decide (i = 0) || !decide ((w.2.2.2.2.1.getD i zWr).1 ≤ (w.2.2.2.2.1.getD (i - 1) zWr).1)))
noncomputable def mendAt (w : World) (i : Nat) : Bool := mendB w.1 (w.2.2.2.2.2.1.getD i zMd) && (decide ((w.2.2.2.2.2.1.getD i zMd).1 = ((w.2.2.2.1.1.length : Nat) : Int)) && decide ((w.2.2.2.2.2.1.getD i zMd).2.1 = fO w.2.2.2.1.1 0))
noncomputable def epochsW (w : World) : Bool := regB w.1 w.2.2.2.1 && (!decide ((4 : Int) < ((w.2.2.2.2.1.length : Nat) : Int)) && (!decide ((1 : Int) < ((w.2.2.2.2.2.1.length : Nat) : Int)) && ((List.range' 0 w.2.2.2.2.1.length).all (writerAt w) && (List.range' 0 w.2.2.2.2.2.1.length).all (mendAt w))))
theorem WG.era {w : World} (g : WG w) : ∀ i, i < w.2.2.2.1.1.length → (w.2.2.2.1.1.getD i zEra).1.length ≤ 1048576 := fun i hi => g.re _ (getD_mem hi)
theorem WG.writer {w : World} (g : WG w) {i : Nat} (hi : i < w.2.2.2.2.1.length) : (w.2.2.2.2.1.getD i zWr).2.1.length ≤ 4194304 ∧ ∀ j, j < (w.2.2.2.2.1.getD i zWr).2.1.length → ((w.2.2.2.2.1.getD i zWr).2.1.getD j zWord).2.1.length ≤ 1048576 :=
  ⟨by have := (g.we _ (getD_mem (d := zWr) hi)).1; omega, fun j hj => (g.we _ (getD_mem (d := zWr) hi)).2 _ (getD_mem hj)⟩
theorem spec_l12Epochs_ev (w : World) (g : WG w) : Ev (fun k => spec_l12Epochs.f k w) (epochsW w) := by
  have hwl := g.wl; have hml := g.ml; have hrl := g.rl
  have h21 : Ev (fun k => spec_l12Epochs.p21 k ((w.2.2.2.1.1.length : Nat) : Int) (0 : Int) w) ((List.range' 0 w.2.2.2.2.2.1.length).all (mendAt w)) :=
    (all_loop (n := w.2.2.2.2.2.1.length) (p := fun k i => spec_l12Epochs.p21 k ((w.2.2.2.1.1.length : Nat) : Int) i w) (q := mendAt w) (zb := true) (fun i hi b hb => by
      simp only [spec_l12Epochs.p21, Int.toNat_natCast]
      rw [wrap_up hi (by omega)]
      unfold mendAt
      rw [Bool.and_assoc, Bool.and_assoc]
      exact Ev.pos (by omega) (Ev.pos (by omega) (Ev.bind (spec_MendOk_ev w.1 (w.2.2.2.2.2.1.getD i zMd) g.c (Nat.le_refl _) (Nat.le_refl _) (Nat.le_refl _) (Nat.le_refl _) (g.me _ (getD_mem hi))) (Ev.and fun _ => Ev.andc fun _ => Ev.bind (spec_FirstOpen_ev w.2.2.2.1 g.rl) (Ev.andc fun _ => hb))))) (by
      simp only [spec_l12Epochs.p21]
      exact Ev.neg (by omega) Ev.ret) w.2.2.2.2.2.1.length 0 (by omega)).eq (Bool.and_true _)
  have h11 : Ev (fun k => spec_l12Epochs.p11 k ((w.2.2.2.1.1.length : Nat) : Int) (0 : Int) w) ((List.range' 0 w.2.2.2.2.1.length).all (writerAt w) && (List.range' 0 w.2.2.2.2.2.1.length).all (mendAt w)) :=
    all_loop (n := w.2.2.2.2.1.length) (p := fun k i => spec_l12Epochs.p11 k ((w.2.2.2.1.1.length : Nat) : Int) i w) (q := writerAt w) (zb := (List.range' 0 w.2.2.2.2.2.1.length).all (mendAt w)) (fun i hi b hb => by
      have hw := g.writer hi
      simp only [spec_l12Epochs.p11, Int.toNat_natCast]
      rw [wrap_up hi (by omega)]
      unfold writerAt
      rw [Bool.and_assoc, Bool.and_assoc]
      refine Ev.pos (by omega) (Ev.pos (by omega) (Ev.bind (spec_WriterOk_ev w.1 (w.2.2.2.2.1.getD i zWr) g.c hw.1 hw.2) (Ev.and fun _ => Ev.pos (by omega) (Ev.nand fun _ => ?_))))
      by_cases h0 : i = 0
      · exact (Ev.neg (by omega) hb).eq (by simp [h0])
      · rw [wrap64_id (x := (i : Int) - 1) (by omega) (by omega), decide_eq_false h0, Bool.false_or, show (((i : Int) - 1).toNat) = i - 1 by omega]
        exact Ev.pos (by omega) (Ev.pos (by omega) (Ev.pos (by omega) (Ev.nand fun _ => hb)))) (by
      simp only [spec_l12Epochs.p11]
      exact Ev.neg (by omega) h21) w.2.2.2.2.1.length 0 (by omega)
  simp only [spec_l12Epochs.f]
  unfold epochsW
  exact Ev.bind (spec_RegOk_ev w.1 w.2.2.2.1 g.rt g.c g.rl g.era) (Ev.and fun _ => Ev.nand fun _ => Ev.nand fun _ => h11)

theorem spec_ReaderOk_is (r : Reader) : spec_ReaderOk.f r = some (readerB r) := by
  simp only [spec_ReaderOk.f, spec_l1In_is, Option.bind_some, readerB]
  cases inB r.1 1 31 <;> cases inB r.2.1 1 61 <;> simp

noncomputable def sentAt (w : World) (i : Nat) : Bool := placeOk (w.2.2.2.2.2.2.2.1.getD i zSn).1 && (!decide (((w.2.2.2.1.1.length : Nat) : Int) < epochOf (w.2.2.2.2.2.2.2.1.getD i zSn).1) && (!decide ((40 : Int) < (((w.2.2.2.2.2.2.2.1.getD i zSn).2.1.size : Nat) : Int)) && (decide (i = 0) || !decide ((w.2.2.2.2.2.2.2.1.getD i zSn).1 ≤ (w.2.2.2.2.2.2.2.1.getD (i - 1) zSn).1))))
noncomputable def sentW (w : World) : Bool := !decide ((120 : Int) < ((w.2.2.2.2.2.2.2.1.length : Nat) : Int)) && (List.range' 0 w.2.2.2.2.2.2.2.1.length).all (sentAt w)
theorem spec_l12Sent_ev (w : World) (g : WG w) : Ev (fun k => spec_l12Sent.f k w) (sentW w) := by
  have hsl := g.sl
  have h9 : Ev (fun k => spec_l12Sent.p9 k (0 : Int) w) ((List.range' 0 w.2.2.2.2.2.2.2.1.length).all (sentAt w)) :=
    (all_loop (n := w.2.2.2.2.2.2.2.1.length) (p := fun k i => spec_l12Sent.p9 k i w) (q := sentAt w) (zb := true) (fun i hi b hb => by
      have hx : InR (w.2.2.2.2.2.2.2.1.getD i zSn).1 := g.se _ (getD_mem hi)
      simp only [spec_l12Sent.p9, Int.toNat_natCast]
      rw [wrap_up hi (by omega)]
      unfold sentAt
      rw [Bool.and_assoc, Bool.and_assoc, Bool.and_assoc]
      refine Ev.pos (by omega) (Ev.pos (by omega) (Ev.bindc (spec_PlaceOk_is _ hx) (Ev.and fun _ => Ev.bindc (spec_EpochOf_is _ hx) (Ev.nand fun _ => Ev.nand fun _ => ?_))))
      by_cases h0 : i = 0
      · exact (Ev.neg (by omega) hb).eq (by simp [h0])
      · rw [wrap64_id (x := (i : Int) - 1) (by omega) (by omega), decide_eq_false h0, Bool.false_or, show (((i : Int) - 1).toNat) = i - 1 by omega]
        exact Ev.pos (by omega) (Ev.pos (by omega) (Ev.nand fun _ => hb))) (by
      simp only [spec_l12Sent.p9]
      exact Ev.neg (by omega) Ev.ret) w.2.2.2.2.2.2.2.1.length 0 (by omega)).eq (Bool.and_true _)
  simp only [spec_l12Sent.f]
  unfold sentW
  exact Ev.nand fun _ => h9

noncomputable def readersW (w : World) : Bool := decide (w.2.2.2.2.2.2.1.length = 2) && (readerB (w.2.2.2.2.2.2.1.getD 0 zRd) && readerB (w.2.2.2.2.2.2.1.getD 1 zRd))
noncomputable def worldB (w : World) : Bool := nodesW w && (epochsW w && (readersW w && sentW w))
theorem spec_WorldOk_ev (w : World) (g : WG w) : Ev (fun k => spec_WorldOk.f k w) (worldB w) := by
  simp only [spec_WorldOk.f, spec_ReaderOk_is, Option.bind_some]
  unfold worldB
  refine Ev.bind (spec_l12Nodes_ev w g) (Ev.and fun _ => Ev.bind (spec_l12Epochs_ev w g) (Ev.and fun _ => ?_))
  unfold readersW
  by_cases h2 : w.2.2.2.2.2.2.1.length = 2
  · rw [decide_eq_true h2, Bool.true_and, Bool.and_assoc]
    refine Ev.pos (by omega) (Ev.pos (by omega) (Ev.and fun _ => Ev.pos (by omega) (Ev.and fun _ => Ev.bind (spec_l12Sent_ev w g) Ev.ret)))
  · rw [decide_eq_false h2, Bool.false_and, Bool.false_and]
    exact Ev.neg (by omega) Ev.ret

theorem spec_l7Copy_ev (r : Register) (hl : r.1.length ≤ 1048576) (he : ∀ i, i < r.1.length → (r.1.getD i zEra).1.length ≤ 1048576) : Ev (fun k => spec_l7Copy.f k r) r := by
  have h : ∀ (m i : Nat) (z : Register) (acc : List Era), i + m = r.1.length → acc.length = i → Ev (fun k => spec_l7Copy.p7 k (i : Int) r z (acc, (r.2.1, ()))) (acc ++ r.1.drop i, (r.2.1, ())) := by
    intro m
    induction m with
    | zero =>
      intro i z acc hi ha
      refine Ev.succ ?_
      simp only [spec_l7Copy.p7]
      rw [List.drop_eq_nil_of_le (by omega), List.append_nil]
      exact Ev.neg (by omega) Ev.ret
    | succ m ih =>
      intro i z acc hi ha
      have hlt : i < r.1.length := by omega
      have hz := he i hlt
      refine Ev.succ ?_
      simp only [spec_l7Copy.p7, Int.toNat_natCast, List.nil_append]
      change Ev (fun k => if (i : Int) < ((r.1.length : Nat) : Int) then (if (0 : Int) ≤ (i : Int) ∧ (i : Int) < ((r.1.length : Nat) : Int) then (if (((([] : List Int).length : Nat) : Int) + (((r.1.getD i zEra).1.length : Nat) : Int)) ≤ lim then (if ((acc.length : Nat) : Int) + (([r.1.getD i zEra].length : Nat) : Int) ≤ lim then spec_l7Copy.p7 k (wrap64 ((i : Int) + 1)) r z (acc ++ [r.1.getD i zEra], (r.2.1, ())) else none) else none) else none) else some (acc, (r.2.1, ()))) _
      refine Ev.pos (by omega) (Ev.pos (by omega) (Ev.pos (by simp only [lim_eq, List.length_nil]; omega) (Ev.pos (by simp only [lim_eq, List.length_cons, List.length_nil]; omega) ?_)))
      rw [wrap_up hlt (by omega), drop_get (d := zEra) hlt]
      exact (ih (i + 1) z (acc ++ [r.1.getD i zEra]) (by omega) (by rw [List.length_append, ha]; rfl)).eq (by rw [List.append_assoc]; rfl)
  have := h r.1.length 0 (([] : List Era), ((0 : Int), ())) [] (by omega) rfl
  rw [List.drop_zero, List.nil_append] at this
  exact Ev.cg this fun k => rfl

theorem spec_l6Copy_is (s : Store) (h1 : s.1.length ≤ 1048576) (h2 : s.2.1.length ≤ 1048576) : spec_l6Copy.f s = some s := by
  unfold spec_l6Copy.f
  rw [if_pos (by simp only [lim_eq, List.length_nil]; omega), if_pos (by simp only [lim_eq, List.length_nil]; omega)]
  rfl

theorem spec_l8Copy_ev (w : Writer) (hl : w.2.1.length ≤ 1048576) (he : ∀ i, i < w.2.1.length → (w.2.1.getD i zWord).2.1.length ≤ 1048576) : Ev (fun k => spec_l8Copy.f k w) w := by
  have h : ∀ (m i : Nat) (z : Writer) (acc : List Word), i + m = w.2.1.length → acc.length = i → Ev (fun k => spec_l8Copy.p7 k (i : Int) w z (w.1, (acc, ()))) (w.1, (acc ++ w.2.1.drop i, ())) := by
    intro m
    induction m with
    | zero =>
      intro i z acc hi ha
      refine Ev.succ ?_
      simp only [spec_l8Copy.p7]
      rw [List.drop_eq_nil_of_le (by omega), List.append_nil]
      exact Ev.neg (by omega) Ev.ret
    | succ m ih =>
      intro i z acc hi ha
      have hlt : i < w.2.1.length := by omega
      have hz := he i hlt
      refine Ev.succ ?_
      simp only [spec_l8Copy.p7, Int.toNat_natCast, List.nil_append]
      change Ev (fun k => if (i : Int) < ((w.2.1.length : Nat) : Int) then (if (0 : Int) ≤ (i : Int) ∧ (i : Int) < ((w.2.1.length : Nat) : Int) then (if (((([] : List Int).length : Nat) : Int) + (((w.2.1.getD i zWord).2.1.length : Nat) : Int)) ≤ lim then (if ((acc.length : Nat) : Int) + (([w.2.1.getD i zWord].length : Nat) : Int) ≤ lim then spec_l8Copy.p7 k (wrap64 ((i : Int) + 1)) w z (w.1, (acc ++ [w.2.1.getD i zWord], ())) else none) else none) else none) else some (w.1, (acc, ()))) _
      refine Ev.pos (by omega) (Ev.pos (by omega) (Ev.pos (by simp only [lim_eq, List.length_nil]; omega) (Ev.pos (by simp only [lim_eq, List.length_cons, List.length_nil]; omega) ?_)))
      rw [wrap_up hlt (by omega), drop_get (d := zWord) hlt]
      exact (ih (i + 1) z (acc ++ [w.2.1.getD i zWord]) (by omega) (by rw [List.length_append, ha]; rfl)).eq (by rw [List.append_assoc]; rfl)
  have := h w.2.1.length 0 ((0 : Int), (([] : List Word), ())) [] (by omega) rfl
  rw [List.drop_zero, List.nil_append] at this
  exact Ev.cg this fun k => rfl

theorem spec_l9Copy_l {s n h w : Nat} (m z : Mend) (hh : h ≤ 1048576) (hw : w ≤ 1048576) (g : MG s n h w m) : ∀ (d i : Nat) (t : Mend) (acc : List (List Int)), i + d = m.2.2.2.2.2.1.length → acc.length = i → t = (m.1, (m.2.1, (m.2.2.1, (m.2.2.2.1, (m.2.2.2.2.1, (acc, ())))))) → acc ++ m.2.2.2.2.2.1.drop i = m.2.2.2.2.2.1 → Ev (fun k => spec_l9Copy.p7 k (i : Int) m z t) m := by
  have g3 := g.2.2.1.1
  intro d
  induction d with
  | zero =>
    intro i t acc hi ha ht he
    refine Ev.succ ?_
    simp only [spec_l9Copy.p7]
    rw [List.drop_eq_nil_of_le (by omega), List.append_nil] at he
    exact (Ev.neg (by omega) Ev.ret).eq (by rw [ht, he])
  | succ d ih =>
    intro i t acc hi ha ht he
    have hlt : i < m.2.2.2.2.2.1.length := by omega
    have hz := g.get i
    refine Ev.succ ?_
    simp only [spec_l9Copy.p7, Int.toNat_natCast, List.nil_append]
    rw [wrap_up hlt (by omega)]
    have hta : t.2.2.2.2.2.1 = acc := by rw [ht]
    refine Ev.pos (by omega) (Ev.pos (by omega) (Ev.pos (by simp only [lim_eq, List.length_nil]; omega) (Ev.pos (by rw [hta]; simp only [lim_eq, List.length_cons, List.length_nil]; omega) ?_)))
    refine ih (i + 1) _ (acc ++ [m.2.2.2.2.2.1.getD i []]) (by omega) (by simp [ha]) (by rw [ht]) ?_
    rw [List.append_assoc, List.singleton_append, ← drop_get (d := ([] : List Int)) hlt]; exact he
theorem spec_l9Copy_ev {s n h w : Nat} (m : Mend) (hs : s ≤ 1048576) (hn : n ≤ 1048576) (hh : h ≤ 1048576) (hw : w ≤ 1048576) (g : MG s n h w m) : Ev (fun k => spec_l9Copy.f k m) m := by
  have g1 := g.1; have g2 := g.2.1.1
  simp only [spec_l9Copy.f, List.nil_append]
  exact Ev.pos (by simp only [lim_eq, List.length_nil]; omega) (Ev.pos (by simp only [lim_eq, List.length_nil]; omega) (spec_l9Copy_l m _ hh hw g m.2.2.2.2.2.1.length 0 _ [] (by omega) rfl rfl rfl))

theorem spec_l10Copy_is (r : Reader) (h : r.2.2.1.length ≤ 1048576) : spec_l10Copy.f r = some r := by
  simp only [spec_l10Copy.f]
  rw [if_pos (by simp only [lim_eq, List.length_nil]; omega), List.nil_append]

/-- A register with a further epoch. -/
noncomputable def openF (a : Config) (r : Register) (l : List Int) : Register × Int × Bool := if regB a r = true then (if holdsB a l = true then (if ((r.1.length : Nat) : Int) = (30 : Int) then (r, (0 : Int), false) else (((r.1 ++ [(l, (false, ((0 : Int), ())))]), r.2), (((r.1 ++ [(l, (false, ((0 : Int), ())))]).length : Nat) : Int), true)) else (r, (0 : Int), false)) else ((([] : List Era), ((0 : Int), ())), (0 : Int), false)
theorem spec_RegOpen_ev (a : Config) (r : Register) (l : List Int) (hr : InR r.2.1) (ha : a.1.length ≤ 1048576) (hl : r.1.length ≤ 1048576) (he : ∀ i, i < r.1.length → (r.1.getD i zEra).1.length ≤ 1048576) (hls : l.length ≤ 1048576) : Ev (fun k => spec_RegOpen.f k a r l) (openF a r l) := by
  have s1 := spec_RegOk_ev a r hr ha hl he
  have s3 := spec_l7Copy_ev r hl he
  have s6 := spec_Holds_ev a l ha hls
  simp only [spec_RegOpen.f, List.nil_append, openF]
  refine Ev.bind s1 (Ev.ite (fun hb => Ev.bind s3 (Ev.bind s6 (Ev.ite (fun hh => Ev.ite (fun _ => Ev.ret) (fun _ => Ev.pos ?_ (Ev.pos ?_ Ev.ret))) (fun _ => Ev.ret)))) (fun _ => Ev.ret))
  · simp only [lim_eq, List.length_nil]; omega
  · simp only [lim_eq, List.length_cons, List.length_nil]; omega

noncomputable def addWr (w : Writer) (s : ByteArray) : Writer := (w.1, ((w.2.1 ++ ([(s, (([] : List Int), (false, ())))] : List Word)), w.2.2))
noncomputable def waddF (a : Config) (w : Writer) (s : ByteArray) : Writer × Int × Bool :=
  if writerB a w = true then (if writerB a (addWr w s) = true then (addWr w s, (((addWr w s).2.1.length : Nat) : Int), true) else (w, (0 : Int), false)) else (((0 : Int), (([] : List Word), ())), (0 : Int), false)
/-- Words, and nodes of each, no more than n. -/
def WD (n : Nat) (w : Writer) : Prop := w.2.1.length ≤ n ∧ ∀ x ∈ w.2.1, x.2.1.length ≤ n
theorem WD.mono {n m : Nat} {w : Writer} (h : WD n w) (hm : n ≤ m) : WD m w := ⟨by have := h.1; omega, fun x hx => by have := h.2 x hx; omega⟩
theorem WD.at {n m : Nat} {w : Writer} (h : WD n w) (hm : n ≤ m) : ∀ i, i < w.2.1.length → (w.2.1.getD i zWord).2.1.length ≤ m := fun i hi => by have := h.2 _ (getD_mem (d := zWord) hi); omega
theorem WD.add {n : Nat} {w : Writer} (h : WD n w) (s : ByteArray) : WD (n + 1) (addWr w s) := by
  refine ⟨by show (w.2.1 ++ [_]).length ≤ _; have := h.1; simp; omega, fun x hx => ?_⟩
  rcases List.mem_append.1 (show x ∈ w.2.1 ++ [(s, (([] : List Int), (false, ())))] from hx) with h' | h'
  · have := h.2 x h'; omega
  · rw [List.mem_singleton] at h'; subst h'; exact Nat.zero_le _
theorem spec_WriterAdd_ev (a : Config) (w : Writer) (s : ByteArray) (ha : a.1.length ≤ 1048576) (g : WD 1048570 w) : Ev (fun k => spec_WriterAdd.f k a w s) (waddF a w s) := by
  have g1 := g.1
  have s1 := spec_WriterOk_ev a w ha (by omega) (g.at (by omega))
  have s3 := spec_l8Copy_ev w (by omega) (g.at (by omega))
  have g2 := (g.add s)
  have s6 := spec_WriterOk_ev a (addWr w s) ha (by have := g2.1; omega) (g2.at (by omega))
  have hlen : ((w.2.1.length : Nat) : Int) + (([((s, (([] : List Int), (false, ()))) : Word)].length : Nat) : Int) ≤ lim := by simp only [lim_eq, List.length_cons, List.length_nil]; omega
  simp only [spec_WriterAdd.f]
  unfold waddF
  refine Ev.bind s1 (Ev.ite (fun _ => Ev.bind s3 (Ev.pos hlen (Ev.bind s6 (Ev.ite (fun _ => Ev.ret) (fun _ => Ev.bind s3 Ev.ret))))) (fun _ => Ev.ret))

theorem InR_wrap (x : Int) : InR (wrap64 x) := by
  have h : wrap64 x = (if (true && decide (x % 2 ^ 64 ≥ 2 ^ (64 - 1))) = true then x % 2 ^ 64 - 2 ^ 64 else x % 2 ^ 64) := rfl
  rw [h]
  have h1 : 0 ≤ x % 2 ^ 64 := Int.emod_nonneg _ (by decide)
  have h2 : x % 2 ^ 64 < 2 ^ 64 := Int.emod_lt_of_pos _ (by decide)
  unfold InR
  split
  · rename_i h; simp at h; omega
  · rename_i h; simp at h; omega
theorem spec_l1Place_is (a b : Int) : Op (spec_l1Place.f a b) InR := ⟨_, rfl, InR_wrap _⟩

theorem spec_l6Takes_d (s : Store) (e : Entry) (h : InR e.1) : Op (spec_l6Takes.f s e) (fun _ => True) := by
  unfold spec_l6Takes.f
  exact Op.ite (fun _ => Op.bind (P := fun _ => True) ⟨_, spec_EpochOf_is _ h, trivial⟩ fun _ _ => Op.ret trivial) (fun _ => Op.ret trivial)

theorem spec_StorePut_d {n m : Nat} (s : Store) (e : Entry) (hn : n ≤ 4096) (hm : m ≤ 4096) (h : SG n m s) (he : InR e.1) : Evp (fun k => spec_StorePut.f k s e) (fun q => SG n (m + 1) q.1) := by
  obtain ⟨h1, h2, h3⟩ := h
  have l1 := h1.1; have l2 := h2.1
  have same : SG n (m + 1) s := ⟨h1, h2.mono (by omega), h3⟩
  simp only [spec_StorePut.f]
  refine Evp.bindv (spec_StoreOk_ev s (by omega) (by omega) h1.at h2.at) (Evp.ite (fun _ => Evp.bindv (Ev.of (spec_l6Copy_is s (by omega) (by omega))) (Evp.bindv (spec_EntryOk_ev e he) (Evp.ite (fun _ => Evp.bindc (spec_l6Takes_d s e he) fun _ _ => Evp.ite (fun _ => Evp.ite (fun _ => Evp.ret same) (fun _ => Evp.pos (by simp only [lim_eq, List.length_cons, List.length_nil]; omega) (Evp.ret ⟨h1, h2.app he, h3⟩))) (fun _ => Evp.ret same)) (fun _ => Evp.ret same)))) (fun _ => Evp.ret SG.zero))

theorem spec_l6Keep_l (l : List Entry) (e : Entry) (hl : EG 16384 l) (he : InR e.1) : ∀ (m i : Nat) (o : List Entry) (b : Bool), i + m = l.length → EG (i + (if b = true then 1 else 0)) o → Evp (fun k => spec_l6Keep.p9 k l o b (i : Int) e) (fun r => EG (l.length + 1) r) := by
  intro m
  have hll := hl.1
  induction m with
  | zero =>
    intro i o b h ho
    refine Evp.succ ?_
    simp only [spec_l6Keep.p9]
    refine Evp.neg (by omega) ?_
    cases b with
    | true => exact Evp.pos rfl (Evp.ret (ho.mono (by simp; omega)))
    | false => have := ho.1; simp at this; exact Evp.neg (by decide) (Evp.pos (by simp only [lim_eq, List.length_cons, List.length_nil]; omega) (Evp.ret ((ho.app he).mono (by simp; omega))))
  | succ m ih =>
    intro i o b h ho
    have hol := ho.1
    have hob : i + (if b = true then 1 else 0) ≤ i + 1 := by split <;> omega
    have ew : wrap64 ((i : Int) + 1) = ((i + 1 : Nat) : Int) := wrap_up (n := l.length) (by omega) (by omega)
    have h18 : Evp (fun k => spec_l6Keep.p18 k l o b (i : Int) e) (fun r => EG (l.length + 1) r) := by
      refine Evp.succ ?_
      simp only [spec_l6Keep.p18, ew, Int.toNat_natCast]
      cases b with
      | true =>
        refine Evp.pos rfl (Evp.pos (by omega) (Evp.pos (by simp only [lim_eq, List.length_cons, List.length_nil]; omega) ?_))
        exact ih (i + 1) _ true (by omega) ((ho.app (hl.at i (by omega))).mono (by simp))
      | false =>
        refine Evp.neg (by decide) (Evp.pos (by omega) (Evp.ite (fun _ => Evp.pos (by simp only [lim_eq, List.length_cons, List.length_nil]; omega) (Evp.pos (by omega) (Evp.pos (by simp only [lim_eq, List.length_append, List.length_cons, List.length_nil]; omega) ?_))) (fun _ => Evp.pos (by omega) (Evp.pos (by simp only [lim_eq, List.length_cons, List.length_nil]; omega) ?_))))
        · exact ih (i + 1) _ true (by omega) (((ho.app he).app (hl.at i (by omega))).mono (by simp))
        · exact ih (i + 1) _ false (by omega) ((ho.app (hl.at i (by omega))).mono (by simp))
    refine Evp.succ ?_
    simp only [spec_l6Keep.p9, ew, Int.toNat_natCast]
    refine Evp.pos (by omega) (Evp.ite (fun _ => h18) (fun hb => Evp.pos (by omega) (Evp.ite (fun hp => Evp.pos (by omega) ?_) (fun _ => h18))))
    have hbt : ∃ z : Entry, spec_Better.f (l.getD i ((0 : Int), ((0 : Int), (false, ((⟨#[]⟩ : ByteArray), ()))))) e = some z ∧ InR z.1 := by
      unfold spec_Better.f
      split
      · exact ⟨_, rfl, he⟩
      · exact ⟨_, rfl, hl.at i (by omega)⟩
    obtain ⟨z, hz, hzr⟩ := hbt
    refine Evp.bindv (Ev.of hz) (Evp.pos (by simp only [lim_eq, List.length_cons, List.length_nil]; omega) ?_)
    exact ih (i + 1) _ true (by omega) ((ho.app hzr).mono (by simp; split <;> omega))
theorem spec_l6Keep_d (l : List Entry) (e : Entry) (hl : EG 16384 l) (he : InR e.1) : Evp (fun k => spec_l6Keep.f k l e) (fun r => EG (l.length + 1) r) := spec_l6Keep_l l e hl he l.length 0 [] false (by omega) EG.nil
theorem spec_l6Keep_ll (l : List Entry) (e : Entry) (hl : l.length ≤ 1048576) : ∀ (m i : Nat) (o : List Entry) (b : Bool), i + m = l.length → o.length ≤ i + (if b = true then 1 else 0) → Ev (fun k => spec_l6Keep.p9 k l o b (i : Int) e) (o ++ if b = true then l.drop i else keepL (l.drop i) e) := by
  intro m
  induction m with
  | zero =>
    intro i o b h ho
    refine Ev.succ ?_
    simp only [spec_l6Keep.p9]
    rw [List.drop_eq_nil_of_le (by omega)]
    refine Ev.neg (by omega) ?_
    cases b with
    | true => exact Ev.pos (by trivial) (Ev.ret.eq (by simp))
    | false => simp at ho; exact Ev.neg (by decide) (Ev.pos (by simp only [lim_eq, List.length_cons, List.length_nil]; omega) (Ev.ret.eq (by simp [keepL])))
  | succ m ih =>
    intro i o b h ho
    have ew : wrap64 ((i : Int) + 1) = ((i + 1 : Nat) : Int) := wrap_up (n := l.length) (by omega) (by omega)
    have hd := drop_get (d := ((0 : Int), ((0 : Int), (false, ((⟨#[]⟩ : ByteArray), ()))))) (by omega : i < l.length)
    refine Ev.succ ?_
    cases b with
    | true =>
      simp at ho
      simp only [spec_l6Keep.p9]
      refine Ev.pos (by omega) (Ev.pos (by trivial) (Ev.succ ?_))
      simp only [spec_l6Keep.p18, ew, Int.toNat_natCast]
      refine Ev.pos (by trivial) (Ev.pos (by omega) (Ev.pos (by simp only [lim_eq, List.length_cons, List.length_nil]; omega) ?_))
      exact (ih (i + 1) _ true (by omega) (by simp; omega)).eq (by rw [hd]; simp)
    | false =>
      simp at ho
      have h18 : ¬ (l.getD i ((0 : Int), ((0 : Int), (false, ((⟨#[]⟩ : ByteArray), ()))))).1 = e.1 → Ev (fun k => spec_l6Keep.p18 k l o false (i : Int) e) (o ++ keepL (l.drop i) e) := fun hne => by
        refine Ev.succ ?_
        simp only [spec_l6Keep.p18, ew, Int.toNat_natCast]
        refine Ev.neg (by decide) (Ev.pos (by omega) ?_)
        rw [hd]
        by_cases hx : e.1 < (l.getD i ((0 : Int), ((0 : Int), (false, ((⟨#[]⟩ : ByteArray), ()))))).1
        · refine Ev.pos hx (Ev.pos (by simp only [lim_eq, List.length_cons, List.length_nil]; omega) (Ev.pos (by omega) (Ev.pos (by simp only [lim_eq, List.length_append, List.length_cons, List.length_nil]; omega) ?_)))
          exact (ih (i + 1) _ true (by omega) (by simp; omega)).eq (by unfold keepL; rw [if_neg hne, if_pos hx]; simp)
        · refine Ev.neg hx (Ev.pos (by omega) (Ev.pos (by simp only [lim_eq, List.length_cons, List.length_nil]; omega) ?_))
          exact (ih (i + 1) _ false (by omega) (by simp; omega)).eq (by (conv => rhs; unfold keepL); rw [if_neg hne, if_neg hx]; simp)
      simp only [spec_l6Keep.p9, ew, Int.toNat_natCast]
      refine Ev.pos (by omega) (Ev.neg (by decide) (Ev.pos (by omega) ?_))
      by_cases hq : (l.getD i ((0 : Int), ((0 : Int), (false, ((⟨#[]⟩ : ByteArray), ()))))).1 = e.1
      · refine Ev.pos hq (Ev.pos (by omega) (Ev.bindc (a := better (l.getD i ((0 : Int), ((0 : Int), (false, ((⟨#[]⟩ : ByteArray), ()))))) e) ?_ (Ev.pos (by simp only [lim_eq, List.length_cons, List.length_nil]; omega) ?_)))
        · unfold spec_Better.f better; split <;> rfl
        · exact (ih (i + 1) _ true (by omega) (by simp; omega)).eq (by rw [hd]; unfold keepL; rw [if_pos hq]; simp)
      · exact Ev.neg hq (h18 hq)
theorem spec_l6Keep_ev (l : List Entry) (e : Entry) (hl : l.length ≤ 1048576) : Ev (fun k => spec_l6Keep.f k l e) (keepL l e) := (spec_l6Keep_ll l e hl l.length 0 [] false (by omega) (by simp)).eq (by simp)

theorem spec_StoreCrash_l {n : Nat} (x0 : Int) (s z : Store) (hs : SG n n s) (hn : n ≤ 4096) : ∀ (m i : Nat) (t : Store), i + m = s.2.1.length → SG (s.1.length + i) 0 t → Evp (fun k => spec_StoreCrash.p11 k x0 (i : Int) s z t) (fun q => q.2 = true → SG (s.1.length + s.2.1.length) 0 q.1) := by
  obtain ⟨h1, h2, h3⟩ := hs
  have l1 := h1.1; have l2 := h2.1
  intro m
  induction m with
  | zero =>
    intro i t hi ht
    refine Evp.succ ?_
    simp only [spec_StoreCrash.p11, spec_l1In_is, Option.bind_some, spec_l6Copy_is s (by omega) (by omega)]
    refine Evp.neg (by omega) (Evp.ite (fun _ => Evp.ite (fun _ => Evp.ret (fun h => by cases h)) (fun _ => Evp.ret (fun _ => ?_))) (fun _ => Evp.ret (fun h => by cases h)))
    have : i = s.2.1.length := by omega
    subst this; exact ht
  | succ m ih =>
    intro i t hi ht
    refine Evp.succ ?_
    simp only [spec_StoreCrash.p11, Int.toNat_natCast]
    rw [wrap_up (i := i) (n := s.2.1.length) (by omega) (by omega)]
    refine Evp.pos (by omega) (Evp.pos (by omega) (Evp.ite (fun _ => Evp.pos (by omega) (Evp.bind (spec_l6Keep_d t.1 _ (ht.1.mono (by omega)) (h2.at i (by omega))) fun r hr => ?_)) (fun _ => ?_)))
    · exact ih (i + 1) _ (by omega) ⟨hr.mono (by have := ht.1.1; omega), ht.2.1, ht.2.2⟩
    · exact ih (i + 1) _ (by omega) ⟨ht.1.mono (by omega), ht.2.1, ht.2.2⟩
theorem spec_StoreCrash_d {n : Nat} (s : Store) (x0 : Int) (hs : SG n n s) (hn : n ≤ 4096) : Evp (fun k => spec_StoreCrash.f k s x0) (fun q => q.2 = true → SG (s.1.length + s.2.1.length) 0 q.1) := by
  have hs' := hs
  obtain ⟨h1, h2, h3⟩ := hs'
  have l1 := h1.1; have l2 := h2.1
  simp only [spec_StoreCrash.f]
  refine Evp.bindv (spec_StoreOk_ev s (by omega) (by omega) h1.at h2.at) (Evp.ite (fun _ => Evp.pos (by simp only [lim_eq, List.length_nil]; omega) ?_) (fun _ => Evp.ret (fun h => by cases h)))
  exact spec_StoreCrash_l x0 s _ hs hn s.2.1.length 0 _ (by omega) ⟨⟨by show s.1.length ≤ _; omega, h1.2⟩, EG.nil, h3⟩

theorem spec_StoreSync_d {n : Nat} (s : Store) (hs : SG n n s) (hn : n ≤ 4096) : Evp (fun k => spec_StoreSync.f k s) (fun q => q.2 = true → SG (s.1.length + s.2.1.length) 0 q.1) := by
  simp only [spec_StoreSync.f]
  exact Evp.bind (spec_StoreCrash_d s _ hs hn) fun r hr => Evp.ret hr

theorem spec_l6Get_ev (l : List Entry) (x : Int) (hl : l.length ≤ 1048576) : Ev (fun k => spec_l6Get.f k l x) (getF l x) := by
  have h : ∀ (m i : Nat) (z : Entry), i + m = l.length → Ev (fun k => spec_l6Get.p5 k l x (i : Int) z) (getF (l.drop i) x) := by
    intro m
    induction m with
    | zero =>
      intro i z hi
      refine Ev.succ ?_
      simp only [spec_l6Get.p5]
      rw [List.drop_eq_nil_of_le (by omega)]
      exact Ev.neg (by omega) Ev.ret
    | succ m ih =>
      intro i z hi
      have hlt : i < l.length := by omega
      refine Ev.succ ?_
      simp only [spec_l6Get.p5, Int.toNat_natCast]
      rw [wrap_up hlt (by omega), drop_get (d := zEnt) hlt]
      refine Ev.pos (by omega) (Ev.pos (by omega) ?_)
      unfold getF
      by_cases hq : (l.getD i zEnt).1 = x
      · rw [if_pos hq]; exact Ev.pos hq (Ev.pos (by omega) Ev.ret)
      · rw [if_neg hq]; exact Ev.neg hq (ih (i + 1) z (by omega))
  exact h l.length 0 _ (by omega)

/-- A word of which a node told. -/
noncomputable def ackW (a : Config) (w : Word) (node : Int) : Word := (w.1, (insL w.2.1 node, (holdsB a (insL w.2.1 node), w.2.2.2)))
noncomputable def ackWr (a : Config) (w : Writer) (off node : Int) : Writer := (w.1, (w.2.1.set (off - 1).toNat (ackW a (w.2.1.getD (off - 1).toNat zWord) node), w.2.2))
noncomputable def wackF (a : Config) (w : Writer) (off node : Int) : Writer × Bool :=
  if writerB a w = true then (if inB off 1 ((w.2.1.length : Nat) : Int) = true ∧ inB node 0 (((a.1.length : Nat) : Int) - 1) = true ∧ ¬ (w.2.1.getD (off - 1).toNat zWord).2.2.1 = true then (ackWr a w off node, true) else (w, false)) else (((0 : Int), (([] : List Word), ())), false)
theorem ack_word {a : Config} {l : List Word} {i : Nat} {node : Int} (hi : i < l.length) (r : List Int) (b : Bool) :
    ((l.set i ((l.getD i zWord).1, (r, (l.getD i zWord).2.2))).set i (((l.set i ((l.getD i zWord).1, (r, (l.getD i zWord).2.2))).getD i zWord).1, (((l.set i ((l.getD i zWord).1, (r, (l.getD i zWord).2.2))).getD i zWord).2.1, (b, ((l.set i ((l.getD i zWord).1, (r, (l.getD i zWord).2.2))).getD i zWord).2.2.2)))) = l.set i ((l.getD i zWord).1, (r, (b, (l.getD i zWord).2.2.2))) := by
  rw [getD_set_self hi, List.set_set]
theorem spec_WriterAck_ev (a : Config) (w : Writer) (x y : Int) (ha : a.1.length ≤ 1048576) (hl : w.2.1.length ≤ 1048576) (he : ∀ i, i < w.2.1.length → (w.2.1.getD i zWord).2.1.length ≤ 1048575) : Ev (fun k => spec_WriterAck.f k a w x y) (wackF a w x y) := by
  have he' : ∀ i, i < w.2.1.length → (w.2.1.getD i zWord).2.1.length ≤ 1048576 := fun i hi => by have := he i hi; omega
  simp only [spec_WriterAck.f, spec_l1In_is, Option.bind_some]
  unfold wackF
  rw [wrap64_id (x := ((a.1.length : Nat) : Int) - 1) (by omega) (by omega)]
  refine Ev.bind (spec_WriterOk_ev a w ha (by omega) he') (Ev.ite (fun hm => Ev.bind (spec_l8Copy_ev w hl he') ?_) (fun _ => Ev.ret))
  by_cases h1 : inB x 1 ((w.2.1.length : Nat) : Int) = true
  case neg => rw [if_neg (fun h => h1 h.1)]; exact Ev.neg h1 Ev.ret
  refine Ev.pos h1 ?_
  by_cases h2 : inB y 0 (((a.1.length : Nat) : Int) - 1) = true
  case neg => rw [if_neg (fun h => h2 h.2.1)]; exact Ev.neg h2 Ev.ret
  refine Ev.pos h2 ?_
  have h1' := inB_true.1 h1
  rw [wrap64_id (x := x - 1) (by omega) (by omega)]
  refine Ev.pos (by omega) ?_
  have hi : (x - 1).toNat < w.2.1.length := by omega
  change Ev (fun k => if (w.2.1.getD (x - 1).toNat zWord).2.2.1 = true then _ else _) _
  by_cases h3 : (w.2.1.getD (x - 1).toNat zWord).2.2.1 = true
  · rw [if_neg (fun h => h.2.2 h3)]; exact Ev.pos h3 Ev.ret
  rw [if_pos ⟨h1, h2, h3⟩]
  have hz := he _ hi
  have hn := insL_len (w.2.1.getD (x - 1).toNat zWord).2.1 y
  refine Ev.neg h3 (Ev.pos (by omega) (Ev.bind (spec_l4Put_ev (w.2.1.getD (x - 1).toNat zWord).2.1 y (by omega)) (Ev.pos (by omega) (Ev.pos (by rw [List.length_set]; omega) (Ev.bind (a := holdsB a (insL (w.2.1.getD (x - 1).toNat zWord).2.1 y)) ?_ (Ev.pos (by rw [List.length_set]; omega) (Ev.ret.eq ?_)))))))
  · refine Ev.cg (spec_Holds_ev a (insL (w.2.1.getD (x - 1).toNat zWord).2.1 y) ha (by omega)) fun k => ?_
    show spec_Holds.f k a ((w.2.1.set (x - 1).toNat ((w.2.1.getD (x - 1).toNat zWord).1, (insL (w.2.1.getD (x - 1).toNat zWord).2.1 y, (w.2.1.getD (x - 1).toNat zWord).2.2))).getD (x - 1).toNat zWord).2.1 = _
    rw [getD_set_self hi]
  · exact congrArg (fun q => ((w.1, (q, w.2.2)), true)) (ack_word (a := a) (node := y) hi _ _)

/-- What is to be written at an offset. -/
noncomputable def mentE (m : Mend) (off : Int) : Entry :=
  (4294967296 * m.2.1 + off, (m.1, (if (getF m.2.2.2.1 (4294967296 * m.2.1 + off)).2 = true then (getF m.2.2.2.1 (4294967296 * m.2.1 + off)).1.2.2 else (true, ((⟨#[]⟩ : ByteArray), ())))))
noncomputable def mentF (m : Mend) (off : Int) : Entry × Bool :=
  if m.2.2.2.2.1 = true ∧ inB m.2.1 1 30 = true ∧ inB off 1 60 = true ∧ ¬ ((m.2.2.2.2.2.1.length : Nat) : Int) < off then (mentE m off, true)
  else (zEnt, false)
theorem spec_MendEntry_ev (m : Mend) (off : Int) (hl : m.2.2.2.1.length ≤ 1048576) : Ev (fun k => spec_MendEntry.f k m off) (mentF m off) := by
  simp only [spec_MendEntry.f, spec_PlaceMake.f, spec_l1In_is, Option.bind_some]
  by_cases h1 : m.2.2.2.2.1 = true
  · by_cases h2 : inB m.2.1 1 30 = true
    · by_cases h3 : inB off 1 60 = true
      · have e2 := inB_true.1 h2
        have e3 := inB_true.1 h3
        simp only [h2, h3, if_true, Option.bind_some]
        rw [wrap64_id (x := 4294967296 * m.2.1) (by omega) (by omega), wrap64_id (by omega) (by omega)]
        refine Ev.pos h1 ?_
        by_cases h4 : ((m.2.2.2.2.2.1.length : Nat) : Int) < off
        · have hn : mentF m off = (zEnt, false) := by unfold mentF; rw [if_neg (fun h => h.2.2.2 h4)]
          rw [hn]; exact Ev.pos h4 Ev.ret
        · have hn : mentF m off = (mentE m off, true) := by unfold mentF; rw [if_pos ⟨h1, h2, h3, h4⟩]
          rw [hn]; unfold mentE
          refine Ev.neg h4 (Ev.bind (spec_l6Get_ev _ _ hl) ?_)
          by_cases hg : (getF m.2.2.2.1 (4294967296 * m.2.1 + off)).2 = true
          · rw [if_pos hg, if_pos hg]; exact Ev.ret
          · rw [if_neg hg, if_neg hg]; exact Ev.ret
      · have hn : mentF m off = (zEnt, false) := by unfold mentF; rw [if_neg (fun h => h3 h.2.2.1)]
        rw [hn]
        simp only [h2, if_true, if_neg h3, Option.bind_some]
        exact Ev.pos h1 (Ev.neg (by decide) Ev.ret)
    · have hn : mentF m off = (zEnt, false) := by unfold mentF; rw [if_neg (fun h => h2 h.2.1)]
      rw [hn]
      simp only [if_neg h2, Option.bind_some]
      exact Ev.pos h1 (Ev.neg (by decide) Ev.ret)
  · have hn : mentF m off = (zEnt, false) := by unfold mentF; rw [if_neg (fun h => h1 h.1)]
    rw [hn]
    by_cases h2 : inB m.2.1 1 30 = true
    · by_cases h3 : inB off 1 60 = true
      · simp only [h2, h3, if_true, Option.bind_some]; exact Ev.neg h1 Ev.ret
      · simp only [h2, if_true, if_neg h3, Option.bind_some]; exact Ev.neg h1 Ev.ret
    · simp only [if_neg h2, Option.bind_some]; exact Ev.neg h1 Ev.ret

theorem spec_MendAck_d {s n h w : Nat} (a : Config) (m : Mend) (x y : Int) (ha : a.1.length ≤ 1048576) (hs : s ≤ 1024) (hn : n ≤ 20480) (hh : h ≤ 1024) (hw : w ≤ 1024) (g : MG s n h w m) : Evp (fun k => spec_MendAck.f k a m x y) (fun q => q.2 = true → MG s n h (w + 1) q.1) := by
  have g3 := g.2.2.1.1
  simp only [spec_MendAck.f, spec_l1In_is, Option.bind_some]
  refine Evp.bindv (spec_MendOk_ev a m ha (by omega) (by omega) (by omega) (by omega) g) (Evp.ite (fun _ => Evp.bindv (spec_l9Copy_ev m (by omega) (by omega) (by omega) (by omega) g) (Evp.ite (fun h1 => Evp.ite (fun _ => ?_) (fun _ => Evp.ret (fun h => by cases h))) (fun _ => Evp.ret (fun h => by cases h)))) (fun _ => Evp.ret (fun h => by cases h)))
  rw [inB_true] at h1
  rw [wrap64_id (x := x - 1) (by omega) (by omega)]
  have hz := g.get (x - 1).toNat
  refine Evp.pos (by omega) (Evp.bind (spec_l4Put_d (m.2.2.2.2.2.1.getD (x - 1).toNat []) y (by omega)) fun r hr => Evp.pos (by omega) (Evp.ret (fun _ => ⟨g.1, g.2.1, ⟨by show (m.2.2.2.2.2.1.set _ _).length ≤ h; rw [List.length_set]; exact g3, fun l hl => ?_⟩, g.2.2.2⟩)))
  rcases List.mem_or_eq_of_mem_set hl with h' | rfl
  · have := g.2.2.1.2 l h'; omega
  · omega
noncomputable def ackM (m : Mend) (off node : Int) : Mend := (m.1, (m.2.1, (m.2.2.1, (m.2.2.2.1, (m.2.2.2.2.1, (m.2.2.2.2.2.1.set (off - 1).toNat (insL (m.2.2.2.2.2.1.getD (off - 1).toNat []) node), m.2.2.2.2.2.2))))))
noncomputable def mackF (a : Config) (m : Mend) (off node : Int) : Mend × Bool :=
  if mendB a m = true then (if inB off 1 ((m.2.2.2.2.2.1.length : Nat) : Int) = true then (if inB node 0 (((a.1.length : Nat) : Int) - 1) = true then (ackM m off node, true) else (m, false)) else (m, false)) else (((0 : Int), ((0 : Int), (([] : List Int), (([] : List Entry), (false, (([] : List (List Int)), ())))))), false)
theorem spec_MendAck_ev {s n h w : Nat} (a : Config) (m : Mend) (x y : Int) (ha : a.1.length ≤ 1048576) (hs : s ≤ 1048576) (hn : n ≤ 1048576) (hh : h ≤ 1048576) (hw : w ≤ 1048576) (g : MG s n h w m) : Ev (fun k => spec_MendAck.f k a m x y) (mackF a m x y) := by
  have g3 := g.2.2.1.1
  simp only [spec_MendAck.f, spec_l1In_is, Option.bind_some]
  unfold mackF
  rw [wrap64_id (x := ((a.1.length : Nat) : Int) - 1) (by omega) (by omega)]
  refine Ev.bind (spec_MendOk_ev a m ha hs hn hh hw g) (Ev.ite (fun _ => Ev.bind (spec_l9Copy_ev m hs hn hh hw g) (Ev.ite (fun h1 => Ev.ite (fun _ => ?_) (fun _ => Ev.ret)) (fun _ => Ev.ret))) (fun _ => Ev.ret))
  rw [inB_true] at h1
  rw [wrap64_id (x := x - 1) (by omega) (by omega)]
  have hz := g.get (x - 1).toNat
  exact Ev.pos (by omega) (Ev.bind (spec_l4Put_ev _ y (by omega)) (Ev.pos (by omega) Ev.ret))

theorem spec_l4Less_l (l x1 : List Int) (hl : l.length ≤ 1048576) (hx : x1.length ≤ 1048576) : ∀ (m i : Nat) (o : List Int), i + m = l.length → o.length ≤ i → (∀ x ∈ o, x ∈ l) → Evp (fun k => spec_l4Less.p7 k l x1 o (i : Int)) (fun r => r.length ≤ l.length ∧ ∀ x ∈ r, x ∈ l) := by
  intro m
  induction m with
  | zero =>
    intro i o hi ho hm
    refine Evp.succ ?_
    simp only [spec_l4Less.p7]
    exact Evp.neg (by omega) (Evp.ret ⟨by omega, hm⟩)
  | succ m ih =>
    intro i o hi ho hm
    refine Evp.succ ?_
    simp only [spec_l4Less.p7, Int.toNat_natCast]
    rw [wrap_up (i := i) (n := l.length) (by omega) (by omega)]
    refine Evp.pos (by omega) (Evp.pos (by omega) (Evp.bindv (spec_l4Has_ev x1 _ hx) (Evp.ite (fun _ => ih (i + 1) o (by omega) (by omega) hm) (fun _ => Evp.pos (by omega) (Evp.pos (by simp only [lim_eq, List.length_cons, List.length_nil]; omega) ?_)))))
    refine ih (i + 1) _ (by omega) (by simp; omega) fun x hx => ?_
    rcases List.mem_append.1 hx with h | h
    · exact hm x h
    · rw [List.mem_singleton] at h; subst h; exact getD_mem (by omega)
theorem spec_l4Less_d (l x1 : List Int) (hl : l.length ≤ 1048576) (hx : x1.length ≤ 1048576) : Evp (fun k => spec_l4Less.f k l x1) (fun r => r.length ≤ l.length ∧ ∀ x ∈ r, x ∈ l) := spec_l4Less_l l x1 hl hx l.length 0 [] (by omega) (by simp) (fun x h => by cases h)
theorem spec_l4Less_ll (l x1 : List Int) (hl : l.length ≤ 1048576) (hx : x1.length ≤ 1048576) : ∀ (m i : Nat) (o : List Int), i + m = l.length → o.length ≤ i → Ev (fun k => spec_l4Less.p7 k l x1 o (i : Int)) (o ++ (l.drop i).filter fun v => !x1.contains v) := by
  intro m
  induction m with
  | zero =>
    intro i o hi ho
    refine Ev.succ ?_
    simp only [spec_l4Less.p7]
    rw [List.drop_eq_nil_of_le (by omega)]
    exact Ev.neg (by omega) (Ev.ret.eq (by simp))
  | succ m ih =>
    intro i o hi ho
    refine Ev.succ ?_
    simp only [spec_l4Less.p7, Int.toNat_natCast]
    rw [wrap_up (i := i) (n := l.length) (by omega) (by omega), drop_get (d := 0) (by omega : i < l.length), List.filter_cons]
    refine Ev.pos (by omega) (Ev.pos (by omega) (Ev.bind (spec_l4Has_ev x1 _ hx) ?_))
    cases hc : x1.contains (l.getD i 0) with
    | true => exact Ev.pos rfl ((ih (i + 1) o (by omega) (by omega)).eq (by simp))
    | false => exact Ev.neg (by decide) (Ev.pos (by omega) (Ev.pos (by simp only [lim_eq, List.length_cons, List.length_nil]; omega) ((ih (i + 1) _ (by omega) (by simp; omega)).eq (by simp))))
theorem spec_l4Less_ev (l x1 : List Int) (hl : l.length ≤ 1048576) (hx : x1.length ≤ 1048576) : Ev (fun k => spec_l4Less.f k l x1) (l.filter fun v => !x1.contains v) := spec_l4Less_ll l x1 hl hx l.length 0 [] (by omega) (by simp)

/-- A word of which a node told no more, if it is not done. -/
noncomputable def lessW (x : Int) (w : Word) : Word := if w.2.2.1 = true then w else (w.1, (w.2.1.filter (fun v => !decide (v = x)), w.2.2))
noncomputable def lessWr (w : Writer) (x : Int) : Writer := (w.1, (w.2.1.map (lessW x), ()))
noncomputable def wforF (a : Config) (w : Writer) (x : Int) : Writer × Bool := if writerB a w = true then (lessWr w x, true) else (((0 : Int), (([] : List Word), ())), false)
theorem spec_WriterForget_ev (a : Config) (w : Writer) (x : Int) (ha : a.1.length ≤ 1048576) (hl : w.2.1.length ≤ 1048576) (he : ∀ i, i < w.2.1.length → (w.2.1.getD i zWord).2.1.length ≤ 1048576) : Ev (fun k => spec_WriterForget.f k a w x) (wforF a w x) := by
  have hloop : ∀ (d i : Nat) (z t : Writer), i + d = w.2.1.length → t = (w.1, ((w.2.1.take i).map (lessW x) ++ w.2.1.drop i, ())) → Ev (fun k => spec_WriterForget.p11 k x (i : Int) z t) (lessWr w x, true) := by
    intro d
    induction d with
    | zero =>
      intro i z t hi ht
      have hlt : t.2.1.length = w.2.1.length := by rw [ht]; exact map_len
      refine Ev.succ ?_
      simp only [spec_WriterForget.p11]
      refine Ev.neg (by omega) (Ev.ret.eq ?_)
      rw [ht, List.drop_eq_nil_of_le (by omega), List.take_of_length_le (by omega), List.append_nil]; rfl
    | succ d ih =>
      intro i z t hi ht
      have hlt : t.2.1.length = w.2.1.length := by rw [ht]; exact map_len
      have hgt : t.2.1.getD i zWord = w.2.1.getD i zWord := by rw [ht]; exact map_get (by omega)
      have hz := he i (by omega)
      have hms := map_step (F := lessW x) (l := w.2.1) (i := i) (d := zWord) (by omega)
      refine Ev.succ ?_
      simp only [spec_WriterForget.p11, Int.toNat_natCast]
      rw [wrap_up (i := i) (n := w.2.1.length) (by omega) (by omega)]
      refine Ev.pos (by omega) (Ev.pos (by omega) ?_)
      change Ev (fun k => if (t.2.1.getD i zWord).2.2.1 = true then _ else _) _
      by_cases hdn : (t.2.1.getD i zWord).2.2.1 = true
      · refine Ev.pos hdn (ih (i + 1) z t (by omega) ?_)
        rw [hgt] at hdn
        have hF : lessW x (w.2.1.getD i zWord) = w.2.1.getD i zWord := by unfold lessW; rw [if_pos hdn]
        rw [hF] at hms
        rw [ht, ← hms, ← map_get (F := lessW x) (d := zWord) (by omega : i < w.2.1.length), set_getD_self (by rw [map_len]; omega)]
      · refine Ev.neg hdn (Ev.pos (by omega) (Ev.bind (a := (w.2.1.getD i zWord).2.1.filter fun v => ![x].contains v) ?_ (Ev.pos (by omega) (ih (i + 1) z _ (by omega) ?_))))
        · have := spec_l4Less_ev (w.2.1.getD i zWord).2.1 [x] (by omega) (by simp)
          rw [← hgt] at this ⊢
          exact this
        · rw [hgt] at hdn
          have hF : lessW x (w.2.1.getD i zWord) = ((w.2.1.getD i zWord).1, ((w.2.1.getD i zWord).2.1.filter (fun v => ![x].contains v), (w.2.1.getD i zWord).2.2)) := by
            unfold lessW; rw [if_neg hdn]
            congr 2
            exact List.filter_congr fun v _ => by rw [has_one]
          rw [hF] at hms
          show (t.1, (t.2.1.set i ((t.2.1.getD i zWord).1, ((w.2.1.getD i zWord).2.1.filter (fun v => ![x].contains v), (t.2.1.getD i zWord).2.2)), t.2.2)) = _
          rw [hgt, ht]
          exact congrArg (fun q => (w.1, (q, ()))) hms
  simp only [spec_WriterForget.f]
  unfold wforF
  exact Ev.bind (spec_WriterOk_ev a w ha (by omega) he) (Ev.ite (fun _ => Ev.bind (spec_l8Copy_ev w hl he) (hloop w.2.1.length 0 _ w (by omega) rfl)) (fun _ => Ev.ret))

noncomputable def forgetM (m : Mend) (x : Int) : Mend := (m.1, (m.2.1, (m.2.2.1, (m.2.2.2.1, (m.2.2.2.2.1, (m.2.2.2.2.2.1.map fun l => l.filter fun v => !decide (v = x), ()))))))
noncomputable def forgetF (a : Config) (m : Mend) (x : Int) : Mend × Bool := if mendB a m = true then (forgetM m x, true) else (((0 : Int), ((0 : Int), (([] : List Int), (([] : List Entry), (false, (([] : List (List Int)), ())))))), false)
theorem spec_MendForget_ev {s n h w : Nat} (a : Config) (m : Mend) (x : Int) (ha : a.1.length ≤ 1048576) (hs : s ≤ 1048576) (hn : n ≤ 1048576) (hh : h ≤ 1048576) (hw : w ≤ 1048576) (g : MG s n h w m) : Ev (fun k => spec_MendForget.f k a m x) (forgetF a m x) := by
  have g3 := g.2.2.1.1
  have hl : ∀ (d i : Nat) (z t : Mend), i + d = m.2.2.2.2.2.1.length → t = (m.1, (m.2.1, (m.2.2.1, (m.2.2.2.1, (m.2.2.2.2.1, ((m.2.2.2.2.2.1.take i).map (fun l => l.filter fun v => !decide (v = x)) ++ m.2.2.2.2.2.1.drop i, ())))))) → Ev (fun k => spec_MendForget.p11 k x (i : Int) z t) (forgetM m x, true) := by
    intro d
    induction d with
    | zero =>
      intro i z t hi ht
      have hl : t.2.2.2.2.2.1.length = m.2.2.2.2.2.1.length := by rw [ht]; exact map_len
      refine Ev.succ ?_
      simp only [spec_MendForget.p11]
      refine Ev.neg (by omega) (Ev.ret.eq ?_)
      rw [ht, List.drop_eq_nil_of_le (by omega), List.take_of_length_le (by omega), List.append_nil]; rfl
    | succ d ih =>
      intro i z t hi ht
      have hl : t.2.2.2.2.2.1.length = m.2.2.2.2.2.1.length := by rw [ht]; exact map_len
      have hgt : t.2.2.2.2.2.1.getD i [] = m.2.2.2.2.2.1.getD i [] := by rw [ht]; exact map_get (by omega)
      have hz := g.get i
      refine Ev.succ ?_
      simp only [spec_MendForget.p11, Int.toNat_natCast]
      rw [wrap_up (i := i) (n := m.2.2.2.2.2.1.length) (by omega) (by omega), hgt]
      refine Ev.pos (by omega) (Ev.pos (by omega) (Ev.bind (spec_l4Less_ev _ [x] (by omega) (by simp)) (Ev.pos (by omega) (ih (i + 1) z _ (by omega) ?_))))
      have he : ((m.2.2.2.2.2.1.getD i []).filter fun v => ![x].contains v) = (fun l : List Int => l.filter fun v => !decide (v = x)) (m.2.2.2.2.2.1.getD i []) := List.filter_congr fun v _ => by rw [has_one]
      rw [he]
      rw [ht]
      simp only [Prod.mk.injEq, true_and]
      exact ⟨map_step (by omega), trivial⟩
  simp only [spec_MendForget.f]
  unfold forgetF
  exact Ev.bind (spec_MendOk_ev a m ha hs hn hh hw g) (Ev.ite (fun _ => Ev.bind (spec_l9Copy_ev m hs hn hh hw g) (hl m.2.2.2.2.2.1.length 0 _ m (by omega) rfl)) (fun _ => Ev.ret))

noncomputable def lostB (a : Config) (l : List Int) : Bool := nodesB a l && !holdsB a l
theorem spec_LostOk_ev (a : Config) (l : List Int) (ha : a.1.length ≤ 1048576) (hl : l.length ≤ 1048576) : Ev (fun k => spec_LostOk.f k a l) (lostB a l) := by
  simp only [spec_LostOk.f]
  unfold lostB
  exact Ev.bind (spec_NodesOk_ev a l ha hl) (Ev.and fun _ => Ev.bind (spec_Holds_ev a l ha hl) (Ev.ret.eq (by cases holdsB a l <;> rfl)))

theorem spec_l11Union_ll (x0 : List Store) (hx : StG x0) : ∀ (m i : Nat) (acc : List Entry), i + m = x0.length → acc.length + ktS (x0.drop i) ≤ 1048576 → Ev (fun k => spec_l11Union.p7 k x0 acc (i : Int)) (unionL acc (x0.drop i)) := by
  have hxl := hx.1
  intro m
  induction m with
  | zero =>
    intro i acc hi ha
    refine Ev.succ ?_
    simp only [spec_l11Union.p7]
    rw [List.drop_eq_nil_of_le (by omega)]
    exact Ev.neg (by omega) Ev.ret
  | succ m ih =>
    intro i acc hi ha
    have hlt : i < x0.length := by omega
    rw [drop_get (d := zSto) hlt, ktS_cons] at ha
    have hin : ∀ (d j : Nat) (acc : List Entry), j + d = (x0.getD i zSto).1.length → acc.length + d + ktS (x0.drop (i + 1)) ≤ 1048576 → Ev (fun k => spec_l11Union.p13 k x0 acc (i : Int) (j : Int)) (unionL (keepsL acc ((x0.getD i zSto).1.drop j)) (x0.drop (i + 1))) := by
      have hsl := (hx.2 _ (getD_mem (d := zSto) hlt)).1.1
      intro d
      induction d with
      | zero =>
        intro j acc hj hacc
        refine Ev.succ ?_
        simp only [spec_l11Union.p13, Int.toNat_natCast]
        rw [wrap_up hlt (by omega), List.drop_eq_nil_of_le (by omega)]
        exact Ev.pos (by omega) (Ev.neg (show ¬ (j : Int) < (((x0.getD i zSto).1.length : Nat) : Int) by omega) (ih (i + 1) acc (by omega) (by omega)))
      | succ d ihd =>
        intro j acc hj hacc
        have hkl := keepL_len acc ((x0.getD i zSto).1.getD j zEnt)
        refine Ev.succ ?_
        simp only [spec_l11Union.p13, Int.toNat_natCast]
        rw [wrap_up (i := j) (n := (x0.getD i zSto).1.length) (by omega) (by omega), drop_get (d := zEnt) (by omega : j < (x0.getD i zSto).1.length)]
        refine Ev.pos (by omega) (Ev.pos (show (j : Int) < (((x0.getD i zSto).1.length : Nat) : Int) by omega) (Ev.pos (by omega) (Ev.pos (show (0 : Int) ≤ (j : Int) ∧ (j : Int) < (((x0.getD i zSto).1.length : Nat) : Int) by omega) (Ev.bind (spec_l6Keep_ev acc _ (by omega)) ?_))))
        exact ihd (j + 1) _ (by omega) (by show (keepL acc ((x0.getD i zSto).1.getD j zEnt)).length + d + _ ≤ _; omega)
    refine Ev.succ ?_
    simp only [spec_l11Union.p7]
    rw [drop_get (d := zSto) hlt]
    exact Ev.pos (by omega) (hin (x0.getD i zSto).1.length 0 acc (by omega) (by omega))
theorem spec_l11Union_ev (x0 : List Store) (hx : StG x0) (hk : ktS x0 ≤ 1048576) : Ev (fun k => spec_l11Union.f k x0) (unionL [] x0) :=
  spec_l11Union_ll x0 hx x0.length 0 [] (by omega) (by simpa using hk)

noncomputable def fillF (a : Config) (l : List Store) (lost : List Int) (node upto : Int) : Store × Bool :=
  if ((l.length : Nat) : Int) = ((a.1.length : Nat) : Int) ∧ lostB a lost = true ∧ lost.contains node = true then fillG (othersL lost 0 l) upto else (zSto, false)
theorem spec_Fill_b (x1 : List Store) (upto : Int) (h : StG x1) (hk : ktS x1 ≤ 1048576) (z : Store) : ∀ (m i : Nat), i + m = x1.length → Ev (fun k => spec_Fill.p23 k upto x1 (i : Int) z zSto) (if (x1.drop i).all storeB = true then (if storeB (fillS x1 upto) = true then (fillS x1 upto, true) else (zSto, false)) else (zSto, false)) := by
  have hxl := h.1
  intro m
  induction m with
  | zero =>
    intro i hi
    refine Ev.succ ?_
    simp only [spec_Fill.p23]
    rw [List.drop_eq_nil_of_le (by omega)]
    have hu := unionL_EG x1 h hk
    refine Ev.neg (by omega) (Ev.bind (spec_l11Union_ev x1 h hk) (Ev.bind (spec_StoreOk_ev (fillS x1 upto) hu.1 (Nat.zero_le _) hu.at (fun i hi => absurd hi (Nat.not_lt_zero _))) ?_))
    exact Ev.ite (fun _ => Ev.ret) (fun _ => Ev.ret)
  | succ m ih =>
    intro i hi
    have hlt : i < x1.length := by omega
    refine Ev.succ ?_
    simp only [spec_Fill.p23, Int.toNat_natCast]
    rw [wrap_up hlt (by omega), drop_get (d := zSto) hlt, List.all_cons]
    refine Ev.pos (by omega) (Ev.pos (by omega) (Ev.bind (h.ok hlt) ?_))
    by_cases hb : storeB (x1.getD i zSto) = true
    · rw [hb, Bool.true_and]; exact Ev.pos rfl (ih (i + 1) (by omega))
    · rw [Bool.not_eq_true] at hb
      rw [hb, Bool.false_and]; exact Ev.neg (by decide) Ev.ret
theorem spec_Fill_l (x0 : List Store) (lost : List Int) (upto : Int) (h : StG x0) (hk : ktS x0 ≤ 1048576) (hl : lost.length ≤ 1048576) (z : Store) : ∀ (m i : Nat) (o : List Store), i + m = x0.length → o.length ≤ i → o ++ othersL lost i (x0.drop i) = othersL lost 0 x0 → Ev (fun k => spec_Fill.p13 k x0 lost upto o (i : Int) z zSto) (fillG (othersL lost 0 x0) upto) := by
  have hxl := h.1
  intro m
  induction m with
  | zero =>
    intro i o hi ho he
    refine Ev.succ ?_
    simp only [spec_Fill.p13]
    rw [List.drop_eq_nil_of_le (by omega)] at he
    have he : o = othersL lost 0 x0 := by rw [← he]; simp [othersL]
    rw [he]
    exact Ev.neg (by omega) (spec_Fill_b _ upto (h.others 0) (Nat.le_trans othersL_len.2 hk) z _ 0 (Nat.zero_add _))
  | succ m ih =>
    intro i o hi ho he
    have hlt : i < x0.length := by omega
    refine Ev.succ ?_
    simp only [spec_Fill.p13, Int.toNat_natCast]
    rw [wrap_up hlt (by omega)]
    rw [drop_get (d := zSto) hlt] at he
    refine Ev.pos (by omega) (Ev.bind (spec_l4Has_ev lost (i : Int) hl) ?_)
    rw [othersL_cons] at he
    by_cases hc : lost.contains (i : Int) = true
    · rw [if_pos hc] at he
      exact Ev.pos hc (ih (i + 1) o (by omega) (by omega) he)
    · rw [if_neg hc] at he
      exact Ev.neg hc (Ev.pos (by omega) (Ev.pos (by simp only [lim_eq, List.length_cons, List.length_nil]; omega) (ih (i + 1) _ (by omega) (by simp; omega) (by rw [List.append_assoc]; exact he))))
theorem spec_Fill_ev (a : Config) (l : List Store) (lost : List Int) (node upto : Int) (ha : a.1.length ≤ 1048576) (h : StG l) (hk : ktS l ≤ 1048576) (hl : lost.length ≤ 1048576) : Ev (fun k => spec_Fill.f k a l lost node upto) (fillF a l lost node upto) := by
  simp only [spec_Fill.f]
  unfold fillF
  refine Ev.bind (spec_ConfigOk_ev a ha) ?_
  by_cases hc : cfgB a = true
  case neg =>
    have : ¬ lostB a lost = true := fun h => by
      simp only [lostB, nodesB, Bool.and_eq_true] at h
      exact hc h.1.1
    rw [if_neg (fun h => this h.2.1)]
    exact Ev.neg hc Ev.ret
  refine Ev.pos hc ?_
  by_cases h1 : ((l.length : Nat) : Int) = ((a.1.length : Nat) : Int)
  case neg => rw [if_neg (fun h => h1 h.1)]; exact Ev.neg h1 Ev.ret
  refine Ev.pos h1 (Ev.bind (spec_LostOk_ev a lost ha hl) ?_)
  by_cases h2 : lostB a lost = true
  case neg => rw [if_neg (fun h => h2 h.2.1)]; exact Ev.neg h2 Ev.ret
  refine Ev.pos h2 (Ev.bind (spec_l4Has_ev lost node hl) ?_)
  by_cases h3 : lost.contains node = true
  case neg => rw [if_neg (fun h => h3 h.2.2)]; exact Ev.neg h3 Ev.ret
  rw [if_pos ⟨h1, h2, h3⟩]
  exact Ev.pos h3 (spec_Fill_l l lost upto h hk hl _ l.length 0 [] (by omega) (by simp) rfl)

theorem spec_StoreSeal_d {n : Nat} (s : Store) (x : Int) (hs : SG n n s) (hn : n ≤ 4096) (hx : InR x) : Evp (fun k => spec_StoreSeal.f k s x) (fun q => q.2 = true → SG (s.1.length + s.2.1.length) 0 q.1) := by
  have hs' := hs
  obtain ⟨h1, h2, h3⟩ := hs'
  have l1 := h1.1; have l2 := h2.1
  simp only [spec_StoreSeal.f, spec_l1In_is, Option.bind_some, spec_l6Copy_is s (by omega) (by omega), spec_l1Max.f]
  refine Evp.bindv (spec_StoreOk_ev s (by omega) (by omega) h1.at h2.at) (Evp.ite (fun _ => Evp.bind (spec_StoreSync_d s hs hn) fun r hr => Evp.ite (fun ht => Evp.ite (fun _ => ?_) (fun _ => Evp.ret (fun h => by cases h))) (fun _ => Evp.ret (fun h => by cases h))) (fun _ => Evp.ret (fun h => by cases h)))
  have g := hr ht
  by_cases hm : x < r.1.2.2.1
  · simp only [if_pos hm, Option.bind_some]
    exact Evp.ret (fun _ => g)
  · simp only [if_neg hm, Option.bind_some]
    exact Evp.ret (fun _ => ⟨g.1, g.2.1, hx⟩)

theorem spec_StoreEra_l (s : Store) (x : Int) (h1 : EG 4096 s.1) (h2 : EG 4096 s.2.1) (h3 : InR s.2.2.1) : ∀ (m i : Nat) (o : List Entry), i + m = s.1.length → EG i o → Evp (fun k => spec_StoreEra.p7 k x o (i : Int) s) (fun r => EG 4096 r) := by
  have l1 := h1.1; have l2 := h2.1
  intro m
  induction m with
  | zero =>
    intro i o hi ho
    refine Evp.succ ?_
    simp only [spec_StoreEra.p7]
    exact Evp.neg (by omega) (Evp.ret (ho.mono (by omega)))
  | succ m ih =>
    intro i o hi ho
    have hol := ho.1
    refine Evp.succ ?_
    simp only [spec_StoreEra.p7, Int.toNat_natCast]
    rw [wrap_up (i := i) (n := s.1.length) (by omega) (by omega)]
    refine Evp.pos (by omega) (Evp.bindv (spec_StoreOk_ev s (by omega) (by omega) h1.at h2.at) (Evp.ite (fun _ => Evp.pos (by omega) (Evp.bindv (Ev.of (spec_EpochOf_is _ (h1.get i))) (Evp.ite (fun _ => Evp.pos (by omega) (Evp.pos (by simp only [lim_eq, List.length_cons, List.length_nil]; omega) ?_)) (fun _ => ?_)))) (fun _ => Evp.ret (ho.mono (by omega)))))
    · exact ih (i + 1) _ (by omega) (ho.app (h1.get i))
    · exact ih (i + 1) _ (by omega) (ho.mono (by omega))
theorem spec_StoreEra_d (s : Store) (x : Int) (h1 : EG 4096 s.1) (h2 : EG 4096 s.2.1) (h3 : InR s.2.2.1) : Evp (fun k => spec_StoreEra.f k s x) (fun r => EG 4096 r) := spec_StoreEra_l s x h1 h2 h3 s.1.length 0 [] (by omega) EG.nil

theorem spec_MendSeal_l {s n h w : Nat} (a : Config) (m1 z : Mend) (x0 : List Entry) (ha : a.1.length ≤ 1048576) (hs : s ≤ 1024) (hn : n + 4096 ≤ 16384) (hh : h ≤ 1024) (hw : w ≤ 1024) (g1 : MG s n h w m1) (hx : EG 4096 x0) :
    ∀ (d i : Nat) (t : Mend), i + d = x0.length → MG (s + 1) (n + i) h w t → Evp (fun k => spec_MendSeal.p13 k x0 (i : Int) a m1 z t) (fun q => q.2 = true → MG (s + 1) (n + 4096) h w q.1) := by
  have lx := hx.1
  have cp := spec_l9Copy_ev m1 (by omega) (by omega) (by omega) (by omega) g1
  intro d
  induction d with
  | zero =>
    intro i t hi ht
    refine Evp.succ ?_
    simp only [spec_MendSeal.p13]
    refine Evp.neg (by omega) (Evp.ite (fun _ => Evp.bindv cp (Evp.ret (fun h => by cases h))) (fun _ => Evp.bindv (spec_MendOk_ev a t ha (by omega) (by omega) (by omega) (by omega) ht) (Evp.ite (fun _ => Evp.ret (fun _ => ht.mono (Nat.le_refl _) (by omega) (Nat.le_refl _) (Nat.le_refl _))) (fun _ => Evp.bindv cp (Evp.ret (fun h => by cases h))))))
  | succ d ih =>
    intro i t hi ht
    refine Evp.succ ?_
    simp only [spec_MendSeal.p13, Int.toNat_natCast]
    rw [wrap_up (i := i) (n := x0.length) (by omega) (by omega)]
    refine Evp.pos (by omega) (Evp.pos (by omega) (Evp.bindv (Ev.of (spec_EpochOf_is _ (hx.get i))) (Evp.ite (fun _ => Evp.pos (by omega) (Evp.bind (spec_l6Keep_d t.2.2.2.1 _ (ht.2.1.mono (by omega)) (hx.get i)) fun r hr => ?_)) (fun _ => ?_))))
    · exact ih (i + 1) _ (by omega) ⟨ht.1, hr.mono (by have := ht.2.1.1; omega), ht.2.2⟩
    · exact ih (i + 1) _ (by omega) (ht.mono (Nat.le_refl _) (by omega) (Nat.le_refl _) (Nat.le_refl _))
theorem spec_MendSeal_d {s n h w : Nat} (a : Config) (m : Mend) (x : Int) (x0 : List Entry) (ha : a.1.length ≤ 1048576) (hs : s ≤ 1024) (hn : n + 4096 ≤ 16384) (hh : h ≤ 1024) (hw : w ≤ 1024) (g : MG s n h w m) (hx : EG 4096 x0) :
    Evp (fun k => spec_MendSeal.f k a m x x0) (fun q => q.2 = true → MG (s + 1) (n + 4096) h w q.1) := by
  simp only [spec_MendSeal.f]
  refine Evp.bindv (spec_MendOk_ev a m ha (by omega) (by omega) (by omega) (by omega) g) (Evp.ite (fun _ => Evp.bindv (spec_l9Copy_ev m (by omega) (by omega) (by omega) (by omega) g) (Evp.bind (spec_l4Put_d m.2.2.1 x (by have := g.1; omega)) fun r hr => ?_)) (fun _ => Evp.ret (fun h => by cases h)))
  exact spec_MendSeal_l a m _ x0 ha hs hn hh hw g hx x0.length 0 _ (by omega) ⟨by show r.length ≤ s + 1; have := g.1; omega, g.2⟩
/-- What is seen behind a seal: of each entry of that epoch the better one. -/
noncomputable def sealL (ep : Int) : List Entry → List Entry → List Entry
  | s, [] => s
  | s, e :: l => sealL ep (if epochOf e.1 = ep then keepL s e else s) l
noncomputable def sealM (m : Mend) (x : Int) (l : List Entry) : Mend := (m.1, (m.2.1, (insL m.2.2.1 x, (sealL m.2.1 m.2.2.2.1 l, m.2.2.2.2))))
noncomputable def sealF (a : Config) (m : Mend) (x : Int) (l : List Entry) : Mend × Bool :=
  if mendB a m = true then (if m.2.2.2.2.1 = true then (m, false) else if mendB a (sealM m x l) = true then (sealM m x l, true) else (m, false)) else (((0 : Int), ((0 : Int), (([] : List Int), (([] : List Entry), (false, (([] : List (List Int)), ())))))), false)
theorem spec_MendSeal_ll {s n h w : Nat} (a : Config) (m1 z : Mend) (x0 : List Entry) (ha : a.1.length ≤ 1048576) (hs : s ≤ 1048576) (hn : n + x0.length ≤ 1048576) (hh : h ≤ 1048576) (hw : w ≤ 1048576) (g1 : MG s n h w m1) (hx : EG x0.length x0) :
    ∀ (d i : Nat) (t : Mend), i + d = x0.length → MG 1048576 (n + i) h w t → Ev (fun k => spec_MendSeal.p13 k x0 (i : Int) a m1 z t) (if m1.2.2.2.2.1 = true then (m1, false) else if mendB a (t.1, (t.2.1, (t.2.2.1, (sealL m1.2.1 t.2.2.2.1 (x0.drop i), t.2.2.2.2)))) = true then ((t.1, (t.2.1, (t.2.2.1, (sealL m1.2.1 t.2.2.2.1 (x0.drop i), t.2.2.2.2)))), true) else (m1, false)) := by
  have cp := spec_l9Copy_ev m1 hs (by omega) hh hw g1
  intro d
  induction d with
  | zero =>
    intro i t hi ht
    refine Ev.succ ?_
    simp only [spec_MendSeal.p13]
    rw [List.drop_eq_nil_of_le (by omega)]
    refine Ev.neg (by omega) (Ev.ite (fun _ => Ev.bind cp Ev.ret) (fun _ => Ev.bind (spec_MendOk_ev a t ha (Nat.le_refl _) (by omega) hh hw ht) ?_))
    exact Ev.ite (fun _ => Ev.ret) (fun _ => Ev.bind cp Ev.ret)
  | succ d ih =>
    intro i t hi ht
    have g2 := ht.2.1.1
    refine Ev.succ ?_
    simp only [spec_MendSeal.p13, Int.toNat_natCast]
    rw [wrap_up (i := i) (n := x0.length) (by omega) (by omega), drop_get (d := ((0 : Int), ((0 : Int), (false, ((⟨#[]⟩ : ByteArray), ()))))) (by omega : i < x0.length)]
    refine Ev.pos (by omega) (Ev.pos (by omega) (Ev.bindc (spec_EpochOf_is _ (hx.get i)) ?_))
    change Ev (fun k => if epochOf (x0.getD i zEnt).1 = m1.2.1 then _ else _) _
    have hstep : ∀ s, sealL m1.2.1 s (x0.getD i zEnt :: x0.drop (i + 1)) = sealL m1.2.1 (if epochOf (x0.getD i zEnt).1 = m1.2.1 then keepL s (x0.getD i zEnt) else s) (x0.drop (i + 1)) := fun _ => rfl
    show Ev _ (if m1.2.2.2.2.1 = true then (m1, false) else if mendB a (t.1, (t.2.1, (t.2.2.1, (sealL m1.2.1 t.2.2.2.1 (x0.getD i zEnt :: x0.drop (i + 1)), t.2.2.2.2)))) = true then ((t.1, (t.2.1, (t.2.2.1, (sealL m1.2.1 t.2.2.2.1 (x0.getD i zEnt :: x0.drop (i + 1)), t.2.2.2.2)))), true) else (m1, false))
    rw [hstep]
    by_cases he : epochOf (x0.getD i zEnt).1 = m1.2.1
    · rw [if_pos he]
      refine Ev.pos he (Ev.pos (by omega) (Ev.bind (spec_l6Keep_ev _ _ (by omega)) ?_))
      exact ih (i + 1) (t.1, (t.2.1, (t.2.2.1, (keepL t.2.2.2.1 (x0.getD i zEnt), t.2.2.2.2)))) (by omega) ⟨ht.1, (ht.2.1.keep (hx.get i)).mono (by omega), ht.2.2⟩
    · rw [if_neg he]
      exact Ev.neg he (ih (i + 1) t (by omega) (ht.mono (Nat.le_refl _) (by omega) (Nat.le_refl _) (Nat.le_refl _)))
theorem spec_MendSeal_ev {s n h w : Nat} (a : Config) (m : Mend) (x : Int) (x0 : List Entry) (ha : a.1.length ≤ 1048576) (hs : s ≤ 1048576) (hn : n + x0.length ≤ 1048576) (hh : h ≤ 1048576) (hw : w ≤ 1048576) (g : MG s n h w m) (hx : EG x0.length x0) : Ev (fun k => spec_MendSeal.f k a m x x0) (sealF a m x x0) := by
  simp only [spec_MendSeal.f]
  unfold sealF
  refine Ev.bind (spec_MendOk_ev a m ha hs (by omega) hh hw g) (Ev.ite (fun hm => Ev.bind (spec_l9Copy_ev m hs (by omega) hh hw g) (Ev.bind (spec_l4Put_ev m.2.2.1 x (by have := g.1; omega)) ?_)) (fun _ => Ev.ret))
  have h8 := nodesB_len (mendB_parts hm).2.2.2.1
  have hl := insL_len m.2.2.1 x
  exact spec_MendSeal_ll a m _ x0 ha hs hn hh hw g hx x0.length 0 _ (by omega) ⟨by show (insL m.2.2.1 x).length ≤ _; omega, g.2.1, g.2.2⟩
theorem spec_l9Both_d (l x1 : List Int) (hl : l.length ≤ 1048576) (hx : x1.length ≤ 1048576) : Evp (fun k => spec_l9Both.f k l x1) (fun r => r.length ≤ l.length ∧ ∀ x ∈ r, x ∈ l) := by
  simp only [spec_l9Both.f]
  exact Evp.bind (spec_l4Less_d l x1 hl hx) fun r hr => Evp.bind (spec_l4Less_d l r hl (by omega)) fun q hq => Evp.ret hq
theorem spec_l9Both_ev (l o : List Int) (hl : l.length ≤ 1048576) (ho : o.length ≤ 1048576) : Ev (fun k => spec_l9Both.f k l o) (l.filter fun v => o.contains v) := by
  simp only [spec_l9Both.f]
  refine (Ev.bind (spec_l4Less_ev l o hl ho) (Ev.bind (spec_l4Less_ev l _ hl (Nat.le_trans (List.length_filter_le _ _) hl)) Ev.ret)).eq ?_
  refine List.filter_congr fun v hv => ?_
  cases hc : o.contains v with
  | true =>
    rw [Bool.not_eq_true']
    rw [Bool.eq_false_iff]
    intro h
    rw [List.contains_iff_mem, List.mem_filter, hc] at h
    exact absurd h.2 (by decide)
  | false =>
    rw [Bool.not_eq_false']
    rw [List.contains_iff_mem, List.mem_filter, hc]
    exact ⟨hv, rfl⟩

theorem span_mem (a : Config) (l r : List Int) (hok : nodesB a l = true) (hr : r.length ≤ 1048576) (hm : ∀ x ∈ r, x ∈ l) : Ev (fun k => spec_l4Span.f k a r) (spanOf a r) := by
  simp only [nodesB, Bool.and_eq_true] at hok
  obtain ⟨h1, h2, _, _, h5⟩ := cfgB_len hok.1
  simp only [spec_l4Span.f]
  refine Ev.pos (by simp [lim_eq]) ?_
  have := spec_l4Span_l a r h5 hr (fun i hi => by
    obtain ⟨j, hj, he⟩ := List.mem_iff_getElem.1 (hm _ (getD_mem (d := (0 : Int)) hi))
    have h6 := ascB_mem hok.2 hj
    rw [List.getD_eq_getElem?_getD, List.getElem?_eq_getElem hj] at h6
    have h7 : l[j] = r.getD i 0 := he
    simp only [Option.getD_some] at h6
    rw [h7] at h6
    omega) r.length 0 (List.replicate 8 false) [] (by omega) (by simp) (by simp) (by
    intro x h0 h7
    rw [List.getD_eq_getElem?_getD, List.getElem?_replicate, if_pos (by omega)]
    rfl)
  rw [List.drop_zero] at this
  exact this
theorem spec_Enough_d (a : Config) (l r : List Int) (ha : a.1.length ≤ 1048576) (hl : l.length ≤ 1048576) (hr : r.length ≤ 1048576) : Evp (fun k => spec_Enough.f k a l r) (fun _ => True) := by
  simp only [spec_Enough.f]
  refine Evp.bindv (spec_Holds_ev a l ha hl) (Evp.ite (fun hh => Evp.bindv (spec_NodesOk_ev a r ha hr) (Evp.ite (fun _ => Evp.bind (spec_l4Less_d r l hr hl) fun x hx => Evp.ite (fun _ => Evp.ret trivial) (fun _ => Evp.bind (spec_l4Less_d l r hl hr) fun y hy => Evp.bindv (span_mem a l y ?_ (by omega) hy.2) (Evp.ret trivial))) (fun _ => Evp.ret trivial))) (fun _ => Evp.ret trivial))
  unfold holdsB at hh
  rw [Bool.and_eq_true] at hh
  exact hh.1
noncomputable def enoughB (a : Config) (l r : List Int) : Bool := holdsB a l && (nodesB a r && (decide ((r.filter fun v => !l.contains v).length = 0) && decide (spanOf a (l.filter fun v => !r.contains v) < a.2.1)))
theorem spec_Enough_ev (a : Config) (l r : List Int) (ha : a.1.length ≤ 1048576) (hl : l.length ≤ 1048576) (hr : r.length ≤ 1048576) : Ev (fun k => spec_Enough.f k a l r) (enoughB a l r) := by
  simp only [spec_Enough.f]
  unfold enoughB
  refine Ev.bind (spec_Holds_ev a l ha hl) (Ev.and fun hh => Ev.bind (spec_NodesOk_ev a r ha hr) (Ev.and fun _ => Ev.bind (spec_l4Less_ev r l hr hl) ?_))
  have hn : nodesB a l = true := by unfold holdsB at hh; rw [Bool.and_eq_true] at hh; exact hh.1
  by_cases h0 : (r.filter fun v => !l.contains v).length = 0
  · rw [decide_eq_true h0, Bool.true_and]
    exact Ev.neg (by omega) (Ev.bind (spec_l4Less_ev l r hl hr) (Ev.bind (span_mem a l _ hn (Nat.le_trans (List.length_filter_le _ _) hl) (fun x hx => (List.mem_filter.1 hx).1)) Ev.ret))
  · rw [decide_eq_false h0, Bool.false_and]
    exact Ev.pos (by omega) Ev.ret

theorem spec_MendPlan_l {s n h w : Nat} (m1 z : Mend) (hn : n ≤ 20480) (hh : h ≤ 512) (g1 : MG s n h w m1) : ∀ (d i : Nat) (t : Mend), (i : Int) + d = max (lastB m1) i → i ≤ 60 → MG s n (h + i) w t → Evp (fun k => spec_MendPlan.p17 k (i : Int) m1 z t) (fun q => MG s n (h + 60) w q.1) := by
  have hb := lastB_le m1
  intro d
  induction d with
  | zero =>
    intro i t hi h6 ht
    refine Evp.succ ?_
    simp only [spec_MendPlan.p17, spec_l9Last_is m1 (by have := g1.2.1.1; omega) g1.2.1.get, Option.bind_some]
    exact Evp.neg (by omega) (Evp.ret (ht.mono (Nat.le_refl _) (Nat.le_refl _) (by omega) (Nat.le_refl _)))
  | succ d ih =>
    intro i t hi h6 ht
    have hl := ht.2.2.1.1
    refine Evp.succ ?_
    simp only [spec_MendPlan.p17, spec_l9Last_is m1 (by have := g1.2.1.1; omega) g1.2.1.get, Option.bind_some]
    rw [wrap_up (i := i) (n := 61) (by omega) (by omega)]
    refine Evp.pos (by omega) (Evp.pos (by simp only [lim_eq, List.length_cons, List.length_nil]; omega) ?_)
    refine ih (i + 1) _ (by omega) (by omega) ⟨ht.1, ht.2.1, ⟨by show (t.2.2.2.2.2.1 ++ [_]).length ≤ _; simp; omega, fun l hl => ?_⟩, ht.2.2.2⟩
    rcases List.mem_append.1 hl with h | h
    · exact ht.2.2.1.2 l h
    · rw [List.mem_singleton] at h; subst h; exact Nat.zero_le _
theorem spec_MendPlan_d {s n h w : Nat} (a : Config) (m : Mend) (l : List Int) (ha : a.1.length ≤ 1048576) (hs : s ≤ 1024) (hn : n ≤ 20480) (hh : h ≤ 512) (hw : w ≤ 1024) (g : MG s n h w m) (hl : l.length ≤ 1048576) : Evp (fun k => spec_MendPlan.f k a m l) (fun q => q.2 = true → MG s n (h + 60) w q.1) := by
  have g1 := g.1
  simp only [spec_MendPlan.f]
  refine Evp.bindv (spec_MendOk_ev a m ha (by omega) (by omega) (by omega) (by omega) g) (Evp.ite (fun _ => Evp.bindv (spec_l9Copy_ev m (by omega) (by omega) (by omega) (by omega) g) (Evp.ite (fun _ => Evp.ret (fun h => by cases h)) (fun _ => Evp.bind (spec_l9Both_d _ l (by omega) hl) fun r hr => Evp.bind (spec_Enough_d a l r ha hl (by omega)) fun b _ => Evp.ite (fun _ => ?_) (fun _ => Evp.ret (fun h => by cases h))))) (fun _ => Evp.ret (fun h => by cases h)))
  have hb := lastB_le m
  exact (spec_MendPlan_l m _ hn hh g (lastB m).toNat 0 (m.1, (m.2.1, (m.2.2.1, (m.2.2.2.1, (true, m.2.2.2.2.2))))) (by omega) (by omega) ⟨g.1, g.2.1, ⟨by have := g.2.2.1.1; show m.2.2.2.2.2.1.length ≤ _; omega, g.2.2.1.2⟩, g.2.2.2⟩).mono fun q hq _ => hq
noncomputable def planM (m : Mend) : Mend := (m.1, (m.2.1, (m.2.2.1, (m.2.2.2.1, (true, (List.replicate (lastB m).toNat ([] : List Int), ()))))))
noncomputable def planF (a : Config) (m : Mend) (l : List Int) : Mend × Bool :=
  if mendB a m = true then (if m.2.2.2.2.1 = true then (m, false) else if enoughB a l (m.2.2.1.filter fun v => l.contains v) = true then (planM m, true) else (m, false)) else (((0 : Int), ((0 : Int), (([] : List Int), (([] : List Entry), (false, (([] : List (List Int)), ())))))), false)
theorem spec_MendPlan_ll {s n h w : Nat} (m1 z : Mend) (hn : n ≤ 1048576) (g1 : MG s n h w m1) : ∀ (d i : Nat) (t : Mend), i + d = (lastB m1).toNat → i ≤ 60 → t = (m1.1, (m1.2.1, (m1.2.2.1, (m1.2.2.2.1, (true, (List.replicate i ([] : List Int), ())))))) → Ev (fun k => spec_MendPlan.p17 k (i : Int) m1 z t) (planM m1, true) := by
  have hb := lastB_le m1
  intro d
  induction d with
  | zero =>
    intro i t hi h6 ht
    refine Ev.succ ?_
    simp only [spec_MendPlan.p17, spec_l9Last_is m1 (by have := g1.2.1.1; omega) g1.2.1.get, Option.bind_some]
    refine Ev.neg (by omega) (Ev.ret.eq ?_)
    rw [ht, show i = (lastB m1).toNat by omega]; rfl
  | succ d ih =>
    intro i t hi h6 ht
    have hl : t.2.2.2.2.2.1.length = i := by rw [ht]; simp
    refine Ev.succ ?_
    simp only [spec_MendPlan.p17, spec_l9Last_is m1 (by have := g1.2.1.1; omega) g1.2.1.get, Option.bind_some]
    rw [wrap_up (i := i) (n := 61) (by omega) (by omega)]
    refine Ev.pos (by omega) (Ev.pos (by rw [hl]; simp only [lim_eq, List.length_cons, List.length_nil]; omega) ?_)
    refine ih (i + 1) _ (by omega) (by omega) ?_
    rw [ht, List.replicate_succ']
theorem spec_MendPlan_ev {s n h w : Nat} (a : Config) (m : Mend) (l : List Int) (ha : a.1.length ≤ 1048576) (hs : s ≤ 1048576) (hn : n ≤ 1048576) (hh : h ≤ 1048576) (hw : w ≤ 1048576) (g : MG s n h w m) (hl : l.length ≤ 1048576) : Ev (fun k => spec_MendPlan.f k a m l) (planF a m l) := by
  have g1 := g.1
  simp only [spec_MendPlan.f]
  unfold planF
  refine Ev.bind (spec_MendOk_ev a m ha hs hn hh hw g) (Ev.ite (fun hm => Ev.bind (spec_l9Copy_ev m hs hn hh hw g) (Ev.ite (fun _ => Ev.ret) (fun hp => Ev.bind (spec_l9Both_ev _ l (by omega) hl) (Ev.bind (spec_Enough_ev a l _ ha hl (Nat.le_trans (List.length_filter_le _ _) (by omega))) (Ev.ite (fun _ => ?_) (fun _ => Ev.ret)))))) (fun _ => Ev.ret))
  have hb := lastB_le m
  have h8 := (mendB_parts hm).2.2.2.2.2.2.2
  rw [if_neg hp] at h8
  have h9 : m.2.2.2.2.2.1 = [] := List.length_eq_zero_iff.1 (by omega)
  exact spec_MendPlan_ll m _ hn g (lastB m).toNat 0 _ (by omega) (by omega) (by rw [show m.2.2.2.2.2 = (m.2.2.2.2.2.1, ()) from rfl, h9]; rfl)

noncomputable def holdsAt (a : Config) (m : Mend) (i : Nat) : Bool := holdsB a (m.2.2.2.2.2.1.getD i [])
noncomputable def readyB (a : Config) (m : Mend) : Bool := mendB a m && (m.2.2.2.2.1 && (List.range' 0 m.2.2.2.2.2.1.length).all (holdsAt a m))
theorem spec_MendReady_ev {s n h w : Nat} (a : Config) (m : Mend) (ha : a.1.length ≤ 1048576) (hs : s ≤ 1048576) (hn : n ≤ 1048576) (hh : h ≤ 1048576) (hw : w ≤ 1048576) (g : MG s n h w m) : Ev (fun k => spec_MendReady.f k a m) (readyB a m) := by
  have g3 := g.2.2.1.1
  have h9 : Ev (fun k => spec_MendReady.p9 k (0 : Int) a m) ((List.range' 0 m.2.2.2.2.2.1.length).all (holdsAt a m)) :=
    (all_loop (n := m.2.2.2.2.2.1.length) (p := fun k i => spec_MendReady.p9 k i a m) (q := holdsAt a m) (zb := true) (fun i hi b hb => by
      simp only [spec_MendReady.p9, Int.toNat_natCast]
      rw [wrap_up hi (by omega)]
      exact Ev.pos (by omega) (Ev.pos (by omega) (Ev.bind (spec_Holds_ev a _ ha (by have := g.get i; omega)) (Ev.and fun _ => hb)))) (by
      simp only [spec_MendReady.p9]
      exact Ev.neg (by omega) Ev.ret) m.2.2.2.2.2.1.length 0 (by omega)).eq (Bool.and_true _)
  simp only [spec_MendReady.f, readyB]
  exact Ev.bind (spec_MendOk_ev a m ha hs hn hh hw g) (Ev.and fun _ => Ev.and fun _ => h9)

/-- A register of at most n epochs, with small sets. -/
def RG (n : Nat) (r : Register) : Prop := r.1.length ≤ n ∧ (∀ e ∈ r.1, e.1.length ≤ 64) ∧ InR r.2.1
theorem RG.at {n : Nat} {r : Register} (h : RG n r) : ∀ i, i < r.1.length → (r.1.getD i zEra).1.length ≤ 1048576 := fun i hi => by
  have := h.2.1 _ (getD_mem (d := zEra) hi); omega
theorem RG.mono {n m : Nat} {r : Register} (h : RG n r) (hm : n ≤ m) : RG m r := ⟨by have := h.1; omega, h.2⟩
theorem RG.nil {n : Nat} : RG n (([] : List Era), ((0 : Int), ())) := ⟨by simp, fun e he => (by cases he), by unfold InR; decide⟩
theorem RG.set {n : Nat} {l : List Era} {t : Int} {i : Nat} {e : Era} (h : RG n (l, (t, ()))) (he : e.1.length ≤ 64) : RG n (l.set i e, (t, ())) := by
  refine ⟨by show (l.set i e).length ≤ n; rw [List.length_set]; exact h.1, fun x hx => ?_, h.2.2⟩
  rcases List.mem_or_eq_of_mem_set hx with h' | rfl
  · exact h.2.1 x h'
  · exact he
theorem RG.get {n : Nat} {r : Register} (h : RG n r) (i : Nat) : (r.1.getD i zEra).1.length ≤ 64 := by
  by_cases hi : i < r.1.length
  · exact h.2.1 _ (getD_mem hi)
  · rw [List.getD_eq_getElem?_getD, List.getElem?_eq_none (by omega)]; decide
theorem spec_RegClose_d {n : Nat} (a : Config) (r : Register) (e last : Int) (ha : a.1.length ≤ 1048576) (hn : n ≤ 1048576) (h : RG n r) : Evp (fun k => spec_RegClose.f k a r e last) (fun q => RG n q.1) := by
  have hl := h.1
  simp only [spec_RegClose.f]
  refine Evp.bindv (spec_RegOk_ev a r h.2.2 ha (by omega) h.at) (Evp.ite (fun _ => Evp.bindv (spec_l7Copy_ev r (by omega) h.at) (Evp.bindv (spec_FirstOpen_ev r (by omega)) ?_)) (fun _ => Evp.ret RG.nil))
  refine Evp.ite (fun _ => Evp.ite (fun _ => Evp.ret h) (fun h0 => Evp.ite (fun _ => Evp.ret h) (fun _ => Evp.bindc (P := fun _ => True) ⟨_, spec_l1In_is _ _ _, trivial⟩ fun b _ => Evp.ite (fun _ => ?_) (fun _ => Evp.ret h)))) (fun _ => Evp.ret h)
  have hf := fO_or r.1 0 (by omega)
  rw [wrap64_id (x := fO r.1 0 - 1) (by omega) (by omega)]
  refine Evp.pos (by omega) (Evp.pos (by rw [List.length_set]; omega) (Evp.ret ?_))
  have h1 : RG n ((r.1.set (fO r.1 0 - 1).toNat ((r.1.getD (fO r.1 0 - 1).toNat zEra).1, (true, (r.1.getD (fO r.1 0 - 1).toNat zEra).2.2))), (r.2.1, ())) := RG.set h (h.get _)
  exact RG.set h1 (h1.get _)
/-- An era that is closed; a register in which the first epoch that is open is closed. -/
noncomputable def closE (e : Era) (last : Int) : Era := (e.1, (true, (last, e.2.2.2)))
noncomputable def closR (r : Register) (first last : Int) : Register := (r.1.set (first - 1).toNat (closE (r.1.getD (first - 1).toNat zEra) last), r.2)
noncomputable def closF (a : Config) (r : Register) (e last : Int) : Register × Bool :=
  if regB a r = true then (if e = ((r.1.length : Nat) : Int) ∧ ¬ fO r.1 0 = 0 ∧ ¬ e = fO r.1 0 ∧ inB last 0 60 = true then (closR r (fO r.1 0) last, true) else (r, false)) else ((([] : List Era), ((0 : Int), ())), false)
theorem clos_set {l : List Era} {i : Nat} (hi : i < l.length) (last : Int) :
    ((l.set i ((l.getD i zEra).1, (true, (l.getD i zEra).2.2))).set i (((l.set i ((l.getD i zEra).1, (true, (l.getD i zEra).2.2))).getD i zEra).1, (((l.set i ((l.getD i zEra).1, (true, (l.getD i zEra).2.2))).getD i zEra).2.1, (last, ((l.set i ((l.getD i zEra).1, (true, (l.getD i zEra).2.2))).getD i zEra).2.2.2)))) = l.set i (closE (l.getD i zEra) last) := by
  have : (l.set i ((l.getD i zEra).1, (true, (l.getD i zEra).2.2))).getD i zEra = ((l.getD i zEra).1, (true, (l.getD i zEra).2.2)) := by
    rw [List.getD_eq_getElem?_getD, List.getElem?_set, if_pos rfl, if_pos hi]; rfl
  rw [this, List.set_set]; rfl
theorem spec_RegClose_ev (a : Config) (r : Register) (e last : Int) (ht : InR r.2.1) (ha : a.1.length ≤ 1048576) (hl : r.1.length ≤ 1048576) (he : ∀ i, i < r.1.length → (r.1.getD i zEra).1.length ≤ 1048576) : Ev (fun k => spec_RegClose.f k a r e last) (closF a r e last) := by
  simp only [spec_RegClose.f, spec_l1In_is, Option.bind_some]
  unfold closF
  refine Ev.bind (spec_RegOk_ev a r ht ha hl he) (Ev.ite (fun _ => Ev.bind (spec_l7Copy_ev r hl he) (Ev.bind (spec_FirstOpen_ev r hl) ?_)) (fun _ => Ev.ret))
  by_cases h1 : e = ((r.1.length : Nat) : Int)
  case neg => exact (Ev.neg h1 Ev.ret).eq (if_neg (fun h => h1 h.1)).symm
  refine Ev.pos h1 ?_
  by_cases h2 : fO r.1 0 = 0
  · exact (Ev.pos h2 Ev.ret).eq (if_neg (fun h => h.2.1 h2)).symm
  refine Ev.neg h2 ?_
  by_cases h3 : e = fO r.1 0
  · exact (Ev.pos h3 Ev.ret).eq (if_neg (fun h => h.2.2.1 h3)).symm
  refine Ev.neg h3 ?_
  by_cases h4 : inB last 0 60 = true
  case neg => exact (Ev.neg h4 Ev.ret).eq (if_neg (fun h => h4 h.2.2.2)).symm
  refine Ev.eq (v := (closR r (fO r.1 0) last, true)) ?_ (if_pos ⟨h1, h2, h3, h4⟩).symm
  have hf := fO_or r.1 0 (by omega)
  rw [wrap64_id (x := fO r.1 0 - 1) (by omega) (by omega)]
  refine Ev.pos h4 (Ev.pos (by omega) (Ev.pos (by rw [List.length_set]; omega) (Ev.ret.eq ?_)))
  exact congrArg (fun q => ((q, r.2), true)) (clos_set (by omega) last)

/-- A register that is trimmed. -/
noncomputable def trimF (a : Config) (r : Register) (t : Int) : Register × Bool := if regB a r = true then (if inB (epochOf t) 1 ((r.1.length : Nat) : Int) = true then ((r.1, ((max r.2.1 t), r.2.2)), true) else (r, false)) else ((([] : List Era), ((0 : Int), ())), false)
theorem spec_RegTrim_ev (a : Config) (r : Register) (t : Int) (hr : InR r.2.1) (ht : InR t) (ha : a.1.length ≤ 1048576) (hl : r.1.length ≤ 1048576) (he : ∀ i, i < r.1.length → (r.1.getD i zEra).1.length ≤ 1048576) : Ev (fun k => spec_RegTrim.f k a r t) (trimF a r t) := by
  have s1 := spec_RegOk_ev a r hr ha hl he
  have s3 := spec_l7Copy_ev r hl he
  simp only [spec_RegTrim.f, spec_PlaceOk_is t ht, spec_EpochOf_is t ht, Option.bind_some, spec_l1Max.f, trimF]
  refine Ev.bind s1 (Ev.ite (fun hb => Ev.bind s3 ?_) (fun _ => Ev.ret))
  by_cases hp : placeOk t = true
  · obtain ⟨_, p1, p2⟩ := epochOf_pos hp
    refine Ev.pos hp ?_
    by_cases hlt : ((r.1.length : Nat) : Int) < epochOf t
    · rw [if_neg (show ¬ inB (epochOf t) 1 ((r.1.length : Nat) : Int) = true by rw [inB_true]; omega)]
      exact Ev.pos hlt Ev.ret
    · rw [if_pos (show inB (epochOf t) 1 ((r.1.length : Nat) : Int) = true by rw [inB_true]; omega)]
      refine Ev.neg hlt (Ev.of ?_)
      by_cases hm : t < r.2.1
      · rw [if_pos hm, Option.bind_some, Int.max_eq_left (by omega)]
      · rw [if_neg hm, Option.bind_some, Int.max_eq_right (by omega)]
  · have h0 : epochOf t = 0 := by unfold epochOf; rw [if_neg hp]
    rw [if_neg (show ¬ inB (epochOf t) 1 ((r.1.length : Nat) : Int) = true by rw [inB_true, h0]; omega)]
    exact Ev.neg hp Ev.ret

/-- How many words are done ahead of the first one that is not. -/
noncomputable def sureN : List Word → Nat
  | [] => 0
  | w :: l => if w.2.2.1 = true then sureN l + 1 else 0
theorem spec_WriterSure_l (w : Writer) (hl : w.2.1.length ≤ 1048576) : ∀ (d i : Nat), i + d = w.2.1.length → Ev (fun k => spec_WriterSure.p5 k (i : Int) w) (((i + sureN (w.2.1.drop i) : Nat)) : Int) := by
  intro d
  induction d with
  | zero =>
    intro i hi
    refine Ev.succ ?_
    simp only [spec_WriterSure.p5]
    rw [List.drop_eq_nil_of_le (by omega)]
    exact Ev.neg (by omega) Ev.ret
  | succ d ih =>
    intro i hi
    have hlt : i < w.2.1.length := by omega
    refine Ev.succ ?_
    simp only [spec_WriterSure.p5, Int.toNat_natCast]
    rw [wrap_up hlt (by omega), drop_get (d := zWord) hlt]
    refine Ev.pos (by omega) (Ev.pos (by omega) ?_)
    unfold sureN
    by_cases hd : (w.2.1.getD i zWord).2.2.1 = true
    · rw [if_pos hd]
      exact Ev.pos hd ((ih (i + 1) (by omega)).eq (by omega))
    · rw [if_neg hd]
      exact Ev.neg hd Ev.ret
theorem spec_WriterSure_ev (w : Writer) (hl : w.2.1.length ≤ 1048576) : Ev (fun k => spec_WriterSure.f k w) ((sureN w.2.1 : Nat) : Int) := by
  have := spec_WriterSure_l w hl w.2.1.length 0 (by omega)
  rw [List.drop_zero, Nat.zero_add] at this
  exact Ev.cg this fun k => rfl

theorem spec_l10Nodes_ev (a : Config) (l : List Answer) (ha : a.1.length ≤ 1048576) (hl : l.length ≤ 1048576) : Ev (fun k => spec_l10Nodes.f k a l) (l.map (·.1), nodesB a (l.map (·.1))) := by
  have h : ∀ (m i : Nat) (o : List Int), i + m = l.length → o.length = i → o ++ (l.drop i).map (·.1) = l.map (·.1) → Ev (fun k => spec_l10Nodes.p7 k l o (i : Int) a) (l.map (·.1), nodesB a (l.map (·.1))) := by
    intro m
    induction m with
    | zero =>
      intro i o hi ho he
      refine Ev.succ ?_
      simp only [spec_l10Nodes.p7]
      rw [List.drop_eq_nil_of_le (by omega)] at he
      have he : o = l.map (·.1) := by rw [← he]; simp
      rw [he]
      exact Ev.neg (by omega) (Ev.bind (spec_NodesOk_ev a _ ha (by rw [List.length_map]; exact hl)) Ev.ret)
    | succ m ih =>
      intro i o hi ho he
      have hlt : i < l.length := by omega
      rw [drop_get (d := zAns) hlt] at he
      refine Ev.succ ?_
      simp only [spec_l10Nodes.p7, Int.toNat_natCast]
      rw [wrap_up hlt (by omega)]
      exact Ev.pos (by omega) (Ev.pos (by omega) (Ev.pos (by simp only [lim_eq, List.length_cons, List.length_nil]; omega) (ih (i + 1) _ (by omega) (by simp [ho]) (by rw [List.append_assoc]; exact he))))
  exact h l.length 0 [] (by omega) rfl rfl

theorem spec_l10Tell_is (r : Reader) (e : Event) (a b : Int) (h : r.2.2.1.length ≤ 1048576) : spec_l10Tell.f r e a b = some (a, (b, (r.2.2.1 ++ [e], ()))) := by
  simp only [spec_l10Tell.f, spec_l10Copy_is r h, Option.bind_some]
  rw [if_pos (by simp only [lim_eq, List.length_cons, List.length_nil]; omega)]

noncomputable def ansB (set : List Int) (place : Int) (x : Answer) : Bool := x.2.1 && (set.contains x.1 && (entB x.2.2.1 && decide (x.2.2.1.1 = place)))
/-- The best answer. -/
noncomputable def bestL (set : List Int) (place : Int) : Entry × Bool → List Answer → Entry × Bool
  | q, [] => q
  | q, x :: l => bestL set place (if ansB set place x = true then (if q.2 = true then better q.1 x.2.2.1 else better x.2.2.1 x.2.2.1, true) else q) l
theorem ans_split {β : Type} {set : List Int} {place : Int} {x : Answer} {v : β} {A B : Nat → Option β} {C E : Nat → Option Bool} (hc : Ev C (set.contains x.1)) (he : Ev E (entB x.2.2.1)) (hA : ansB set place x = true → Ev A v) (hB : ansB set place x = false → Ev B v) :
    Ev (fun k => if x.2.1 = true then ((C k).bind fun r1 => if r1 = true then ((E k).bind fun r2 => if r2 = true then (if x.2.2.1.1 = place then A k else B k) else B k) else B k) else B k) v := by
  unfold ansB at hA hB
  by_cases h1 : x.2.1 = true
  · refine Ev.pos h1 (Ev.bind hc ?_)
    by_cases h2 : set.contains x.1 = true
    · refine Ev.pos h2 (Ev.bind he ?_)
      by_cases h3 : entB x.2.2.1 = true
      · refine Ev.pos h3 ?_
        by_cases h4 : x.2.2.1.1 = place
        · exact Ev.pos h4 (hA (by rw [h1, h2, h3, decide_eq_true h4]; rfl))
        · exact Ev.neg h4 (hB (by rw [decide_eq_false h4]; simp))
      · exact Ev.neg h3 (hB (by rw [Bool.not_eq_true] at h3; rw [h3]; simp))
    · exact Ev.neg h2 (hB (by rw [Bool.not_eq_true] at h2; rw [h2]; simp))
  · exact Ev.neg h1 (hB (by rw [Bool.not_eq_true] at h1; rw [h1]; simp))
theorem spec_l10Best_ev (set : List Int) (place : Int) (l : List Answer) (hs : set.length ≤ 1048576) (hl : AnG l) : Ev (fun k => spec_l10Best.f k set place l) (evOf place (bestL set place (zEnt, false) l)) := by
  have hll := hl.1
  have h : ∀ (m i : Nat) (q : Entry × Bool) (z : Event), i + m = l.length → Ev (fun k => spec_l10Best.p9 k set place l q.2 (i : Int) z q.1) (evOf place (bestL set place q (l.drop i))) := by
    intro m
    induction m with
    | zero =>
      intro i q z hi
      refine Ev.succ ?_
      simp only [spec_l10Best.p9]
      rw [List.drop_eq_nil_of_le (by omega)]
      exact Ev.neg (by omega) (Ev.ite (fun _ => Ev.ite (fun _ => Ev.ret) (fun _ => Ev.ret)) (fun _ => Ev.ret))
    | succ m ih =>
      intro i q z hi
      have hlt : i < l.length := by omega
      refine Ev.succ ?_
      simp only [spec_l10Best.p9, Int.toNat_natCast]
      rw [wrap_up hlt (by omega), drop_get (d := zAns) hlt]
      refine Ev.pos (by omega) (Ev.pos (by omega) ?_)
      show Ev _ (evOf place (bestL set place (if ansB set place (l.getD i zAns) = true then (if q.2 = true then better q.1 (l.getD i zAns).2.2.1 else better (l.getD i zAns).2.2.1 (l.getD i zAns).2.2.1, true) else q) (l.drop (i + 1))))
      refine ans_split (set := set) (place := place) (x := l.getD i zAns) (spec_l4Has_ev set _ hs) (spec_EntryOk_ev _ (hl.2 _ (getD_mem hlt))) (fun ha => ?_) (fun ha => ?_)
      · rw [if_pos ha]
        by_cases hq : q.2 = true
        · refine Ev.pos hq (Ev.bindc (a := better q.1 (l.getD i zAns).2.2.1) ?_ ?_)
          · show spec_Better.f q.1 (l.getD i zAns).2.2.1 = _
            unfold spec_Better.f better; split <;> rfl
          · rw [if_pos hq]; exact ih (i + 1) (better q.1 (l.getD i zAns).2.2.1, true) z (by omega)
        · refine Ev.neg hq (Ev.bindc (a := better (l.getD i zAns).2.2.1 (l.getD i zAns).2.2.1) ?_ ?_)
          · show spec_Better.f (l.getD i zAns).2.2.1 (l.getD i zAns).2.2.1 = _
            unfold spec_Better.f better; split <;> rfl
          · rw [if_neg hq]; exact ih (i + 1) (better (l.getD i zAns).2.2.1 (l.getD i zAns).2.2.1, true) z (by omega)
      · rw [if_neg (by rw [ha]; decide)]; exact ih (i + 1) q z (by omega)
  exact h l.length 0 (zEnt, false) _ (by omega)

noncomputable def eraOf (g : Register) (r : Reader) : Era := g.1.getD (r.1 - 1).toNat zEra
noncomputable def placeOf' (r : Reader) : Int := 4294967296 * r.1 + r.2.1
noncomputable def enoughR (a : Config) (g : Register) (r : Reader) (l : List Answer) : Bool := enoughB a (eraOf g r).1 ((l.map (·.1)).filter fun v => (eraOf g r).1.contains v)
noncomputable def tellR (a : Config) (g : Register) (r : Reader) (l : List Answer) : Reader × Int :=
  if enoughR a g r l = true then ((r.1, (r.2.1 + 1, (r.2.2.1 ++ [evOf (placeOf' r) (bestL (eraOf g r).1 (placeOf' r) (zEnt, false) l)], ()))), 0) else (r, 3)
noncomputable def readF (a : Config) (g : Register) (sure : Int) (r : Reader) (l : List Answer) : Reader × Int :=
  if regB a g = true ∧ readerB r = true ∧ nodesB a (l.map (·.1)) = true then
    (if ((g.1.length : Nat) : Int) < r.1 then (r, 2) else if ((r.2.2.1.length : Nat) : Int) = 120 then (r, 2)
    else if placeOf' r ≤ g.2.1 then ((epochOf g.2.1, (offOf g.2.1 + 1, (r.2.2.1 ++ [((5 : Int), (g.2.1, ((⟨#[]⟩ : ByteArray), ())))], ()))), 0)
    else if (eraOf g r).2.1 = true ∧ (eraOf g r).2.2.1 < r.2.1 then ((r.1 + 1, (1, (r.2.2.1 ++ [((4 : Int), (r.1 + 1, ((⟨#[]⟩ : ByteArray), ())))], ()))), 0)
    else if (¬ (eraOf g r).2.1 = true ∧ sure < r.2.1) ∨ 60 < r.2.1 then (r, 2)
    else tellR a g r l)
  else (zRd, 1)
theorem readerB_parts {r : Reader} (h : readerB r = true) : (1 ≤ r.1 ∧ r.1 ≤ 31) ∧ (1 ≤ r.2.1 ∧ r.2.1 ≤ 61) ∧ r.2.2.1.length ≤ 120 := by
  simp only [readerB, Bool.and_eq_true, inB_true, decide_eq_true_eq] at h
  exact ⟨h.1, h.2.1, by omega⟩
theorem offOf_le (x : Int) : 0 ≤ offOf x ∧ offOf x ≤ 60 := by
  unfold offOf
  split
  · rename_i h; have := placeOk_pos h; omega
  · omega
theorem spec_ReaderNext_ev (a : Config) (g : Register) (sure : Int) (r : Reader) (l : List Answer) (ha : a.1.length ≤ 1048576) (ht : InR g.2.1) (hl : g.1.length ≤ 1048576) (he : ∀ i, i < g.1.length → (g.1.getD i zEra).1.length ≤ 1048576) (hr : r.2.2.1.length ≤ 1048576) (hA : AnG l) : Ev (fun k => spec_ReaderNext.f k a g sure r l) (readF a g sure r l) := by
  have hll := hA.1
  simp only [spec_ReaderNext.f, spec_ReaderOk_is, spec_l10Copy_is r hr, spec_l10Tell_is r _ _ _ hr, Option.bind_some, spec_l1Place.f, spec_EpochOf_is _ ht, spec_OffOf_is _ ht]
  unfold readF
  refine Ev.bind (spec_l10Nodes_ev a l ha hll) (Ev.bind (spec_RegOk_ev a g ht ha hl he) ?_)
  by_cases h1 : regB a g = true
  case neg => rw [if_neg (fun h => h1 h.1)]; exact Ev.neg h1 Ev.ret
  refine Ev.pos h1 ?_
  by_cases h2 : readerB r = true
  case neg => rw [if_neg (fun h => h2 h.2.1)]; exact Ev.neg h2 Ev.ret
  refine Ev.pos h2 ?_
  by_cases h3 : nodesB a (l.map (·.1)) = true
  case neg => rw [if_neg (fun h => h3 h.2.2)]; exact Ev.neg h3 Ev.ret
  rw [if_pos ⟨h1, h2, h3⟩]
  obtain ⟨p1, p2, p3⟩ := readerB_parts h2
  have w1 : wrap64 (r.1 - 1) = r.1 - 1 := wrap64_id (by omega) (by omega)
  have w2 : wrap64 (wrap64 (4294967296 * r.1) + r.2.1) = placeOf' r := by rw [wrap64_id (x := 4294967296 * r.1) (by omega) (by omega), wrap64_id (by omega) (by omega)]; rfl
  have w3 : wrap64 (r.1 + 1) = r.1 + 1 := wrap64_id (by omega) (by omega)
  have w4 : wrap64 (offOf g.2.1 + 1) = offOf g.2.1 + 1 := by have := offOf_le g.2.1; exact wrap64_id (by omega) (by omega)
  have w5 : wrap64 (r.2.1 + 1) = r.2.1 + 1 := wrap64_id (by omega) (by omega)
  rw [w1, w2, w3, w4]
  refine Ev.pos h3 (Ev.ite (fun _ => Ev.ret) (fun hn => Ev.ite (fun _ => Ev.ret) (fun _ => Ev.pos (by omega) (Ev.ite (fun _ => Ev.ret) (fun _ => ?_)))))
  have hi : (r.1 - 1).toNat < g.1.length := by omega
  have hel : (eraOf g r).1.length ≤ 1048576 := he _ hi
  have fin : ∀ z, Ev (fun k => (spec_l9Both.f k (l.map (·.1)) (eraOf g r).1).bind fun r12 => (spec_Enough.f k a (eraOf g r).1 r12).bind fun r13 => if r13 = true then spec_ReaderNext.p32 k l (placeOf' r) r z (eraOf g r) else some (r, (3 : Int))) (tellR a g r l) := fun z => by
    refine Ev.bind (spec_l9Both_ev _ _ (by rw [List.length_map]; exact hll) hel) (Ev.bind (spec_Enough_ev a (eraOf g r).1 _ ha hel (Nat.le_trans (List.length_filter_le _ _) (by rw [List.length_map]; exact hll))) ?_)
    unfold tellR enoughR
    refine Ev.ite (fun _ => Ev.succ ?_) (fun _ => Ev.ret)
    simp only [spec_ReaderNext.p32, spec_l10Tell_is r _ _ _ hr, Option.bind_some, w5]
    exact Ev.bind (spec_l10Best_ev (eraOf g r).1 (placeOf' r) l hel hA) Ev.ret
  change Ev (fun k => if (eraOf g r).2.1 = true then _ else _) _
  by_cases hc : (eraOf g r).2.1 = true
  · refine Ev.pos hc ?_
    by_cases hla : (eraOf g r).2.2.1 < r.2.1
    · rw [if_pos ⟨hc, hla⟩]; exact Ev.pos hla Ev.ret
    · rw [if_neg (fun h => hla h.2)]
      refine Ev.neg hla (Ev.pos hc ?_)
      by_cases h60 : 60 < r.2.1
      · rw [if_pos (.inr h60)]; exact Ev.pos h60 Ev.ret
      · rw [if_neg (fun h => h.elim (fun h => h.1 hc) h60)]; exact Ev.neg h60 (fin _)
  · rw [if_neg (fun h => hc h.1)]
    refine Ev.neg hc (Ev.neg hc ?_)
    by_cases hs : sure < r.2.1
    · rw [if_pos (.inl ⟨hc, hs⟩)]; exact Ev.pos hs Ev.ret
    · refine Ev.neg hs ?_
      by_cases h60 : 60 < r.2.1
      · rw [if_pos (.inr h60)]; exact Ev.pos h60 Ev.ret
      · rw [if_neg (fun h => h.elim (fun h => hs h.2) h60)]; exact Ev.neg h60 (fin _)

theorem spec_l3DrawRight_d (c : l1Cur) (h : Cu c) : Op (spec_l3DrawRight.f c) (fun r => InR r.1.1 ∧ Cu r.2) := by
  unfold spec_l3DrawRight.f
  refine Op.bind (spec_l1Below_d c 3 h) fun r hr => Op.bind (spec_l1Below_d _ 6 hr.2.2.2) fun s hs => Op.bind (spec_l1Place_is _ _) fun p hp => Op.bind (spec_l1Pick_d _ _ hs.2.2.2 (by decide)) fun t ht => Op.bind (spec_l1Once_d _ 3 ht) fun u hu => ?_
  refine Op.ite (fun _ => Op.bind (P := fun _ => True) ⟨_, spec_EpochOf_is p hp, trivial⟩ fun e _ => Op.bind (spec_l1Below_d _ 3 hu) fun v hv => Op.bind (spec_l1Once_d _ 2 hv.2.2.2) fun w hw => Op.ite (fun _ => Op.ret ⟨hp, hw⟩) (fun _ => Op.ret ⟨hp, hw⟩)) (fun _ => Op.ret ⟨hp, hu⟩)

/-- At most n entries in all. -/
def TG (n : Nat) (s : Store) : Prop := SG n n s ∧ s.1.length + s.2.1.length ≤ n
theorem TG.mono {n m : Nat} {s : Store} (h : TG n s) (hm : n ≤ m) : TG m s := ⟨⟨h.1.1.mono hm, h.1.2.1.mono hm, h.1.2.2⟩, by have := h.2; omega⟩
theorem TG.of {n : Nat} {s t : Store} (h : TG n s) (ht : SG (s.1.length + s.2.1.length) 0 t) : TG n t := by
  have := h.2
  have h1 := ht.1.1; have h2 := ht.2.1.1
  exact ⟨⟨ht.1.mono (by omega), ht.2.1.mono (by omega), ht.2.2⟩, by omega⟩
theorem TG.put {n : Nat} {s t : Store} (h : TG n s) (ht : SG s.1.length (s.2.1.length + 1) t) : TG (n + 1) t := by
  have := h.2
  have h1 := ht.1.1; have h2 := ht.2.1.1
  exact ⟨⟨ht.1.mono (by omega), ht.2.1.mono (by omega), ht.2.2⟩, by omega⟩
theorem spec_l6DrawRight_e (z : Store) (a : Int) : ∀ (m i : Nat) (s : Store) (c : l1Cur) (N : Nat), i + m = 51 → s.1.length + m ≤ N → N ≤ 4096 → EG 4096 s.1 → EG 4096 s.2.1 → InR s.2.2.1 → Cu c →
    (∀ (t : Store) (c : l1Cur), t.1.length ≤ N → EG 4096 t.1 → t.2 = s.2 → Cu c → Evp (fun k => spec_l6DrawRight.p41 k (wrap64 (a + 1)) z t c) (fun q => EG 4096 q.1.1 ∧ EG 4096 q.1.2.1 ∧ InR q.1.2.2.1 ∧ Cu q.2)) →
    Evp (fun k => spec_l6DrawRight.p47 k a (i : Int) z s c) (fun q => EG 4096 q.1.1 ∧ EG 4096 q.1.2.1 ∧ InR q.1.2.2.1 ∧ Cu q.2) := by
  intro m
  induction m with
  | zero =>
    intro i s c N hi hN hN2 h1 h2 h3 hc hk
    refine Evp.succ ?_
    simp only [spec_l6DrawRight.p47]
    exact Evp.neg (by omega) (hk s c (by omega) h1 rfl hc)
  | succ m ih =>
    intro i s c N hi hN hN2 h1 h2 h3 hc hk
    have hl := h1.1
    refine Evp.succ ?_
    simp only [spec_l6DrawRight.p47]
    rw [wrap_up (i := i) (n := 51) (by omega) (by omega)]
    refine Evp.pos (by omega) (Evp.bindc (spec_l1Place_is _ _) fun p hp => Evp.pos (by simp only [lim_eq, List.length_cons, List.length_nil]; omega) ?_)
    exact ih (i + 1) (s.1 ++ [(p, ((0 : Int), (false, ((⟨#[]⟩ : ByteArray), ()))))], s.2) c N (by omega) (by simp; omega) hN2 ⟨by simp; omega, ((EG.app (n := s.1.length) ⟨Nat.le_refl _, h1.2⟩ hp)).2⟩ h2 h3 hc hk
theorem spec_l6DrawRight_g (z : Store) : ∀ (m i : Nat) (s : Store) (c : l1Cur), i + m = 5 → s.1.length + 51 * m ≤ 255 → EG 4096 s.1 → EG 4096 s.2.1 → InR s.2.2.1 → Cu c →
    Evp (fun k => spec_l6DrawRight.p41 k (i : Int) z s c) (fun q => EG 4096 q.1.1 ∧ EG 4096 q.1.2.1 ∧ InR q.1.2.2.1 ∧ Cu q.2) := by
  intro m
  induction m with
  | zero =>
    intro i s c hi hl h1 h2 h3 hc
    refine Evp.succ ?_
    simp only [spec_l6DrawRight.p41]
    exact Evp.neg (by omega) (Evp.ret ⟨h1, h2, h3, hc⟩)
  | succ m ih =>
    intro i s c hi hl h1 h2 h3 hc
    refine Evp.succ ?_
    simp only [spec_l6DrawRight.p41]
    refine Evp.pos (by omega) ?_
    refine spec_l6DrawRight_e z (i : Int) 50 1 s c (s.1.length + 50) (by omega) (by omega) (by omega) h1 h2 h3 hc (fun t c' ht h1' h2' hc' => ?_)
    rw [wrap_up (i := i) (n := 5) (by omega) (by omega)]
    exact ih (i + 1) t c' (by omega) (by omega) h1' (by rw [h2']; exact h2) (by rw [h2']; exact h3) hc'
theorem spec_l6DrawRight_l (n : Int) (hn : n ≤ 8) (z : Store) (hz : SG 0 0 z) : ∀ (m i : Nat) (s : Store) (c : l1Cur), (i : Int) + m = max n i → i ≤ 8 → TG i s → Cu c →
    Evp (fun k => spec_l6DrawRight.p9 k n (i : Int) z s c) (fun q => EG 4096 q.1.1 ∧ EG 4096 q.1.2.1 ∧ InR q.1.2.2.1 ∧ Cu q.2) := by
  intro m
  induction m with
  | zero =>
    intro i s c hi h8 hs hc
    refine Evp.succ ?_
    simp only [spec_l6DrawRight.p9]
    refine Evp.neg (by omega) (Evp.bindc (spec_l1Once_d c 40 hc) fun r hr => Evp.ite (fun _ => ?_) (fun _ => Evp.ret ⟨hs.1.1.mono (by omega), hs.1.2.1.mono (by omega), hs.1.2.2, hr⟩))
    exact spec_l6DrawRight_g z 4 1 _ _ (by omega) (by show (0 : Nat) + 51 * 4 ≤ 255; omega) EG.nil (hs.1.2.1.mono (by omega)) hs.1.2.2 hr
  | succ m ih =>
    intro i s c hi h8 hs hc
    have hT := hs.2
    have hlt : (i : Int) < n := by omega
    have ew : wrap64 ((i : Int) + 1) = ((i + 1 : Nat) : Int) := wrap_up (n := 8) (by omega) (by omega)
    have go : ∀ (t : Store) (c' : l1Cur), TG (i + 1) t → Cu c' → Evp (fun k => spec_l6DrawRight.p9 k n (wrap64 ((i : Int) + 1)) z t c') (fun q => EG 4096 q.1.1 ∧ EG 4096 q.1.2.1 ∧ InR q.1.2.2.1 ∧ Cu q.2) := fun t c' h1 h2 => by
      rw [ew]; exact ih (i + 1) t c' (by omega) (by omega) h1 h2
    have same : TG (i + 1) s := hs.mono (by omega)
    have hSG : SG s.1.length s.2.1.length s := ⟨⟨Nat.le_refl _, hs.1.1.2⟩, ⟨Nat.le_refl _, hs.1.2.1.2⟩, hs.1.2.2⟩
    refine Evp.succ ?_
    simp only [spec_l6DrawRight.p9]
    refine Evp.pos hlt (Evp.bindc (spec_l3DrawRight_d c hc) fun e he => Evp.bind (spec_StorePut_d s e.1 (by omega) (by omega) hSG he.1) fun p hp => Evp.bindc (spec_l1Below_d _ 6 he.2) fun b hb => ?_)
    have hput : TG (i + 1) p.1 := hs.put hp
    refine Evp.ite (fun _ => Evp.bind (spec_StoreSync_d s hs.1 (by omega)) fun y hy => Evp.ite (fun ht => go _ _ (same.of (hy ht)) hb.2.2.2) (fun _ => go _ _ same hb.2.2.2)) (fun _ => ?_)
    refine Evp.ite (fun _ => Evp.bind (spec_StoreSync_d p.1 hput.1 (by omega)) fun y hy => Evp.ite (fun ht => go _ _ (hput.of (hy ht)) hb.2.2.2) (fun _ => go _ _ same hb.2.2.2)) (fun _ => ?_)
    refine Evp.ite (fun _ => Evp.bindc (spec_l1Once_d _ 3 hb.2.2.2) fun o ho => Evp.ite (fun _ => Evp.bindc (spec_l1Below_d _ 4 ho) fun x hx => Evp.bind (spec_StoreSeal_d s x.1 hs.1 (by omega) (by have := hx.1; have := hx.2.1 (by omega); unfold InR; omega)) fun y hy => Evp.ite (fun ht => go _ _ (same.of (hy ht)) hx.2.2.2) (fun _ => go _ _ same hx.2.2.2)) (fun _ => Evp.ite (fun _ => go _ _ hput ho) (fun _ => go _ _ same ho))) (fun _ => Evp.ite (fun _ => go _ _ hput hb.2.2.2) (fun _ => go _ _ same hb.2.2.2))
end Go.Proofs.YtngfjichhphjeaaGreat.OmFnWorlds
