/- The plain law: an epoch that is opened gives the same register by the program and by the reference, and it is the caller's own. Conditions: what is known of a value that came in. -/
import Derived.Test.YtdkdhciogedoiabFamFnExactRegOpen
set_option linter.unusedVariables false
set_option linter.unusedSimpArgs false
namespace Go.Proofs.Ytdkdhciogedoiab.OmFnExactRegOpen
open Go Go.OM
/-- x lies between a and b. -/
def inB (x a b : Int) : Bool := decide (a ≤ x) && decide (x ≤ b)
theorem inB_true {x a b : Int} : inB x a b = true ↔ a ≤ x ∧ x ≤ b := by simp [inB]
theorem ite_inB (x a b : Int) : (if a ≤ x then some (decide (x ≤ b)) else some false) = some (inB x a b) := by
  unfold inB
  by_cases h : a ≤ x <;> simp [h]
def InR (x : Int) : Prop := -9223372036854775808 ≤ x ∧ x ≤ 9223372036854775807
theorem InR_of {x : Int} (h : Gd (.int .i64) x) : InR x := by
  have h : (Lit.int .i64 x).wf = true := h
  simp [Lit.wf, IntKind.min, IntKind.max, IntKind.signed, IntKind.bits] at h
  exact ⟨by omega, by omega⟩
theorem Ev.and {q b : Bool} {A : Nat → Option Bool} (h : q = true → Ev A b) : Ev (fun k => if q = true then A k else some false) (q && b) := by
  cases q with
  | false => exact Ev.neg (by decide) Ev.ret
  | true => exact Ev.pos rfl (h rfl)
theorem Ev.andc {c : Prop} [Decidable c] {b : Bool} {A : Nat → Option Bool} (h : c → Ev A b) : Ev (fun k => if c then A k else some false) (decide c && b) := by
  by_cases hc : c
  · rw [decide_eq_true hc]; exact Ev.pos hc (h hc)
  · rw [decide_eq_false hc]; exact Ev.neg hc Ev.ret
theorem Ev.nand {c : Prop} [Decidable c] {b : Bool} {A : Nat → Option Bool} (h : ¬ c → Ev A b) : Ev (fun k => if c then some false else A k) (!decide c && b) := by
  by_cases hc : c
  · rw [decide_eq_true hc]; exact Ev.pos hc Ev.ret
  · rw [decide_eq_false hc]; exact Ev.neg hc (h hc)
theorem Ev.ite {c : Prop} [Decidable c] {α : Type} {A B : Nat → Option α} {v u : α} (h1 : c → Ev A v) (h2 : ¬ c → Ev B u) : Ev (fun k => if c then A k else B k) (if c then v else u) := by
  by_cases hc : c
  · rw [if_pos hc]; exact Ev.pos hc (h1 hc)
  · rw [if_neg hc]; exact Ev.neg hc (h2 hc)
theorem all_loop {n : Nat} {p : Nat → Int → Option Bool} {q : Nat → Bool} {zb : Bool} (hp : ∀ (i : Nat), i < n → ∀ b, Ev (fun k => p k (((i + 1 : Nat)) : Int)) b → Ev (fun k => p (k + 1) (i : Int)) (q i && b)) (h0 : Ev (fun k => p (k + 1) (n : Int)) zb) :
    ∀ (m i : Nat), i + m = n → Ev (fun k => p k (i : Int)) ((List.range' i m).all q && zb) := by
  intro m
  induction m with
  | zero => intro i h; rw [show i = n by omega]; exact Ev.succ h0
  | succ m ih =>
    intro i h
    refine (Ev.succ (hp i (by omega) _ (ih (i + 1) (by omega)))).eq ?_
    rw [List.range'_succ, List.all_cons, Bool.and_assoc]
theorem wrap_up {i n : Nat} (h : i < n) (hn : n ≤ 4611686018427387904) : wrap64 ((i : Int) + (1 : Int)) = ((i + 1 : Nat) : Int) := wrap64_id (by omega) (by omega)
theorem cnt_ints (l : List Int) : cnt (.sl (.int .i64)) l = l.length := by
  show l.length + (l.map fun _ => 0).sum = l.length
  have : (l.map fun _ => 0).sum = 0 := by induction l with
    | nil => rfl
    | cons x l ih => simpa using ih
  omega

theorem spec_l1In_is (x a b : Int) : spec_l1In.f x a b = some (inB x a b) := ite_inB x a b

/-- A config that is right: its domains, its copies. -/
noncomputable def cfgB (a : Config) : Bool := inB ((a.1.length : Nat) : Int) 1 8 && (inB a.2.1 1 4 && (List.range' 0 a.1.length).all fun i => inB (a.1.getD i 0) 0 7)
theorem cfgB_len {a : Config} (h : cfgB a = true) : 1 ≤ a.1.length ∧ a.1.length ≤ 8 ∧ 1 ≤ a.2.1 ∧ a.2.1 ≤ 4 ∧ ∀ i, i < a.1.length → 0 ≤ a.1.getD i 0 ∧ a.1.getD i 0 ≤ 7 := by
  simp only [cfgB, Bool.and_eq_true, inB_true, List.all_eq_true, List.mem_range'_1] at h
  obtain ⟨h1, h2, h3⟩ := h
  exact ⟨by omega, by omega, h2.1, h2.2, fun i hi => h3 i (by omega)⟩
theorem spec_ConfigOk_ev (a : Config) (hl : a.1.length ≤ 1048576) : Ev (fun k => spec_ConfigOk.f k a) (cfgB a) := by
  have h := all_loop (n := a.1.length) (p := fun k i => spec_ConfigOk.p9 k i a) (q := fun i => inB (a.1.getD i 0) 0 7) (zb := true) (fun i hi b hb => by
    simp only [spec_ConfigOk.p9, spec_l1In_is]
    refine Ev.pos (by omega) (Ev.pos (by omega) (Ev.bindc rfl (Ev.and fun _ => ?_)))
    rw [wrap_up hi (by omega)]; exact hb) (by
    simp only [spec_ConfigOk.p9]
    exact Ev.neg (by omega) Ev.ret) a.1.length 0 (by omega)
  simp only [spec_ConfigOk.f, spec_l1In_is, cfgB]
  refine Ev.bindc rfl (Ev.and fun _ => Ev.bindc rfl (Ev.and fun _ => ?_))
  simpa using h

/-- A place: its epoch, its offset. -/
def placeOk (x : Int) : Bool := decide (0 < x) && (inB (x / 4294967296) 1 30 && inB (x % 4294967296) 1 60)
def epochOf (x : Int) : Int := if placeOk x = true then x / 4294967296 else 0
def offOf (x : Int) : Int := if placeOk x = true then x % 4294967296 else 0
theorem tdiv_pos {x : Int} (h : 0 ≤ x) : Int.tdiv x 4294967296 = x / 4294967296 := Int.tdiv_eq_ediv_of_nonneg h
theorem tmod_pos {x : Int} (h : 0 ≤ x) : Int.tmod x 4294967296 = x % 4294967296 := Int.tmod_eq_emod_of_nonneg h
theorem tdiv_neg' {x : Int} (h : x ≤ 0) : Int.tdiv x 4294967296 = -((-x) / 4294967296) := by
  have h1 : Int.tdiv (-x) 4294967296 = (-x) / 4294967296 := Int.tdiv_eq_ediv_of_nonneg (by omega)
  have h2 := Int.neg_tdiv (-x) 4294967296
  rw [Int.neg_neg] at h2
  rw [h2, h1]
theorem placeOk_pos {x : Int} (h : placeOk x = true) : 0 < x ∧ (1 ≤ x / 4294967296 ∧ x / 4294967296 ≤ 30) ∧ (1 ≤ x % 4294967296 ∧ x % 4294967296 ≤ 60) := by
  simpa only [placeOk, Bool.and_eq_true, inB_true, decide_eq_true_eq] using h
theorem epochOf_pos {x : Int} (h : placeOk x = true) : epochOf x = x / 4294967296 ∧ 1 ≤ epochOf x ∧ epochOf x ≤ 30 := by
  have h' := placeOk_pos h
  unfold epochOf
  rw [if_pos h]
  omega
theorem spec_PlaceOk_is (x : Int) (hx : InR x) : spec_PlaceOk.f x = some (placeOk x) := by
  have h2 := hx.2
  simp only [spec_PlaceOk.f, placeOk, spec_l1In_is]
  by_cases h : 0 < x
  · rw [if_pos h, tdiv_pos (by omega), tmod_pos (by omega), wrap64_id (by omega) (by omega)]
    cases inB (x / 4294967296) 1 30 <;> simp [h]
  · rw [if_neg h]
    simp [h]

theorem spec_EpochOf_is (x : Int) (hx : InR x) : spec_EpochOf.f x = some (epochOf x) := by
  have h2 := hx.2
  simp only [spec_EpochOf.f, spec_PlaceOk_is x hx, Option.bind_some, epochOf]
  by_cases h : placeOk x = true
  · have := placeOk_pos h
    rw [if_pos h, if_pos h, tdiv_pos (by omega), wrap64_id (by omega) (by omega)]
  · rw [if_neg h, if_neg h]

/-- Ascending numbers from lo to hi. -/
noncomputable def ascB (l : List Int) (lo hi : Int) : Bool := (List.range' 0 l.length).all fun i => inB (l.getD i 0) lo hi && (decide (i = 0) || !decide (l.getD i 0 ≤ l.getD (i - 1) 0))
theorem ascB_mem {l : List Int} {lo hi : Int} (h : ascB l lo hi = true) {i : Nat} (hi' : i < l.length) : lo ≤ l.getD i 0 ∧ l.getD i 0 ≤ hi := by
  simp only [ascB, List.all_eq_true, List.mem_range'_1, Bool.and_eq_true, inB_true] at h
  exact (h i (by omega)).1
theorem spec_l4Asc_ev (l : List Int) (lo hi : Int) (hl : l.length ≤ 1048576) : Ev (fun k => spec_l4Asc.f k l lo hi) (ascB l lo hi) := by
  have h := all_loop (n := l.length) (p := fun k i => spec_l4Asc.p5 k l lo hi i) (q := fun i => inB (l.getD i 0) lo hi && (decide (i = 0) || !decide (l.getD i 0 ≤ l.getD (i - 1) 0))) (zb := true) (fun i hi' b hb => by
    simp only [spec_l4Asc.p5, spec_l1In_is]
    refine Ev.pos (by omega) (Ev.pos (by omega) (Ev.bindc rfl ?_))
    rw [Bool.and_assoc]
    refine Ev.and fun _ => ?_
    rw [wrap_up hi' (by omega)]
    by_cases h0 : i = 0
    · subst h0
      exact (Ev.neg (by omega) hb).eq (by simp)
    · have e : wrap64 ((i : Int) - 1) = ((i - 1 : Nat) : Int) := by rw [wrap64_id (by omega) (by omega)]; omega
      rw [e]
      refine Ev.pos (by omega) (Ev.pos (by omega) (Ev.pos (by omega) ?_))
      rw [decide_eq_false h0, Bool.false_or]
      exact Ev.nand fun _ => hb) (by
    simp only [spec_l4Asc.p5]
    exact Ev.neg (by omega) Ev.ret) l.length 0 (by omega)
  exact (Ev.cg h fun k => rfl).eq (by unfold ascB; rw [Bool.and_true])

noncomputable def nodesB (a : Config) (l : List Int) : Bool := cfgB a && ascB l 0 (((a.1.length : Nat) : Int) - 1)
theorem spec_NodesOk_ev (a : Config) (l : List Int) (ha : a.1.length ≤ 1048576) (hl : l.length ≤ 1048576) : Ev (fun k => spec_NodesOk.f k a l) (nodesB a l) := by
  simp only [spec_NodesOk.f, nodesB]
  refine Ev.bind (spec_ConfigOk_ev a ha) (Ev.and fun _ => ?_)
  rw [wrap64_id (by omega) (by omega)]
  exact Ev.bind (spec_l4Asc_ev l 0 _ hl) Ev.ret

/-- The domains of nodes, each once, behind those that were met. -/
noncomputable def domsOf (a : Config) : List Int → List Int → List Int
  | [], acc => acc
  | n :: l, acc => domsOf a l (if acc.contains (a.1.getD n.toNat 0) then acc else acc ++ [a.1.getD n.toNat 0])
noncomputable def spanOf (a : Config) (l : List Int) : Int := ((domsOf a l []).length : Int)
theorem spec_l4Span_l (a : Config) (l : List Int) (hdom : ∀ i, i < a.1.length → 0 ≤ a.1.getD i 0 ∧ a.1.getD i 0 ≤ 7) (hl : l.length ≤ 1048576) (hmem : ∀ i, i < l.length → 0 ≤ l.getD i 0 ∧ l.getD i 0 < ((a.1.length : Nat) : Int)) :
    ∀ (m i : Nat) (seen : List Bool) (acc : List Int), i + m = l.length → seen.length = 8 → acc.length ≤ i → (∀ x : Int, 0 ≤ x → x ≤ 7 → (seen.getD x.toNat false = acc.contains x)) →
    Ev (fun k => spec_l4Span.p9 k l seen (acc.length : Int) (i : Int) a) ((domsOf a (l.drop i) acc).length : Int) := by
  intro m
  induction m with
  | zero =>
    intro i seen acc h hs ha hx
    refine Ev.succ ?_
    simp only [spec_l4Span.p9]
    rw [List.drop_eq_nil_of_le (by omega)]
    exact Ev.neg (by omega) Ev.ret
  | succ m ih =>
    intro i seen acc h hs ha hx
    have hi : i < l.length := by omega
    have hn := hmem i hi
    have hv := hdom (l.getD i 0).toNat (by omega)
    refine Ev.succ ?_
    simp only [spec_l4Span.p9, Int.toNat_natCast]
    rw [drop_get (d := (0 : Int)) hi]
    simp only [domsOf]
    generalize hw : a.1.getD (l.getD i 0).toNat 0 = x at *
    refine Ev.pos (by omega) (Ev.pos (by omega) (Ev.pos (by omega) (Ev.pos (by omega) ?_)))
    rw [hx _ hv.1 hv.2, wrap_up hi (by omega)]
    by_cases hc : acc.contains x = true
    · rw [if_pos hc]
      exact Ev.pos hc (ih (i + 1) seen acc (by omega) hs (by omega) hx)
    · rw [if_neg hc]
      refine Ev.neg hc (Ev.pos (by omega) ?_)
      have := ih (i + 1) (seen.set x.toNat true) (acc ++ [x]) (by omega) (by simp [hs]) (by simp; omega) (by
        intro y h0 h7
        by_cases e : y = x
        · subst e
          simp [List.getD_eq_getElem?_getD, List.getElem?_set, hs, show y.toNat < 8 by omega]
        · have he : x.toNat ≠ y.toNat := by omega
          have := hx y h0 h7
          rw [List.getD_eq_getElem?_getD, List.getElem?_set, if_neg he, ← List.getD_eq_getElem?_getD, this]
          simp [e])
      have e1 : wrap64 ((acc.length : Int) + 1) = ((acc ++ [x]).length : Int) := by rw [wrap64_id (by omega) (by omega)]; simp
      rw [e1]; exact this
theorem spec_l4Span_ev (a : Config) (l : List Int) (hok : nodesB a l = true) (hl : l.length ≤ 1048576) : Ev (fun k => spec_l4Span.f k a l) (spanOf a l) := by
  simp only [nodesB, Bool.and_eq_true] at hok
  obtain ⟨h1, h2, _, _, h5⟩ := cfgB_len hok.1
  simp only [spec_l4Span.f]
  refine Ev.pos (by simp [lim_eq]) ?_
  have := spec_l4Span_l a l h5 hl (fun i hi => by have := ascB_mem hok.2 hi; omega) l.length 0 (List.replicate 8 false) [] (by omega) (by simp) (by simp) (by
    intro x h0 h7
    rw [List.getD_eq_getElem?_getD, List.getElem?_replicate, if_pos (by omega)]
    rfl)
  rw [List.drop_zero] at this
  exact this

noncomputable def holdsB (a : Config) (l : List Int) : Bool := nodesB a l && decide (a.2.1 ≤ spanOf a l)
theorem spec_Holds_ev (a : Config) (l : List Int) (ha : a.1.length ≤ 1048576) (hl : l.length ≤ 1048576) : Ev (fun k => spec_Holds.f k a l) (holdsB a l) := by
  simp only [spec_Holds.f, holdsB]
  exact Ev.bind (spec_NodesOk_ev a l ha hl) (Ev.and fun h => Ev.bind (spec_l4Span_ev a l h hl) Ev.ret)

/-- An era that is right by itself; one of a register; what is given up. -/
noncomputable def zEra : Era := (([] : List Int), (false, ((0 : Int), ())))
noncomputable def eraB (a : Config) (e : Era) : Bool := holdsB a e.1 && (inB e.2.2.1 0 60 && (e.2.1 || decide (e.2.2.1 = 0)))
noncomputable def eraAt (a : Config) (l : List Era) (i : Nat) : Bool := eraB a (l.getD i zEra) && (!(l.getD i zEra).2.1 || (!decide (i = l.length - 1) && (decide (i = 0) || (l.getD (i - 1) zEra).2.1)))
noncomputable def erasB (a : Config) (l : List Era) : Bool := (List.range' 0 l.length).all (eraAt a l)
noncomputable def trimB (n : Nat) (t : Int) : Bool := decide (t = 0) || inB (epochOf t) 1 n
noncomputable def regB (a : Config) (r : Register) : Bool := cfgB a && (decide (((r.1.length : Nat) : Int) ≤ 30) && (trimB r.1.length r.2.1 && erasB a r.1))
theorem trimB_is (n : Nat) (t : Int) : trimB n t = (decide (t = 0) || (placeOk t && !decide ((n : Int) < epochOf t))) := by
  unfold trimB
  by_cases h : placeOk t = true
  · obtain ⟨_, h1, h2⟩ := epochOf_pos h
    rw [h]
    by_cases h3 : (n : Int) < epochOf t
    · rw [decide_eq_true h3, show inB (epochOf t) 1 n = false by rw [Bool.eq_false_iff]; intro he; rw [inB_true] at he; omega]
      simp
    · rw [decide_eq_false h3, show inB (epochOf t) 1 n = true by rw [inB_true]; omega]
      simp
  · have h0 : epochOf t = 0 := by unfold epochOf; rw [if_neg h]
    rw [h0, show inB 0 1 n = false by rw [Bool.eq_false_iff]; intro he; rw [inB_true] at he; omega]
    cases hp : placeOk t
    · simp
    · exact absurd hp h
theorem spec_RegOk_l (a : Config) (r : Register) (ha : a.1.length ≤ 1048576) (hl : r.1.length ≤ 1048576) (he : ∀ i, i < r.1.length → (r.1.getD i zEra).1.length ≤ 1048576) : Ev (fun k => spec_RegOk.p11 k ((r.1.length : Nat) : Int) ((0 : Nat) : Int) a r) (erasB a r.1) := by
  have h := all_loop (n := r.1.length) (p := fun k i => spec_RegOk.p11 k ((r.1.length : Nat) : Int) i a r) (q := eraAt a r.1) (zb := true) (fun i hi b hb => by
    simp only [spec_RegOk.p11, spec_l1In_is, Int.toNat_natCast]
    have hz := he i hi
    have hw : wrap64 ((i : Int) + 1) = ((i + 1 : Nat) : Int) := wrap_up hi (by omega)
    unfold eraAt eraB
    change Ev (fun k => if (i : Int) < ((r.1.length : Nat) : Int) then _ else _) _
    refine Ev.pos (by omega) (Ev.pos (by omega) (Ev.bind (spec_Holds_ev a _ ha hz) ?_))
    rw [Bool.and_assoc, Bool.and_assoc, Bool.and_assoc]
    change Ev (fun k => if holdsB a (r.1.getD i zEra).1 = true then _ else some false) _
    refine Ev.and fun _ => Ev.bindc rfl (Ev.and fun _ => ?_)
    -- behind the checks of the era itself
    have tail : ∀ (p q u v w x : Bool) (z : Int), Ev (fun k => spec_RegOk.p20 k ((r.1.length : Nat) : Int) (i : Int) z p q u v w x a r (r.1.getD i zEra)) ((!(r.1.getD i zEra).2.1 || (!decide (i = r.1.length - 1) && (decide (i = 0) || (r.1.getD (i - 1) zEra).2.1))) && b) := by
      intro p q u v w x z
      refine Ev.succ ?_
      simp only [spec_RegOk.p20, hw]
      by_cases hc : (r.1.getD i zEra).2.1 = true
      · refine Ev.pos hc ?_
        have e1 : wrap64 (((r.1.length : Nat) : Int) - 1) = ((r.1.length - 1 : Nat) : Int) := by rw [wrap64_id (by omega) (by omega)]; omega
        rw [e1, hc, Bool.not_true, Bool.false_or, Bool.and_assoc]
        by_cases hq : i = r.1.length - 1
        · rw [decide_eq_true hq]
          exact Ev.pos (by omega) Ev.ret
        · rw [decide_eq_false hq]
          refine Ev.neg (by omega) ?_
          by_cases h0 : i = 0
          · subst h0
            exact (Ev.neg (by omega) hb).eq (by rfl)
          · have e2 : wrap64 ((i : Int) - 1) = ((i - 1 : Nat) : Int) := by rw [wrap64_id (by omega) (by omega)]; omega
            rw [e2, decide_eq_false h0]
            refine Ev.pos (by omega) (Ev.pos (by omega) ?_)
            exact (Ev.and fun _ => hb).eq (by rfl)
      · refine (Ev.neg hc hb).eq ?_
        simp only [Bool.not_eq_true] at hc
        rw [hc]; rfl
    by_cases hc : (r.1.getD i zEra).2.1 = true
    · exact (Ev.pos hc (tail _ _ _ _ _ _ _)).eq (by rw [hc]; rfl)
    · refine (Ev.neg hc (Ev.andc (b := (!(r.1.getD i zEra).2.1 || (!decide (i = r.1.length - 1) && (decide (i = 0) || (r.1.getD (i - 1) zEra).2.1))) && b) fun hz => tail _ _ _ _ _ _ _)).eq ?_
      simp only [Bool.not_eq_true] at hc
      rw [hc]; rfl) (by
    simp only [spec_RegOk.p11]
    exact Ev.neg (by omega) Ev.ret) r.1.length 0 (by omega)
  exact h.eq (by unfold erasB; rw [Bool.and_true])
theorem spec_RegOk_ev (a : Config) (r : Register) (ht : InR r.2.1) (ha : a.1.length ≤ 1048576) (hl : r.1.length ≤ 1048576) (he : ∀ i, i < r.1.length → (r.1.getD i zEra).1.length ≤ 1048576) : Ev (fun k => spec_RegOk.f k a r) (regB a r) := by
  have hp8 : Ev (fun k => spec_RegOk.p8 k ((r.1.length : Nat) : Int) a r) (erasB a r.1) := Ev.succ (Ev.cg (spec_RegOk_l a r ha hl he) fun k => rfl)
  simp only [spec_RegOk.f, regB, spec_PlaceOk_is _ ht, spec_EpochOf_is _ ht, Option.bind_some]
  refine Ev.bind (spec_ConfigOk_ev a ha) (Ev.and fun _ => ?_)
  by_cases h30 : (30 : Int) < ((r.1.length : Nat) : Int)
  · refine (Ev.pos h30 Ev.ret).eq ?_
    rw [decide_eq_false (by omega)]; rfl
  · refine Ev.neg h30 ?_
    rw [decide_eq_true (by omega), Bool.true_and, trimB_is]
    by_cases h0 : r.2.1 = 0
    · exact (Ev.pos h0 hp8).eq (by rw [decide_eq_true h0]; rfl)
    · refine Ev.neg h0 ?_
      rw [decide_eq_false h0, Bool.false_or, Bool.and_assoc]
      exact Ev.and fun _ => Ev.nand fun _ => hp8

theorem spec_l7Copy_ev (r : Register) (hl : r.1.length ≤ 1048576) (he : ∀ i, i < r.1.length → (r.1.getD i zEra).1.length ≤ 1048576) : Ev (fun k => spec_l7Copy.f k r) r := by
  have h : ∀ (m i : Nat) (z : Register) (acc : List Era), i + m = r.1.length → acc.length = i → Ev (fun k => spec_l7Copy.p7 k (i : Int) r z (acc, (r.2.1, ()))) (acc ++ r.1.drop i, (r.2.1, ())) := by
    intro m
    induction m with
    | zero =>
      intro i z acc hi ha
      refine Ev.succ ?_
      simp only [spec_l7Copy.p7]
      rw [List.drop_eq_nil_of_le (by omega), List.append_nil]
      exact Ev.neg (by omega) Ev.ret
    | succ m ih =>
      intro i z acc hi ha
      have hlt : i < r.1.length := by omega
      have hz := he i hlt
      refine Ev.succ ?_
      simp only [spec_l7Copy.p7, Int.toNat_natCast, List.nil_append]
      change Ev (fun k => if (i : Int) < ((r.1.length : Nat) : Int) then (if (0 : Int) ≤ (i : Int) ∧ (i : Int) < ((r.1.length : Nat) : Int) then (if (((([] : List Int).length : Nat) : Int) + (((r.1.getD i zEra).1.length : Nat) : Int)) ≤ lim then (if ((acc.length : Nat) : Int) + (([r.1.getD i zEra].length : Nat) : Int) ≤ lim then spec_l7Copy.p7 k (wrap64 ((i : Int) + 1)) r z (acc ++ [r.1.getD i zEra], (r.2.1, ())) else none) else none) else none) else some (acc, (r.2.1, ()))) _
      refine Ev.pos (by omega) (Ev.pos (by omega) (Ev.pos (by simp only [lim_eq, List.length_nil]; omega) (Ev.pos (by simp only [lim_eq, List.length_cons, List.length_nil]; omega) ?_)))
      rw [wrap_up hlt (by omega), drop_get (d := zEra) hlt]
      exact (ih (i + 1) z (acc ++ [r.1.getD i zEra]) (by omega) (by rw [List.length_append, ha]; rfl)).eq (by rw [List.append_assoc]; rfl)
  have := h r.1.length 0 (([] : List Era), ((0 : Int), ())) [] (by omega) rfl
  rw [List.drop_zero, List.nil_append] at this
  exact Ev.cg this fun k => rfl

theorem impl_within_is (x a b : Int) : impl_within.f x a b = some (inB x a b) := ite_inB x a b

theorem impl_ConfigOk_ev (a : Config) (hl : a.1.length ≤ 1048576) : Ev (fun k => impl_ConfigOk.f k a) (cfgB a) := by
  have h := all_loop (n := a.1.length) (p := fun k i => impl_ConfigOk.p5 k a.1 ((a.1.length : Nat) : Int) i a) (q := fun i => inB (a.1.getD i 0) 0 7) (zb := inB ((a.1.length : Nat) : Int) 1 8 && (inB a.2.1 1 4 && true)) (fun i hi b hb => by
    simp only [impl_ConfigOk.p5, impl_within_is]
    refine Ev.pos (by omega) (Ev.pos (by omega) (Ev.bindc rfl (Ev.and fun _ => ?_)))
    rw [wrap_up hi (by omega)]; exact hb) (by
    simp only [impl_ConfigOk.p5, impl_within_is]
    refine Ev.neg (by omega) (Ev.bindc rfl (Ev.and fun _ => Ev.bindc rfl (Ev.ret.eq (by simp))))) a.1.length 0 (by omega)
  refine (Ev.cg h fun k => rfl).eq ?_
  unfold cfgB
  cases inB ((a.1.length : Nat) : Int) 1 8 <;> cases inB a.2.1 1 4 <;> simp

theorem impl_ascends_ev (l : List Int) (hi : Int) (hl : l.length ≤ 1048576) : Ev (fun k => impl_ascends.f k l hi) (ascB l 0 hi) := by
  have h := all_loop (n := l.length) (p := fun k i => impl_ascends.p5 k l hi l ((l.length : Nat) : Int) i) (q := fun i => inB (l.getD i 0) 0 hi && (decide (i = 0) || !decide (l.getD i 0 ≤ l.getD (i - 1) 0))) (zb := true) (fun i hi' b hb => by
    simp only [impl_ascends.p5, impl_within_is]
    refine Ev.pos (by omega) (Ev.pos (by omega) (Ev.bindc rfl ?_))
    rw [Bool.and_assoc]
    refine Ev.and fun _ => ?_
    rw [wrap_up hi' (by omega)]
    by_cases h0 : i = 0
    · subst h0
      exact (Ev.neg (by omega) hb).eq (by simp)
    · have e : wrap64 ((i : Int) - 1) = ((i - 1 : Nat) : Int) := by rw [wrap64_id (by omega) (by omega)]; omega
      rw [e]
      refine Ev.pos (by omega) (Ev.pos (by omega) ?_)
      rw [decide_eq_false h0, Bool.false_or]
      exact Ev.nand fun _ => hb) (by
    simp only [impl_ascends.p5]
    exact Ev.neg (by omega) Ev.ret) l.length 0 (by omega)
  exact (Ev.cg h fun k => rfl).eq (by unfold ascB; rw [Bool.and_true])

theorem impl_NodesOk_ev (a : Config) (l : List Int) (ha : a.1.length ≤ 1048576) (hl : l.length ≤ 1048576) : Ev (fun k => impl_NodesOk.f k a l) (nodesB a l) := by
  simp only [impl_NodesOk.f, nodesB]
  refine Ev.bind (impl_ConfigOk_ev a ha) (Ev.and fun _ => ?_)
  rw [wrap64_id (by omega) (by omega)]
  exact Ev.bind (impl_ascends_ev l _ hl) Ev.ret

theorem slices_Index_l (l : List Int) (x : Int) (hl : l.length ≤ 1048576) : ∀ (m i : Nat), i + m = l.length → ∃ r : Int, Ev (fun k => slices_Index_int_int.p5 k l x ((l.length : Nat) : Int) (i : Int)) r ∧ (decide (0 ≤ r) = (l.drop i).contains x) := by
  intro m
  induction m with
  | zero =>
    intro i h
    refine ⟨-1, Ev.succ ?_, by rw [List.drop_eq_nil_of_le (by omega)]; rfl⟩
    simp only [slices_Index_int_int.p5]
    exact Ev.neg (by omega) Ev.ret
  | succ m ih =>
    intro i h
    have hi : i < l.length := by omega
    rw [drop_get (d := (0 : Int)) hi]
    by_cases hx : x = l.getD i 0
    · refine ⟨i, Ev.succ ?_, by simp [hx]⟩
      simp only [slices_Index_int_int.p5, Int.toNat_natCast]
      exact Ev.pos (by omega) (Ev.pos (by omega) (Ev.pos hx Ev.ret))
    · obtain ⟨r, h1, h2⟩ := ih (i + 1) (by omega)
      refine ⟨r, Ev.succ ?_, by rw [h2, List.contains_cons, beq_eq_false_iff_ne.2 hx, Bool.false_or]⟩
      simp only [slices_Index_int_int.p5, Int.toNat_natCast]
      refine Ev.pos (by omega) (Ev.pos (by omega) (Ev.neg hx ?_))
      rw [wrap_up hi (by omega)]; exact h1

theorem slices_Contains_ev (l : List Int) (x : Int) (hl : l.length ≤ 1048576) : Ev (fun k => slices_Contains_int_int.f k l x) (l.contains x) := by
  obtain ⟨r, h1, h2⟩ := slices_Index_l l x hl l.length 0 (by omega)
  simp only [slices_Contains_int_int.f, slices_Index_int_int.f]
  exact (Ev.bind h1 (Ev.ret (v := decide (0 ≤ r)))).eq (by rw [h2, List.drop_zero])

theorem impl_SpanOf_l (a : Config) (l : List Int) (hl : l.length ≤ 1048576) (hmem : ∀ i, i < l.length → 0 ≤ l.getD i 0 ∧ l.getD i 0 < ((a.1.length : Nat) : Int)) :
    ∀ (m i : Nat) (acc : List Int), i + m = l.length → acc.length ≤ i → Ev (fun k => impl_SpanOf.p11 k acc l ((l.length : Nat) : Int) (i : Int) a) ((domsOf a (l.drop i) acc).length : Int) := by
  intro m
  induction m with
  | zero =>
    intro i acc h ha
    refine Ev.succ ?_
    simp only [impl_SpanOf.p11]
    rw [List.drop_eq_nil_of_le (by omega)]
    exact Ev.neg (by omega) Ev.ret
  | succ m ih =>
    intro i acc h ha
    have hi : i < l.length := by omega
    have hn := hmem i hi
    refine Ev.succ ?_
    simp only [impl_SpanOf.p11, Int.toNat_natCast]
    rw [drop_get (d := (0 : Int)) hi]
    simp only [domsOf]
    generalize hw : a.1.getD (l.getD i 0).toNat 0 = x at *
    refine Ev.pos (by omega) (Ev.pos (by omega) (Ev.pos (by omega) (Ev.bind (slices_Contains_ev acc x (by omega)) ?_)))
    rw [wrap_up hi (by omega)]
    by_cases hc : acc.contains x = true
    · rw [if_pos hc]
      exact Ev.pos hc (ih (i + 1) acc (by omega) (by omega))
    · rw [if_neg hc]
      refine Ev.neg hc (Ev.pos (by omega) (Ev.pos (by simp [lim_eq]; omega) ?_))
      exact ih (i + 1) (acc ++ [x]) (by omega) (by simp; omega)
theorem impl_SpanOf_ev (a : Config) (l : List Int) (ha : a.1.length ≤ 1048576) (hl : l.length ≤ 1048576) : Ev (fun k => impl_SpanOf.f k a l) (if nodesB a l = true then spanOf a l else -1) := by
  simp only [impl_SpanOf.f]
  refine Ev.bind (impl_NodesOk_ev a l ha hl) (Ev.ite (fun h => ?_) fun _ => Ev.ret)
  simp only [nodesB, Bool.and_eq_true] at h
  have := impl_SpanOf_l a l hl (fun i hi => by have := ascB_mem h.2 hi; omega) l.length 0 [] (by omega) (by simp)
  rw [List.drop_zero] at this
  exact this

theorem impl_Holds_ev (a : Config) (l : List Int) (ha : a.1.length ≤ 1048576) (hl : l.length ≤ 1048576) : Ev (fun k => impl_Holds.f k a l) (holdsB a l) := by
  simp only [impl_Holds.f, holdsB]
  refine Ev.bind (impl_NodesOk_ev a l ha hl) (Ev.and fun h => Ev.bind (impl_SpanOf_ev a l ha hl) ?_)
  rw [if_pos h]; exact Ev.ret

theorem impl_eraOk_ev (a : Config) (e : Era) (ha : a.1.length ≤ 1048576) (he : e.1.length ≤ 1048576) : Ev (fun k => impl_eraOk.f k a e) (eraB a e) := by
  simp only [impl_eraOk.f, impl_within_is, eraB]
  refine Ev.bind (impl_Holds_ev a e.1 ha he) (Ev.and fun _ => Ev.bindc rfl (Ev.and fun _ => ?_))
  by_cases hc : e.2.1 = true
  · exact (Ev.pos hc Ev.ret).eq (by rw [hc]; rfl)
  · refine (Ev.neg hc Ev.ret).eq ?_
    simp only [Bool.not_eq_true] at hc
    rw [hc, Bool.false_or]

theorem impl_PlaceOk_is (x : Int) (hx : InR x) : impl_PlaceOk.f x = some (placeOk x) := by
  have h1 := hx.1; have h2 := hx.2
  simp only [impl_PlaceOk.f, placeOk, impl_isEpoch.f, impl_isOff.f, impl_within_is]
  by_cases h : 0 < x
  · rw [tdiv_pos (by omega), tmod_pos (by omega), wrap64_id (by omega) (by omega)]
    cases inB (x / 4294967296) 1 30 <;> simp [h]
  · rw [tdiv_neg' (by omega), wrap64_id (by omega) (by omega), show inB (-(-x / 4294967296)) 1 30 = false by
      rw [Bool.eq_false_iff]
      intro he
      rw [inB_true] at he
      omega]
    simp [h]

theorem impl_EpochOf_is (x : Int) (hx : InR x) : impl_EpochOf.f x = some (epochOf x) := by
  have h2 := hx.2
  simp only [impl_EpochOf.f, impl_PlaceOk_is x hx, Option.bind_some, epochOf]
  by_cases h : placeOk x = true
  · have := placeOk_pos h
    rw [if_pos h, if_pos h, tdiv_pos (by omega), wrap64_id (by omega) (by omega)]
  · rw [if_neg h, if_neg h]

theorem impl_RegOk_ev (a : Config) (r : Register) (ht : InR r.2.1) (ha : a.1.length ≤ 1048576) (hl : r.1.length ≤ 1048576) (he : ∀ i, i < r.1.length → (r.1.getD i zEra).1.length ≤ 1048576) : Ev (fun k => impl_RegOk.f k a r) (regB a r) := by
  have hend : ∀ q : Bool, Ev (fun k => impl_RegOk.p16 k q a r) (cfgB a && (decide (((r.1.length : Nat) : Int) ≤ 30) && q)) := fun q => by
    refine Ev.succ ?_
    simp only [impl_RegOk.p16]
    exact Ev.bind (impl_ConfigOk_ev a ha) (Ev.and fun _ => Ev.andc fun _ => Ev.ret)
  have h := all_loop (n := r.1.length) (p := fun k i => impl_RegOk.p5 k r.1 ((r.1.length : Nat) : Int) i a r) (q := eraAt a r.1) (zb := cfgB a && (decide (((r.1.length : Nat) : Int) ≤ 30) && trimB r.1.length r.2.1)) (fun i hi b hb => by
    simp only [impl_RegOk.p5, Int.toNat_natCast]
    have hz := he i hi
    have hw : wrap64 ((i : Int) + 1) = ((i + 1 : Nat) : Int) := wrap_up hi (by omega)
    unfold eraAt
    refine Ev.pos (by omega) (Ev.pos (by omega) (Ev.bind (impl_eraOk_ev a (r.1.getD i zEra) ha hz) ?_))
    rw [Bool.and_assoc]
    refine Ev.and fun _ => ?_
    simp only [hw]
    by_cases hc : (r.1.getD i zEra).2.1 = true
    · refine Ev.pos hc ?_
      have e1 : wrap64 (((r.1.length : Nat) : Int) - 1) = ((r.1.length - 1 : Nat) : Int) := by rw [wrap64_id (by omega) (by omega)]; omega
      rw [e1, hc, Bool.not_true, Bool.false_or, Bool.and_assoc]
      by_cases hq : i = r.1.length - 1
      · rw [decide_eq_true hq]
        exact Ev.pos (by omega) Ev.ret
      · rw [decide_eq_false hq]
        refine Ev.neg (by omega) ?_
        by_cases h0 : i = 0
        · subst h0
          exact (Ev.neg (by omega) hb).eq (by rfl)
        · have e2 : wrap64 ((i : Int) - 1) = ((i - 1 : Nat) : Int) := by rw [wrap64_id (by omega) (by omega)]; omega
          rw [e2, decide_eq_false h0]
          refine Ev.pos (by omega) (Ev.pos (by omega) ?_)
          exact (Ev.and fun _ => hb).eq (by rfl)
    · refine (Ev.neg hc hb).eq ?_
      simp only [Bool.not_eq_true] at hc
      rw [hc]; rfl) (by
    simp only [impl_RegOk.p5, impl_EpochOf_is _ ht, impl_within_is, Option.bind_some]
    refine Ev.neg (by omega) ?_
    unfold trimB
    by_cases h0 : r.2.1 = 0
    · exact (Ev.pos h0 (hend true)).eq (by rw [decide_eq_true h0]; rfl)
    · exact (Ev.neg h0 (hend _)).eq (by rw [decide_eq_false h0]; rfl)) r.1.length 0 (by omega)
  refine (Ev.cg h fun k => rfl).eq ?_
  unfold regB erasB
  cases cfgB a <;> cases decide (((r.1.length : Nat) : Int) ≤ 30) <;> cases trimB r.1.length r.2.1 <;> simp

theorem impl_copyInts_is (l : List Int) (h : l.length ≤ 1048576) : impl_copyInts.f l = some l := by
  simp only [impl_copyInts.f]
  rw [if_pos (by simp [lim_eq]; omega)]; rfl

theorem impl_copyRegister_ev (r : Register) (hl : r.1.length ≤ 1048576) (he : ∀ i, i < r.1.length → (r.1.getD i zEra).1.length ≤ 1048576) : Ev (fun k => impl_copyRegister.f k r) r := by
  have h : ∀ (m i : Nat) (z : Register) (acc : List Era), i + m = r.1.length → acc.length = i → Ev (fun k => impl_copyRegister.p7 k r.1 ((r.1.length : Nat) : Int) (i : Int) z (acc, (r.2.1, ()))) (acc ++ r.1.drop i, (r.2.1, ())) := by
    intro m
    induction m with
    | zero =>
      intro i z acc hi ha
      refine Ev.succ ?_
      simp only [impl_copyRegister.p7]
      rw [List.drop_eq_nil_of_le (by omega), List.append_nil]
      exact Ev.neg (by omega) Ev.ret
    | succ m ih =>
      intro i z acc hi ha
      have hlt : i < r.1.length := by omega
      have hz := he i hlt
      refine Ev.succ ?_
      simp only [impl_copyRegister.p7, Int.toNat_natCast]
      refine Ev.pos (by omega) (Ev.pos (by omega) (Ev.bindc (impl_copyInts_is (r.1.getD i zEra).1 hz) ?_))
      change Ev (fun k => if ((acc.length : Nat) : Int) + (([r.1.getD i zEra].length : Nat) : Int) ≤ lim then impl_copyRegister.p7 k r.1 ((r.1.length : Nat) : Int) (wrap64 ((i : Int) + 1)) z (acc ++ [r.1.getD i zEra], (r.2.1, ())) else none) _
      refine Ev.pos (by simp only [lim_eq, List.length_cons, List.length_nil]; omega) ?_
      rw [wrap_up hlt (by omega), drop_get (d := zEra) hlt]
      exact (ih (i + 1) z (acc ++ [r.1.getD i zEra]) (by omega) (by rw [List.length_append, ha]; rfl)).eq (by rw [List.append_assoc]; rfl)
  have := h r.1.length 0 (([] : List Era), ((0 : Int), ())) [] (by omega) rfl
  rw [List.drop_zero, List.nil_append] at this
  exact Ev.cg this fun k => rfl

theorem impl_regAsWas_ev (a : Config) (r : Register) (ht : InR r.2.1) (ha : a.1.length ≤ 1048576) (hl : r.1.length ≤ 1048576) (he : ∀ i, i < r.1.length → (r.1.getD i zEra).1.length ≤ 1048576) : Ev (fun k => impl_regAsWas.f k a r) (if regB a r = true then r else (([] : List Era), ((0 : Int), ()))) := by
  simp only [impl_regAsWas.f]
  exact Ev.bind (impl_RegOk_ev a r ht ha hl he) (Ev.ite (fun _ => Ev.bind (impl_copyRegister_ev r hl he) Ev.ret) fun _ => Ev.ret)


theorem reg_small {r : Register} (hc : cnt tRegister r ≤ 1048576) : r.1.length ≤ 1048576 ∧ ∀ i, i < r.1.length → (r.1.getD i zEra).1.length ≤ 1048576 := by
  have hl : r.1.length + (r.1.map fun x => cnt tEra x).sum + (0 + 0) ≤ 1048576 := hc
  refine ⟨by omega, fun i hi => ?_⟩
  have hm := sum_mem (f := fun x => cnt tEra x) (getD_mem (d := zEra) hi)
  have hm : cnt (.sl (.int .i64)) (r.1.getD i zEra).1 + (0 + (0 + 0)) ≤ (r.1.map fun x => cnt tEra x).sum := hm
  rw [cnt_ints] at hm; omega
theorem both (a : Config) (r : Register) (l : List Int) (ha : a.1.length ≤ 1048576) (hc : cnt tRegister r ≤ 1048576) (hr : InR r.2.1) (hls : l.length ≤ 1048576) : ∃ q, Ev (fun k => spec_RegOpen.f k a r l) q ∧ Ev (fun k => impl_RegOpen.f k a r l) q ∧ cnt tRegister q.1 ≤ 4194304 := by
  obtain ⟨hl, he⟩ := reg_small hc
  have s1 := spec_RegOk_ev a r hr ha hl he
  have s2 := impl_RegOk_ev a r hr ha hl he
  have s3 := spec_l7Copy_ev r hl he
  have s4 := impl_copyRegister_ev r hl he
  have s5 := impl_regAsWas_ev a r hr ha hl he
  have s6 := spec_Holds_ev a l ha hls
  have s7 := impl_Holds_ev a l ha hls
  have s8 := impl_copyInts_is l hls
  simp only [spec_RegOpen.f, impl_RegOpen.f, List.nil_append]
  cases hb : regB a r with
  | false =>
    rw [hb] at s1 s2 s5
    exact ⟨((([] : List Era), ((0 : Int), ())), (0 : Int), false), Ev.bind s1 (Ev.neg (by decide) Ev.ret), Ev.bind s2 (Ev.neg (by decide) (Ev.bind s5 Ev.ret)), by decide⟩
  | true =>
    rw [hb] at s1 s2 s5
    cases hh : holdsB a l with
    | false =>
      rw [hh] at s6 s7
      exact ⟨(r, (0 : Int), false), Ev.bind s1 (Ev.pos rfl (Ev.bind s3 (Ev.bind s6 (Ev.neg (by decide) Ev.ret)))), Ev.bind s2 (Ev.pos rfl (Ev.bind s7 (Ev.neg (by decide) (Ev.bind s5 Ev.ret)))), by show cnt tRegister r ≤ _; omega⟩
    | true =>
      rw [hh] at s6 s7
      by_cases h30 : ((r.1.length : Nat) : Int) = (30 : Int)
      · exact ⟨(r, (0 : Int), false), Ev.bind s1 (Ev.pos rfl (Ev.bind s3 (Ev.bind s6 (Ev.pos rfl (Ev.pos h30 Ev.ret))))), Ev.bind s2 (Ev.pos rfl (Ev.bind s7 (Ev.pos rfl (Ev.pos h30 (Ev.bind s5 Ev.ret))))), by show cnt tRegister r ≤ _; omega⟩
      · refine ⟨(((r.1 ++ [(l, (false, ((0 : Int), ())))]), r.2), (((r.1 ++ [(l, (false, ((0 : Int), ())))]).length : Nat) : Int), true), Ev.bind s1 (Ev.pos rfl (Ev.bind s3 (Ev.bind s6 (Ev.pos rfl (Ev.neg h30 (Ev.pos ?_ (Ev.pos ?_ Ev.ret))))))), Ev.bind s2 (Ev.pos rfl (Ev.bind s7 (Ev.pos rfl (Ev.neg h30 (Ev.bind s4 (Ev.bindc s8 (Ev.pos ?_ Ev.ret))))))), ?_⟩
        · simp only [lim_eq, List.length_nil]; omega
        · simp only [lim_eq, List.length_cons, List.length_nil]; omega
        · simp only [lim_eq, List.length_cons, List.length_nil]; omega
        · have hc : r.1.length + (r.1.map fun x => cnt tEra x).sum + (0 + 0) ≤ 1048576 := hc
          have hn : cnt tEra (l, (false, ((0 : Int), ()))) = l.length := by
            show cnt (.sl (.int .i64)) l + (0 + (0 + 0)) = _
            rw [cnt_ints]; omega
          show (r.1 ++ [(l, (false, ((0 : Int), ())))]).length + ((r.1 ++ [(l, (false, ((0 : Int), ())))]).map fun x => cnt tEra x).sum + (0 + 0) ≤ 4194304
          rw [List.length_append, List.map_append, List.sum_append, List.map_cons, List.map_nil, List.sum_cons, List.sum_nil, hn, List.length_cons, List.length_nil]
          omega
theorem pureL (a0 : Config) (a1 : Register) (a2 : List Int) (h0 : Gd tConfig a0) (h1 : Gd tRegister a1) (h2 : Gd (.sl (.int .i64)) a2) : ∃ k, laws_FnExactRegOpen.f k a0 a1 a2 = some true := by
  refine Ev.get (v := true) ?_
  simp only [laws_FnExactRegOpen.f]
  by_cases hb : (1048576 : Int) < ((a2.length : Nat) : Int)
  · exact Ev.pos hb Ev.ret
  refine Ev.neg hb ?_
  obtain ⟨v, s1, s2, s3⟩ := sz_Config a0 1048576 h0 (by omega) (by omega)
  refine Ev.bind s1 ?_
  by_cases hv : v < 0
  · exact Ev.pos hv Ev.ret
  refine Ev.neg hv ?_
  have hc0 : cnt tConfig a0 ≤ 1048576 := by have := s3 (by omega); omega
  obtain ⟨u, s4, s5, s6⟩ := sz_Register a1 v h1 (by omega) (by omega)
  refine Ev.bind s4 ?_
  by_cases hu : u < 0
  · exact Ev.pos hu Ev.ret
  refine Ev.neg hu ?_
  have hc1 : cnt tRegister a1 ≤ 1048576 := by have := s6 (by omega); omega
  have hc2 : cnt (.sl (.int .i64)) a2 ≤ 1048576 := by rw [cnt_ints]; omega
  have ha : a0.1.length ≤ 1048576 := by
    have : cnt (.sl (.int .i64)) a0.1 + (0 + 0) ≤ 1048576 := hc0
    rw [cnt_ints] at this; omega
  have t0 := to_Config a0 hc0
  have t1 := to_Register a1 hc1
  have t2 := to_IntS a2 hc2
  obtain ⟨q, e1, e2, e3⟩ := both a0 a1 a2 ha hc1 (InR_of h1.2.1) (by omega)
  have q0 := eq_Config a0 (by omega)
  have q1 := eq_Register a1 (by omega)
  have q2 := eq_Register q.1 (by omega)
  have q3 := eq_IntS a2 (by omega)
  have w0 := W_Config_le a0
  have w1 := W_Register_le a1
  have w2 := W_Register_le q.1
  have w3 := W_IntS_le a2
  obtain ⟨n1, x1, m1, m2, m3⟩ := mk_Config a0 1 (by omega) (by omega)
  obtain ⟨n2, x2, m4, m5, m6⟩ := mk_Register.one a1 n1 (by omega) (by omega)
  obtain ⟨n4, x4, m11, m12, m13⟩ := mk_IntS.one a2 n2 (by omega) (by omega)
  obtain ⟨n3, x3, m7, m8, m9, m10⟩ := mk_Register q.1 1 (by omega) (by omega)
  repeat first | exact Ev.ret | refine Ev.bind (by assumption) ?_ | refine Ev.bindc (by assumption) ?_ | refine Ev.pos (by first | trivial | omega) ?_ | refine Ev.neg (by omega) ?_

end Go.Proofs.Ytdkdhciogedoiab.OmFnExactRegOpen
