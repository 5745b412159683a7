/- The plain law: a word that is added gives the same writer by the program and by the reference, and it is the caller's own. Conditions: what is known of a value that came in. -/
import Derived.Test.YtdkdhciogedoiabFamFnExactWriterAdd
set_option linter.unusedVariables false
set_option linter.unusedSimpArgs false
namespace Go.Proofs.Ytdkdhciogedoiab.OmFnExactWriterAdd
open Go Go.OM
/-- x lies between a and b. -/
def inB (x a b : Int) : Bool := decide (a ≤ x) && decide (x ≤ b)
theorem inB_true {x a b : Int} : inB x a b = true ↔ a ≤ x ∧ x ≤ b := by simp [inB]
theorem ite_inB (x a b : Int) : (if a ≤ x then some (decide (x ≤ b)) else some false) = some (inB x a b) := by
  unfold inB
  by_cases h : a ≤ x <;> simp [h]
def InR (x : Int) : Prop := -9223372036854775808 ≤ x ∧ x ≤ 9223372036854775807
theorem InR_of {x : Int} (h : Gd (.int .i64) x) : InR x := by
  have h : (Lit.int .i64 x).wf = true := h
  simp [Lit.wf, IntKind.min, IntKind.max, IntKind.signed, IntKind.bits] at h
  exact ⟨by omega, by omega⟩
theorem Ev.and {q b : Bool} {A : Nat → Option Bool} (h : q = true → Ev A b) : Ev (fun k => if q = true then A k else some false) (q && b) := by
  cases q with
  | false => exact Ev.neg (by decide) Ev.ret
  | true => exact Ev.pos rfl (h rfl)
theorem Ev.andc {c : Prop} [Decidable c] {b : Bool} {A : Nat → Option Bool} (h : c → Ev A b) : Ev (fun k => if c then A k else some false) (decide c && b) := by
  by_cases hc : c
  · rw [decide_eq_true hc]; exact Ev.pos hc (h hc)
  · rw [decide_eq_false hc]; exact Ev.neg hc Ev.ret
theorem Ev.nand {c : Prop} [Decidable c] {b : Bool} {A : Nat → Option Bool} (h : ¬ c → Ev A b) : Ev (fun k => if c then some false else A k) (!decide c && b) := by
  by_cases hc : c
  · rw [decide_eq_true hc]; exact Ev.pos hc Ev.ret
  · rw [decide_eq_false hc]; exact Ev.neg hc (h hc)
theorem Ev.ite {c : Prop} [Decidable c] {α : Type} {A B : Nat → Option α} {v u : α} (h1 : c → Ev A v) (h2 : ¬ c → Ev B u) : Ev (fun k => if c then A k else B k) (if c then v else u) := by
  by_cases hc : c
  · rw [if_pos hc]; exact Ev.pos hc (h1 hc)
  · rw [if_neg hc]; exact Ev.neg hc (h2 hc)
theorem all_loop {n : Nat} {p : Nat → Int → Option Bool} {q : Nat → Bool} {zb : Bool} (hp : ∀ (i : Nat), i < n → ∀ b, Ev (fun k => p k (((i + 1 : Nat)) : Int)) b → Ev (fun k => p (k + 1) (i : Int)) (q i && b)) (h0 : Ev (fun k => p (k + 1) (n : Int)) zb) :
    ∀ (m i : Nat), i + m = n → Ev (fun k => p k (i : Int)) ((List.range' i m).all q && zb) := by
  intro m
  induction m with
  | zero => intro i h; rw [show i = n by omega]; exact Ev.succ h0
  | succ m ih =>
    intro i h
    refine (Ev.succ (hp i (by omega) _ (ih (i + 1) (by omega)))).eq ?_
    rw [List.range'_succ, List.all_cons, Bool.and_assoc]
theorem wrap_up {i n : Nat} (h : i < n) (hn : n ≤ 4611686018427387904) : wrap64 ((i : Int) + (1 : Int)) = ((i + 1 : Nat) : Int) := wrap64_id (by omega) (by omega)
theorem cnt_ints (l : List Int) : cnt (.sl (.int .i64)) l = l.length := by
  show l.length + (l.map fun _ => 0).sum = l.length
  have : (l.map fun _ => 0).sum = 0 := by induction l with
    | nil => rfl
    | cons x l ih => simpa using ih
  omega

theorem spec_l1In_is (x a b : Int) : spec_l1In.f x a b = some (inB x a b) := ite_inB x a b

/-- A config that is right: its domains, its copies. -/
noncomputable def cfgB (a : Config) : Bool := inB ((a.1.length : Nat) : Int) 1 8 && (inB a.2.1 1 4 && (List.range' 0 a.1.length).all fun i => inB (a.1.getD i 0) 0 7)
theorem cfgB_len {a : Config} (h : cfgB a = true) : 1 ≤ a.1.length ∧ a.1.length ≤ 8 ∧ 1 ≤ a.2.1 ∧ a.2.1 ≤ 4 ∧ ∀ i, i < a.1.length → 0 ≤ a.1.getD i 0 ∧ a.1.getD i 0 ≤ 7 := by
  simp only [cfgB, Bool.and_eq_true, inB_true, List.all_eq_true, List.mem_range'_1] at h
  obtain ⟨h1, h2, h3⟩ := h
  exact ⟨by omega, by omega, h2.1, h2.2, fun i hi => h3 i (by omega)⟩
theorem spec_ConfigOk_ev (a : Config) (hl : a.1.length ≤ 1048576) : Ev (fun k => spec_ConfigOk.f k a) (cfgB a) := by
  have h := all_loop (n := a.1.length) (p := fun k i => spec_ConfigOk.p9 k i a) (q := fun i => inB (a.1.getD i 0) 0 7) (zb := true) (fun i hi b hb => by
    simp only [spec_ConfigOk.p9, spec_l1In_is]
    refine Ev.pos (by omega) (Ev.pos (by omega) (Ev.bindc rfl (Ev.and fun _ => ?_)))
    rw [wrap_up hi (by omega)]; exact hb) (by
    simp only [spec_ConfigOk.p9]
    exact Ev.neg (by omega) Ev.ret) a.1.length 0 (by omega)
  simp only [spec_ConfigOk.f, spec_l1In_is, cfgB]
  refine Ev.bindc rfl (Ev.and fun _ => Ev.bindc rfl (Ev.and fun _ => ?_))
  simpa using h

/-- Ascending numbers from lo to hi. -/
noncomputable def ascB (l : List Int) (lo hi : Int) : Bool := (List.range' 0 l.length).all fun i => inB (l.getD i 0) lo hi && (decide (i = 0) || !decide (l.getD i 0 ≤ l.getD (i - 1) 0))
theorem ascB_mem {l : List Int} {lo hi : Int} (h : ascB l lo hi = true) {i : Nat} (hi' : i < l.length) : lo ≤ l.getD i 0 ∧ l.getD i 0 ≤ hi := by
  simp only [ascB, List.all_eq_true, List.mem_range'_1, Bool.and_eq_true, inB_true] at h
  exact (h i (by omega)).1
theorem spec_l4Asc_ev (l : List Int) (lo hi : Int) (hl : l.length ≤ 1048576) : Ev (fun k => spec_l4Asc.f k l lo hi) (ascB l lo hi) := by
  have h := all_loop (n := l.length) (p := fun k i => spec_l4Asc.p5 k l lo hi i) (q := fun i => inB (l.getD i 0) lo hi && (decide (i = 0) || !decide (l.getD i 0 ≤ l.getD (i - 1) 0))) (zb := true) (fun i hi' b hb => by
    simp only [spec_l4Asc.p5, spec_l1In_is]
    refine Ev.pos (by omega) (Ev.pos (by omega) (Ev.bindc rfl ?_))
    rw [Bool.and_assoc]
    refine Ev.and fun _ => ?_
    rw [wrap_up hi' (by omega)]
    by_cases h0 : i = 0
    · subst h0
      exact (Ev.neg (by omega) hb).eq (by simp)
    · have e : wrap64 ((i : Int) - 1) = ((i - 1 : Nat) : Int) := by rw [wrap64_id (by omega) (by omega)]; omega
      rw [e]
      refine Ev.pos (by omega) (Ev.pos (by omega) (Ev.pos (by omega) ?_))
      rw [decide_eq_false h0, Bool.false_or]
      exact Ev.nand fun _ => hb) (by
    simp only [spec_l4Asc.p5]
    exact Ev.neg (by omega) Ev.ret) l.length 0 (by omega)
  exact (Ev.cg h fun k => rfl).eq (by unfold ascB; rw [Bool.and_true])

noncomputable def nodesB (a : Config) (l : List Int) : Bool := cfgB a && ascB l 0 (((a.1.length : Nat) : Int) - 1)
theorem spec_NodesOk_ev (a : Config) (l : List Int) (ha : a.1.length ≤ 1048576) (hl : l.length ≤ 1048576) : Ev (fun k => spec_NodesOk.f k a l) (nodesB a l) := by
  simp only [spec_NodesOk.f, nodesB]
  refine Ev.bind (spec_ConfigOk_ev a ha) (Ev.and fun _ => ?_)
  rw [wrap64_id (by omega) (by omega)]
  exact Ev.bind (spec_l4Asc_ev l 0 _ hl) Ev.ret

/-- The domains of nodes, each once, behind those that were met. -/
noncomputable def domsOf (a : Config) : List Int → List Int → List Int
  | [], acc => acc
  | n :: l, acc => domsOf a l (if acc.contains (a.1.getD n.toNat 0) then acc else acc ++ [a.1.getD n.toNat 0])
noncomputable def spanOf (a : Config) (l : List Int) : Int := ((domsOf a l []).length : Int)
theorem spec_l4Span_l (a : Config) (l : List Int) (hdom : ∀ i, i < a.1.length → 0 ≤ a.1.getD i 0 ∧ a.1.getD i 0 ≤ 7) (hl : l.length ≤ 1048576) (hmem : ∀ i, i < l.length → 0 ≤ l.getD i 0 ∧ l.getD i 0 < ((a.1.length : Nat) : Int)) :
    ∀ (m i : Nat) (seen : List Bool) (acc : List Int), i + m = l.length → seen.length = 8 → acc.length ≤ i → (∀ x : Int, 0 ≤ x → x ≤ 7 → (seen.getD x.toNat false = acc.contains x)) →
    Ev (fun k => spec_l4Span.p9 k l seen (acc.length : Int) (i : Int) a) ((domsOf a (l.drop i) acc).length : Int) := by
  intro m
  induction m with
  | zero =>
    intro i seen acc h hs ha hx
    refine Ev.succ ?_
    simp only [spec_l4Span.p9]
    rw [List.drop_eq_nil_of_le (by omega)]
    exact Ev.neg (by omega) Ev.ret
  | succ m ih =>
    intro i seen acc h hs ha hx
    have hi : i < l.length := by omega
    have hn := hmem i hi
    have hv := hdom (l.getD i 0).toNat (by omega)
    refine Ev.succ ?_
    simp only [spec_l4Span.p9, Int.toNat_natCast]
    rw [drop_get (d := (0 : Int)) hi]
    simp only [domsOf]
    generalize hw : a.1.getD (l.getD i 0).toNat 0 = x at *
    refine Ev.pos (by omega) (Ev.pos (by omega) (Ev.pos (by omega) (Ev.pos (by omega) ?_)))
    rw [hx _ hv.1 hv.2, wrap_up hi (by omega)]
    by_cases hc : acc.contains x = true
    · rw [if_pos hc]
      exact Ev.pos hc (ih (i + 1) seen acc (by omega) hs (by omega) hx)
    · rw [if_neg hc]
      refine Ev.neg hc (Ev.pos (by omega) ?_)
      have := ih (i + 1) (seen.set x.toNat true) (acc ++ [x]) (by omega) (by simp [hs]) (by simp; omega) (by
        intro y h0 h7
        by_cases e : y = x
        · subst e
          simp [List.getD_eq_getElem?_getD, List.getElem?_set, hs, show y.toNat < 8 by omega]
        · have he : x.toNat ≠ y.toNat := by omega
          have := hx y h0 h7
          rw [List.getD_eq_getElem?_getD, List.getElem?_set, if_neg he, ← List.getD_eq_getElem?_getD, this]
          simp [e])
      have e1 : wrap64 ((acc.length : Int) + 1) = ((acc ++ [x]).length : Int) := by rw [wrap64_id (by omega) (by omega)]; simp
      rw [e1]; exact this
theorem spec_l4Span_ev (a : Config) (l : List Int) (hok : nodesB a l = true) (hl : l.length ≤ 1048576) : Ev (fun k => spec_l4Span.f k a l) (spanOf a l) := by
  simp only [nodesB, Bool.and_eq_true] at hok
  obtain ⟨h1, h2, _, _, h5⟩ := cfgB_len hok.1
  simp only [spec_l4Span.f]
  refine Ev.pos (by decide) ?_
  have := spec_l4Span_l a l h5 hl (fun i hi => by have := ascB_mem hok.2 hi; omega) l.length 0 (List.replicate 8 false) [] (by omega) (by simp) (by simp) (by
    intro x h0 h7
    rw [List.getD_eq_getElem?_getD, List.getElem?_replicate, if_pos (by omega)]
    rfl)
  rw [List.drop_zero] at this
  exact this

noncomputable def holdsB (a : Config) (l : List Int) : Bool := nodesB a l && decide (a.2.1 ≤ spanOf a l)
theorem spec_Holds_ev (a : Config) (l : List Int) (ha : a.1.length ≤ 1048576) (hl : l.length ≤ 1048576) : Ev (fun k => spec_Holds.f k a l) (holdsB a l) := by
  simp only [spec_Holds.f, holdsB]
  exact Ev.bind (spec_NodesOk_ev a l ha hl) (Ev.and fun h => Ev.bind (spec_l4Span_ev a l h hl) Ev.ret)

noncomputable def zWord : Word := ((⟨#[]⟩ : ByteArray), (([] : List Int), (false, ())))
noncomputable def wordB (a : Config) (w : Word) : Bool := !decide ((40 : Int) < ((w.1.size : Nat) : Int)) && (nodesB a w.2.1 && decide (holdsB a w.2.1 = w.2.2.1))
noncomputable def undone : List Word → Int
  | [] => 0
  | w :: l => (if w.2.2.1 = true then 0 else 1) + undone l
theorem undone_t {w : Word} {l : List Word} (h : w.2.2.1 = true) : undone (w :: l) = undone l := by
  show (if w.2.2.1 = true then (0 : Int) else 1) + undone l = undone l
  rw [if_pos h, Int.zero_add]
theorem undone_f {w : Word} {l : List Word} (h : ¬ w.2.2.1 = true) : undone (w :: l) = 1 + undone l := by
  show (if w.2.2.1 = true then (0 : Int) else 1) + undone l = 1 + undone l
  rw [if_neg h]
noncomputable def writerB (a : Config) (w : Writer) : Bool := cfgB a && (inB w.1 1 30 && (!decide ((60 : Int) < ((w.2.1.length : Nat) : Int)) && (w.2.1.all (wordB a) && decide (undone w.2.1 ≤ 6))))
theorem spec_WriterOk_l (a : Config) (w : Writer) (ha : a.1.length ≤ 1048576) (hl : w.2.1.length ≤ 4194304) (he : ∀ i, i < w.2.1.length → (w.2.1.getD i zWord).2.1.length ≤ 1048576) : ∀ (m i : Nat) (n : Int), i + m = w.2.1.length → 0 ≤ n → n ≤ i →
    Ev (fun k => spec_WriterOk.p11 k n (i : Int) a w) ((w.2.1.drop i).all (wordB a) && decide (n + undone (w.2.1.drop i) ≤ 6)) := by
  intro m
  induction m with
  | zero =>
    intro i n h h0 h1
    refine Ev.succ ?_
    simp only [spec_WriterOk.p11]
    rw [List.drop_eq_nil_of_le (by omega)]
    exact (Ev.neg (by omega) Ev.ret).eq (by simp [undone])
  | succ m ih =>
    intro i n h h0 h1
    have hi : i < w.2.1.length := by omega
    have hz := he i hi
    refine Ev.succ ?_
    simp only [spec_WriterOk.p11, Int.toNat_natCast]
    rw [drop_get (d := zWord) hi, List.all_cons]
    simp only [wordB]
    rw [wrap_up hi (by omega), wrap64_id (x := n + 1) (by omega) (by omega), Bool.and_assoc, Bool.and_assoc, Bool.and_assoc]
    refine Ev.pos (by omega) (Ev.pos (by omega) ?_)
    change Ev (fun k => if (40 : Int) < (((w.2.1.getD i zWord).1.size : Nat) : Int) then some false else (spec_NodesOk.f k a (w.2.1.getD i zWord).2.1).bind fun r3 => if r3 = true then ((spec_Holds.f k a (w.2.1.getD i zWord).2.1).bind fun r4 => if r4 = (w.2.1.getD i zWord).2.2.1 then (if (w.2.1.getD i zWord).2.2.1 = true then spec_WriterOk.p11 k n ((i + 1 : Nat) : Int) a w else spec_WriterOk.p11 k (n + 1) ((i + 1 : Nat) : Int) a w) else some false) else some false) _
    refine Ev.nand fun _ => Ev.bind (spec_NodesOk_ev a _ ha hz) (Ev.and fun _ => Ev.bind (spec_Holds_ev a _ ha hz) (Ev.andc fun _ => ?_))
    by_cases hd : (w.2.1.getD i zWord).2.2.1 = true
    · refine Ev.pos hd ((ih (i + 1) n (by omega) h0 (by omega)).eq ?_)
      rw [undone_t hd]
    · refine Ev.neg hd ((ih (i + 1) (n + 1) (by omega) (by omega) (by omega)).eq ?_)
      rw [undone_f hd, Int.add_assoc]
theorem spec_WriterOk_ev (a : Config) (w : Writer) (ha : a.1.length ≤ 1048576) (hl : w.2.1.length ≤ 4194304) (he : ∀ i, i < w.2.1.length → (w.2.1.getD i zWord).2.1.length ≤ 1048576) : Ev (fun k => spec_WriterOk.f k a w) (writerB a w) := by
  simp only [spec_WriterOk.f, spec_l1In_is, writerB]
  refine Ev.bind (spec_ConfigOk_ev a ha) (Ev.and fun _ => Ev.bindc rfl (Ev.and fun _ => Ev.nand fun _ => ?_))
  have := spec_WriterOk_l a w ha hl he w.2.1.length 0 0 (by omega) (by omega) (by omega)
  rw [List.drop_zero, Int.zero_add] at this
  exact this

theorem spec_l8Copy_ev (w : Writer) (hl : w.2.1.length ≤ 1048576) (he : ∀ i, i < w.2.1.length → (w.2.1.getD i zWord).2.1.length ≤ 1048576) : Ev (fun k => spec_l8Copy.f k w) w := by
  have h : ∀ (m i : Nat) (z : Writer) (acc : List Word), i + m = w.2.1.length → acc.length = i → Ev (fun k => spec_l8Copy.p7 k (i : Int) w z (w.1, (acc, ()))) (w.1, (acc ++ w.2.1.drop i, ())) := by
    intro m
    induction m with
    | zero =>
      intro i z acc hi ha
      refine Ev.succ ?_
      simp only [spec_l8Copy.p7]
      rw [List.drop_eq_nil_of_le (by omega), List.append_nil]
      exact Ev.neg (by omega) Ev.ret
    | succ m ih =>
      intro i z acc hi ha
      have hlt : i < w.2.1.length := by omega
      have hz := he i hlt
      refine Ev.succ ?_
      simp only [spec_l8Copy.p7, Int.toNat_natCast, List.nil_append]
      change Ev (fun k => if (i : Int) < ((w.2.1.length : Nat) : Int) then (if (0 : Int) ≤ (i : Int) ∧ (i : Int) < ((w.2.1.length : Nat) : Int) then (if (((([] : List Int).length : Nat) : Int) + (((w.2.1.getD i zWord).2.1.length : Nat) : Int)) ≤ lim then (if ((acc.length : Nat) : Int) + (([w.2.1.getD i zWord].length : Nat) : Int) ≤ lim then spec_l8Copy.p7 k (wrap64 ((i : Int) + 1)) w z (w.1, (acc ++ [w.2.1.getD i zWord], ())) else none) else none) else none) else some (w.1, (acc, ()))) _
      refine Ev.pos (by omega) (Ev.pos (by omega) (Ev.pos (by simp only [lim, List.length_nil]; omega) (Ev.pos (by simp only [lim, List.length_cons, List.length_nil]; omega) ?_)))
      rw [wrap_up hlt (by omega), drop_get (d := zWord) hlt]
      exact (ih (i + 1) z (acc ++ [w.2.1.getD i zWord]) (by omega) (by rw [List.length_append, ha]; rfl)).eq (by rw [List.append_assoc]; rfl)
  have := h w.2.1.length 0 ((0 : Int), (([] : List Word), ())) [] (by omega) rfl
  rw [List.drop_zero, List.nil_append] at this
  exact Ev.cg this fun k => rfl

theorem impl_copyInts_is (l : List Int) (h : l.length ≤ 1048576) : impl_copyInts.f l = some l := by
  simp only [impl_copyInts.f]
  rw [if_pos (by simp [lim]; omega)]; rfl

theorem impl_copyWriter_ev (w : Writer) (hl : w.2.1.length ≤ 1048576) (he : ∀ i, i < w.2.1.length → (w.2.1.getD i zWord).2.1.length ≤ 1048576) : Ev (fun k => impl_copyWriter.f k w) w := by
  have h : ∀ (m i : Nat) (z : Writer) (acc : List Word), i + m = w.2.1.length → acc.length = i → Ev (fun k => impl_copyWriter.p7 k w.2.1 ((w.2.1.length : Nat) : Int) (i : Int) z (w.1, (acc, ()))) (w.1, (acc ++ w.2.1.drop i, ())) := by
    intro m
    induction m with
    | zero =>
      intro i z acc hi ha
      refine Ev.succ ?_
      simp only [impl_copyWriter.p7]
      rw [List.drop_eq_nil_of_le (by omega), List.append_nil]
      exact Ev.neg (by omega) Ev.ret
    | succ m ih =>
      intro i z acc hi ha
      have hlt : i < w.2.1.length := by omega
      have hz := he i hlt
      refine Ev.succ ?_
      simp only [impl_copyWriter.p7, Int.toNat_natCast]
      refine Ev.pos (by omega) (Ev.pos (by omega) (Ev.bindc (impl_copyInts_is (w.2.1.getD i zWord).2.1 hz) ?_))
      change Ev (fun k => if ((acc.length : Nat) : Int) + (([w.2.1.getD i zWord].length : Nat) : Int) ≤ lim then impl_copyWriter.p7 k w.2.1 ((w.2.1.length : Nat) : Int) (wrap64 ((i : Int) + 1)) z (w.1, (acc ++ [w.2.1.getD i zWord], ())) else none) _
      refine Ev.pos (by simp only [lim, List.length_cons, List.length_nil]; omega) ?_
      rw [wrap_up hlt (by omega), drop_get (d := zWord) hlt]
      exact (ih (i + 1) z (acc ++ [w.2.1.getD i zWord]) (by omega) (by rw [List.length_append, ha]; rfl)).eq (by rw [List.append_assoc]; rfl)
  have := h w.2.1.length 0 ((0 : Int), (([] : List Word), ())) [] (by omega) rfl
  rw [List.drop_zero, List.nil_append] at this
  exact Ev.cg this fun k => rfl

theorem impl_dataOk_is (s : ByteArray) : impl_dataOk.f s = some (!decide ((40 : Int) < ((s.size : Nat) : Int))) := by
  simp only [impl_dataOk.f]
  by_cases h : ((s.size : Nat) : Int) ≤ 40
  · rw [decide_eq_true h, decide_eq_false (by omega)]; rfl
  · rw [decide_eq_false h, decide_eq_true (by omega)]; rfl

theorem impl_within_is (x a b : Int) : impl_within.f x a b = some (inB x a b) := ite_inB x a b

theorem impl_ConfigOk_ev (a : Config) (hl : a.1.length ≤ 1048576) : Ev (fun k => impl_ConfigOk.f k a) (cfgB a) := by
  have h := all_loop (n := a.1.length) (p := fun k i => impl_ConfigOk.p5 k a.1 ((a.1.length : Nat) : Int) i a) (q := fun i => inB (a.1.getD i 0) 0 7) (zb := inB ((a.1.length : Nat) : Int) 1 8 && (inB a.2.1 1 4 && true)) (fun i hi b hb => by
    simp only [impl_ConfigOk.p5, impl_within_is]
    refine Ev.pos (by omega) (Ev.pos (by omega) (Ev.bindc rfl (Ev.and fun _ => ?_)))
    rw [wrap_up hi (by omega)]; exact hb) (by
    simp only [impl_ConfigOk.p5, impl_within_is]
    refine Ev.neg (by omega) (Ev.bindc rfl (Ev.and fun _ => Ev.bindc rfl (Ev.ret.eq (by simp))))) a.1.length 0 (by omega)
  refine (Ev.cg h fun k => rfl).eq ?_
  unfold cfgB
  cases inB ((a.1.length : Nat) : Int) 1 8 <;> cases inB a.2.1 1 4 <;> simp

theorem impl_ascends_ev (l : List Int) (hi : Int) (hl : l.length ≤ 1048576) : Ev (fun k => impl_ascends.f k l hi) (ascB l 0 hi) := by
  have h := all_loop (n := l.length) (p := fun k i => impl_ascends.p5 k l hi l ((l.length : Nat) : Int) i) (q := fun i => inB (l.getD i 0) 0 hi && (decide (i = 0) || !decide (l.getD i 0 ≤ l.getD (i - 1) 0))) (zb := true) (fun i hi' b hb => by
    simp only [impl_ascends.p5, impl_within_is]
    refine Ev.pos (by omega) (Ev.pos (by omega) (Ev.bindc rfl ?_))
    rw [Bool.and_assoc]
    refine Ev.and fun _ => ?_
    rw [wrap_up hi' (by omega)]
    by_cases h0 : i = 0
    · subst h0
      exact (Ev.neg (by omega) hb).eq (by simp)
    · have e : wrap64 ((i : Int) - 1) = ((i - 1 : Nat) : Int) := by rw [wrap64_id (by omega) (by omega)]; omega
      rw [e]
      refine Ev.pos (by omega) (Ev.pos (by omega) ?_)
      rw [decide_eq_false h0, Bool.false_or]
      exact Ev.nand fun _ => hb) (by
    simp only [impl_ascends.p5]
    exact Ev.neg (by omega) Ev.ret) l.length 0 (by omega)
  exact (Ev.cg h fun k => rfl).eq (by unfold ascB; rw [Bool.and_true])

theorem impl_NodesOk_ev (a : Config) (l : List Int) (ha : a.1.length ≤ 1048576) (hl : l.length ≤ 1048576) : Ev (fun k => impl_NodesOk.f k a l) (nodesB a l) := by
  simp only [impl_NodesOk.f, nodesB]
  refine Ev.bind (impl_ConfigOk_ev a ha) (Ev.and fun _ => ?_)
  rw [wrap64_id (by omega) (by omega)]
  exact Ev.bind (impl_ascends_ev l _ hl) Ev.ret

theorem slices_Index_l (l : List Int) (x : Int) (hl : l.length ≤ 1048576) : ∀ (m i : Nat), i + m = l.length → ∃ r : Int, Ev (fun k => slices_Index_int_int.p5 k l x ((l.length : Nat) : Int) (i : Int)) r ∧ (decide (0 ≤ r) = (l.drop i).contains x) := by
  intro m
  induction m with
  | zero =>
    intro i h
    refine ⟨-1, Ev.succ ?_, by rw [List.drop_eq_nil_of_le (by omega)]; rfl⟩
    simp only [slices_Index_int_int.p5]
    exact Ev.neg (by omega) Ev.ret
  | succ m ih =>
    intro i h
    have hi : i < l.length := by omega
    rw [drop_get (d := (0 : Int)) hi]
    by_cases hx : x = l.getD i 0
    · refine ⟨i, Ev.succ ?_, by simp [hx]⟩
      simp only [slices_Index_int_int.p5, Int.toNat_natCast]
      exact Ev.pos (by omega) (Ev.pos (by omega) (Ev.pos hx Ev.ret))
    · obtain ⟨r, h1, h2⟩ := ih (i + 1) (by omega)
      refine ⟨r, Ev.succ ?_, by rw [h2, List.contains_cons, beq_eq_false_iff_ne.2 hx, Bool.false_or]⟩
      simp only [slices_Index_int_int.p5, Int.toNat_natCast]
      refine Ev.pos (by omega) (Ev.pos (by omega) (Ev.neg hx ?_))
      rw [wrap_up hi (by omega)]; exact h1

theorem slices_Contains_ev (l : List Int) (x : Int) (hl : l.length ≤ 1048576) : Ev (fun k => slices_Contains_int_int.f k l x) (l.contains x) := by
  obtain ⟨r, h1, h2⟩ := slices_Index_l l x hl l.length 0 (by omega)
  simp only [slices_Contains_int_int.f, slices_Index_int_int.f]
  exact (Ev.bind h1 (Ev.ret (v := decide (0 ≤ r)))).eq (by rw [h2, List.drop_zero])

theorem impl_SpanOf_l (a : Config) (l : List Int) (hl : l.length ≤ 1048576) (hmem : ∀ i, i < l.length → 0 ≤ l.getD i 0 ∧ l.getD i 0 < ((a.1.length : Nat) : Int)) :
    ∀ (m i : Nat) (acc : List Int), i + m = l.length → acc.length ≤ i → Ev (fun k => impl_SpanOf.p11 k acc l ((l.length : Nat) : Int) (i : Int) a) ((domsOf a (l.drop i) acc).length : Int) := by
  intro m
  induction m with
  | zero =>
    intro i acc h ha
    refine Ev.succ ?_
    simp only [impl_SpanOf.p11]
    rw [List.drop_eq_nil_of_le (by omega)]
    exact Ev.neg (by omega) Ev.ret
  | succ m ih =>
    intro i acc h ha
    have hi : i < l.length := by omega
    have hn := hmem i hi
    refine Ev.succ ?_
    simp only [impl_SpanOf.p11, Int.toNat_natCast]
    rw [drop_get (d := (0 : Int)) hi]
    simp only [domsOf]
    generalize hw : a.1.getD (l.getD i 0).toNat 0 = x at *
    refine Ev.pos (by omega) (Ev.pos (by omega) (Ev.pos (by omega) (Ev.bind (slices_Contains_ev acc x (by omega)) ?_)))
    rw [wrap_up hi (by omega)]
    by_cases hc : acc.contains x = true
    · rw [if_pos hc]
      exact Ev.pos hc (ih (i + 1) acc (by omega) (by omega))
    · rw [if_neg hc]
      refine Ev.neg hc (Ev.pos (by omega) (Ev.pos (by simp [lim]; omega) ?_))
      exact ih (i + 1) (acc ++ [x]) (by omega) (by simp; omega)
theorem impl_SpanOf_ev (a : Config) (l : List Int) (ha : a.1.length ≤ 1048576) (hl : l.length ≤ 1048576) : Ev (fun k => impl_SpanOf.f k a l) (if nodesB a l = true then spanOf a l else -1) := by
  simp only [impl_SpanOf.f]
  refine Ev.bind (impl_NodesOk_ev a l ha hl) (Ev.ite (fun h => ?_) fun _ => Ev.ret)
  simp only [nodesB, Bool.and_eq_true] at h
  have := impl_SpanOf_l a l hl (fun i hi => by have := ascB_mem h.2 hi; omega) l.length 0 [] (by omega) (by simp)
  rw [List.drop_zero] at this
  exact this

theorem impl_Holds_ev (a : Config) (l : List Int) (ha : a.1.length ≤ 1048576) (hl : l.length ≤ 1048576) : Ev (fun k => impl_Holds.f k a l) (holdsB a l) := by
  simp only [impl_Holds.f, holdsB]
  refine Ev.bind (impl_NodesOk_ev a l ha hl) (Ev.and fun h => Ev.bind (impl_SpanOf_ev a l ha hl) ?_)
  rw [if_pos h]; exact Ev.ret

theorem impl_WriterOk_l (a : Config) (w : Writer) (ha : a.1.length ≤ 1048576) (hl : w.2.1.length ≤ 4194304) (he : ∀ i, i < w.2.1.length → (w.2.1.getD i zWord).2.1.length ≤ 1048576) : ∀ (m i : Nat) (n : Int), i + m = w.2.1.length → 0 ≤ n → n ≤ i →
    Ev (fun k => impl_WriterOk.p7 k n w.2.1 ((w.2.1.length : Nat) : Int) (i : Int) a w) ((w.2.1.drop i).all (wordB a) && (cfgB a && (inB w.1 1 30 && (decide (((w.2.1.length : Nat) : Int) ≤ 60) && decide (n + undone (w.2.1.drop i) ≤ 6))))) := by
  intro m
  induction m with
  | zero =>
    intro i n h h0 h1
    refine Ev.succ ?_
    simp only [impl_WriterOk.p7, impl_isEpoch.f, impl_within_is, Option.bind_some]
    rw [List.drop_eq_nil_of_le (by omega)]
    refine Ev.neg (by omega) (Ev.eq (v := cfgB a && (inB w.1 1 30 && (decide (((w.2.1.length : Nat) : Int) ≤ 60) && decide (n ≤ 6)))) (Ev.bind (impl_ConfigOk_ev a ha) (Ev.and fun _ => Ev.and fun _ => Ev.andc fun _ => Ev.ret)) (by simp [undone]))
  | succ m ih =>
    intro i n h h0 h1
    have hi : i < w.2.1.length := by omega
    have hz := he i hi
    refine Ev.succ ?_
    simp only [impl_WriterOk.p7, Int.toNat_natCast, impl_dataOk_is]
    rw [drop_get (d := zWord) hi, List.all_cons]
    simp only [wordB]
    rw [wrap_up hi (by omega), Bool.and_assoc, Bool.and_assoc, Bool.and_assoc]
    refine Ev.pos (by omega) (Ev.pos (by omega) ?_)
    change Ev (fun k => (some (!decide ((40 : Int) < (((w.2.1.getD i zWord).1.size : Nat) : Int)))).bind fun r1 => if r1 = true then ((impl_NodesOk.f k a (w.2.1.getD i zWord).2.1).bind fun r2 => if r2 = true then ((impl_Holds.f k a (w.2.1.getD i zWord).2.1).bind fun r3 => if (w.2.1.getD i zWord).2.2.1 = r3 then ((impl_flagNum.f (!(decide ((w.2.1.getD i zWord).2.2.1 = true)))).bind fun r4 => impl_WriterOk.p7 k (wrap64 (n + r4)) w.2.1 ((w.2.1.length : Nat) : Int) ((i + 1 : Nat) : Int) a w) else some false) else some false) else some false) _
    refine Ev.bindc rfl (Ev.and fun _ => Ev.bind (impl_NodesOk_ev a _ ha hz) (Ev.and fun _ => Ev.bind (impl_Holds_ev a _ ha hz) ?_))
    have e : decide (holdsB a (w.2.1.getD i zWord).2.1 = (w.2.1.getD i zWord).2.2.1) = decide ((w.2.1.getD i zWord).2.2.1 = holdsB a (w.2.1.getD i zWord).2.1) := by
      rw [decide_eq_decide]; exact ⟨fun h => h.symm, fun h => h.symm⟩
    rw [e]
    refine Ev.andc fun _ => ?_
    by_cases hd : (w.2.1.getD i zWord).2.2.1 = true
    · have e2 : impl_flagNum.f (!(decide ((w.2.1.getD i zWord).2.2.1 = true))) = some 0 := by rw [hd]; rfl
      refine Ev.bindc e2 ?_
      rw [Int.add_zero, wrap64_id (x := n) (by omega) (by omega)]
      refine (ih (i + 1) n (by omega) h0 (by omega)).eq ?_
      rw [undone_t hd]
    · have e2 : impl_flagNum.f (!(decide ((w.2.1.getD i zWord).2.2.1 = true))) = some 1 := by
        simp only [Bool.not_eq_true] at hd
        rw [hd]; rfl
      refine Ev.bindc e2 ?_
      rw [wrap64_id (x := n + 1) (by omega) (by omega)]
      refine (ih (i + 1) (n + 1) (by omega) (by omega) (by omega)).eq ?_
      rw [undone_f hd, Int.add_assoc]
theorem impl_WriterOk_ev (a : Config) (w : Writer) (ha : a.1.length ≤ 1048576) (hl : w.2.1.length ≤ 4194304) (he : ∀ i, i < w.2.1.length → (w.2.1.getD i zWord).2.1.length ≤ 1048576) : Ev (fun k => impl_WriterOk.f k a w) (writerB a w) := by
  have := impl_WriterOk_l a w ha hl he w.2.1.length 0 0 (by omega) (by omega) (by omega)
  rw [List.drop_zero, Int.zero_add] at this
  refine (Ev.cg this fun k => rfl).eq ?_
  have e : decide (((w.2.1.length : Nat) : Int) ≤ 60) = !decide ((60 : Int) < ((w.2.1.length : Nat) : Int)) := by
    by_cases h : ((w.2.1.length : Nat) : Int) ≤ 60
    · rw [decide_eq_true h, decide_eq_false (by omega)]; rfl
    · rw [decide_eq_false h, decide_eq_true (by omega)]; rfl
  unfold writerB
  rw [e]
  cases w.2.1.all (wordB a) <;> cases cfgB a <;> cases inB w.1 1 30 <;> cases decide ((60 : Int) < ((w.2.1.length : Nat) : Int)) <;> rfl

theorem impl_writerAsWas_ev (a : Config) (w : Writer) (ha : a.1.length ≤ 1048576) (hl : w.2.1.length ≤ 1048576) (he : ∀ i, i < w.2.1.length → (w.2.1.getD i zWord).2.1.length ≤ 1048576) : Ev (fun k => impl_writerAsWas.f k a w) (if writerB a w = true then w else ((0 : Int), (([] : List Word), ()))) := by
  simp only [impl_writerAsWas.f]
  exact Ev.bind (impl_WriterOk_ev a w ha (by omega) he) (Ev.ite (fun _ => Ev.bind (impl_copyWriter_ev w hl he) Ev.ret) fun _ => Ev.ret)
theorem writer_small {w : Writer} (hc : cnt tWriter w ≤ 1048576) : w.2.1.length ≤ 1048576 ∧ ∀ i, i < w.2.1.length → (w.2.1.getD i zWord).2.1.length ≤ 1048576 := by
  have hl : 0 + (w.2.1.length + (w.2.1.map fun x => cnt tWord x).sum + 0) ≤ 1048576 := hc
  refine ⟨by omega, fun i hi => ?_⟩
  have hm := sum_mem (f := fun x => cnt tWord x) (getD_mem (d := zWord) hi)
  have hm : (w.2.1.getD i zWord).1.size + (cnt (.sl (.int .i64)) (w.2.1.getD i zWord).2.1 + (0 + 0)) ≤ (w.2.1.map fun x => cnt tWord x).sum := hm
  rw [cnt_ints] at hm; omega


theorem both (a : Config) (w : Writer) (s : ByteArray) (ha : a.1.length ≤ 1048576) (hc : cnt tWriter w ≤ 1048576) (hs : s.size ≤ 1048576) : ∃ q, Ev (fun k => spec_WriterAdd.f k a w s) q ∧ Ev (fun k => impl_WriterAdd.f k a w s) q ∧ cnt tWriter q.1 ≤ 4194304 := by
  obtain ⟨hl, he⟩ := writer_small hc
  have s1 := spec_WriterOk_ev a w ha (by omega) he
  have s2 := impl_WriterOk_ev a w ha (by omega) he
  have s3 := spec_l8Copy_ev w hl he
  have s4 := impl_copyWriter_ev w hl he
  have s5 := impl_writerAsWas_ev a w ha hl he
  have hlen : ((w.2.1.length : Nat) : Int) + (([((s, (([] : List Int), (false, ()))) : Word)].length : Nat) : Int) ≤ lim := by simp only [lim, List.length_cons, List.length_nil]; omega
  generalize hn : (w.1, ((w.2.1 ++ ([(s, (([] : List Int), (false, ())))] : List Word)), w.2.2)) = w2
  have hl2 : w2.2.1.length = w.2.1.length + 1 := by rw [← hn]; simp
  have he2 : ∀ i, i < w2.2.1.length → (w2.2.1.getD i zWord).2.1.length ≤ 1048576 := fun i hi => by
    rw [← hn]
    show ((w.2.1 ++ [((s, (([] : List Int), (false, ()))) : Word)]).getD i zWord).2.1.length ≤ 1048576
    by_cases hlt : i < w.2.1.length
    · rw [List.getD_eq_getElem?_getD, List.getElem?_append_left hlt, ← List.getD_eq_getElem?_getD]; exact he i hlt
    · have : i - w.2.1.length = 0 := by omega
      rw [List.getD_eq_getElem?_getD, List.getElem?_append_right (by omega), this]; exact Nat.zero_le _
  have hcn : cnt tWriter w2 ≤ 4194304 := by
    have hc : 0 + (w.2.1.length + (w.2.1.map fun x => cnt tWord x).sum + 0) ≤ 1048576 := hc
    rw [← hn]
    show 0 + ((w.2.1 ++ [((s, (([] : List Int), (false, ()))) : Word)]).length + ((w.2.1 ++ [((s, (([] : List Int), (false, ()))) : Word)]).map fun x => cnt tWord x).sum + 0) ≤ 4194304
    have hw : cnt tWord (s, (([] : List Int), (false, ()))) = s.size + (0 + (0 + 0)) := rfl
    rw [List.length_append, List.map_append, List.sum_append, List.map_cons, List.map_nil, List.sum_cons, List.sum_nil, hw, List.length_cons, List.length_nil]
    omega
  have s6 := spec_WriterOk_ev a w2 ha (by omega) he2
  have s7 := impl_WriterOk_ev a w2 ha (by omega) he2
  simp only [spec_WriterAdd.f, impl_WriterAdd.f]
  cases hb : writerB a w with
  | false =>
    rw [hb] at s1 s2 s5
    exact ⟨(((0 : Int), (([] : List Word), ())), (0 : Int), false), Ev.bind s1 (Ev.neg (by decide) Ev.ret), Ev.bind s4 (Ev.pos hlen (Ev.bind s2 (Ev.neg (by decide) (Ev.bind s5 Ev.ret)))), by decide⟩
  | true =>
    rw [hb] at s1 s2 s5
    subst hn
    cases hb2 : writerB a (w.1, ((w.2.1 ++ ([(s, (([] : List Int), (false, ())))] : List Word)), w.2.2)) with
    | false =>
      rw [hb2] at s6 s7
      exact ⟨(w, (0 : Int), false), Ev.bind s1 (Ev.pos rfl (Ev.bind s3 (Ev.pos hlen (Ev.bind s6 (Ev.neg (by decide) (Ev.bind s3 Ev.ret)))))), Ev.bind s4 (Ev.pos hlen (Ev.bind s2 (Ev.pos rfl (Ev.bind s7 (Ev.neg (by decide) (Ev.bind s5 Ev.ret)))))), by show cnt tWriter w ≤ _; omega⟩
    | true =>
      rw [hb2] at s6 s7
      exact ⟨((w.1, ((w.2.1 ++ ([(s, (([] : List Int), (false, ())))] : List Word)), w.2.2)), (((w.2.1 ++ ([(s, (([] : List Int), (false, ())))] : List Word)).length : Nat) : Int), true), Ev.bind s1 (Ev.pos rfl (Ev.bind s3 (Ev.pos hlen (Ev.bind s6 (Ev.pos rfl Ev.ret))))), Ev.bind s4 (Ev.pos hlen (Ev.bind s2 (Ev.pos rfl (Ev.bind s7 (Ev.pos rfl Ev.ret))))), hcn⟩
theorem pureL (a0 : Config) (a1 : Writer) (a2 : ByteArray) (h0 : Gd tConfig a0) (h1 : Gd tWriter a1) (h2 : Gd .str a2) : ∃ k, laws_FnExactWriterAdd.f k a0 a1 a2 = some true := by
  refine Ev.get (v := true) ?_
  simp only [laws_FnExactWriterAdd.f]
  by_cases hb : (1048576 : Int) < ((a2.size : Nat) : Int)
  · exact Ev.pos hb Ev.ret
  refine Ev.neg hb ?_
  obtain ⟨v, s1, s2, s3⟩ := sz_Config a0 1048576 h0 (by omega) (by omega)
  refine Ev.bind s1 ?_
  by_cases hv : v < 0
  · exact Ev.pos hv Ev.ret
  refine Ev.neg hv ?_
  have hc0 : cnt tConfig a0 ≤ 1048576 := by have := s3 (by omega); omega
  obtain ⟨u, s4, s5, s6⟩ := sz_Writer a1 v h1 (by omega) (by omega)
  refine Ev.bind s4 ?_
  by_cases hu : u < 0
  · exact Ev.pos hu Ev.ret
  refine Ev.neg hu ?_
  have hc1 : cnt tWriter a1 ≤ 1048576 := by have := s6 (by omega); omega
  have ha : a0.1.length ≤ 1048576 := by
    have : cnt (.sl (.int .i64)) a0.1 + (0 + 0) ≤ 1048576 := hc0
    rw [cnt_ints] at this; omega
  have t0 := to_Config a0 hc0
  have t1 := to_Writer a1 hc1
  obtain ⟨q, e1, e2, e3⟩ := both a0 a1 a2 ha hc1 (by omega)
  have q0 := eq_Config a0 (by omega)
  have q1 := eq_Writer a1 (by omega)
  have q2 := eq_Writer q.1 (by omega)
  have w0 := W_Config_le a0
  have w1 := W_Writer_le a1
  have w2 := W_Writer_le q.1
  obtain ⟨n1, x1, m1, m2, m3⟩ := mk_Config a0 1 (by omega) (by omega)
  obtain ⟨n2, x2, m4, m5, m6⟩ := mk_Writer.one a1 n1 (by omega) (by omega)
  obtain ⟨n3, x3, m7, m8, m9, m10⟩ := mk_Writer q.1 1 (by omega) (by omega)
  repeat first | exact Ev.ret | refine Ev.bind (by assumption) ?_ | refine Ev.bindc (by assumption) ?_ | refine Ev.pos (by first | trivial | omega) ?_ | refine Ev.neg (by omega) ?_

end Go.Proofs.Ytdkdhciogedoiab.OmFnExactWriterAdd
