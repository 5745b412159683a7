/- What a call's argument reads as, laid open: a value that can be read at a type of whole numbers, bools, strings, structs and slices of these is a row of the kind that the printed walks speak of, and each of its whole numbers is one of its kind. No conditions. -/
import Derived.Test.YtdkdhciogedoiabWMore
import Derived.ChangeSlices
import Derived.WideShapes
namespace Go.Proofs.YtdkdhciogedoiabW.Opn
open Go.RowKit Go.Proofs.YtdkdhciogedoiabW.PrintWords Go.Proofs.YtdkdhciogedoiabW.PrintLast

structure Opens {α : Type} (P : Program) (t : TypeId) (d : Kd α) (G : α → Prop) : Prop where
  get : ∀ {H : Type} (enc : TypeId × Value → H) (W : World) (base : Nat) (spare : Nat → Bool) (held : Bool) (fuel : Nat) (cs : List Value) (dd : DataW H) (ps : List MemPlace),
    DataW.trod enc P W base spare held fuel t cs = some (dd, ps) → ∃ x, d.K W x cs ∧ G x

theorem opens_int {P : Program} {t : TypeId} {k : IntKind} (hu : P.underlying t = some (.int k)) : Opens P t (Kd.int k) (fun x => (Lit.int k x).wf = true) := ⟨by
  intro H enc W base spare held fuel cs dd ps h
  cases fuel with
  | zero => simp [DataW.trod] at h
  | succ n =>
    unfold DataW.trod at h
    rw [hu] at h
    rcases cs with _ | ⟨v, _ | ⟨v2, r⟩⟩ <;> (try (simp at h; done))
    cases v <;> simp at h
    rename_i k' m
    obtain ⟨⟨rfl, hw⟩, _⟩ := h
    exact ⟨m, rfl, hw⟩⟩

theorem opens_bool {P : Program} {t : TypeId} (hu : P.underlying t = some .bool) : Opens P t Kd.bool (fun _ => True) := ⟨by
  intro H enc W base spare held fuel cs dd ps h
  cases fuel with
  | zero => simp [DataW.trod] at h
  | succ n =>
    unfold DataW.trod at h
    rw [hu] at h
    rcases cs with _ | ⟨v, _ | ⟨v2, r⟩⟩ <;> (try (simp at h; done))
    cases v <;> simp at h
    rename_i b
    exact ⟨b, rfl, trivial⟩⟩

theorem opens_string {P : Program} {t : TypeId} (hu : P.underlying t = some .string) : Opens P t Kd.string (fun s => s.size ≤ 9223372036854775807) := ⟨by
  intro H enc W base spare held fuel cs dd ps h
  cases fuel with
  | zero => simp [DataW.trod] at h
  | succ n =>
    unfold DataW.trod at h
    rw [hu] at h
    rcases cs with _ | ⟨v, _ | ⟨v2, r⟩⟩ <;> (try (simp at h; done))
    cases v <;> simp at h
    rename_i s
    exact ⟨s, rfl, by have := h.1; unfold maxLen at this; omega⟩⟩

theorem choose_list {α : Type} (Q : Nat → α → Prop) : ∀ n : Nat, (∀ i, i < n → ∃ x, Q i x) → ∃ xs : List α, xs.length = n ∧ ∀ (i : Nat) (x : α), xs[i]? = some x → Q i x
  | 0, _ => ⟨[], rfl, fun i x h => by simp at h⟩
  | n + 1, h => by
    obtain ⟨xs, hl, hq⟩ := choose_list Q n (fun i hi => h i (by omega))
    obtain ⟨y, hy⟩ := h n (by omega)
    refine ⟨xs ++ [y], by simp [hl], fun i x hx => ?_⟩
    rcases Nat.lt_trichotomy i xs.length with hi | hi | hi
    · rw [List.getElem?_append_left hi] at hx
      exact hq i x hx
    · subst hi
      simp at hx
      subst hx
      rw [hl]
      exact hy
    · rw [List.getElem?_eq_none (by simp; omega)] at hx
      cases hx

theorem mapM_some {α β : Type} (f : α → Option β) : ∀ (l : List α) (r : List β), l.mapM f = some r → r.length = l.length ∧ ∀ (i : Nat) (x : α), l[i]? = some x → ∃ y, r[i]? = some y ∧ f x = some y
  | [], r, h => by
    simp at h
    subst h
    exact ⟨rfl, fun i x hx => by simp at hx⟩
  | a :: l, r, h => by
    rw [List.mapM_cons] at h
    cases ha : f a with
    | none => simp [ha] at h
    | some y =>
      cases hl : l.mapM f with
      | none => simp [ha, hl] at h
      | some r' =>
        simp [ha, hl] at h
        subst h
        obtain ⟨h1, h2⟩ := mapM_some f l r' hl
        refine ⟨by simp [h1], fun i x hx => ?_⟩
        cases i with
        | zero =>
          simp at hx
          subst hx
          exact ⟨y, rfl, ha⟩
        | succ i =>
          simp at hx
          obtain ⟨z, hz, hf⟩ := h2 i x hx
          exact ⟨z, by simpa using hz, hf⟩

theorem cells_some {W : World} {base : Nat} {a : Addr} {n : Nat} {cs : List Value} (h : W.cells? base a n = some cs) : cs.length = n ∧ ∀ (i : Nat) (u : Value), cs[i]? = some u → W.cell? (a.add i) = some u := by
  unfold World.cells? at h
  split at h
  · obtain ⟨h1, h2⟩ := mapM_some _ _ _ h
    rw [List.length_range] at h1
    refine ⟨h1, fun i u hu => ?_⟩
    have hi : i < n := by rw [← h1]; exact (List.getElem?_eq_some_iff.1 hu).1
    obtain ⟨y, hy, hf⟩ := h2 i i (by rw [List.getElem?_range hi])
    rw [hy] at hu
    cases hu
    exact hf
  · cases h

theorem opens_slice {α : Type} {P : Program} {t e : TypeId} {d : Kd α} {G : α → Prop} (hu : P.underlying t = some (.slice e)) (hc : P.cellsOf e = d.sz) (he : Opens P e d G) :
    Opens P t (Kd.slice e d) (fun xs => xs.length ≤ 9223372036854775807 ∧ ∀ x ∈ xs, G x) := ⟨by
  intro H enc W base spare held fuel cs dd ps h
  cases fuel with
  | zero => simp [DataW.trod] at h
  | succ n =>
    unfold DataW.trod at h
    rw [hu] at h
    rcases cs with _ | ⟨v, _ | ⟨v2, r⟩⟩ <;> (try (simp at h; done))
    cases v <;> (try (simp at h; done))
    rename_i A len cap
    cases A with
    | none =>
      split at h <;> rename_i he1 he2 <;> (try (cases he1; done)) <;> (try (cases he2; done)) <;> (try (cases h; done))
      cases he2
      exact ⟨[], ⟨none, 0, rfl, Nat.le_refl _, ⟨rfl, by simp, fun h => absurd h (Nat.lt_irrefl 0)⟩⟩, by simp, by simp⟩
    | some a =>
      simp only at h
      split at h
      · rename_i hb
        cases hm : (List.range len).mapM (fun i => (W.cells? base (a.add (i * P.cellsOf e)) (P.cellsOf e)).bind (DataW.trod enc P W base spare held n e)) with
        | none => simp [hm] at h
        | some el =>
          obtain ⟨h1, h2⟩ := mapM_some _ _ _ hm
          have hq : ∀ i, i < len → ∃ x, (∃ c, c.length = d.sz ∧ d.K W x c ∧ ∀ j u, c[j]? = some u → W.cell? (a.add (i * d.sz + j)) = some u) ∧ G x := by
            intro i hi
            obtain ⟨y, _, hf⟩ := h2 i i (by rw [List.getElem?_range hi])
            cases hcs : W.cells? base (a.add (i * P.cellsOf e)) (P.cellsOf e) with
            | none => simp [hcs] at hf
            | some cs =>
              rw [hcs] at hf
              obtain ⟨x, hK, hG⟩ := he.get enc W base spare held n cs y.1 y.2 hf
              obtain ⟨hl, hcell⟩ := cells_some hcs
              refine ⟨x, ⟨cs, by rw [hl, hc], hK, fun j u hj => ?_⟩, hG⟩
              have := hcell j u hj
              rwa [add_add, hc] at this
          obtain ⟨xs, hl, hx⟩ := choose_list _ len hq
          have hlen : len ≤ 9223372036854775807 := by have := hb.2.1; have := hb.2.2; unfold maxLen at this; omega
          subst hl
          refine ⟨xs, ⟨some a, cap, rfl, hb.2.1, ⟨rfl, hlen, fun _ => ⟨a, rfl, fun j p hj => (hx j p hj).1⟩⟩⟩, hlen, fun x hxm => ?_⟩
          obtain ⟨i, hi, rfl⟩ := List.getElem_of_mem hxm
          exact (hx i _ (List.getElem?_eq_getElem hi)).2
      · cases h⟩

/-- The fields of a struct from a place on. -/
structure OpensF {α : Type} (P : Program) (fs : List Field) (off : Nat) (d : Kd α) (G : α → Prop) : Prop where
  get : ∀ {H : Type} (enc : TypeId × Value → H) (W : World) (base : Nat) (spare : Nat → Bool) (held : Bool) (fuel : Nat) (cs : List Value) (xs : List (DataW H × List MemPlace)), cs.length = off + d.sz →
    fs.mapM (fun f => DataW.trod enc P W base spare held fuel f.type ((cs.drop f.offset).take (P.cellsOf f.type))) = some xs → ∃ x, d.K W x (cs.drop off) ∧ G x

theorem opensF_one {α : Type} {P : Program} {f : Field} {off : Nat} {d : Kd α} {G : α → Prop} (ho : f.offset = off) (hc : P.cellsOf f.type = d.sz) (h : Opens P f.type d G) : OpensF P [f] off d G := ⟨by
  intro H enc W base spare held fuel cs xs hl hm
  obtain ⟨h1, h2⟩ := mapM_some _ _ _ hm
  obtain ⟨y, _, hf⟩ := h2 0 f rfl
  obtain ⟨x, hK, hG⟩ := h.get enc W base spare held fuel _ y.1 y.2 hf
  refine ⟨x, ?_, hG⟩
  rwa [ho, hc, List.take_of_length_le (by rw [List.length_drop]; omega)] at hK⟩

theorem opensF_cons {α β : Type} {P : Program} {f : Field} {fs : List Field} {off : Nat} {d : Kd α} {G : α → Prop} {d' : Kd β} {G' : β → Prop} (ho : f.offset = off) (hc : P.cellsOf f.type = d.sz) (h : Opens P f.type d G) (h' : OpensF P fs (off + d.sz) d' G') :
    OpensF P (f :: fs) off (Kd.pair d d') (fun x => G x.1 ∧ G' x.2) := ⟨by
  intro H enc W base spare held fuel cs xs hl hm
  rw [List.mapM_cons] at hm
  have hsz : (Kd.pair d d').sz = d.sz + d'.sz := rfl
  cases ha : DataW.trod enc P W base spare held fuel f.type ((cs.drop f.offset).take (P.cellsOf f.type)) with
  | none => simp [ha] at hm
  | some y =>
    cases hr : fs.mapM (fun f => DataW.trod enc P W base spare held fuel f.type ((cs.drop f.offset).take (P.cellsOf f.type))) with
    | none => simp [ha, hr] at hm
    | some r =>
      obtain ⟨x, hK, hG⟩ := h.get enc W base spare held fuel _ y.1 y.2 ha
      obtain ⟨x', hK', hG'⟩ := h'.get enc W base spare held fuel cs r (by rw [hl, hsz]; omega) hr
      refine ⟨(x, x'), ⟨(cs.drop off).take d.sz, cs.drop (off + d.sz), ?_, ?_, hK'⟩, hG, hG'⟩
      · rw [← List.drop_drop, List.take_append_drop]
      · rwa [ho, hc] at hK⟩

theorem opens_struct {α : Type} {P : Program} {t : TypeId} {fs : Array Field} {d : Kd α} {G : α → Prop} (hu : P.underlying t = some (.struct fs)) (hc : P.cellsOf t = d.sz) (h : OpensF P fs.toList 0 d G) : Opens P t d G := ⟨by
  intro H enc W base spare held fuel cs dd ps hh
  cases fuel with
  | zero => simp [DataW.trod] at hh
  | succ n =>
    unfold DataW.trod at hh
    rw [hu] at hh
    simp only at hh
    split at hh
    · rename_i hl
      cases hm : fs.toList.mapM (fun f => DataW.trod enc P W base spare held n f.type ((cs.drop f.offset).take (P.cellsOf f.type))) with
      | none => simp [hm] at hh
      | some xs =>
        obtain ⟨x, hK, hG⟩ := h.get enc W base spare held n cs xs (by rw [hl, hc]; omega) hm
        exact ⟨x, by simpa using hK, hG⟩
    · cases hh⟩

theorem opens_iso {α β : Type} {P : Program} {t : TypeId} {d : Kd α} {G : α → Prop} (f : β → α) (g : α → β) (hg : ∀ x, f (g x) = x) (h : Opens P t d G) : Opens P t (Kd.iso d f) (fun y => G (f y)) := ⟨by
  intro H enc W base spare held fuel cs dd ps hh
  obtain ⟨x, hK, hG⟩ := h.get enc W base spare held fuel cs dd ps hh
  exact ⟨g x, by show d.K W (f (g x)) cs; rw [hg]; exact hK, by show G (f (g x)); rw [hg]; exact hG⟩⟩

end Go.Proofs.YtdkdhciogedoiabW.Opn
