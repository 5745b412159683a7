/- OM: operations on rows, boxes and addresses. Conditions: none. -/
import Derived.Test.YtngfjichhphjeaaGreatOmA
import Derived.Laws.MakeOwn
import Derived.Laws.BytesString
import Derived.Laws.IdiomStrings
import Derived.Great.BuildSlice
import Derived.Deep.Upon
set_option linter.unusedVariables false
set_option linter.unusedSimpArgs false
namespace Go.OM
open Go
section
variable {c : Ctx} {g : Ghost} {s : St} {a : Act} {w : World} {P : Program} {E : Env}

theorem Grow.alloc (w : World) (o : Obj) : Grow w (w.alloc o) :=
  ⟨rfl, rfl, rfl, by simp, fun b c e f h => ⟨c, f, by rw [RowKit.Below.heap_alloc w o b (Array.getElem?_eq_some_iff.1 h).1]; exact h, rfl⟩⟩
theorem Grow.drew (w : World) : Grow w { w with drawn := w.drawn + 1 } := ⟨rfl, rfl, rfl, Nat.le_refl _, fun _ c _ f h => ⟨c, f, h, rfl⟩⟩
theorem RelG.grow (r : RelG c g s a w) {w' : World} (hg : Grow w w') (hs : ∀ b, b < w.heap.size → w'.heap[b]? = w.heap[b]?) : RelG c g s a w' := by
  have e : Evo (fun _ => False) g s a w g s a w' :=
    { st := fun _ _ => rfl, up := fun _ h => h.elim, O := fun _ _ => rfl, Bk := fun _ _ => rfl, val := fun _ _ => rfl, CV := fun _ _ _ _ _ => rfl, G := fun _ h => h
      heap := fun b hb => hs b (hb.elim (r.gsz b) (fun ⟨l, _, h⟩ => (r.own l b h).1)), refs := fun _ h => h.elim }
  exact e.rel r hg r.gin (fun _ _ => .inl rfl) r.disj r.ownG (fun _ _ h => h.elim) (fun b h => Nat.lt_of_lt_of_le (r.gsz b h) hg.size) (fun _ _ _ h => h.elim)
    ⟨r.fr.grow.trans hg, r.fr.le, fun b hb hm => by rw [hs b (Nat.lt_of_lt_of_le hb (Nat.le_trans r.fr.le r.fr.grow.size))]; exact r.fr.old b hb hm⟩ r.defs r.size (fun _ h => h.elim) (fun _ h => h.elim) (fun _ h => h.elim)
theorem RelG.alloc (r : RelG c g s a w) (o : Obj) : RelG c g s a (w.alloc o) := r.grow (Grow.alloc w o) (fun b h => RowKit.Below.heap_alloc w o b h)

theorem idl_inj {a b : Nat} (h : idl a = idl b) : a = b := by
  have h' : 4 * a + 3 = 4 * b + 3 := h
  omega
theorem newBox_st {l : Loc} {V : V} (m : Loc) : upds s (newBox s l V) m = if m = idl l then ⟨.undef, (s (idl l)).v + 1, (s (idl l)).hv + 1⟩ else if m = l then ⟨.val V none, (s l).v + 1, (s l).hv + 1⟩ else s m := by
  show upd (upd s l _) (idl l) _ m = _
  by_cases h1 : m = idl l
  · subst h1; rw [upd_self, if_pos rfl]
  · rw [upd_ne h1, if_neg h1]
    by_cases h2 : m = l
    · subst h2; rw [upd_self, if_pos rfl]
    · rw [upd_ne h2, if_neg h2]
theorem ne_idl {l : Loc} (h4 : l % 4 = 1) (m : Loc) : l ≠ idl m := fun h => by have := idl_ne m; rw [← h, h4] at this; cases this

/-- A box that nobody has is taken on. -/
theorem RelG.adopt (r : RelG c g s a w) {l : Loc} (hbk : c.bk l = none) (h4 : l % 4 = 1) {V : V} {cs : List Value} {n : Nat} {Oc : Nat → Prop} (hF : Fut s (.val V none))
    (hR : validL s V.lend = true → Rp w (Sof g V.lend) V.t V.o V.x cs Oc ∧ (V.tag ≠ 0 → cs = c.tags V.tag)) (hb : Box w n V.t.size) (hc : ∃ x e f, w.heap[n]? = some (.cells x e f) ∧ x.toList = cs)
    (hl : Loose c g w (fun b => b = n ∨ Oc b)) (hn : ¬ Oc n) :
    RelG c { g with O := fun m => if m = l then (fun b => b = n ∨ Oc b) else if m = idl l then (fun _ => False) else g.O m, Bk := fun m => if m = l then n else g.Bk m } (upds s (newBox s l V)) a w := by
  have hli : l ≠ idl l := ne_idl h4 l
  let g' : Ghost := { g with O := fun m => if m = l then (fun b => b = n ∨ Oc b) else if m = idl l then (fun _ => False) else g.O m, Bk := fun m => if m = l then n else g.Bk m }
  have sl : upds s (newBox s l V) l = ⟨.val V none, (s l).v + 1, (s l).hv + 1⟩ := by rw [newBox_st, if_neg hli, if_pos rfl]
  have si : upds s (newBox s l V) (idl l) = ⟨.undef, (s (idl l)).v + 1, (s (idl l)).hv + 1⟩ := by rw [newBox_st, if_pos rfl]
  have e : Evo (fun m => m = l ∨ m = idl l) g s a w g' (upds s (newBox s l V)) a w := by
    refine { st := fun m hm => ?_, up := fun m hm => ?_, O := fun m hm => ?_, Bk := fun m hm => ?_, val := fun _ _ => rfl, CV := fun _ _ _ _ _ => rfl, G := fun _ h => h, heap := fun _ _ => rfl, refs := ?_ }
    · rw [newBox_st, if_neg (fun h => hm (.inr h)), if_neg (fun h => hm (.inl h))]
    · rcases hm with rfl | rfl
      · rw [sl]; exact ⟨Nat.lt_succ_self _, Nat.le_succ _⟩
      · rw [si]; exact ⟨Nat.lt_succ_self _, Nat.le_succ _⟩
    · simp only [g', if_neg (fun h => hm (.inl h)), if_neg (fun h => hm (.inr h))]
    · simp only [g', if_neg (fun h => hm (.inl h))]
    · intro m hm hmi W org' cs' p' b off v hv iv hW hcc hll hna hvl hle hle2
      rcases hm with rfl | rfl
      · exact absurd (.inr rfl) hmi
      · exact (noRef (s := s) (by rw [idl_ne]; decide) (by rw [si]; exact Nat.lt_succ_self _) hna hvl hle2).elim
  have up : ∀ m, (s m).v ≤ (upds s (newBox s l V) m).v := fun m => by
    by_cases hm : m = l ∨ m = idl l
    · exact Nat.le_of_lt (e.up m hm).1
    · rw [e.st m hm]; exact Nat.le_refl _
  refine e.rel r (Grow.refl w) r.gin (fun m hm => by
    rcases hm with rfl | rfl
    · exact .inr hbk
    · exact .inl (by simp only [g', if_neg (fun h => hli (Eq.symm h))])) ?_ ?_ ?_ r.gsz ?_ r.fr r.defs r.size ?_ ?_ ?_
  · intro m m' b hm hm'
    by_cases h1 : m = l
    · by_cases h2 : m' = l
      · rw [h1, h2]
      · simp only [g', if_pos h1] at hm; simp only [g', if_neg h2] at hm'
        split at hm'
        · exact hm'.elim
        · exact ((hl b hm).2.1 _ hm').elim
    · simp only [g', if_neg h1] at hm
      split at hm
      · exact hm.elim
      · by_cases h2 : m' = l
        · simp only [g', if_pos h2] at hm'
          exact ((hl b hm').2.1 _ hm).elim
        · simp only [g', if_neg h2] at hm'
          split at hm'
          · exact hm'.elim
          · exact r.disj _ _ b hm hm'
  · intro m b hm
    by_cases h1 : m = l
    · simp only [g', if_pos h1] at hm; exact (hl b hm).1
    · simp only [g', if_neg h1] at hm
      split at hm
      · exact hm.elim
      · exact r.ownG _ b hm
  · intro m b hm hb
    by_cases h1 : m = l
    · simp only [g', if_pos h1] at hb; exact (hl b hb).2.2
    · simp only [g', if_neg h1] at hb
      rcases hm with hm | hm
      · exact absurd hm h1
      · simp only [g', if_pos hm] at hb
  · intro m W org hm hm4 hW
    rcases hm with rfl | rfl
    · rw [sl] at hW; cases hW
      simp only [g', if_true]
      exact ⟨.inl trivial, hb⟩
    · rw [si] at hW; cases hW
  · rintro m (rfl | rfl)
    · rw [sl]; exact ⟨fun x hx => Nat.le_trans (hF.1 x hx) (up _), trivial⟩
    · rw [si]; trivial
  · rintro m (rfl | rfl)
    · rw [sl]
      intro x hx hxl
      rw [sl]
      have := hF.1 x hx
      rw [hxl] at this
      exact Nat.lt_succ_of_le this
    · rw [si]; trivial
  · rintro m (rfl | rfl)
    · rw [sl]
      intro hv
      obtain ⟨v1, v2⟩ := e.valid hF.1 hv
      obtain ⟨k1, k2⟩ := e.sof v2
      obtain ⟨q1, q2⟩ := hR v1
      refine ⟨cs, Oc, ?_, fun h => absurd h4 h, ⟨q1.mono k1 (fun _ h => h), q2, trivial⟩, fun b hb => ?_⟩
      · unfold Cells
        rw [if_pos h4]
        simp only [g', if_true]
        exact hc
      · simp only [g', if_true]
        exact ⟨.inr hb, fun _ e => hn (e ▸ hb)⟩
    · rw [si]; trivial

theorem tm_ne_bx (i j : Nat) : tm i ≠ bx j := fun h => by have h' : 4 * i = 4 * j + 1 := h; omega
theorem tm_ne_idl (i : Nat) (l : Loc) : tm i ≠ idl l := fun h => by have := idl_ne l; rw [← h, tm_mod] at this; cases this
theorem bx_mod (j : Nat) : bx j % 4 = 1 := Nat.mul_add_mod 4 j 1

/-- A box of its own, and its address in a temporary. -/
theorem RelG.putB (r : RelG c g s a w) {d : Nat} (hd : d < c.N) {V : V} {cs : List Value} {n : Nat} {Oc : Nat → Prop} (hF : Fut s (.val V none))
    (hR : validL s V.lend = true → Rp w (Sof g V.lend) V.t V.o V.x cs Oc ∧ (V.tag ≠ 0 → cs = c.tags V.tag)) (hb : Box w n V.t.size) (hc : ∃ x e f, w.heap[n]? = some (.cells x e f) ∧ x.toList = cs)
    (hl : Loose c g w (fun b => b = n ∨ Oc b)) (hn : ¬ Oc n) (hlen : cs.length = V.t.size) :
    Rel c (upds s (putB s d V)) (a.put (some d) (.pointer (some ⟨n, 0, none⟩))) w := by
  have r1 := r.adopt (c.bkN d (.inl hd)) (bx_mod d) hF hR hb hc hl hn
  have hst : upds s (OM.putB s d V) = upds (upds s (newBox s (bx d) V)) [bump (upds s (newBox s (bx d) V)) (tm d) (refTo s (bx d) V.t)] := by
    unfold OM.putB
    rw [upds_append]
    congr 1
    simp only [bump]
    rw [newBox_st, if_neg (tm_ne_idl _ _), if_neg (tm_ne_bx _ _)]
  rw [hst]
  have hli : bx d ≠ idl (bx d) := ne_idl (bx_mod d) _
  have sl : upds s (newBox s (bx d) V) (bx d) = ⟨.val V none, (s (bx d)).v + 1, (s (bx d)).hv + 1⟩ := by rw [newBox_st, if_neg hli, if_pos rfl]
  have si : upds s (newBox s (bx d) V) (idl (bx d)) = ⟨.undef, (s (idl (bx d))).v + 1, (s (idl (bx d))).hv + 1⟩ := by rw [newBox_st, if_pos rfl]
  refine ⟨_, r1.put (Same.refl w) hd (Oc := fun _ => False) ?_ (fun _ h => h.elim)⟩
  refine ⟨?_, fun _ => ⟨n, 0, cs, V, none, ⟨by rw [sl], by cases V with | mk t o x lend tag => cases t <;> rfl⟩, ?_, hlen, ?_, rfl⟩⟩
  · simp only [Fut, refTo]
    rw [sl, si]
    exact ⟨Nat.le_refl _, Nat.le_refl _, Nat.le_refl _⟩
  · unfold Cells
    rw [if_pos (bx_mod d)]
    simp only [if_true]
    exact hc
  · have : baseOf { g with O := fun m => if m = bx d then (fun b => b = n ∨ Oc b) else if m = idl (bx d) then (fun _ => False) else g.O m, Bk := fun m => if m = bx d then n else g.Bk m } (bx d) = some (n, 0) := by
      unfold baseOf; rw [if_pos (bx_mod d)]; simp
    rw [this]
    cases V with
    | mk t o x lend tag => cases t <;> rfl
end
end Go.OM

namespace Go.OM
open Go
section
variable {c : Ctx} {g : Ghost} {s : St} {a : Act} {w : World} {P : Program} {E : Env}

theorem outT_run {o : Oper} {x : Option (V × Upds)} {U : Upds} (h : (outT o s x).run some = some U) : ∃ V u d, x = some (V, u) ∧ o.dst = some d ∧ U = u ++ putV (upds s u) d V := by
  unfold outT at h
  cases x with
  | none => cases h
  | some q =>
    obtain ⟨V, u⟩ := q
    cases hd : o.dst with
    | none => rw [hd] at h; cases h
    | some d => rw [hd] at h; exact ⟨V, u, d, rfl, rfl, (Option.some.inj h).symm⟩
theorem out_take (r : RelG c g s a w) {ty : Option Ty} {x : Operand} {V : V} {u : Upds} (h : take s ty x = some (V, u)) {o : Oper} {d : Nat} (hd : o.dst = some d) (hN : d < c.N) :
    Rel c (upds s (u ++ putV (upds s u) d V)) (a.put o.dst (a.eval x)) w := by
  obtain ⟨g1, Oc, L, r1, e, _, _, _, _, hn, hl, _⟩ := take_new r h
  rw [upds_append]
  exact put_rel r1 (Same.refl w) hd hN hn hl
theorem ok_move {o : Oper} {x : Operand} (ho : o.op = .move x) : OpOk c P E o := by
  intro g s a w U Q r hN h
  simp only [evOp, ho] at h
  split at h
  · obtain ⟨V, u, d, hx, hd, rfl⟩ := outT_run h
    exact wp_value (v := a.eval x) (by simp [execOp, ho]) (out_take r hx hd (hN d hd))
  · split at h
    · rename_i T hp
      obtain ⟨d, hd, rfl⟩ := putT_run h
      exact wp_value (v := a.eval x) (by simp [execOp, ho]) (put_rel r (Same.refl w) hd (hN d hd) (peek_new r hp).1 Loose.none)
    · cases h
theorem ok_assign {o : Oper} {x : Operand} (ho : o.op = .assign x) : OpOk c P E o := by
  intro g s a w U Q r hN h
  simp only [evOp, ho] at h
  split at h
  · obtain ⟨d, hd, rfl⟩ := putT_run h
    exact wp_value (v := a.eval x) (by simp [execOp, ho]) (put_rel (Oc := fun _ => False) r (Same.refl w) hd (hN d hd) trivial Loose.none)
  · split at h
    · obtain ⟨V, u, d, hx, hd, rfl⟩ := outT_run h
      exact wp_value (v := a.eval x) (by simp [execOp, ho]) (out_take r hx hd (hN d hd))
    · split at h
      · rename_i T hp
        obtain ⟨d, hd, rfl⟩ := putT_run h
        exact wp_value (v := a.eval x) (by simp [execOp, ho]) (put_rel r (Same.refl w) hd (hN d hd) (peek_new r hp).1 Loose.none)
      · cases h
theorem ok_pick {o : Oper} {x y z : Operand} (ho : o.op = .pick x y z) : OpOk c P E o := by
  intro g s a w U Q r hN h
  simp only [evOp, ho] at h
  split at h
  · rename_i o1 b l1 t1 hb
    have hx := peekV_bool r hb
    simp only [Prog.run] at h
    split at h
    · rename_i hbt
      subst hbt
      split at h
      · rename_i T hp
        obtain ⟨d, hd, rfl⟩ := putT_run h
        exact wp_value (v := a.eval y) (by simp only [execOp, ho]; rw [hx]; rfl) (put_rel r (Same.refl w) hd (hN d hd) (peek_new r hp).1 Loose.none)
      · cases h
    · rename_i hbt
      have hbt : b = false := by simpa using hbt
      subst hbt
      split at h
      · rename_i T hp
        obtain ⟨d, hd, rfl⟩ := putT_run h
        exact wp_value (v := a.eval z) (by simp only [execOp, ho]; rw [hx]; rfl) (put_rel r (Same.refl w) hd (hN d hd) (peek_new r hp).1 Loose.none)
      · cases h
  · cases h
theorem arr_eq {α : Type} {x : Array α} {l : List α} (h : x.toList = l) : x = l.toArray := by subst h; simp
theorem heap_new (w : World) (o : Obj) : (w.alloc o).heap[w.heap.size]? = some o := by show (w.heap.push o)[w.heap.size]? = some o; simp
theorem new_box (r : RelG c g s a w) {cs : List Value} {tid : TypeId} {V : V} {Oc : Nat → Prop} {d : Nat} (hd : d < c.N) (hF : Fut s (.val V none)) (hlen : cs.length = V.t.size)
    (hR : validL s V.lend = true → Rp w (Sof g V.lend) V.t V.o V.x cs Oc ∧ (V.tag ≠ 0 → cs = c.tags V.tag)) (hl : Loose c g w Oc) :
    Rel c (upds s (putB s d V)) (a.put (some d) (.pointer (some ⟨w.heap.size, 0, none⟩))) (w.alloc (.cells cs.toArray tid)) := by
  have r1 := r.alloc (.cells cs.toArray tid)
  have fr : ∀ b, b < w.heap.size → (w.alloc (.cells cs.toArray tid)).heap[b]? = w.heap[b]? := fun b hb => RowKit.Below.heap_alloc w _ b hb
  refine r1.putB hd (Oc := Oc) hF (fun hv => ?_) ⟨cs.toArray, tid, (0, 0), heap_new w _, by simpa using hlen, fun o _ h => by omega⟩ ⟨cs.toArray, tid, (0, 0), heap_new w _, by simp⟩ ?_ ?_ hlen
  · obtain ⟨h1, h2⟩ := hR hv
    refine ⟨h1.frame (fun _ h => h) (fun _ h => h) (fun b hb => fr b ?_), h2⟩
    rcases hb with (hb | ⟨e, _, hb⟩) | hb
    · exact r.gsz b hb
    · exact (r.own _ b hb).1
    · exact (hl b hb).2.2.1
  · rintro b (rfl | hb)
    · refine ⟨fun h => ?_, fun l h => ?_, by simp, .inl (Nat.le_trans r.fr.le r.fr.grow.size)⟩
      · have := r.gsz _ h; omega
      · have := (r.own l _ h).1; omega
    · obtain ⟨h1, h2, h3, h4⟩ := hl b hb
      exact ⟨h1, h2, by simp; omega, h4⟩
  · intro h; have := (hl _ h).2.2.1; omega
theorem ok_alloc (he : EnvOk P E) {o : Oper} {tid : TypeId} (ho : o.op = .alloc tid) : OpOk c P E o := by
  intro g s a w U Q r hN h
  simp only [evOp, ho] at h
  split at h
  · rename_i t d ht hd
    obtain rfl := Option.some.inj h
    have f := he.fact ht
    refine wp_value (v := .pointer (some ⟨w.heap.size, 0, none⟩)) (w' := w.alloc (.cells (zc t).toArray tid)) ?_ ?_
    · have hc : (mkV t (zc t)).cells = (zc t).toArray := arr_eq (mkV_cells (t := t) zc_len zc_one)
      simp [execOp, ho, Instr.alloc, f.run_zero, newVar, newRow, hc]
    · rw [hd]
      exact new_box (V := ⟨t, zo t, zv t, [], 0⟩) (Oc := fun _ => False) r (hN d hd) ⟨by simp, trivial⟩ zc_len (fun _ => ⟨Rp.zero f.plain, by simp⟩) Loose.none
  · cases h
theorem ok_box {o : Oper} {tid : TypeId} {x : Operand} (ho : o.op = .box tid x) : OpOk c P E o := by
  intro g s a w U Q r hN h
  simp only [evOp, ho] at h
  split at h
  · rename_i t d ht hd
    split at h
    · rename_i V u hx
      split at h
      · obtain rfl := Option.some.inj h
        obtain ⟨g1, Oc, L, r1, e, _, _, _, _, hn, hl, _, _, _, hval⟩ := take_new r hx
        obtain ⟨cs, k1, k2, k3, _⟩ := hn.2 hval
        refine wp_value (v := .pointer (some ⟨w.heap.size, 0, none⟩)) (w' := w.alloc (.cells cs.toArray tid)) ?_ ?_
        · have hc : (mkV V.t cs).cells = cs.toArray := arr_eq k2.cells
          simp [execOp, ho, Instr.box, newVar, newRow, k1, hc]
        · rw [hd, upds_append]
          exact new_box r1 (hN d hd) hn.1 k2.len (fun _ => ⟨k2, k3⟩) hl
      · cases h
    · cases h
  · cases h
theorem ok_load (he : EnvOk P E) {o : Oper} {tid : TypeId} {x : Operand} (ho : o.op = .load tid x) : OpOk c P E o := by
  intro g s a w U Q r hN h
  simp only [evOp, ho] at h
  split at h
  · rename_i l p v hv iv tr t hp ht
    have f := he.fact ht
    split at h
    · rename_i V t' y o' hat
      obtain ⟨b, off, cs, d, O', m1, m2, m3, m4⟩ := ref_at r hp hat
      split at h
      · rename_i htt
        subst htt
        split at h
        · rename_i hlive
          have exec : (execOp a.eval o).run P w = .ok (.value (mkV t' d)) w := by
            simp [execOp, ho, Instr.loadAt, Instr.sureAddr, m1, run_loadVar f m3 m2.rp.len]
          obtain ⟨cs0, Oc0, k1, k2, k3, k4, k5, k6, k7, k8⟩ := content_new r (at_some hat).1
          have hval := (content_some (at_some hat).1).2
          split at h
          · rename_i hhas
            split at h
            · rename_i htk
              simp only [Bool.and_eq_true] at htk
              split at h
              · rename_i od hod
                obtain ⟨W, u, dd, hx, hd, rfl⟩ := outT_run h
                cases hx
                obtain ⟨g1, Oc, cs2, d2, r1, e, _, _, _, _, q1, q2, q3, q4, q5, q6⟩ := takeAt r htk.2 hat hod
                obtain rfl := m2.cells.uniq q1
                obtain rfl := navC_uniq m2.nav q3
                refine wp_value exec ?_
                rw [upds_append]
                refine put_rel r1 (Same.refl w) hd (hN dd hd) (Oc := Oc) ⟨⟨fun x hx => ?_, trivial⟩, fun hv' => ⟨d, rfl, ?_, ?_, trivial⟩⟩ q6
                · have := k6 x hx
                  rw [e.st _ (k7 x hx)]; exact this
                · refine q4.mono (fun b hb => ?_) (fun _ h => h)
                  rcases hb with hb | ⟨x, hx, hb⟩
                  · exact .inl (e.G b hb)
                  · exact .inr ⟨x, hx, by rw [e.O _ (k7 x hx)]; exact hb⟩
                · intro htag
                  by_cases hpe : p.isEmpty = true
                  · have hp0 : p = [] := by simpa using hpe
                    subst hp0
                    simp only [List.isEmpty_nil, if_true] at htag ⊢
                    have hd0 : d = cs := by have := m2.nav; cases V with | mk t o x lend tag => cases t <;> exact this
                    subst hd0
                    rw [m2.cells.uniq k1]; exact k4 htag
                  · simp [hpe] at htag
              · cases h
            · obtain ⟨dd, hd, rfl⟩ := putT_run h
              rename_i hhas _
              have hlive : o'.live = true := by cases o' <;> simp_all [Ow.has, Ow.isDead]
              have n := New.borrow r hat m2 hlive hval k6
              exact wp_value exec (put_rel r (Same.refl w) hd (hN dd hd) n Loose.none)
          · rename_i hhas
            obtain ⟨dd, hd, rfl⟩ := putT_run h
            exact wp_value exec (put_rel r (Same.refl w) hd (hN dd hd) (Oc := fun _ => False) ⟨⟨k6, trivial⟩, fun _ => ⟨d, rfl, Rp.noOwn m2.rp (by simpa using hhas), by simp, trivial⟩⟩ Loose.none)
        · cases h
      · cases h
    · cases h
  · rename_i t' w1 y ln tg org t hp ht
    have f := he.fact ht
    split at h
    · rename_i htt
      subst htt
      obtain ⟨dd, hd, rfl⟩ := putT_run h
      obtain ⟨n1, n2, n3, n4, n5⟩ := peek_new r hp
      obtain ⟨k1, k2, k3, k4⟩ := n4 _ _ rfl
      obtain ⟨cs, m1, m2, m3⟩ := n1.2 k1
      obtain ⟨b, off, c1, rfl, q1, q2, q3⟩ := fp_parts m2 k2
      have m1 : a.eval x = .pointer (some ⟨b, off, none⟩) := m1
      refine wp_value (v := mkV t' c1) ?_ (put_rel r (Same.refl w) hd (hN dd hd) (Oc := fun _ => False) ⟨⟨n1.1.1, trivial⟩, fun _ => ⟨c1, rfl, q3, by simp, trivial⟩⟩ Loose.none)
      simp [execOp, ho, Instr.loadAt, Instr.sureAddr, m1, run_loadVar f q2 q3.len]
    · cases h
  · cases h
end
end Go.OM

namespace Go.OM
open Go
section
variable {c : Ctx} {g : Ghost} {s : St} {a : Act} {w : World} {P : Program} {E : Env}

theorem setCell_block (w : World) (x : Addr) (v : Value) {cc : Array Value} {e : TypeId} {f : Nat × Nat} (h : w.heap[x.block]? = some (.cells cc e f)) (hs : x.spot = none) :
    (w.setCell x v).heap[x.block]? = some (.cells (cc.setIfInBounds x.off v) e f) := by
  simp only [World.setCell, Array.getElem?_modify, if_true, h, Option.map_some, hs]
  rfl
theorem setCells_block (b : Nat) : ∀ (vs : List Value) (o : Nat) (w : World) {cc : Array Value} {e : TypeId} {f : Nat × Nat}, w.heap[b]? = some (.cells cc e f) →
    ∃ c', (w.setCells b o vs).heap[b]? = some (.cells c' e f) ∧ c'.size = cc.size
  | [], _, _, cc, _, _, h => ⟨cc, h, rfl⟩
  | v :: r, o, w, cc, e, f, h => by
    obtain ⟨c', h1, h2⟩ := setCells_block b r (o + 1) (w.setCell ⟨b, o, none⟩ v) (setCell_block w ⟨b, o, none⟩ v h rfl)
    exact ⟨c', h1, by simpa using h2⟩
theorem setCells_other (b : Nat) : ∀ (vs : List Value) (o : Nat) (w : World) (k : Nat), k ≠ b → (w.setCells b o vs).heap[k]? = w.heap[k]?
  | [], _, _, _, _ => rfl
  | v :: r, o, w, k, h => by
    rw [World.setCells, setCells_other b r (o + 1) _ k h]
    exact RowKit.Below.heap_setCell w ⟨b, o, none⟩ v k h
theorem setCells_same (b : Nat) : ∀ (vs : List Value) (o : Nat) (w : World), (w.setCells b o vs).os = w.os ∧ (w.setCells b o vs).tape = w.tape ∧ (w.setCells b o vs).output = w.output ∧ (w.setCells b o vs).heap.size = w.heap.size
  | [], _, _ => ⟨rfl, rfl, rfl, rfl⟩
  | v :: r, o, w => by
    obtain ⟨h1, h2, h3, h4⟩ := setCells_same b r (o + 1) (w.setCell ⟨b, o, none⟩ v)
    exact ⟨h1, h2, h3, by rw [World.setCells, h4]; simp⟩
theorem Grow.setCells (w : World) (b o : Nat) (vs : List Value) : Grow w (w.setCells b o vs) := by
  obtain ⟨h1, h2, h3, h4⟩ := setCells_same b vs o w
  refine ⟨h1, h2, h3, by rw [h4]; exact Nat.le_refl _, fun k cc e f hk => ?_⟩
  by_cases hb : k = b
  · subst hb
    obtain ⟨c', q1, q2⟩ := setCells_block k vs o w hk
    exact ⟨c', f, q1, q2⟩
  · exact ⟨cc, f, by rw [setCells_other b vs o w k hb]; exact hk, rfl⟩
theorem AtC.some {b off : Nat} {d : List Value} (h : AtC w b off d) {j : Nat} (hj : j < d.length) : (w.cell? ⟨b, off + j, none⟩).isSome = true := by
  rw [h j _ (List.getElem?_eq_getElem hj)]; rfl
theorem AtC.setCells {b off : Nat} {d vs : List Value} (h : AtC w b off d) (hl : d.length = vs.length) : AtC (w.setCells b off vs) b off vs := by
  intro i v hv
  obtain ⟨hi, rfl⟩ := List.getElem?_eq_some_iff.1 hv
  exact World.cell?_setCells_in b vs off w (fun j hj => h.some (by omega)) i hi
theorem RowKeep.setCells (w : World) (b off : Nat) (vs : List Value) : RowKeep w (w.setCells b off vs) b off vs.length := by
  refine ⟨fun i hi v hv => ?_, fun k hk => ?_⟩
  · rw [World.cell?_setCells_out b vs off w _ (fun _ _ => hi)]; exact hv
  · obtain ⟨cc, e, f, h1, h2, h3⟩ := hk
    obtain ⟨c', q1, q2⟩ := setCells_block b vs off w h1
    exact ⟨c', e, f, q1, by omega, fun o ho => h3 o (by omega)⟩
theorem AtC.grow {w' : World} (hg : Grow w w') {b off : Nat} {d : List Value} (h : AtC w b off d) : ∃ d', d'.length = d.length ∧ AtC w' b off d' := by
  refine ⟨(List.range d.length).map fun i => (w'.cell? ⟨b, off + i, none⟩).getD undef, by simp, fun i v hv => ?_⟩
  obtain ⟨hi, rfl⟩ := List.getElem?_eq_some_iff.1 hv
  simp only [List.length_map, List.length_range] at hi
  simp only [List.getElem_map, List.getElem_range]
  have hs := h i _ (List.getElem?_eq_getElem hi)
  simp only [World.cell?] at hs ⊢
  split at hs
  · rename_i cc e f hcc
    obtain ⟨c', f', q1, q2⟩ := hg.shape b cc e f hcc
    rw [q1]
    simp only [Option.isSome_none, Bool.false_eq_true, if_false] at hs ⊢
    have : off + i < c'.size := by have := (Array.getElem?_eq_some_iff.1 hs).1; omega
    rw [Array.getElem?_eq_getElem this]; rfl
  · cases hs
theorem NavA.ones_grow {w' : World} (hg : Grow w w') {Q Q' : Nat → Prop} (hQ : ∀ b, Q b → Q' b) : ∀ {p : Path} {t : Ty} {base : Option (Nat × Nat)} {cs : List Value} {b o : Nat}, p.ones = true → NavA w Q t base cs p b o → NavA w' Q' t base cs p b o := by
  intro p
  induction p with
  | nil => intro t base cs b o _ h; cases t <;> exact h
  | cons st p ih =>
    intro t base cs b o hp h
    cases st <;> cases t <;> try exact h.elim
    · exact ih (by simpa [Path.ones] using hp) h
    · exact ih (by simpa [Path.ones] using hp) h
    · obtain ⟨ad, len, cap, ci, h1, h2, h3, h4, h5, hq, h6⟩ := h
      obtain ⟨ci', q1, q2⟩ := h5.grow hg
      exact ⟨ad, len, cap, ci', h1, h2, h3, by omega, q2, hQ _ hq, NavA.flat_any (by simpa [Path.ones] using hp) h6⟩
/-- The row that is written is an own one: none of it is shut. -/
theorem Rp.row {Q : Nat → Prop} {S : Nat → Prop} : ∀ {p : Path} {t : Ty} {o o2 on : Ow} {x : t.den} {cs : List Value} {O : Nat → Prop} {base : Option (Nat × Nat)} {b off : Nat}, Rp w S t o x cs O → setO o p o2 = some on → p.flat = false → NavA w Q t base cs p b off → ∃ k, Wr w b k := by
  intro p
  induction p with
  | nil => intro t o o2 on x cs O base b off _ _ hf; simp [Path.flat] at hf
  | cons st p ih =>
    intro t o o2 on x cs O base b off h ho hf hn
    cases st <;> cases t <;> try exact hn.elim
    · rename_i a1 g1
      have hf' : Path.flat p = false := by simpa [Path.flat] using hf
      have key : ∀ oa, o.fst = some oa → (∃ ob, o.snd = some ob) → (∃ e, setO oa p o2 = some e) → ∃ k, Wr w b k := by
        rintro oa e1 ⟨ob, e2⟩ ⟨e, he⟩
        obtain ⟨c1, c2, O1, O2, rfl, h1, h2, s1, s2, d⟩ := h.pair_parts e1 e2
        have hn' : NavA w Q a1 base ((c1 ++ c2).take a1.size) p b off := hn
        rw [List.take_left' h1.len] at hn'
        exact ih h1 he hf' hn'
      cases o <;> simp only [setO] at ho <;> first | (cases ho; done) | skip
      · obtain ⟨e, he, _⟩ := Option.map_eq_some_iff.1 ho; exact key .z rfl ⟨.z, rfl⟩ ⟨e, he⟩
      · obtain ⟨e, he, _⟩ := Option.map_eq_some_iff.1 ho; exact key _ rfl ⟨_, rfl⟩ ⟨e, he⟩
    · rename_i a1 g1
      have hf' : Path.flat p = false := by simpa [Path.flat] using hf
      have key : ∀ ob, o.snd = some ob → (∃ oa, o.fst = some oa) → (∃ e, setO ob p o2 = some e) → ∃ k, Wr w b k := by
        rintro ob e2 ⟨oa, e1⟩ ⟨e, he⟩
        obtain ⟨c1, c2, O1, O2, rfl, h1, h2, s1, s2, d⟩ := h.pair_parts e1 e2
        have hn' : NavA w Q g1 (base.map fun q => (q.1, q.2 + a1.size)) ((c1 ++ c2).drop a1.size) p b off := hn
        rw [List.drop_left' h1.len] at hn'
        exact ih h2 he hf' hn'
      cases o <;> simp only [setO] at ho <;> first | (cases ho; done) | skip
      · obtain ⟨e, he, _⟩ := Option.map_eq_some_iff.1 ho; exact key .z rfl ⟨.z, rfl⟩ ⟨e, he⟩
      · obtain ⟨e, he, _⟩ := Option.map_eq_some_iff.1 ho; exact key _ rfl ⟨_, rfl⟩ ⟨e, he⟩
    · rename_i i t
      cases o <;> simp only [setO] at ho <;> first | (cases ho; done) | skip
      rename_i oe
      obtain ⟨e, he, _⟩ := Option.bind_eq_some_iff.1 ho
      obtain ⟨ad, len, cap, ci, h1, h2, h3, h4, h5, hq, h6⟩ := hn
      obtain ⟨a', cap', ecs, hc, h⟩ := h
      rw [h1] at ecs; simp at ecs
      obtain ⟨rfl, rfl, rfl⟩ := ecs
      obtain ⟨g1, g2, g3, Os, g4, g5, g6⟩ := h
      cases hfp : Path.flat p with
      | true => obtain ⟨rfl, _⟩ := NavA.flat hfp h6; exact ⟨_, g3⟩
      | false =>
        obtain ⟨ci', k1, k2⟩ := g4 i _ (getD_get (d := zv t) h2)
        obtain rfl := h5.eq k1 (by rw [h4, k2.len])
        exact ih k2 he hfp h6
theorem mkV_inj {t : Ty} {c1 c2 : List Value} (h1 : (mkV t c1).cells.toList = c1) (h2 : (mkV t c2).cells.toList = c2) (e : mkV t c1 = mkV t c2) : c1 = c2 := by rw [← h1, ← h2, e]
theorem Wr.froz {b k i : Nat} (h : Wr w b k) (hs : (w.cell? ⟨b, i, none⟩).isSome = true) : w.frozen? ⟨b, i, none⟩ = false := by
  obtain ⟨cc, e, f, h1, h2, h3⟩ := h
  have hi : i < cc.size := by
    simp only [World.cell?, h1] at hs
    simp only [Option.isSome_none, Bool.false_eq_true, if_false] at hs
    obtain ⟨v, hv⟩ := Option.isSome_iff_exists.1 hs
    exact (Array.getElem?_eq_some_iff.1 hv).1
  simp only [World.frozen?, h1]
  have := h3 i (Nat.le_of_lt hi)
  obtain ⟨f1, f2⟩ := f
  simp only at this ⊢
  cases hd : (decide (f1 ≤ i) && decide (i < f2)) with
  | false => rfl
  | true => simp at hd; exact absurd hd this
theorem Box.wr {b n : Nat} (h : Box w b n) : Wr w b n := by
  obtain ⟨cc, e, f, h1, h2, h3⟩ := h
  exact ⟨cc, e, f, h1, by omega, h3⟩

theorem setP_nil {t t' : Ty} {x : t.den} {y : t'.den} : setP t x [] t' y = if h : t' = t then some (h ▸ y) else none := by cases t <;> rfl
theorem setP_nil_some {t t' : Ty} {x z : t.den} {y : t'.den} (h : setP t x [] t' y = some z) : ∃ e : t' = t, z = e ▸ y := by
  rw [setP_nil] at h
  split at h
  · rename_i e; exact ⟨e, (Option.some.inj h).symm⟩
  · cases h
theorem setO_nil {o o' : Ow} : setO o [] o' = some o' := by cases o <;> rfl
theorem replC_nil {t : Ty} {cs d : List Value} : replC t cs [] d = d := by cases t <;> rfl
/-- A value is written at a place: what becomes of the state. 'org': where the value was read from. -/
theorem storeAt (r : RelG c g s a w) {l : Loc} {p : Path} {C W : V} {xn : C.t.den} {on : Ow} {cs d vs : List Value} {b off : Nat} {Oc : Nat → Prop} {org : Option (Loc × Path × Nat)}
    (hct : content s l = some C) (hsp : setP C.t C.x p W.t W.x = some xn) (hso : setO C.o p W.o = some on)
    (hcell : Cells g a w l cs) (hna : NavA w (g.O l) C.t (baseOf g l) cs p b off) (hn : NavC w (g.O l) C.t cs p d)
    (hW : New c g s a w (mkV W.t vs) Oc (.val W org)) (hWv : validL s W.lend = true) (hvl : (mkV W.t vs).cells.toList = vs) (hlen : vs.length = d.length) (hl : Loose c g w Oc) :
    Rel c (upds s [if p.flat then bump s l (.val ⟨C.t, on, xn, (if p.isEmpty then [] else C.lend) ++ W.lend, 0⟩ (if p.isEmpty then org else none)) else bumpIn s l (.val ⟨C.t, on, xn, C.lend ++ W.lend, C.tag⟩ none)]) a (w.setCells b off vs) := by
  obtain ⟨cs0, Oc0, k1, k2, k3, k4, k5, k6, k7, k8⟩ := content_new r hct
  obtain rfl := hcell.uniq k1
  obtain ⟨⟨org0, ht⟩, hval⟩ := content_some hct
  obtain ⟨cw, e1, e2, e3, e4⟩ := hW.2 hWv
  have : cw = vs := mkV_inj e2.cells hvl e1.symm
  subst this
  have hat : AtC w b off d := hna.at hn hcell.at k3.len
  -- the block that is written is the place's own
  obtain ⟨Oi, i1, i2, i3, i4⟩ := k3.set (w2 := w.setCells b off cw) (S := Sof g C.lend) (S2 := fun x => Sof g C.lend x ∨ Sof g W.lend x) (d := cw) (fun _ h => .inl h) (fun x hx ho => k8 x hx (k5 x ho).1) hn hsp hso
  have hb : g.O l b := by
    cases hf : p.flat with
    | false => exact (k5 _ (i3 hf _ _ _ hna).1).1
    | true =>
      unfold baseOf at hna
      split at hna
      · rename_i h4
        obtain ⟨rfl, _⟩ := NavA.flat hf hna
        exact (r.boxes l C org0 h4 ht).1
      · exact (NavA.flat_none hf hna).elim
  have hwr : ∃ k, Wr w b k := by
    cases hf : p.flat with
    | false => exact k3.row hso hf hna
    | true =>
      unfold baseOf at hna
      split at hna
      · rename_i h4
        obtain ⟨rfl, _⟩ := NavA.flat hf hna
        exact ⟨_, (r.boxes l C org0 h4 ht).2.wr⟩
      · exact (NavA.flat_none hf hna).elim
  have hoth : ∀ k, k ≠ b → (w.setCells b off cw).heap[k]? = w.heap[k]? := fun k hk => setCells_other b cw off w k hk
  have hGb : ∀ x, g.G x → x ≠ b := fun x hx e => r.ownG _ _ hb (e ▸ hx)
  have hOb : ∀ m x, m ≠ l → g.O m x → x ≠ b := fun m x hm hx e => hm (r.disj _ _ x hx (e ▸ hb))
  have hlb : ∀ x, Oc x → x ≠ b := fun x hx e => (hl x hx).2.1 l (e ▸ hb)
  -- the new value of the whole
  have hlen' : d.length = cw.length := hlen.symm
  have hwrote : Wrote w (w.setCells b off cw) (g.O l) (Sof g C.lend) Oc0 Oi C.t (baseOf g l) cs p d.length cw := by
    refine ⟨fun x hx hni hk => hoth x ?_, fun hf q q2 hq => ?_⟩
    · rcases hx with hx | hx
      · exact fun e => k8 x hx (e ▸ hb)
      · cases hf : p.flat with
        | false => exact hk hf _ _ hna
        | true =>
          intro e
          unfold baseOf at hna
          split at hna
          · rename_i h4
            obtain ⟨hbk, _⟩ := NavA.flat hf hna
            exact (k5 x hx).2 h4 (e.trans hbk)
          · exact (NavA.flat_none hf hna).elim
    · obtain ⟨rfl, rfl⟩ := navA_uniq hna hq
      rw [hlen']
      exact ⟨RowKeep.setCells w b off cw, hat.setCells hlen'⟩
  have hvs : (∀ x, Sof g W.lend x → x ≠ b) → Rp (w.setCells b off cw) (fun x => Sof g C.lend x ∨ Sof g W.lend x) W.t W.o W.x cw Oc := fun hS =>
    e2.frame (fun _ h => .inr h) (fun _ h => h) (fun x hx => hoth x (hx.elim (hS x) (hlb x)))
  have hall := fun hS => i4 (baseOf g l) Oc hwrote (hvs hS) hlen' (fun x hx hx0 => ((hl x hx).2.1 l (k5 x hx0).1).elim)
  have hS : ∀ {s' : St}, (s l).v < (s' l).v → validL s' W.lend = true → ∀ x, Sof g W.lend x → x ≠ b := by
    intro s' h2 hv x hx e
    subst e
    rcases hx with hx | ⟨q, hq, hx⟩
    · exact r.ownG _ _ hb hx
    · have h5 := r.disj _ _ _ hx hb
      simp only [validL, List.all_eq_true] at hv
      have h3 := beq_eq.1 (hv q hq)
      have h4 := hW.1.1 q hq
      rw [h5] at h3 h4; omega
  let g' : Ghost := { g with O := fun m => if m = l then (fun x => g.O l x ∨ Oc x) else g.O m }
  have gO : ∀ m x, g'.O m x → g.O m x ∨ (m = l ∧ Oc x) := by
    intro m x h
    by_cases hm : m = l
    · subst hm; simp only [g', if_true] at h; exact h.imp id (fun h => ⟨rfl, h⟩)
    · simp only [g', if_neg hm] at h; exact .inl h
  have hboxw : ∀ n, Box w (g.Bk l) n → Box (w.setCells b off cw) (g.Bk l) n := by
    rintro n ⟨cc, ee, ff, h1, h2, h3⟩
    by_cases hk : g.Bk l = b
    · rw [hk] at h1 ⊢
      obtain ⟨c', q1, q2⟩ := setCells_block b cw off w h1
      exact ⟨c', ee, ff, q1, q2.trans h2, fun o ho => h3 o (by omega)⟩
    · exact ⟨cc, ee, ff, by rw [hoth _ hk]; exact h1, h2, h3⟩
  have key : ∀ (X : Cell) (Vn : OM.V) (orgn : Option (Loc × Path × Nat)) (cs' : List Value), X.t = .val Vn orgn → X.v = (s l).v + 1 → (X.hv = (s l).hv + 1 ∨ (X.hv = (s l).hv ∧ cs' = cs)) → Vn.t = C.t → cs'.length = Vn.t.size →
      Cells g' a (w.setCells b off cw) l cs' → (∀ e ∈ Vn.lend, e.2 ≤ (s e.1).v) → (match orgn with | some (l, _, v) => v ≤ (s l).v | none => True) → (l % 4 ≠ 1 → valAt g a l = some (mkV Vn.t cs')) →
      (∀ e : Evo (· = l) g s a w g' (upd s l X) a (w.setCells b off cw), validL (upd s l X) Vn.lend = true → ∃ Oc', Held c g' (upd s l X) a (w.setCells b off cw) Vn orgn cs' Oc' ∧ ∀ x, Oc' x → (Oc0 x ∨ Oc x)) → Rel c (upd s l X) a (w.setCells b off cw) := by
    intro X Vn orgn cs' hX hXv hXh hVt hcl hcell' hf1 hf2 hval' hheld
    have e : Evo (· = l) g s a w g' (upd s l X) a (w.setCells b off cw) := by
      refine { st := fun m hm => upd_ne hm, up := fun m hm => ?_, O := fun m hm => if_neg hm, Bk := fun _ _ => rfl, val := fun _ _ => rfl, CV := fun _ _ _ _ _ => rfl, G := fun _ h => h, heap := fun x hx => hoth x (hx.elim (hGb x) (fun ⟨m, hm, hx⟩ => hOb m x hm hx)), refs := ?_ }
      · subst hm; rw [upd_self]; exact ⟨by omega, by omega⟩
      · intro m hm _ V2 org' cs2 p2 b2 off2 v hv iv hV2 hc2 hl2 hna2 hvl2 hle hle2
        subst hm
        rw [ht] at hV2
        cases hV2
        obtain rfl := hcell.uniq hc2
        rw [upd_self]
        refine ⟨Vn, orgn, cs', ⟨hX, hVt⟩, hcell', hcl, ?_⟩
        rw [hVt]
        simp only [validR, Bool.and_eq_true, Bool.or_eq_true, beq_eq] at hvl2
        rw [upd_self] at hvl2
        rcases hvl2.2 with hf | ⟨he, hf⟩
        · exact NavA.flat_any hf hna2
        · rcases hXh with hh | ⟨hh, rfl⟩
          · omega
          · rcases hf with hf | hf
            · refine hna2.ones_grow (Grow.setCells w b off cw) (fun x hx => ?_) hf
              simp only [g', if_true]; exact .inl hx
            · omega
    have up : ∀ m, (s m).v ≤ (upd s l X m).v := fun m => by
      by_cases hm : m = l
      · subst hm; rw [upd_self]; omega
      · rw [upd_ne hm]; exact Nat.le_refl _
    refine ⟨g', e.rel r (Grow.setCells w b off cw) r.gin (fun _ _ => .inl rfl) ?_ ?_ ?_ ?_ ?_ ?_ r.defs r.size ?_ ?_ ?_⟩
    · intro m m' x hm hm'
      rcases gO _ _ hm with h1 | ⟨rfl, h1⟩
      · rcases gO _ _ hm' with h2 | ⟨rfl, h2⟩
        · exact r.disj _ _ x h1 h2
        · exact ((hl x h2).2.1 _ h1).elim
      · rcases gO _ _ hm' with h2 | ⟨rfl, h2⟩
        · exact ((hl x h1).2.1 _ h2).elim
        · rfl
    · intro m x hm
      rcases gO _ _ hm with h1 | ⟨rfl, h1⟩
      · exact r.ownG _ _ h1
      · exact (hl x h1).1
    · intro m x hm hx
      have hsz := (Grow.setCells w b off cw).size
      rcases gO _ _ hx with h1 | ⟨rfl, h1⟩
      · obtain ⟨q1, q2⟩ := r.own _ _ h1
        exact ⟨by omega, q2⟩
      · obtain ⟨q1, q2⟩ := (hl x h1).2.2
        exact ⟨by omega, q2⟩
    · exact fun x hx => Nat.lt_of_lt_of_le (r.gsz x hx) (Grow.setCells w b off cw).size
    · intro m V2 org' hm h4 hV2
      subst hm
      rw [upd_self, hX] at hV2
      cases hV2
      obtain ⟨q1, q2⟩ := r.boxes _ _ _ h4 ht
      rw [hVt]
      refine ⟨?_, hboxw _ q2⟩
      simp only [g', if_true]; exact .inl q1
    · refine ⟨r.fr.grow.trans (Grow.setCells w b off cw), r.fr.le, fun x hx hm => ?_⟩
      rw [hoth x (fun e => ?_)]
      · exact r.fr.old x hx hm
      · subst e
        rcases (r.own _ _ hb).2 with h | h
        · omega
        · exact hm h
    · intro m hm; subst hm
      rw [upd_self, hX]
      refine ⟨fun x hx => Nat.le_trans (hf1 x hx) (up _), ?_⟩
      cases orgn with
      | none => trivial
      | some q => exact Nat.le_trans hf2 (up _)
    · intro m hm; subst hm
      rw [upd_self, hX]
      intro x hx hxl
      rw [upd_self]
      have := hf1 x hx
      rw [hxl] at this; omega
    · intro m hm; subst hm
      rw [upd_self, hX]
      intro hv'
      obtain ⟨Oc', q1, q2⟩ := hheld e hv'
      refine ⟨cs', Oc', hcell', hval', q1, fun x hx => ?_⟩
      rcases q2 x hx with h | h
      · refine ⟨?_, (k5 x h).2⟩
        simp only [g', if_true]; exact .inl (k5 x h).1
      · refine ⟨?_, fun h4 e => (hl x h).2.1 _ (e ▸ (r.boxes _ _ _ h4 ht).1)⟩
        simp only [g', if_true]; exact .inr h
  have hsof : ∀ (ln : Lend) (s' : St), (∀ e ∈ ln, ¬ e.1 = l) → ∀ x, Sof g ln x → Sof g' ln x := by
    rintro ln s' hne x (hx | ⟨q, hq, hx⟩)
    · exact .inl hx
    · exact .inr ⟨q, hq, by simp only [g', if_neg (hne q hq)]; exact hx⟩
  have hnl : ∀ {X : Cell}, X.v = (s l).v + 1 → ∀ {ln : Lend}, (∀ e ∈ ln, e.2 ≤ (s e.1).v) → validL (upd s l X) ln = true → ∀ e ∈ ln, ¬ e.1 = l := by
    intro X hX ln hf hv e he hel
    simp only [validL, List.all_eq_true] at hv
    have h3 := beq_eq.1 (hv e he)
    have h4 := hf e he
    rw [hel] at h3 h4
    rw [upd_self] at h3; omega
  have vapp : ∀ {s' : St} {x y : Lend}, validL s' (x ++ y) = true → validL s' x = true ∧ validL s' y = true := by
    intro s' x y h
    simpa [validL, List.all_append] using h
  cases hf : p.flat with
  | false =>
    have hne : p.isEmpty = false := by cases p <;> simp_all [Path.flat]
    simp only [hf, Bool.false_eq_true, if_false]
    have hcs : replC C.t cs p cw = cs := replC.nonflat hf
    obtain ⟨ib, inb⟩ := i3 hf _ _ _ hna
    have hcw : Cells g' a (w.setCells b off cw) l cs := by
      unfold Cells at hcell ⊢
      split
      · rename_i h4
        rw [if_pos h4] at hcell
        have : g.Bk l ≠ b := fun e => (k5 _ ib).2 h4 e.symm
        show ∃ cc e f, (w.setCells b off cw).heap[g.Bk l]? = _ ∧ _
        rw [hoth _ this]; exact hcell
      · rename_i h4
        rw [if_neg h4] at hcell
        exact hcell
    refine key ⟨_, (s l).v + 1, (s l).hv⟩ ⟨C.t, on, xn, C.lend ++ W.lend, C.tag⟩ none cs rfl rfl (.inr ⟨rfl, rfl⟩) rfl k3.len hcw ?_ trivial k2 ?_
    · intro e he
      rcases List.mem_append.1 he with he | he
      · exact k6 e he
      · exact hW.1.1 e he
    · intro e hv
      obtain ⟨v1, v2⟩ := vapp hv
      have := hall (hS (by rw [upd_self]; exact Nat.lt_succ_self _) v2)
      rw [hcs] at this
      refine ⟨_, ⟨this.mono (fun x hx => ?_) (fun _ h => h), k4, trivial⟩, fun x hx => hx.imp (fun h => h.1) id⟩
      have n1 := hnl rfl k6 v1
      have n2 := hnl rfl hW.1.1 v2
      rcases hx with hx | hx
      · rcases hsof _ s n1 x hx with h | ⟨q, hq, h⟩
        · exact .inl h
        · exact .inr ⟨q, List.mem_append_left _ hq, h⟩
      · rcases hsof _ s n2 x hx with h | ⟨q, hq, h⟩
        · exact .inl h
        · exact .inr ⟨q, List.mem_append_right _ hq, h⟩
  | true =>
    simp only [if_true]
    unfold baseOf at hna
    split at hna
    case isFalse => exact (NavA.flat_none hf hna).elim
    rename_i h4
    obtain ⟨rfl, hoff⟩ := NavA.flat hf hna
    rw [Nat.zero_add] at hoff
    subst hoff
    have hrl : (replC C.t cs p cw).length = cs.length := replC.len hn hlen'
    have hAll : AtC (w.setCells (g.Bk l) (foff C.t p) cw) (g.Bk l) 0 (replC C.t cs p cw) := by
      have h0 := hcell.at (g.Bk l, 0) (by unfold baseOf; rw [if_pos h4])
      have rk := RowKeep.setCells w (g.Bk l) (foff C.t p) cw
      have ha := hat.setCells hlen'
      rw [← Nat.zero_add (foff C.t p)] at rk ha
      have := AtC.repl hf h0 hn k3.len hlen' rk ha
      rw [Nat.zero_add] at this
      exact this
    have hcw : Cells g' a (w.setCells (g.Bk l) (foff C.t p) cw) l (replC C.t cs p cw) := by
      unfold Cells at hcell ⊢
      rw [if_pos h4] at hcell ⊢
      obtain ⟨cc, e, f, q1, q2⟩ := hcell
      obtain ⟨c', m1, m2⟩ := setCells_block (g.Bk l) cw (foff C.t p) w q1
      refine ⟨c', e, f, m1, ?_⟩
      have hsz : c'.toList.length = (replC C.t cs p cw).length := by rw [hrl, ← q2]; simpa using m2
      apply List.ext_getElem hsz
      intro i i1' i2'
      have := hAll i _ (List.getElem?_eq_getElem i2')
      simp only [World.cell?, m1, Nat.zero_add] at this
      simp only [Option.isSome_none, Bool.false_eq_true, if_false] at this
      rw [← Array.getElem?_toList, List.getElem?_eq_getElem i1'] at this
      exact Option.some.inj this
    cases hp : p.isEmpty with
    | true =>
      have hpn : p = [] := by simpa using hp
      subst hpn
      obtain ⟨tC, oC, xC, lC, gC⟩ := C
      obtain ⟨tW, oW, xW, lW, gW⟩ := W
      obtain ⟨htt, hxn⟩ := setP_nil_some hsp
      dsimp only at htt
      subst htt
      subst hxn
      have hon : on = oW := Option.some.inj (hso.symm.trans setO_nil)
      subst hon
      have hrep : replC tW cs [] cw = cw := replC_nil
      rw [hrep] at hcw hrl
      simp only [if_true, List.nil_append]
      refine key ⟨_, (s l).v + 1, (s l).hv + 1⟩ ⟨tW, on, _, lW, 0⟩ org cw rfl rfl (.inl rfl) rfl (hrl.trans k3.len) hcw hW.1.1 ?_ (fun h => absurd h4 h) ?_
      · cases org with
        | none => trivial
        | some q => exact hW.1.2
      · intro e hv
        have := e.held r hW.1 hv (fun x hx => hoth x (hlb x hx)) (hW.2 hWv |> fun ⟨cc, q1, q2⟩ => by have := mkV_inj q2.1.cells hvl q1.symm; subst this; exact q2)
        exact ⟨Oc, ⟨this.1, by simp, this.2.2⟩, fun x hx => .inr hx⟩
    | false =>
      simp only [Bool.false_eq_true, if_false]
      refine key ⟨_, (s l).v + 1, (s l).hv + 1⟩ ⟨C.t, on, xn, C.lend ++ W.lend, 0⟩ none (replC C.t cs p cw) rfl rfl (.inl rfl) rfl (hrl.trans k3.len) hcw ?_ trivial (fun h => absurd h4 h) ?_
      · intro e he
        rcases List.mem_append.1 he with he | he
        · exact k6 e he
        · exact hW.1.1 e he
      · intro e hv
        obtain ⟨v1, v2⟩ := vapp hv
        have := hall (hS (by rw [upd_self]; exact Nat.lt_succ_self _) v2)
        refine ⟨_, ⟨this.mono (fun x hx => ?_) (fun _ h => h), by simp, trivial⟩, fun x hx => hx.imp (fun h => h.1) id⟩
        have n1 := hnl rfl k6 v1
        have n2 := hnl rfl hW.1.1 v2
        rcases hx with hx | hx
        · rcases hsof _ s n1 x hx with h | ⟨q, hq, h⟩
          · exact .inl h
          · exact .inr ⟨q, List.mem_append_left _ hq, h⟩
        · rcases hsof _ s n2 x hx with h | ⟨q, hq, h⟩
          · exact .inl h
          · exact .inr ⟨q, List.mem_append_right _ hq, h⟩
end
end Go.OM

namespace Go.OM
open Go

theorem getT_app : ∀ {p q : Path} {t t1 t2 : Ty}, getT t p = some t1 → getT t1 q = some t2 → getT t (p ++ q) = some t2 := by
  intro p
  induction p with
  | nil => intro q t t1 t2 h k; have : t = t1 := by cases t <;> exact Option.some.inj h
           subst this; exact k
  | cons s p ih =>
    intro q t t1 t2 h k
    cases s <;> cases t <;> simp only [getT] at h <;> first | (cases h; done) | exact ih h k
theorem getP_getT : ∀ {p : Path} {t t' : Ty} {x : t.den} {y : t'.den}, getP t x p = some ⟨t', y⟩ → getT t p = some t' := by
  intro p
  induction p with
  | nil => intro t t' x y h
           have : (⟨t, x⟩ : (t : Ty) × t.den) = ⟨t', y⟩ := by cases t <;> exact Option.some.inj h
           cases this
           cases t <;> rfl
  | cons s p ih =>
    intro t t' x y h
    cases s <;> cases t <;> simp only [getP] at h <;> first | (cases h; done) | exact ih h
theorem fpath_flat : ∀ i, (fpath i).flat = true
  | 0 => rfl
  | i + 1 => fpath_flat i
section
variable {w : World} {Q : Nat → Prop}
/-- A place in a place. -/
theorem NavA.app : ∀ {p q : Path} {t t1 : Ty} {base : Option (Nat × Nat)} {cs d : List Value} {b o b2 o2 : Nat}, getT t p = some t1 → NavA w Q t base cs p b o → NavC w Q t cs p d → NavA w Q t1 (some (b, o)) d q b2 o2 → NavA w Q t base cs (p ++ q) b2 o2 := by
  intro p
  induction p with
  | nil =>
    intro q t t1 base cs d b o b2 o2 ht h n k
    have h' : base = some (b, o) := by cases t <;> exact h
    have n' : d = cs := by cases t <;> exact n
    have : t = t1 := by cases t <;> exact Option.some.inj ht
    subst this; subst h'; subst n'; exact k
  | cons s p ih =>
    intro q t t1 base cs d b o b2 o2 ht h n k
    cases s <;> cases t <;> try exact h.elim
    · exact ih (show getT _ p = _ from ht) (show NavA w Q _ base _ p b o from h) (show NavC w Q _ _ p d from n) k
    · exact ih (show getT _ p = _ from ht) (show NavA w Q _ _ _ p b o from h) (show NavC w Q _ _ p d from n) k
    · obtain ⟨ad, len, cap, ci, h1, h2, h3, h4, h5, hq, h6⟩ := h
      obtain ⟨ad', len', cap', ci', k1, k2, k3, k4, k5, _, k6⟩ := n
      rw [h1] at k1; simp at k1
      obtain ⟨rfl, rfl, rfl⟩ := k1
      obtain rfl := h5.eq k5 (by omega)
      exact ⟨ad, len, cap, ci, h1, h2, h3, h4, h5, hq, ih (show getT _ p = _ from ht) h6 k6 k⟩
/-- The same, where only the cells are told of the first. -/
theorem NavC.appA : ∀ {p q : Path} {t t1 : Ty} {base : Option (Nat × Nat)} {cs d : List Value} {b2 o2 : Nat}, getT t p = some t1 → NavC w Q t cs p d → (∀ base, NavA w Q t1 base d q b2 o2) → NavA w Q t base cs (p ++ q) b2 o2 := by
  intro p
  induction p with
  | nil =>
    intro q t t1 base cs d b2 o2 ht n k
    have n' : d = cs := by cases t <;> exact n
    have : t = t1 := by cases t <;> exact Option.some.inj ht
    subst this; subst n'; exact k base
  | cons s p ih =>
    intro q t t1 base cs d b2 o2 ht n k
    cases s <;> cases t <;> try exact n.elim
    · exact ih (show getT _ p = _ from ht) (show NavC w Q _ _ p d from n) k
    · exact ih (show getT _ p = _ from ht) (show NavC w Q _ _ p d from n) k
    · obtain ⟨ad', len', cap', ci', k1, k2, k3, k4, k5, kq, k6⟩ := n
      exact ⟨ad', len', cap', ci', k1, k2, k3, k4, k5, kq, ih (show getT _ p = _ from ht) k6 k⟩
theorem navA_flatT : ∀ {p : Path} {t t' : Ty} {cs : List Value} {b o : Nat}, p.flat = true → getT t p = some t' → NavA w Q t (some (b, o)) cs p b (o + foff t p) := by
  intro p
  induction p with
  | nil => intro t t' cs b o _ _; cases t <;> simp [NavA, foff]
  | cons s p ih =>
    intro t t' cs b o hf h
    cases s <;> cases t <;> simp only [getT] at h <;> first | (cases h; done) | skip
    · exact ih (by simpa [Path.flat] using hf) h
    · rename_i a g
      have := ih (cs := cs.drop a.size) (b := b) (o := o + a.size) (by simpa [Path.flat] using hf) h
      rw [Nat.add_assoc] at this
      exact this
    · simp [Path.flat] at hf
theorem navC_flatT : ∀ {p : Path} {t t' : Ty} {cs : List Value}, p.flat = true → getT t p = some t' → cs.length = t.size → NavC w Q t cs p ((cs.drop (foff t p)).take t'.size) := by
  intro p
  induction p with
  | nil => intro t t' cs _ h hl
           have : t = t' := by cases t <;> exact Option.some.inj h
           subst this
           have e : (cs.drop (foff t [])).take t.size = cs := by
             have : foff t [] = 0 := by cases t <;> rfl
             rw [this, List.drop_zero, ← hl, List.take_length]
           rw [e]; cases t <;> rfl
  | cons s p ih =>
    intro t t' cs hf h hl
    cases s <;> cases t <;> simp only [getT] at h <;> first | (cases h; done) | skip
    · rename_i a g
      simp only [Ty.size] at hl
      have := ih (cs := cs.take a.size) (by simpa [Path.flat] using hf) h (by simp; omega)
      have hle := NavC.len (by simpa [Path.flat] using hf) this (by simp; omega)
      have e : ((cs.take a.size).drop (foff a p)).take t'.size = (cs.drop (foff a p)).take t'.size := by
        rw [List.drop_take, List.take_take]
        congr 1
        have k : foff a p + (((cs.take a.size).drop (foff a p)).take t'.size).length ≤ a.size := hle
        simp only [List.length_take, List.length_drop] at k
        by_cases hz : t'.size ≤ a.size - foff a p
        · omega
        · exfalso
          have hs : ∀ {p : Path} {t t' : Ty}, p.flat = true → getT t p = some t' → foff t p + t'.size ≤ t.size := by
            intro p
            induction p with
            | nil => intro t t' _ h
                     have : t = t' := by cases t <;> exact Option.some.inj h
                     subst this
                     have : foff t [] = 0 := by cases t <;> rfl
                     omega
            | cons s p ih =>
              intro t t' hf h
              cases s <;> cases t <;> simp only [getT] at h <;> first | (cases h; done) | skip
              · have := ih (by simpa [Path.flat] using hf) h; simp only [foff, Ty.size]; omega
              · have := ih (by simpa [Path.flat] using hf) h; simp only [foff, Ty.size]; omega
              · simp [Path.flat] at hf
          have := hs (by simpa [Path.flat] using hf) h
          omega
      rw [e] at this
      exact this
    · rename_i a g
      simp only [Ty.size] at hl
      have := ih (cs := cs.drop a.size) (by simpa [Path.flat] using hf) h (by simp; omega)
      rw [List.drop_drop] at this
      exact this
    · simp [Path.flat] at hf
theorem navC_setP_len : ∀ {p : Path} {t t' : Ty} {x xn : t.den} {y : t'.den} {cs d : List Value}, cs.length = t.size → NavC w Q t cs p d → setP t x p t' y = some xn → d.length = t'.size := by
  intro p
  induction p with
  | nil => intro t t' x xn y cs d hl n h
           obtain ⟨e, _⟩ := setP_nil_some h
           subst e
           have n' : d = cs := by cases t' <;> exact n
           rw [n', hl]
  | cons s p ih =>
    intro t t' x xn y cs d hl n h
    cases s <;> cases t <;> try exact n.elim
    · simp only [setP] at h
      obtain ⟨e, he, _⟩ := Option.map_eq_some_iff.1 h
      simp only [Ty.size] at hl
      exact ih (by simp; omega) n he
    · simp only [setP] at h
      obtain ⟨e, he, _⟩ := Option.map_eq_some_iff.1 h
      simp only [Ty.size] at hl
      exact ih (by simp; omega) n he
    · obtain ⟨ad', len', cap', ci', k1, k2, k3, k4, k5, kq, k6⟩ := n
      obtain ⟨e, he, _⟩ := Option.map_eq_some_iff.1 (show (setP _ _ p t' y).map (fun e => List.set x _ e) = some xn from h)
      exact ih k4 k6 he
end
theorem fieldsOk_get {tys : List (Option Ty)} : ∀ {i : Nat} {fs : List Field} {t t' : Ty} {off : Nat}, fieldsOk tys fs t off = true → getT t (fpath i) = some t' →
    ∃ f, fs[i]? = some f ∧ tys[f.type]? = some (some t') ∧ f.offset = off + foff t (fpath i) ∧ t'.size ≠ 0 := by
  intro i
  induction i with
  | zero =>
    intro fs t t' off h ht
    cases fs with
    | nil => cases t <;> simp [fieldsOk] at h; simp [fpath, getT] at ht
    | cons f r =>
      cases t <;> simp [fieldsOk] at h
      rename_i a b
      have : a = t' := by
        have : getT a [] = some t' := ht
        cases a <;> exact Option.some.inj this
      subst this
      obtain ⟨⟨⟨h1, h2⟩, h3⟩, h4⟩ := h
      have hb : foff (a.pair b) (fpath 0) = 0 := by show foff a [] = 0; cases a <;> rfl
      refine ⟨f, rfl, h1, by rw [hb, Nat.add_zero]; exact h2, fun e => by rw [e] at h3; cases h3⟩
  | succ i ih =>
    intro fs t t' off h ht
    cases fs with
    | nil => cases t <;> simp [fieldsOk] at h; simp [fpath, getT] at ht
    | cons f r =>
      cases t <;> simp [fieldsOk] at h
      rename_i a b
      obtain ⟨⟨⟨h1, h2⟩, h3⟩, h4⟩ := h
      obtain ⟨f', e1, e2, e3, e4⟩ := ih h4 (show getT b (fpath i) = some t' from ht)
      refine ⟨f', by simpa using e1, e2, ?_, e4⟩
      rw [e3]
      show _ = off + (a.size + foff b (fpath i))
      omega
theorem TyFact.field {P : Program} {tys : List (Option Ty)} {i k : Nat} {t t' : Ty} (h : TyFact P tys i t) (ht : getT t (fpath k) = some t') :
    t.agg = true ∧ ∃ fs f, P.underlying i = some (.struct fs) ∧ fs[k]? = some f ∧ tys[f.type]? = some (some t') ∧ f.offset = foff t (fpath k) ∧ t'.size ≠ 0 := by
  have hu := h.und
  cases t <;> first | (exfalso; cases k <;> simp [fpath, getT] at ht; done) | skip
  · obtain ⟨fs, h1, h2⟩ := hu
    obtain ⟨f, e1, e2, e3, e4⟩ := fieldsOk_get h2 ht
    exact ⟨rfl, fs, f, h1, by rw [← e1]; simp, e2, by rw [e3]; simp, e4⟩
section
variable {c : Ctx} {g : Ghost} {s : St} {a : Act} {w : World} {P : Program} {E : Env}

theorem run_fieldAt {i k : Nat} {t t' : Ty} (he : EnvOk P E) (h : tyOf E i = some t) (ht : getT t (fpath k) = some t') (b off : Nat) :
    (Instr.fieldAt i (.pointer (some ⟨b, off, none⟩)) k).run P w = .ok (.pointer (some ⟨b, off + foff t (fpath k), none⟩)) w := by
  obtain ⟨_, fs, f, h1, h2, h3, h4, h5⟩ := (he.fact h).field ht
  have hs := (he.fact (tyOf_eq.2 h3)).run_size w
  simp only [Instr.fieldAt, Sem.run_bind, run_underlying h1, Result.andThen_ok, h2, Instr.sureAddr, Sem.run_pure, fieldPlace, hs]
  rw [if_neg h5]
  simp only [Sem.run_pure, Result.andThen_ok, add_none, h4]
theorem ok_fieldAddr (he : EnvOk P E) {o : Oper} {ty : TypeId} {x : Operand} {i : Nat} (ho : o.op = .fieldAddr ty x i) : OpOk c P E o := by
  intro g s a w U Q r hN h
  simp only [evOp, ho] at h
  split at h
  · rename_i l p v hv iv t hp
    split at h
    case h_2 => cases h
    rename_i t' ht'
    split at h
    case isFalse => cases h
    rename_i hty
    obtain ⟨d, hd, rfl⟩ := putT_run h
    obtain ⟨n1, n2, n3, n4, n5, _⟩ := peek_new r hp
    obtain ⟨b, off, cs, V', org', ⟨m1, m6⟩, m2, m3, m4, m5⟩ := n1.2 (n5 _ _ _ _ _ _ rfl)
    obtain ⟨dd, hdd⟩ := m4.navC
    refine wp_value (v := .pointer (some ⟨b, off + foff t (fpath i), none⟩)) (by rw [execOp]; simp only [ho, m5]; rw [Sem.run_bind, run_fieldAt he hty ht']; rfl) (put_rel r (Same.refl w) hd (hN d hd) (Oc := fun _ => False) ⟨n1.1, fun _ => ⟨b, _, cs, V', org', ⟨m1, getT_app m6 ht'⟩, m2, m3, ?_, rfl⟩⟩ Loose.none)
    exact NavA.app m6 m4 hdd (navA_flatT (fpath_flat i) ht')
  · rename_i t w1 y ln tg org hp
    split at h
    case h_2 => cases h
    rename_i t' y' hy
    split at h
    case isFalse => cases h
    rename_i hty
    obtain ⟨d, hd, rfl⟩ := putT_run h
    obtain ⟨n1, n2, n3, n4, n5, _⟩ := peek_new r hp
    obtain ⟨k1, k2, k3, k4⟩ := n4 _ _ rfl
    obtain ⟨cs, m1, m2, m3⟩ := n1.2 k1
    obtain ⟨b, off, c1, rfl, hS, hA, hR⟩ := fp_parts m2 k2
    have ht' := getP_getT hy
    have hn : NavC w (fun _ => True) t c1 (fpath i) _ := navC_flatT (fpath_flat i) ht' hR.len
    have hna : NavA w (fun _ => True) t (some (b, off)) c1 (fpath i) b (off + foff t (fpath i)) := navA_flatT (fpath_flat i) ht'
    have hat := hna.at hn (fun q hq => by cases hq; exact hA) hR.len
    obtain ⟨O', _, hR'⟩ := hR.get hn hy (show getO .z (fpath i) = some .z by cases i <;> rfl)
    refine wp_value (v := .pointer (some ⟨b, off + foff t (fpath i), none⟩)) (by rw [execOp]; simp only [ho, m1]; rw [Sem.run_bind, show mkV (Ty.fp t) [.pointer (some ⟨b, off, none⟩)] = .pointer (some ⟨b, off, none⟩) from rfl, run_fieldAt he hty ht']; rfl) (put_rel r (Same.refl w) hd (hN d hd) (Oc := fun _ => False) ⟨⟨n1.1.1, trivial⟩, fun _ => ⟨[.pointer (some ⟨b, off + foff t (fpath i), none⟩)], rfl, ⟨b, _, _, rfl, hS, hat, ?_⟩, by simp, trivial⟩⟩ Loose.none)
    exact Rp.noOwn hR' rfl
  · cases h
end
end Go.OM

namespace Go.OM
open Go
section
variable {c : Ctx} {g : Ghost} {s : St} {a : Act} {w : World} {P : Program} {E : Env}

theorem wp_skip {o : Oper} {K : Act → World → Prop} {Q : Exit → Act → World → Prop} {w' : World} (h : (execOp a.eval o).run P w = .ok .skip w') (hk : K (a.put o.dst undef) w') : o.wp P a w K Q := by
  unfold Oper.wp; rw [h]; exact hk
theorem cell1_one {v : Value} : v.oneCell' = cell1 v := by cases v <;> rfl
/-- An operand that is taken, with the place that it was read from. -/
theorem take_org (r : RelG c g s a w) {ty : Option Ty} {x : Operand} {V : V} {u : Upds} (h : take s ty x = some (V, u)) :
    ∃ g1 Oc L, RelG c g1 (upds s u) a w ∧ Evo L g s a w g1 (upds s u) a w ∧ New c g1 (upds s u) a w (a.eval x) Oc (.val V (orgOf s x)) ∧ Loose c g1 w Oc ∧
      (∀ l, L l ↔ ∃ e ∈ u, e.1 = l) ∧ (∀ l, L l → l % 4 = 0) ∧ validL (upds s u) V.lend = true := by
  cases ho : orgOf s x with
  | none =>
    obtain ⟨g1, Oc, L, h1, h2, _, _, _, _, h3, h4, h5, h6, h7, h8⟩ := take_new r h
    exact ⟨g1, Oc, L, h1, h2, h3, h4, h5, h6, h8⟩
  | some q =>
    cases x with
    | tmp j =>
      simp only [orgOf] at ho
      split at ho
      case h_2 => cases ho
      rename_i v org ht
      split at ho
      case isTrue => cases ho
      rename_i hh
      obtain ⟨rfl, hq⟩ := validO_some ho
      obtain ⟨t, oo, xx, lend, tag⟩ := v
      simp only [take, ht] at h
      split at h
      case isFalse => cases h
      rename_i hv
      simp only [Bool.and_eq_true] at hv
      cases h
      have tn := TOk.new r (j := j) (by rw [ht]; simp)
      rw [ht] at tn
      obtain ⟨f, k⟩ := tn
      obtain ⟨cs, h1, h2, h3, h4⟩ := k hv.1
      refine ⟨g, fun _ => False, fun _ => False, r, ⟨fun _ _ => rfl, fun _ h => h.elim, fun _ _ => rfl, fun _ _ => rfl, fun _ _ => rfl, fun _ _ _ _ _ => rfl, fun _ h => h, fun _ _ => rfl, fun _ h => h.elim⟩, ⟨f, fun _ => ⟨cs, h1, Rp.noOwn h2 (by simpa using hh), by simp, h4⟩⟩, Loose.none, fun l => by simp, fun _ h => h.elim, hv.1⟩
    | const v => simp [orgOf] at ho
    | func f => simp [orgOf] at ho
    | global n => simp [orgOf] at ho
theorem deadOf_org (r : RelG c g s a w) {x : Operand} {V : V} (h : deadOf s x = some V) :
    ∃ g1 Oc L, RelG c g1 (upds s []) a w ∧ Evo L g s a w g1 (upds s []) a w ∧ New c g1 (upds s []) a w (a.eval x) Oc (.val V (orgOf s x)) ∧ Loose c g1 w Oc ∧
      (∀ l, L l ↔ ∃ e ∈ ([] : Upds), e.1 = l) ∧ (∀ l, L l → l % 4 = 0) ∧ validL (upds s []) V.lend = true := by
  cases x with
  | tmp j =>
    simp only [deadOf] at h
    split at h
    case h_2 => cases h
    rename_i t oo xx lend tag org ht
    split at h
    case isFalse => cases h
    rename_i hv
    simp only [Bool.and_eq_true] at hv
    obtain rfl := Option.some.inj h
    have hd : oo = .dead := by cases oo <;> simp [Ow.isDead] at hv; rfl
    subst hd
    have tn := TOk.new r (j := j) (by rw [ht]; simp)
    rw [ht] at tn
    obtain ⟨f, k⟩ := tn
    obtain ⟨cs, h1, h2, h3, h4⟩ := k hv.1
    have e0 : Evo (fun _ => False) g s a w g s a w := ⟨fun _ _ => rfl, fun _ h => h.elim, fun _ _ => rfl, fun _ _ => rfl, fun _ _ => rfl, fun _ _ _ _ _ => rfl, fun _ h => h, fun _ _ => rfl, fun _ h => h.elim⟩
    have hr : Rp w (Sof g lend) t .dead xx cs (fun _ => False) := Rp.noOwn h2 (by simp [Ow.has])
    have ho : orgOf s (.tmp j) = validO s org := by simp only [orgOf, ht]; rw [if_neg (by simp [Ow.has])]
    rw [ho]
    cases hvo : validO s org with
    | none => exact ⟨g, fun _ => False, fun _ => False, r, e0, ⟨⟨f.1, trivial⟩, fun _ => ⟨cs, h1, hr, by simp, trivial⟩⟩, Loose.none, fun l => by simp, fun _ h => h.elim, hv.1⟩
    | some q =>
      obtain ⟨l, p, vv⟩ := q
      obtain ⟨rfl, hq⟩ := validO_some hvo
      exact ⟨g, fun _ => False, fun _ => False, r, e0, ⟨f, fun _ => ⟨cs, h1, hr, by simp, h4⟩⟩, Loose.none, fun l => by simp, fun _ h => h.elim, hv.1⟩
  | _ => cases h
theorem takeS_org (r : RelG c g s a w) {ty : Option Ty} {q : Path} {x : Operand} {V : V} {u : Upds} (h : takeS s ty q x = some (V, u)) :
    ∃ g1 Oc L, RelG c g1 (upds s u) a w ∧ Evo L g s a w g1 (upds s u) a w ∧ New c g1 (upds s u) a w (a.eval x) Oc (.val V (orgOf s x)) ∧ Loose c g1 w Oc ∧
      (∀ l, L l ↔ ∃ e ∈ u, e.1 = l) ∧ (∀ l, L l → l % 4 = 0) ∧ validL (upds s u) V.lend = true := by
  unfold takeS at h
  split at h
  · cases h; exact take_org r (by assumption)
  · split at h
    · obtain ⟨v, h1, h2⟩ := Option.map_eq_some_iff.1 h
      cases h2
      exact deadOf_org r h1
    · cases h
theorem take_gone {ty : Option Ty} {y : Operand} {V : V} {u : Upds} (htk : take s ty y = some (V, u)) {l : Loc} (hl : ∃ e ∈ u, e.1 = l) : (upds s u l).t = .undef := by
  obtain ⟨q, hq, hql⟩ := hl
  cases x' : y with
  | tmp j =>
    rw [x'] at htk
    simp only [take] at htk
    split at htk
    · split at htk
      · split at htk
        · cases htk
          simp at hq; subst hq; subst hql
          show (upd s (tm j) _ (tm j)).t = _
          rw [upd_self]
        · cases htk; simp at hq
      · cases htk
    · cases htk; simp at hq
    · cases htk
  | const v => rw [x'] at htk; simp only [take] at htk; obtain ⟨_, _, e⟩ := Option.map_eq_some_iff.1 htk; cases e; simp at hq
  | func v => rw [x'] at htk; simp only [take] at htk; obtain ⟨_, _, e⟩ := Option.map_eq_some_iff.1 htk; cases e; simp at hq
  | global v => rw [x'] at htk; simp only [take] at htk; obtain ⟨_, _, e⟩ := Option.map_eq_some_iff.1 htk; cases e; simp at hq
theorem takeS_gone {ty : Option Ty} {p : Path} {y : Operand} {V : V} {u : Upds} (h : takeS s ty p y = some (V, u)) {l : Loc} (hl : ∃ e ∈ u, e.1 = l) : (upds s u l).t = .undef := by
  unfold takeS at h
  split at h
  · cases h; exact take_gone (by assumption) hl
  · split at h
    · obtain ⟨v, h1, h2⟩ := Option.map_eq_some_iff.1 h
      cases h2
      obtain ⟨_, h, _⟩ := hl; cases h
    · cases h
theorem RelG.undef (r : Rel c s a w) {o : Oper} (hd : o.dst = none) (v : Value) : Rel c s (a.put o.dst v) w := by rw [hd]; exact r
theorem RelG.giveupP (r : RelG c g s a w) {F : Nat → Prop} (h : Loose c g w F) : RelG c { g with G := fun b => g.G b ∨ F b } s a w := by
  have e : Evo (fun _ => False) g s a w { g with G := fun b => g.G b ∨ F b } s a w :=
    ⟨fun _ _ => rfl, fun _ h => h.elim, fun _ _ => rfl, fun _ _ => rfl, fun _ _ => rfl, fun _ _ _ _ _ => rfl, fun _ h => .inl h, fun _ _ => rfl, fun _ h => h.elim⟩
  exact e.rel r (Grow.refl w) (fun b hb => hb.elim (r.gin b) (fun hf => (h b hf).2.2.2.elim .inl (fun h => .inr (.inl h)))) (fun _ _ => .inl rfl) r.disj (fun l b hl hb => hb.elim (r.ownG l b hl) (fun hf => (h b hf).2.1 l hl)) (fun _ _ h => h.elim) (fun b hb => hb.elim (r.gsz b) (fun hf => (h b hf).2.2.1)) (fun _ _ _ h => h.elim) r.fr r.defs r.size (fun _ h => h.elim) (fun _ h => h.elim) (fun _ h => h.elim)
theorem fit_t {σ : St} {l : Loc} {p : Path} {V : V} : (fit σ l p V).t = V.t := by
  unfold fit
  split
  · rfl
  · split
    · split
      · split <;> rfl
      · rfl
    · rfl
/-- What was taken, given up as far as a place asks. -/
theorem take_fit (r : RelG c g s a w) {ty : Option Ty} {q : Path} {x : Operand} {V : V} {u : Upds} (h : takeS s ty q x = some (V, u)) (l : Loc) (p : Path) :
    ∃ g1 Oc L, RelG c g1 (upds s u) a w ∧ Evo L g s a w g1 (upds s u) a w ∧ New c g1 (upds s u) a w (a.eval x) Oc (.val (fit (upds s u) l p V) (orgOf s x)) ∧ Loose c g1 w Oc ∧
      (∀ l, L l ↔ ∃ e ∈ u, e.1 = l) ∧ (∀ l, L l → l % 4 = 0) ∧ validL (upds s u) (fit (upds s u) l p V).lend = true := by
  obtain ⟨g1, Oc, L, r1, e, hW, hl, hL, hL4, hWv⟩ := takeS_org r h
  have same : fit (upds s u) l p V = V → ∃ g1 Oc L, RelG c g1 (upds s u) a w ∧ Evo L g s a w g1 (upds s u) a w ∧ New c g1 (upds s u) a w (a.eval x) Oc (.val (fit (upds s u) l p V) (orgOf s x)) ∧ Loose c g1 w Oc ∧
      (∀ l, L l ↔ ∃ e ∈ u, e.1 = l) ∧ (∀ l, L l → l % 4 = 0) ∧ validL (upds s u) (fit (upds s u) l p V).lend = true := fun h => by
    rw [h]; exact ⟨g1, Oc, L, r1, e, hW, hl, hL, hL4, hWv⟩
  by_cases hf : ∃ o', fit (upds s u) l p V = { V with o := o' } ∧ V.o.le o' = true ∧ o'.live = true
  · obtain ⟨o', h1, h2, h3⟩ := hf
    rw [h1]
    obtain ⟨hfut, hheld⟩ := hW
    obtain ⟨cs, hv, k1, k2, k3⟩ := hheld hWv
    obtain ⟨O', F, q1, q2, q3, q4⟩ := k1.le h2
    have hF : Loose c g1 w F := fun b hb => hl b (q2 b hb)
    have e0 : Evo (fun _ => False) g1 (upds s u) a w { g1 with G := fun b => g1.G b ∨ F b } (upds s u) a w :=
      ⟨fun _ _ => rfl, fun _ h => h.elim, fun _ _ => rfl, fun _ _ => rfl, fun _ _ => rfl, fun _ _ _ _ _ => rfl, fun _ h => .inl h, fun _ _ => rfl, fun _ h => h.elim⟩
    have k4 := (e0.held r1 hfut hWv (fun _ _ => rfl) ⟨k1, k2, k3⟩).2.2
    refine ⟨{ g1 with G := fun b => g1.G b ∨ F b }, O', L, r1.giveupP hF, ⟨e.st, e.up, e.O, e.Bk, e.val, e.CV, fun b hb => .inl (e.G b hb), e.heap, e.refs⟩, ⟨hfut, fun _ => ⟨cs, hv, q4.mono (fun b h => h.elim (fun h => h.elim (fun h => .inl (.inl h)) .inr) (fun h => .inl (.inr h))) (fun _ h => h), k2, k4⟩⟩,
      fun b hb => ⟨fun hk => hk.elim (hl b (q1 b hb)).1 (q3 b hb), (hl b (q1 b hb)).2⟩, hL, hL4, hWv⟩
  · apply same
    have key : ∀ o', V.o.le o' = true → o'.live = true → fit (upds s u) l p V ≠ { V with o := o' } := fun o' h1 h2 h3 => hf ⟨o', h3, h1, h2⟩
    unfold fit at key ⊢
    split
    · rfl
    · rename_i hp
      rw [if_neg hp] at key
      split
      · rename_i C hC
        rw [hC] at key
        simp only at key
        split
        · rename_i e he
          rw [he] at key
          simp only at key
          split
          · rename_i hc
            rw [if_pos hc] at key
            simp only [Bool.and_eq_true] at hc
            exact absurd rfl (key e hc.1.2 hc.2)
          · rfl
        · rfl
      · rfl
theorem ok_store (he : EnvOk P E) {o : Oper} {tid : TypeId} {x y : Operand} (ho : o.op = .store tid x y) : OpOk c P E o := by
  intro g s a w U Q r hN h
  simp only [evOp, ho] at h
  split at h
  case h_2 => cases h
  rename_i l p v hv iv tr t hp ht hd
  split at h
  case h_2 => cases h
  rename_i W0 u htk
  split at h
  case isFalse => cases h
  rename_i hWt
  obtain ⟨n1, n2, n3, n4, n5, _⟩ := peek_new r hp
  obtain ⟨b, off, cs, V', org', ⟨m1, m6⟩, m2, m3, m4, m5⟩ := n1.2 (n5 _ _ _ _ _ _ rfl)
  obtain ⟨g1, Oc, L, r1, e, hW, hl, hL, hL4, hWv⟩ := take_fit r htk l p
  have hft : (fit (upds s u) l p W0).t = W0.t := fit_t
  generalize fit (upds s u) l p W0 = W at *
  rw [← hft] at hWt
  subst hWt
  unfold evStore at h
  split at h
  case h_2 => cases h
  rename_i C hct
  split at h
  case h_2 => cases h
  rename_i xn on hsp hso
  obtain rfl := Option.some.inj h
  obtain ⟨⟨org2, ht2⟩, hval⟩ := content_some hct
  have hnl : ¬ L l := by
    intro hl
    have := takeS_gone htk ((hL l).1 hl)
    rw [this] at ht2; cases ht2
  have hs1 : upds s u l = s l := e.st l hnl
  rw [hs1, m1] at ht2
  cases ht2
  have c1 : Cells g1 a w l cs := e.cells hnl (fun h4 => (r.boxes _ _ _ h4 m1).1) m2
  have hb : baseOf g1 l = baseOf g l := by unfold baseOf; rw [e.Bk _ hnl]
  have a1 : NavA w (g1.O l) V'.t (baseOf g1 l) cs p b off := by rw [e.O _ hnl, hb]; exact m4
  obtain ⟨d, hn⟩ := a1.navC
  obtain ⟨vs, e1, e2⟩ := hW.2 hWv
  have hvl := e2.1.cells
  have hlen : vs.length = d.length := by rw [navC_setP_len m3 hn hsp]; exact e2.1.len
  have hW' := hW
  rw [e1] at hW'
  have st := storeAt r1 hct hsp hso c1 a1 hn hW' hWv hvl hlen hl
  have hat : AtC w b off d := a1.at hn c1.at m3
  rw [upds_append]
  refine wp_skip (w' := w.setCells b off vs) ?_ (RelG.undef st hd _)
  have hfr : ∀ j, j < vs.length → w.frozen? ⟨b, off + j, none⟩ = false := by
    intro j hj
    have hsome := hat.some (j := j) (by omega)
    obtain ⟨cs0, Oc0, k1, k2, k3, k4, k5, k6, k7, k8⟩ := content_new r1 hct
    obtain rfl := c1.uniq k1
    cases hf : p.flat with
    | false =>
      obtain ⟨k, hwr⟩ := k3.row hso hf a1
      exact hwr.froz hsome
    | true =>
      unfold baseOf at a1
      split at a1
      · rename_i h4
        obtain ⟨rfl, _⟩ := NavA.flat hf a1
        exact (r1.boxes l _ _ h4 (hs1 ▸ m1)).2.wr.froz hsome
      · exact (NavA.flat_none hf a1).elim
  have f := he.fact ht
  have hsz : (mkV W.t vs).cells.size = W.t.size := by rw [← Array.length_toList, hvl]; exact e2.1.len
  have hrun := run_storeCells_cells (P := P) b off vs 0 w (fun j hj => by simpa using hat.some (j := j) (by omega)) (fun j hj => by simpa using hfr j hj) (fun v hv => by rw [cell1_one]; exact e2.1.one v hv)
  simp only [execOp, ho, Instr.storeAt, m5, Instr.sureAddr, Sem.run_bind, Sem.run_pure, Result.andThen_ok, storeVar, f.run_size, e1, hsz, hvl]
  simp [hrun]
theorem run_field {i k : Nat} {t t' : Ty} (he : EnvOk P E) (h : tyOf E i = some t) (ht : getT t (fpath k) = some t') {cs : List Value} (hl : cs.length = t.size) :
    (Instr.field i (mkV t cs) k).run P w = .ok (mkV t' ((cs.drop (foff t (fpath k))).take t'.size)) w := by
  obtain ⟨hag, fs, f, h1, h2, h3, h4, h5⟩ := (he.fact h).field ht
  have hf := he.fact (tyOf_eq.2 h3)
  have hm : mkV t cs = .agg cs.toArray := by unfold mkV; rw [hag]; rfl
  have hle : foff t (fpath k) + t'.size ≤ t.size := by
    have hn : NavC w (fun _ => True) t cs (fpath k) _ := navC_flatT (fpath_flat k) ht hl
    have := NavC.len (fpath_flat k) hn hl
    by_cases hz : foff t (fpath k) + t'.size ≤ t.size
    · exact hz
    · exfalso
      have hs : ∀ {p : Path} {t t' : Ty}, p.flat = true → getT t p = some t' → foff t p + t'.size ≤ t.size := by
        intro p
        induction p with
        | nil => intro t t' _ h
                 have : t = t' := by cases t <;> exact Option.some.inj h
                 subst this
                 have : foff t [] = 0 := by cases t <;> rfl
                 omega
        | cons s p ih =>
          intro t t' hf h
          cases s <;> cases t <;> simp only [getT] at h <;> first | (cases h; done) | skip
          · have := ih (by simpa [Path.flat] using hf) h; simp only [foff, Ty.size]; omega
          · have := ih (by simpa [Path.flat] using hf) h; simp only [foff, Ty.size]; omega
          · simp [Path.flat] at hf
      exact hz (hs (fpath_flat k) ht)
  simp only [Instr.field, Sem.run_bind, run_underlying h1, Result.andThen_ok, h2, hm, asAgg, Sem.run_pure, part, hf.run_agg, hf.run_size, h4]
  unfold mkV
  cases hg : t'.agg with
  | true =>
    simp only [if_true, Sem.run_bind, hf.run_size, Result.andThen_ok, Sem.run_pure]
    congr 2
    apply Array.ext'
    simp [Array.toList_extract, List.extract, List.take_drop]
  | false =>
    have hs : t'.size = 1 := by cases t' <;> simp_all [Ty.agg, Ty.size]
    rw [hs] at hle ⊢
    have hlt : foff t (fpath k) < cs.length := by omega
    simp only [Bool.false_eq_true, if_false, List.getElem?_toArray, List.getElem?_eq_getElem hlt, Sem.run_pure]
    have hd : (List.take 1 (List.drop (foff t (fpath k)) cs)) = [cs[foff t (fpath k)]] := by
      rw [List.drop_eq_getElem_cons hlt]; rfl
    rw [hd]; rfl
theorem ok_field (he : EnvOk P E) {o : Oper} {ty : TypeId} {x : Operand} {i : Nat} (ho : o.op = .field ty x i) : OpOk c P E o := by
  intro g s a w U Q r hN h
  simp only [evOp, ho] at h
  split at h
  case h_2 => cases h
  rename_i v hv
  split at h
  case h_2 => cases h
  rename_i t y o' hy ho'
  split at h
  case isFalse => cases h
  rename_i hty
  obtain ⟨d, hd, rfl⟩ := putT_run h
  obtain ⟨k1, k2, k3, k4, cs, m1, m2⟩ := peekV_new r hv
  have ht' := getP_getT hy
  have hn : NavC w (fun _ => True) v.t cs (fpath i) _ := navC_flatT (fpath_flat i) ht' m2.len
  obtain ⟨O', hO, hR'⟩ := m2.get hn hy ho'
  exact wp_value (v := mkV t ((cs.drop (foff v.t (fpath i))).take t.size)) (by rw [execOp]; simp only [ho, m1]; rw [Sem.run_bind, run_field he hty ht' m2.len]; rfl) (put_rel r (Same.refl w) hd (hN d hd) (Oc := fun _ => False) ⟨⟨k3, trivial⟩, fun _ => ⟨_, rfl, hR'.mono (fun _ h => h) hO, by simp, trivial⟩⟩ Loose.none)
theorem run_indexAt {i : Nat} {t : Ty} (he : EnvOk P E) (h : tyOf E i = some (.sl t)) {b off len cap : Nat} {k : IntKind} {n : Int} (h0 : 0 ≤ n) (hl : n < len) :
    (Instr.indexAt i (.slice (some ⟨b, off, none⟩) len cap) (.int k n)).run P w = .ok (.pointer (some ⟨b, off + n.toNat * t.size, none⟩)) w := by
  obtain ⟨e, h1, h2, h3⟩ := (he.fact h).und
  have hs := (he.fact (tyOf_eq.2 h2)).run_size w
  simp only [Instr.indexAt, asIntOf, Sem.run_bind, Sem.run_pure, Result.andThen_ok, run_underlying h1]
  have hc : 0 ≤ n ∧ n < (len : Int) := ⟨h0, hl⟩
  simp [hc, hs, add_none, run_underlying h1]
theorem sl_shape {S O : Nat → Prop} {t : Ty} {o : Ow} {xs : List t.den} {cs : List Value} (h : Rp w S (.sl t) o xs cs O) (hl : o.live = true) : o = .z ∨ ∃ oe, o = .own oe := by
  cases o with
  | a => exact h.elim
  | z => exact .inl rfl
  | own oe => exact .inr ⟨oe, rfl⟩
  | two x y => obtain ⟨a, cap, _, _, h⟩ := h; exact h.elim
  | dead => simp [Ow.live] at hl
theorem ok_indexAddr (he : EnvOk P E) {o : Oper} {ty : TypeId} {x i : Operand} (ho : o.op = .indexAddr ty x i) : OpOk c P E o := by
  intro g s a w U Q r hN h
  simp only [evOp, ho] at h
  split at h
  case h_2 => cases h
  rename_i t o1 xs ln tg org k o2 n ln2 tg2 hp hi
  split at h
  case isFalse => cases h
  rename_i hty
  simp only [Prog.run] at h
  split at h
  case isFalse => cases h
  rename_i hb
  have hiv := peekV_int r hi
  obtain ⟨n1, n2, n3, n4, _⟩ := peek_new r hp
  obtain ⟨k1, k2, k3, k4⟩ := n4 _ _ rfl
  obtain ⟨cs, m1, m2, m3, m4⟩ := n1.2 k1
  have hlt : n.toNat < List.length xs := (Int.toNat_lt hb.1).2 hb.2
  have m2 : Rp w (Sof g ln) (.sl t) o1 xs cs (fun _ => False) := m2
  -- the row
  have hrow : ∃ ad cap, cs = [.slice (some ad) (List.length xs) cap] ∧ ad.spot = none := by
    rcases sl_shape m2 k2 with rfl | ⟨oe, rfl⟩
    · obtain ⟨ad, cap, rfl, _, h⟩ := m2
      cases ad with
      | none => exfalso; have h' : xs = [] := h; rw [h'] at hlt; simp at hlt
      | some ad => exact ⟨_, cap, rfl, (h _ _ (getD_get (d := zv t) hlt)).1⟩
    · obtain ⟨ad, cap, rfl, _, h⟩ := m2
      cases ad with
      | none => exfalso; have h' : xs = [] := h.1; rw [h'] at hlt; simp at hlt
      | some ad => exact ⟨_, cap, rfl, h.1⟩
  obtain ⟨⟨bb, boff, bsp⟩, cap, rfl, hsp⟩ := hrow
  simp only at hsp
  subst hsp
  have hex' : (execOp a.eval o).run P w = .ok (.value (.pointer (some ⟨bb, boff + n.toNat * t.size, none⟩))) w := by
    rw [execOp]
    simp only [ho, m1, hiv]
    rw [Sem.run_bind, show mkV (Ty.sl t) [.slice (some ⟨bb, boff, none⟩) (List.length xs) cap] = .slice (some ⟨bb, boff, none⟩) (List.length xs) cap from rfl, run_indexAt he hty hb.1 hb.2]
    rfl
  cases org with
  | none =>
    simp only at h
    obtain ⟨d, hd, rfl⟩ := putT_run h
    refine wp_value hex' (put_rel r (Same.refl w) hd (hN d hd) (Oc := fun _ => False) ⟨⟨n1.1.1, trivial⟩, fun _ => ⟨[_], rfl, ?_, by simp, trivial⟩⟩ Loose.none)
    have hz := (m2.freeze k2).mono (fun b hb => hb.elim id (fun h => h.elim)) (fun _ h => h)
    obtain ⟨ad, cap', e, hc, h⟩ := hz
    simp at e
    obtain ⟨rfl, rfl⟩ := e
    obtain ⟨h1, h2, ci, q1, q2⟩ := h _ _ (getD_get (d := zv t) hlt)
    exact ⟨bb, _, ci, rfl, h2, q1, q2⟩
  | some q =>
    obtain ⟨l, p, ver⟩ := q
    simp only at h
    split at h
    case h_2 => cases h
    rename_i C t' xs' oe hat
    split at h
    case isFalse => cases h
    rename_i htt
    subst htt
    obtain ⟨d, hd, rfl⟩ := putT_run h
    have hver := k4 _ rfl
    obtain ⟨cs', V', org', q1, q2, q3, q4⟩ := m4 hver
    obtain ⟨⟨org2, ht2⟩, hval⟩ := content_some (at_some hat).1
    rw [q1] at ht2
    cases ht2
    obtain ⟨O', ha⟩ := at_new r hat q2 q4
    have hrp := ha.rp
    obtain ⟨ad, cap', e, hc, hh⟩ := hrp
    simp at e
    obtain ⟨rfl, hxl, rfl⟩ := e
    obtain ⟨h1, h2, h3, Os, h4, h5, h6⟩ := hh
    have hlt' : n.toNat < List.length xs' := by rw [← hxl]; exact hlt
    obtain ⟨ci, z1, z2⟩ := h4 _ _ (getD_get (d := zv t') hlt')
    refine wp_value hex' (put_rel r (Same.refl w) hd (hN d hd) (Oc := fun _ => False) ⟨⟨Nat.le_refl _, Nat.le_refl _, Nat.le_refl _⟩, fun _ => ⟨bb, _, cs', _, _, ⟨q1, ?_⟩, q2, q3, ?_, rfl⟩⟩ Loose.none)
    · exact getT_app (t1 := .sl t') (getP_getT (at_some hat).2.1) (by show getT t' [] = some t'; cases t' <;> rfl)
    · refine NavC.appA (getP_getT (at_some hat).2.1) q4 (fun base => ?_)
      refine ⟨⟨bb, boff, none⟩, _, _, ci, by rw [hxl], hlt', rfl, z2.len, z1, ha.sub _ h2, ?_⟩
      cases t' <;> rfl
end
end Go.OM

namespace Go.OM
open Go
section
variable {c : Ctx} {g : Ghost} {s : St} {a : Act} {w : World} {P : Program} {E : Env}

theorem wrapK_eq (k : IntKind) (x : Int) : wrapK k x = k.wrap x := by cases k <;> rfl
theorem argTy_some {cl : Call} {i : Nat} {t : Ty} (h : argTy E cl i = some t) : ∃ ty, cl.argTypes[i]? = some ty ∧ tyOf E ty = some t := Option.bind_eq_some_iff.1 h
theorem getD_arg {cl : Call} {i : Nat} {V : V} {ty : Option Ty} (h : peekV s ty (cl.args.getD i (.global 0)) = some V) : i < cl.args.size ∧ cl.args[i]? = some (cl.args.getD i (.global 0)) := by
  by_cases hi : i < cl.args.size
  · refine ⟨hi, ?_⟩
    rw [Array.getD_eq_getD_getElem?, Array.getElem?_eq_getElem hi]; rfl
  · exfalso
    rw [Array.getD_eq_getD_getElem?, Array.getElem?_eq_none (by omega)] at h
    simp [peekV, peek] at h
theorem sl_val {S O : Nat → Prop} {t : Ty} {o : Ow} {xs : List t.den} {cs : List Value} (h : Rp w S (.sl t) o xs cs O) (hl : o.live = true) : ∃ a cap, cs = [.slice a (List.length xs) cap] ∧ mkV (.sl t) cs = .slice a (List.length xs) cap := by
  rcases sl_shape h hl with rfl | ⟨oe, rfl⟩ <;> (obtain ⟨a, cap, rfl, _⟩ := h; exact ⟨a, cap, rfl, rfl⟩)
theorem exec_builtin {o : Oper} {cl : Call} {b : Builtin} {v : Value} {w' : World} (ho : o.op = .call cl) (hc : cl.callee = .builtin b)
    (h : (builtin b cl.argTypes o.type (cl.args.map fun | .const _ => true | _ => false) (cl.args.map a.eval)).run P w = .ok (.value v) w') : (execOp a.eval o).run P w = .ok (.value v) w' := by
  rw [execOp]
  simp only [ho, resolve, hc, Sem.run_bind, Sem.run_pure, Result.andThen_ok, invoke]
  exact h
theorem ok_len (he : EnvOk P E) {o : Oper} {cl : Call} (ho : o.op = .call cl) (hc : cl.callee = .builtin .len) : OpOk c P E o := by
  intro g s a w U Q r hN h
  simp only [evOp, ho, hc] at h
  split at h
  case isFalse => cases h
  rename_i hty
  have key : ∀ {n : Int} {V : V}, peekV s none (cl.args.getD 0 (.global 0)) = some V → (∀ ty, tyOf E ty = some V.t → (Builtin.len_ cl.argTypes o.type (cl.args.map a.eval)).run P w = .ok (goInt n) w ∨ cl.argTypes[0]? ≠ some ty) → (putT o s (.i .i64 n)).run some = some U → o.wp P a w (fun a' w' => Rel c (upds s U) a' w') Q := by
    intro n V hV hrun h
    obtain ⟨d, hd, rfl⟩ := putT_run h
    rw [hV] at hty
    obtain ⟨ty, h1, h2⟩ := argTy_some hty.symm
    rcases hrun ty h2 with hr | hr
    · refine wp_value (v := goInt n) (exec_builtin ho hc ?_) (put_rel r (Same.refl w) hd (hN d hd) New.int Loose.none)
      show ((do pure (.value (← Builtin.len_ cl.argTypes o.type (cl.args.map a.eval))) : Sem Next)).run P w = _
      rw [Sem.run_bind, hr]; rfl
    · exact absurd h1 hr
  split at h
  · rename_i t o1 xs ln tg hV
    refine key hV (fun ty hty => ?_) h
    obtain ⟨k1, k2, k3, k4, cs, m1, m2⟩ := peekV_new r hV
    obtain ⟨ad, cap, e1, e2⟩ := sl_val m2 k2
    obtain ⟨e, h1, h2, h3⟩ := (he.fact hty).und
    obtain ⟨hi, hg⟩ := getD_arg hV
    by_cases ht : cl.argTypes[0]? = some ty
    · left
      simp only [Builtin.len_, ht, Array.getElem?_map, hg, Option.map_some, Sem.run_bind, run_underlying h1, Result.andThen_ok, m1, e2]
      rfl
    · exact .inr ht
  · rename_i o1 xs ln tg hV
    refine key hV (fun ty hty => ?_) h
    have hx := peekV_str r hV
    have h1 := (he.fact hty).und
    obtain ⟨hi, hg⟩ := getD_arg hV
    by_cases ht : cl.argTypes[0]? = some ty
    · left
      simp only [Builtin.len_, ht, Array.getElem?_map, hg, Option.map_some, Sem.run_bind, run_underlying h1, Result.andThen_ok, hx]
      rfl
    · exact .inr ht
  · cases h
theorem ok_max {o : Oper} {cl : Call} (ho : o.op = .call cl) (hc : cl.callee = .builtin .max) : OpOk c P E o := by
  intro g s a w U Q r hN h
  simp only [evOp, ho, hc] at h
  split at h
  case h_2 => cases h
  rename_i k o1 x l1 t1 k2 o2 y l2 t2 h1 h2
  split at h
  case isFalse => cases h
  rename_i hsz
  obtain ⟨d, hd, rfl⟩ := putT_run h
  have hx := peekV_int r h1
  have hy := peekV_int r h2
  obtain ⟨i1, g1⟩ := getD_arg h1
  obtain ⟨i2, g2⟩ := getD_arg h2
  have hl : (cl.args.map a.eval).toList = [.int k x, .int k2 y] := by
    apply List.ext_getElem?
    intro n
    rw [Array.getElem?_toList, Array.getElem?_map]
    match n with
    | 0 => rw [g1, Option.map_some, hx]; rfl
    | 1 => rw [g2, Option.map_some, hy]; rfl
    | n + 2 => rw [Array.getElem?_eq_none (by have := beq_eq.1 hsz; omega)]; simp
  refine wp_value (v := .int k (max x y)) (exec_builtin ho hc ?_) (put_rel r (Same.refl w) hd (hN d hd) New.int Loose.none)
  show ((do pure (.value (← Builtin.max_ cl.argTypes o.type (cl.args.map a.eval))) : Sem Next)).run P w = _
  have : (Builtin.max_ cl.argTypes o.type (cl.args.map a.eval)).run P w = .ok (.int k (max x y)) w := by
    simp only [Builtin.max_, hl, List.foldlM_cons, List.foldlM_nil, Builtin.max2, Sem.run_bind, Sem.run_pure, Result.andThen_ok]
    congr 2
    by_cases hlt : y > x
    · rw [if_pos hlt]; exact (Int.max_eq_right (Int.le_of_lt hlt)).symm
    · rw [if_neg hlt]; exact (Int.max_eq_left (Int.not_lt.1 hlt)).symm
  rw [Sem.run_bind, this]; rfl
theorem foldl_bytes (xs : List Int) : ∀ s : ByteArray, xs.foldl (fun r n => r.push (UInt8.ofNat n.toNat)) s = ⟨(s.data.toList ++ xs.map fun n => UInt8.ofNat n.toNat).toArray⟩ := by
  induction xs with
  | nil => intro s; simp
  | cons x xs ih =>
    intro s
    rw [List.foldl_cons, ih]
    congr 1
    apply Array.ext'
    simp [ByteArray.push]
end
end Go.OM

namespace Go.OM
open Go
section
variable {c : Ctx} {g : Ghost} {s : St} {a : Act} {w : World} {P : Program} {E : Env}

theorem Fr.fresh (r : RelG c g s a w) {b : Nat} (h : w.heap.size ≤ b) : ¬ g.G b ∧ (∀ l, ¬ g.O l b) ∧ (c.base ≤ b ∨ c.M b) :=
  ⟨fun hg => by have := r.gsz b hg; omega, fun l hl => by have := (r.own l b hl).1; omega, .inl (Nat.le_trans (Nat.le_trans r.fr.le r.fr.grow.size) h)⟩
/-- Blocks that nobody has are given up: they are only read from here on. -/
theorem RelG.giveupR (r : RelG c g s a w) {F : Nat → Prop} (h : Loose c g w F) : RelG c { g with G := fun b => g.G b ∨ F b } s a w := by
  have e : Evo (fun _ => False) g s a w { g with G := fun b => g.G b ∨ F b } s a w :=
    ⟨fun _ _ => rfl, fun _ h => h.elim, fun _ _ => rfl, fun _ _ => rfl, fun _ _ => rfl, fun _ _ _ _ _ => rfl, fun _ h => .inl h, fun _ _ => rfl, fun _ h => h.elim⟩
  exact e.rel r (Grow.refl w) (fun b hb => hb.elim (r.gin b) (fun hf => (h b hf).2.2.2.elim .inl (fun h => .inr (.inl h)))) (fun _ _ => .inl rfl) r.disj (fun l b hl hb => hb.elim (r.ownG l b hl) (fun hf => (h b hf).2.1 l hl)) (fun _ _ h => h.elim) (fun b hb => hb.elim (r.gsz b) (fun hf => (h b hf).2.2.1)) (fun _ _ _ h => h.elim) r.fr r.defs r.size (fun _ h => h.elim) (fun _ h => h.elim) (fun _ h => h.elim)
theorem Loose.grow {Oc : Nat → Prop} (h : Loose c g w Oc) {w' : World} (hg : w.heap.size ≤ w'.heap.size) : Loose c g w' Oc := fun b hb => by
  obtain ⟨h1, h2, h3, h4⟩ := h b hb; exact ⟨h1, h2, by omega, h4⟩
/-- A row in a new block. -/
theorem new_row {S : Nat → Prop} {t : Ty} {o : Ow} {xs : List t.den} {cells : Array Value} {e : TypeId} {cap : Nat} {Os : Nat → Nat → Prop} {w' : World} {n : Nat} {f : Nat × Nat}
    (hnew : w'.heap[n]? = some (.cells cells e f)) (hf : ∀ o, o ≤ cells.size → ¬ (f.1 ≤ o ∧ o < f.2)) (hold : ∀ b, b ≠ n → (S b ∨ ∃ i, Os i b) → w'.heap[b]? = w.heap[b]?) (hn : ∀ b, (S b ∨ ∃ i, Os i b) → b ≠ n)
    (hcap : List.length xs ≤ cap) (hsz : cap * t.size ≤ cells.size)
    (hel : ∀ i x, xs[i]? = some x → ∃ ci, (∀ j v, ci[j]? = some v → cells[i * t.size + j]? = some v) ∧ Rp w S t o x ci (Os i)) (hdis : ∀ i j b, i ≠ j → Os i b → ¬ Os j b) :
    Rp w' S (.sl t) (.own o) xs [.slice (some ⟨n, 0, none⟩) (List.length xs) cap] (fun b => b = n ∨ ∃ i, Os i b) := by
  refine ⟨some ⟨n, 0, none⟩, cap, rfl, hcap, rfl, .inl rfl, ⟨cells, e, f, hnew, by simpa using hsz, hf⟩, Os, fun i x hx => ?_, fun i b hb => ⟨.inr ⟨i, hb⟩, hn b (.inr ⟨i, hb⟩)⟩, hdis⟩
  obtain ⟨ci, h1, h2⟩ := hel i x hx
  refine ⟨ci, fun j v hv => ?_, h2.frame (fun _ h => h) (fun _ h => h) (fun b hb => ?_)⟩
  · have := h1 j v hv
    simp only [World.cell?, hnew]
    simp only [Option.isSome_none, Bool.false_eq_true, if_false, Nat.zero_add]
    exact this
  · have hb' : S b ∨ ∃ i, Os i b := hb.imp id (fun h => ⟨i, h⟩)
    exact hold b (hn b hb') hb'
theorem ok_makeSlice (he : EnvOk P E) {o : Oper} {ty : TypeId} {x y : Operand} (ho : o.op = .makeSlice ty x y) : OpOk c P E o := by
  intro g s a w U Q r hN h
  simp only [evOp, ho] at h
  split at h
  case h_2 => cases h
  rename_i o1 n l1 t1 o2 cp l2 t2 t h1 h2 ht
  simp only [Prog.run] at h
  split at h
  case isFalse => cases h
  rename_i hb
  obtain ⟨d, hd, rfl⟩ := putT_run h
  have hx := peekV_int r h1
  have hy := peekV_int r h2
  have f := he.fact ht
  obtain ⟨e, u1, u2, u3⟩ := f.und
  have fe := he.fact (tyOf_eq.2 u2)
  obtain ⟨ni, i1, i2, i3, i4, i5⟩ := fe.info
  obtain ⟨b1, b2, b3⟩ := hb
  have aux : ∀ (n cp : Int), 0 ≤ n → n ≤ cp → cp ≤ lim → (ni.bytes : Int) * cp ≤ 281474976710656 ∧ cp ≤ 9223372036854775807 ∧ n.toNat ≤ cp.toNat := by
    intro n cp b1 b2 b3
    rw [lim_eq] at b3
    have h1 : (ni.bytes : Int) ≤ 65536 := by omega
    have h2 : (ni.bytes : Int) * cp ≤ 65536 * 1073741824 := Int.mul_le_mul h1 b3 (by omega) (by omega)
    exact ⟨by omega, by omega, by omega⟩
  obtain ⟨a1, a2, a3⟩ := aux n cp b1 b2 b3
  have hrun := run_make (P := P) w ty e ni _ u1 i1 i5 .i64 .i64 n cp b1 b2 a1 a2
  have hzc : (mkV t (zc t)).cells = (zc t).toArray := arr_eq (mkV_cells (t := t) zc_len zc_one)
  rw [hzc, i2] at hrun
  have hcap : (Int.toNat n) ≤ Int.toNat cp := a3
  refine wp_value (v := .slice (some ⟨w.heap.size, 0, none⟩) n.toNat cp.toNat) (w' := w.alloc (.cells (madeCells (zc t).toArray (cp.toNat * t.size)) e)) (by rw [execOp]; simp only [ho, hx, hy]; rw [Sem.run_bind, hrun]; rfl) ?_
  have r1 := r.alloc (.cells (madeCells (zc t).toArray (cp.toNat * t.size)) e)
  have hR : Rp (w.alloc (.cells (madeCells (zc t).toArray (cp.toNat * t.size)) e)) (Sof g []) (.sl t) (.own (fo t)) (List.replicate (Int.toNat n) (zv t)) [.slice (some ⟨w.heap.size, 0, none⟩) (List.length (List.replicate (Int.toNat n) (zv t))) cp.toNat] (fun b => b = w.heap.size ∨ ∃ i : Nat, False) := by
    refine new_row (w := w) (Os := fun _ _ => False) (heap_new w _) (fun o _ h => by omega) (fun b hb hs => ?_) (fun b hs => ?_) (by simpa using hcap) (by rw [size_madeCells]; exact Nat.le_refl _) (fun i x hx => ?_) (fun _ _ _ _ h => h.elim)
    · rcases hs with hs | ⟨_, hs⟩
      · exact RowKit.Below.heap_alloc w _ b (by rcases hs with hs | ⟨_, hs, _⟩; exact r.gsz b hs; cases hs)
      · exact hs.elim
    · rcases hs with (hs | ⟨_, hs, _⟩) | ⟨_, hs⟩
      · have := r.gsz b hs; omega
      · cases hs
      · exact hs.elim
    · rw [List.getElem?_replicate] at hx
      split at hx
      case isFalse => cases hx
      rename_i hi
      obtain rfl := Option.some.inj hx
      refine ⟨zc t, fun j v hv => ?_, Rp.zeroF fe.plain⟩
      have hj : j < t.size := by have := (List.getElem?_eq_some_iff.1 hv).1; rwa [zc_len] at this
      have hlt : i * t.size + j < cp.toNat * t.size := by
        have : (i + 1) * t.size ≤ cp.toNat * t.size := Nat.mul_le_mul_right _ (by omega)
        rw [Nat.add_mul] at this; omega
      have hz : (zc t).toArray.size = t.size := by simp [zc_len]
      rw [madeCells, Array.getElem?_map, Array.getElem?_range, if_pos hlt, Option.map_some, hz]
      have : (i * t.size + j) % t.size = j := by rw [Nat.mul_comm, Nat.mul_add_mod]; exact Nat.mod_eq_of_lt hj
      rw [this]
      congr 1
      obtain ⟨hj', rfl⟩ := List.getElem?_eq_some_iff.1 hv
      simp [hj']
  refine put_rel r1 (Same.refl _) hd (hN d hd) (Oc := fun b => b = w.heap.size ∨ ∃ i : Nat, False) ⟨⟨by simp, trivial⟩, fun _ => ⟨_, ?_, hR, by simp, trivial⟩⟩ ?_
  · show _ = Value.slice _ _ _
    rw [List.length_replicate]
  · rintro b (rfl | ⟨_, hb⟩)
    · obtain ⟨q1, q2, q3⟩ := Fr.fresh r (Nat.le_refl w.heap.size)
      exact ⟨q1, q2, by simp, q3⟩
    · exact hb.elim
/-- A part of a row. -/
theorem Rp.sub {S O : Nat → Prop} {t : Ty} {o : Ow} {xs : List t.den} {ad : Option Addr} {cap lo hi : Nat} (h : Rp w S (.sl t) o xs [.slice ad (List.length xs) cap] O) (hl : o.live = true) (h1 : lo ≤ hi) (h2 : hi ≤ List.length xs) :
    Rp w S (.sl t) o ((xs.drop lo).take (hi - lo)) [.slice (if cap = lo then ad else ad.map (·.add (lo * t.size))) (hi - lo) (cap - lo)] O := by
  have hlen : List.length ((xs.drop lo).take (hi - lo)) = hi - lo := by simp; omega
  have hget : ∀ i x, ((xs.drop lo).take (hi - lo))[i]? = some x → xs[lo + i]? = some x := by
    intro i x hx
    rw [List.getElem?_take] at hx
    split at hx
    · rw [List.getElem?_drop] at hx; exact hx
    · cases hx
  rcases sl_shape h hl with rfl | ⟨oe, rfl⟩
  · obtain ⟨ad', cap', e, hc, hh⟩ := h
    simp at e
    obtain ⟨rfl, rfl⟩ := e
    refine ⟨_, cap - lo, by rw [hlen], by rw [hlen]; omega, ?_⟩
    cases ad with
    | none =>
      have hx : xs = [] := hh
      subst hx
      have : (if cap = lo then (none : Option Addr) else (none : Option Addr).map (fun a => a.add (lo * t.size))) = none := by split <;> rfl
      rw [this]
      simp
    | some ad =>
      by_cases hcl : cap = lo
      · rw [if_pos hcl]
        intro i x hx
        have := (List.getElem?_eq_some_iff.1 hx).1
        omega
      · rw [if_neg hcl]
        intro i x hx
        obtain ⟨q1, q2, ci, z1, z2⟩ := hh _ _ (hget i x hx)
        obtain ⟨b, off, sp⟩ := ad
        simp only at q1; subst q1
        refine ⟨by simp [add_none], by simpa [add_none] using q2, ci, ?_, z2⟩
        simp only [add_none]
        rw [Nat.add_assoc, ← Nat.add_mul]; exact z1
  · obtain ⟨ad', cap', e, hc, hh⟩ := h
    simp at e
    obtain ⟨rfl, rfl⟩ := e
    refine ⟨_, cap - lo, by rw [hlen], by rw [hlen]; omega, ?_⟩
    cases ad with
    | none =>
      obtain ⟨hx, rfl⟩ := hh
      subst hx
      have : (if 0 = lo then (none : Option Addr) else (none : Option Addr).map (fun a => a.add (lo * t.size))) = none := by split <;> rfl
      rw [this]
      exact ⟨by simp, Nat.zero_sub _⟩
    | some ad =>
      obtain ⟨q1, q2, q3, Os, q4, q5, q6⟩ := hh
      obtain ⟨b, off, sp⟩ := ad
      simp only at q1; subst q1
      obtain ⟨cc, e, f, w1, w2, w3⟩ := q3
      simp only at w1 w2
      by_cases hcl : cap = lo
      · rw [if_pos hcl]
        refine ⟨rfl, q2, ⟨cc, e, f, w1, ?_, w3⟩, fun i => Os (lo + i), fun i x hx => ?_, fun i x hx => q5 _ _ hx, fun i j x hne => q6 _ _ _ (by omega)⟩
        · subst hcl; simp only [Nat.sub_self, Nat.zero_mul, Nat.add_zero]
          exact Nat.le_trans (Nat.le_add_right _ _) w2
        · have := (List.getElem?_eq_some_iff.1 hx).1
          omega
      · rw [if_neg hcl]
        simp only [Option.map_some, add_none]
        refine ⟨trivial, q2, ⟨cc, e, f, w1, ?_, w3⟩, fun i => Os (lo + i), fun i x hx => ?_, fun i x hx => q5 _ _ hx, fun i j x hne => q6 _ _ _ (by omega)⟩
        · rw [Nat.add_assoc, ← Nat.add_mul, Nat.add_sub_cancel' (by omega)]; exact w2
        · obtain ⟨ci, z1, z2⟩ := q4 _ _ (hget i x hx)
          refine ⟨ci, ?_, z2⟩
          rw [Nat.add_assoc, ← Nat.add_mul]; exact z1
theorem bound_run (r : RelG c g s a w) {b : Option Operand} {d i : Int} (h : boundOf s b d = some i) : (b = none ∧ i = d) ∨ ∃ x k, b = some x ∧ a.eval x = .int k i := by
  unfold boundOf at h
  split at h
  · exact .inl ⟨rfl, (Option.some.inj h).symm⟩
  · rename_i x
    split at h
    · rename_i k o1 n l1 t1 hV
      obtain rfl := Option.some.inj h
      exact .inr ⟨x, k, rfl, peekV_int r hV⟩
    · cases h
theorem run_sliceAt (he : EnvOk P E) {i : Nat} {t : Ty} (h : tyOf E i = some (.sl t)) {ad : Option Addr} {len cap : Nat} {lo hi : Option Value} {l u : Int} (hlo : (lo = none ∧ l = 0) ∨ ∃ k, lo = some (.int k l)) (hhi : (hi = none ∧ u = len) ∨ ∃ k, hi = some (.int k u))
    (h0 : 0 ≤ l) (h1 : l ≤ u) (h2 : u ≤ len) (h3 : len ≤ cap) :
    (Instr.sliceAt i (.slice ad len cap) lo hi none).run P w = .ok (.slice (if cap = l.toNat then ad else ad.map (·.add (l.toNat * t.size))) (u.toNat - l.toNat) (cap - l.toNat)) w := by
  obtain ⟨e, u1, u2, u3⟩ := (he.fact h).und
  have hs := (he.fact (tyOf_eq.2 u2)).run_size w
  have hb : (Instr.sliceBounds true len cap lo hi none).run P w = .ok (l.toNat, u.toNat, cap) w := by
    have e1 : 0 ≤ u ∧ u ≤ (cap : Int) := ⟨by omega, by omega⟩
    have e2 : 0 ≤ l ∧ l ≤ ((u.toNat : Nat) : Int) := ⟨h0, by omega⟩
    rcases hlo with ⟨rfl, rfl⟩ | ⟨k, rfl⟩ <;> rcases hhi with ⟨rfl, rfl⟩ | ⟨k', rfl⟩ <;> simp [Instr.sliceBounds, Instr.sliceBound, asIntOf, e1, e2]
    · omega
    · intro hlt
      exfalso
      have : max u 0 = u := Int.max_eq_left (by omega)
      omega
  simp only [Instr.sliceAt, Sem.run_bind, run_underlying u1, Result.andThen_ok, Instr.slice, hb, hs, Sem.run_pure]
theorem NavA.row_in {Q : Nat → Prop} : ∀ {p : Path} {t : Ty} {base : Option (Nat × Nat)} {cs : List Value} {b o : Nat}, p.flat = false → NavA w Q t base cs p b o → Q b := by
  intro p
  induction p with
  | nil => intro t base cs b o hf _; simp [Path.flat] at hf
  | cons s p ih =>
    intro t base cs b o hf h
    cases s <;> cases t <;> try exact h.elim
    · exact ih (by simpa [Path.flat] using hf) h
    · exact ih (by simpa [Path.flat] using hf) h
    · obtain ⟨ad, len, cap, ci, h1, h2, h3, h4, h5, hq, h6⟩ := h
      cases hp : Path.flat p with
      | true => obtain ⟨rfl, _⟩ := NavA.flat hp h6; exact hq
      | false => exact ih hp h6
theorem navA_own (r : RelG c g s a w) {l : Loc} {V : V} {org : Option (Loc × Path × Nat)} (ht : (s l).t = .val V org) {cs : List Value} {p : Path} {b off : Nat} (h : NavA w (g.O l) V.t (baseOf g l) cs p b off) : g.O l b := by
  cases hf : p.flat with
  | false => exact h.row_in hf
  | true =>
    unfold baseOf at h
    split at h
    · rename_i h4
      obtain ⟨rfl, _⟩ := NavA.flat hf h
      exact (r.boxes l _ _ h4 ht).1
    · exact (NavA.flat_none hf h).elim
theorem caps_new (r : RelG c g s a w) : ∀ {l : List Operand} {t : Ty} {y : t.den} {ln : Lend}, capsOf s l = some ⟨t, y, ln⟩ → (∀ e ∈ ln, e.2 ≤ (s e.1).v) ∧ Rp w (Sof g ln) t .z y (l.map a.eval) (fun _ => False) := by
  intro l
  induction l with
  | nil => intro t y ln h; cases h; exact ⟨by simp, rfl⟩
  | cons x xs ih =>
    intro t y ln h
    simp only [capsOf] at h
    split at h
    case h_2 => cases h
    rename_i l p v hv iv tr tl yl ll hp hc
    split at h
    case h_2 => cases h
    rename_i V t' y' o' hat
    split at h
    case isFalse => cases h
    rename_i hlive
    cases h
    obtain ⟨i1, i2⟩ := ih hc
    obtain ⟨b, off, cs, d, O', m1, m2, m3, m4⟩ := ref_at r hp hat
    obtain ⟨cs0, Oc0, k1, k2, k3, k4, k5, k6, k7, k8⟩ := content_new r (at_some hat).1
    refine ⟨fun e he => ?_, .z, .z, [a.eval x], xs.map a.eval, fun _ => False, fun _ => False, rfl, rfl, rfl, ⟨b, off, d, by rw [m1], ?_, m3, ?_⟩, ?_, fun _ h => h, fun _ h => h, fun _ h => h.elim⟩
    · rcases List.mem_cons.1 he with rfl | he
      · exact Nat.le_refl _
      · rcases List.mem_append.1 he with he | he
        · exact k6 e he
        · exact i1 e he
    · exact .inr ⟨_, List.mem_cons_self, navA_own r (content_some (at_some hat).1).1.choose_spec m4⟩
    · refine (m2.rp.freeze hlive).mono (fun b hb => ?_) (fun _ h => h)
      rcases hb with (hb | ⟨e, he, hb⟩) | hb
      · exact .inl hb
      · exact .inr ⟨e, List.mem_cons_of_mem _ (List.mem_append_left _ he), hb⟩
      · exact .inr ⟨_, List.mem_cons_self, m2.sub b hb⟩
    · refine i2.mono (fun b hb => ?_) (fun _ h => h)
      rcases hb with hb | ⟨e, he, hb⟩
      · exact .inl hb
      · exact .inr ⟨e, List.mem_cons_of_mem _ (List.mem_append_right _ he), hb⟩
theorem ok_convert (he : EnvOk P E) {o : Oper} {src dst : TypeId} {x : Operand} (ho : o.op = .convert src dst x) : OpOk c P E o := by
  intro g s a w U Q r hN h
  simp only [evOp, ho] at h
  split at h
  case isFalse => cases h
  rename_i hsrc
  have hexec : ∀ {v : Value}, (convert src dst (a.eval x)).run P w = .ok v w → (execOp a.eval o).run P w = .ok (.value v) w := by
    intro v hv
    rw [execOp]; simp only [ho]; rw [Sem.run_bind, hv]; rfl
  split at h
  · rename_i k o1 y ln tg k2 hV ht
    rw [hV] at hsrc
    obtain ⟨d, hd, rfl⟩ := putT_run h
    have hx := peekV_int r hV
    have u1 := (he.fact hsrc.symm).und
    have u2 := (he.fact ht).und
    refine wp_value (v := .int k2 (k2.wrap y)) (hexec ?_) (put_rel r (Same.refl w) hd (hN d hd) (by rw [wrapK_eq]; exact New.int) Loose.none)
    rw [hx]
    simp [convert, run_underlying u1, run_underlying u2, Conv.intToInt]
  · rename_i o1 y ln tg hV ht
    rw [hV] at hsrc
    obtain ⟨d, hd, rfl⟩ := putT_run h
    obtain ⟨k1, k2, k3, k4, cs, m1, m2⟩ := peekV_new r hV
    obtain ⟨e, u1, u2, u3⟩ := (he.fact hsrc.symm).und
    have u4 := (he.fact (tyOf_eq.2 u2)).und
    have u5 := (he.fact ht).und
    refine wp_value (v := .string (bytesOf y)) (hexec ?_) (put_rel r (Same.refl w) hd (hN d hd) New.str Loose.none)
    have hz : Rp w (fun _ => True) (.sl (.int .u8)) .z y cs (fun _ => False) := ((show Rp w (Sof g ln) (.sl (.int .u8)) o1 y cs (fun _ => False) from m2).freeze k2).mono (fun _ _ => trivial) (fun _ h => h)
    obtain ⟨ad, cap, rfl, hc, hh⟩ := hz
    rw [m1, show mkV (.sl (.int .u8)) [.slice ad (List.length y) cap] = .slice ad (List.length y) cap from rfl, run_convert_bytes_string w src dst e ad _ cap u1 u4 u5]
    cases ad with
    | none =>
      have hy : y = [] := hh
      subst hy
      rfl
    | some ad =>
      have hl : (loadCells ad (List.length y)).run P w = .ok ((y.map (Value.int .u8)).toArray) w := by
        have := run_loadCells_list (P := P) w ad (y.map (Value.int .u8)) (fun j v hj => by
          rw [List.getElem?_map] at hj
          obtain ⟨z, hz, rfl⟩ := Option.map_eq_some_iff.1 hj
          obtain ⟨h1, _, ci, q1, q2⟩ := hh j z hz
          have q2 : ci = [.int .u8 z] := q2
          subst q2
          have := q1 0 _ rfl
          obtain ⟨b, off, sp⟩ := ad
          simp only at h1; subst h1
          rw [add_none]
          simpa [Ty.size] using this)
        simpa using this
      rw [run_bytesToString w ad _ cap y hl, foldl_bytes]
      rfl
  · rename_i o1 y ln tg hV ht
    rw [hV] at hsrc
    obtain ⟨d, hd, rfl⟩ := putT_run h
    have hx := peekV_str r hV
    have u1 := (he.fact hsrc.symm).und
    obtain ⟨e, u2, u3, _⟩ := (he.fact ht).und
    have u4 := (he.fact (tyOf_eq.2 u3)).und
    have hrun := run_bytes_of_string (P := P) w src dst e y u1 u2 u4
    have hsame : Same w w.drew := ⟨rfl, rfl, rfl, rfl⟩
    have r1 : RelG c g s a w.drew := by
      have e : Evo (fun _ => False) g s a w g s a w.drew := ⟨fun _ _ => rfl, fun _ h => h.elim, fun _ _ => rfl, fun _ _ => rfl, fun _ _ => rfl, fun _ _ _ _ _ => rfl, fun _ h => h, fun _ _ => rfl, fun _ h => h.elim⟩
      exact e.rel r hsame.grow r.gin (fun _ _ => .inl rfl) r.disj r.ownG (fun _ _ h => h.elim) r.gsz (fun _ _ _ h => h.elim) (r.fr.same hsame) r.defs r.size (fun _ h => h.elim) (fun _ h => h.elim) (fun _ h => h.elim)
    have hcap : y.size ≤ grownCap w y.size 0 e := by
      unfold grownCap
      simp only [Question.cut]
      exact Nat.le_add_right _ _
    have hlen : (listOf y).length = y.size := by
      show (y.data.toList.map _).length = y.data.size
      rw [List.length_map, Array.length_toList]
    have hbs : (bytesRow y (grownCap w y.size 0 e)).size = grownCap w y.size 0 e := by
      simp [bytesRow]
      have : y.data.size = y.size := rfl
      omega
    generalize hC : bytesRow y (grownCap w y.size 0 e) = C at *
    generalize hcc : grownCap w y.size 0 e = cc at *
    have r2 := (r1.alloc (.cells C e (C.size, C.size + 1))).giveupR (F := fun b => b = w.heap.size) (fun b hb => by
      have hb : b = w.heap.size := hb
      subst hb
      obtain ⟨q1, q2, q3⟩ := Fr.fresh r (Nat.le_refl w.heap.size)
      exact ⟨q1, q2, by show w.heap.size < (w.heap.push _).size; simp, q3⟩)
    refine wp_value (v := .slice (some ⟨w.heap.size, 0, none⟩) y.size cc) (w' := w.drew.alloc (.cells C e (C.size, C.size + 1))) (by rw [execOp]; simp only [ho, hx]; rw [Sem.run_bind, hrun]; rfl) ?_
    refine put_rel r2 (Same.refl _) hd (hN d hd) (Oc := fun _ => False) ⟨⟨by simp, trivial⟩, fun _ => ⟨[.slice (some ⟨w.heap.size, 0, none⟩) y.size cc], rfl, ⟨some ⟨w.heap.size, 0, none⟩, cc, by rw [hlen], by rw [hlen]; exact hcap, fun i x hx => ⟨rfl, .inl (.inr rfl), ?_⟩⟩, by simp, trivial⟩⟩ Loose.none
    refine ⟨[.int .u8 x], fun j v hv => ?_, rfl⟩
    cases j with
    | succ j => simp at hv
    | zero =>
      simp at hv; subst hv
      have hx' : ((y.data.toList.map fun b => (b.toNat : Int)))[i]? = some x := hx
      rw [List.getElem?_map] at hx'
      obtain ⟨b, hb, rfl⟩ := Option.map_eq_some_iff.1 hx'
      have hi : i < y.data.size := by simpa using (List.getElem?_eq_some_iff.1 hb).1
      have hh : (w.drew.alloc (.cells C e (C.size, C.size + 1))).heap[w.heap.size]? = some (.cells C e (C.size, C.size + 1)) := heap_new w.drew _
      simp only [World.cell?, hh]
      simp only [Option.isSome_none, Bool.false_eq_true, if_false, Nat.zero_add]
      rw [← hC]
      simp only [bytesRow, Ty.size, Nat.mul_one, Nat.add_zero]
      rw [Array.getElem?_append_left (by simpa using hi), Array.getElem?_map]
      rw [Array.getElem?_toList] at hb
      rw [hb]; rfl
  · cases h
end
end Go.OM

namespace Go.OM
open Go
section
variable {c : Ctx} {g : Ghost} {s : St} {a : Act} {w : World} {P : Program} {E : Env}

theorem ok_makeFunc {o : Oper} {f : FuncId} {first cap : Array Operand} (ho : o.op = .makeFunc (.func f) first cap) : OpOk c P E o := by
  intro g s a w U Q r hN h
  simp only [evOp, ho] at h
  split at h
  case h_2 => cases h
  rename_i t y ln hc
  split at h
  case isFalse => cases h
  rename_i hsz
  obtain ⟨d, hd, rfl⟩ := putT_run h
  obtain ⟨i1, i2⟩ := caps_new r hc
  have hf : first = #[] := Array.eq_empty_of_size_eq_zero (beq_eq.1 hsz)
  subst hf
  refine wp_value (v := .func (.func f) #[] (cap.map a.eval)) (w' := w) ?_ (put_rel r (Same.refl w) hd (hN d hd) (Oc := fun _ => False) ⟨⟨i1, trivial⟩, fun _ => ⟨[.func (.func f) #[] (cap.map a.eval)], rfl, ⟨cap.toList.map a.eval, ?_, i2⟩, by simp, trivial⟩⟩ Loose.none)
  · rw [execOp]; simp only [ho, Instr.makeFunc]; rw [Sem.run_bind]; simp
  · congr 2
    apply Array.ext'; simp
theorem cp_mod (b i : Nat) : cp b i % 4 = 2 := Nat.mul_add_mod 4 (8 * b + i) 2
theorem valAt_cp (b i : Nat) : valAt g a (cp b i) = some (g.CV (cp b i)) := by unfold valAt; rw [if_neg (by rw [cp_mod]; decide), if_pos (cp_mod b i)]
theorem tm_ne_cp (d b i : Nat) : tm d ≠ cp b i := fun h => by have := cp_mod b i; rw [← h, tm_mod] at this; cases this
theorem ok_extract {o : Oper} {j i : Nat} (ho : o.op = .extract (.tmp j) i) : OpOk c P E o := by
  intro g s a w U Q r hN h
  simp only [evOp, ho] at h
  cases hd : o.dst with
  | none => rw [hd] at h; cases h
  | some d =>
    rw [hd] at h
    simp only [evExtract] at h
    split at h
    case h_2 => cases h
    rename_i b n iv hp
    split at h
    case isFalse => cases h
    rename_i hi
    have hi : i < n := by rw [Nat.blt_eq] at hi; exact hi
    obtain ⟨n1, n2, n3, n4, n5, n6⟩ := peek_new r hp
    obtain ⟨vs, e1, e2, e3⟩ := n1.2 (n6 _ _ _ rfl)
    have hrun : (execOp a.eval o).run P w = .ok (.value (g.CV (cp b i))) w := by
      rw [execOp]; simp only [ho, e1, Instr.extract, (e3 i hi).2]; rfl
    have tk := r.toks (cp b i)
    have fk := r.fut (cp b i)
    have h41 : cp b i % 4 ≠ 1 := by rw [cp_mod]; decide
    split at h
    · rename_i l p v hv iv t ht
      rw [ht] at tk fk
      split at h
      case isFalse => cases h
      rename_i hval
      obtain rfl := Option.some.inj h
      obtain ⟨b', off, cs, V', org', m1, m2, m3, m4, m5⟩ := tk hval
      rw [valAt_cp] at m5
      refine wp_value hrun ?_
      exact put_rel r (Same.refl w) hd (hN d hd) (Oc := fun _ => False) ⟨fk, fun _ => ⟨b', off, cs, V', org', m1, m2, m3, m4, Option.some.inj m5⟩⟩ Loose.none
    · rename_i V org ht
      rw [ht] at tk fk
      split at h
      case isFalse => cases h
      rename_i hv
      simp only [Bool.and_eq_true] at hv
      obtain ⟨cs, Oc, k1, k2, k3, k4⟩ := tk hv.1
      have k2 := k2 h41
      rw [valAt_cp] at k2
      have k2 := Option.some.inj k2
      split at h
      · obtain rfl := Option.some.inj h
        obtain ⟨r1, e⟩ := r.drop (l0 := cp b i) h41
        refine wp_value hrun ?_
        have hst : upds s (bump s (cp b i) .undef :: putV s d V) = upds (upds s [bump s (cp b i) .undef]) [bump (upds s [bump s (cp b i) .undef]) (tm d) (.val V none)] := by
          show upds (upds s [bump s (cp b i) .undef]) (putV s d V) = _
          congr 1
          simp only [putV, bump]
          have : upds s [(cp b i, (⟨T.undef, (s (cp b i)).v + 1, (s (cp b i)).hv + 1⟩ : Cell))] (tm d) = s (tm d) := upd_ne (tm_ne_cp d b i)
          rw [this]
        rw [hst]
        have sf := r.self (cp b i)
        rw [ht] at sf
        refine put_rel r1 (Same.refl w) hd (hN d hd) (Oc := g.O (cp b i)) ⟨⟨fun x hx => Nat.le_trans (fk.1 x hx) ?_, trivial⟩, fun hv' => ⟨cs, k2, ?_⟩⟩ ?_
        · by_cases hm : x.1 = cp b i
          · rw [hm]; show _ ≤ (upd s (cp b i) _ (cp b i)).v; rw [upd_self]; exact Nat.le_succ _
          · show _ ≤ (upd s (cp b i) _ x.1).v; rw [upd_ne hm]; exact Nat.le_refl _
        · refine e.held r (V := V) (org := none) ⟨fk.1, trivial⟩ hv' (fun _ _ => rfl) ⟨k3.1.mono (fun _ h => h) (fun b hb => (k4 b hb).1), k3.2.1, trivial⟩
        · intro b' hb
          refine ⟨r.ownG _ b' hb, fun l hl => ?_, r.own _ b' hb⟩
          by_cases hm : l = cp b i
          · simp only [if_pos hm] at hl
          · simp only [if_neg hm] at hl; exact hm (r.disj _ _ b' hl hb)
      · rename_i hh
        obtain rfl := Option.some.inj h
        refine wp_value hrun ?_
        exact put_rel r (Same.refl w) hd (hN d hd) (Oc := fun _ => False) ⟨⟨fk.1, trivial⟩, fun _ => ⟨cs, k2, Rp.noOwn k3.1 (by simpa using hh), by simp, trivial⟩⟩ Loose.none
    · cases h
end
end Go.OM

namespace Go.OM
open Go

def takes : List (Ty × Operand) → St → Option (List V × Upds)
  | [], _ => some ([], [])
  | (t, x) :: r, s => match take s (some t) x with
    | some (v, u) => match takes r (upds s u) with
      | some (vs, us) => some (v :: vs, u ++ us)
      | none => none
    | none => none
theorem le_refl_a {o : Ow} : Ow.le o o = true := by
  induction o with
  | own o ih => exact ih
  | two x y i j => simp [Ow.le, i, j]
  | _ => rfl
section
variable {c : Ctx} {g : Ghost} {s : St} {a : Act} {w : World} {P : Program} {E : Env}

theorem Evo.refl : Evo (fun _ => False) g s a w g s a w :=
  ⟨fun _ _ => rfl, fun _ h => h.elim, fun _ _ => rfl, fun _ _ => rfl, fun _ _ => rfl, fun _ _ _ _ _ => rfl, fun _ h => h, fun _ _ => rfl, fun _ h => h.elim⟩
theorem Evo.ups {L : Loc → Prop} {g' : Ghost} {s' : St} {a' : Act} {w' : World} (e : Evo L g s a w g' s' a' w') (m : Loc) : (s m).v ≤ (s' m).v := by
  by_cases hm : L m
  · exact Nat.le_of_lt (e.up m hm).1
  · rw [e.st m hm]; exact Nat.le_refl _
/-- What was taken, each with blocks of its own. -/
structure Took (c : Ctx) (g : Ghost) (s : St) (a : Act) (w : World) (g2 : Ghost) (s2 : St) (l : List (Ty × Operand)) (Vs : List V) (Os : Nat → Nat → Prop) (css : Nat → List Value) : Prop where
  rel : RelG c g2 s2 a w
  G : g2.G = g.G
  O : ∀ l b, g2.O l b → g.O l b
  ups : ∀ m, (s m).v ≤ (s2 m).v
  loose : ∀ k, Loose c g2 w (Os k)
  from_ : ∀ k b, Os k b → ∃ l, g.O l b
  disj : ∀ i j b, i ≠ j → Os i b → ¬ Os j b
  len : Vs.length = l.length
  keep : ∀ (W : V) (cs : List Value) (Oc : Nat → Prop), (∀ e ∈ W.lend, e.2 ≤ (s e.1).v) → validL s2 W.lend = true → Rp w (Sof g W.lend) W.t W.o W.x cs Oc → Rp w (Sof g2 W.lend) W.t W.o W.x cs Oc
  valid : ∀ lend : Lend, (∀ e ∈ lend, e.2 ≤ (s e.1).v) → validL s2 lend = true → validL s lend = true
  each : ∀ k V, Vs[k]? = some V → ∃ t x, l[k]? = some (t, x) ∧ a.eval x = mkV V.t (css k) ∧ (mkV V.t (css k)).cells.toList = css k ∧ (css k).length = V.t.size ∧ (∀ e ∈ V.lend, e.2 ≤ (s2 e.1).v) ∧ V.o.live = true ∧
    (validL s2 V.lend = true → Rp w (Sof g2 V.lend) V.t V.o V.x (css k) (Os k))
theorem takes_new : ∀ {l : List (Ty × Operand)} {g : Ghost} {s : St} {Vs : List V} {U : Upds}, RelG c g s a w → takes l s = some (Vs, U) →
    ∃ g2 Os css, Took c g s a w g2 (upds s U) l Vs Os css := by
  intro l
  induction l with
  | nil =>
    intro g s Vs U r h
    cases h
    exact ⟨g, fun _ _ => False, fun _ => [], r, rfl, fun _ _ h => h, fun _ => Nat.le_refl _, fun _ => Loose.none, fun _ _ h => h.elim, fun _ _ _ _ h => h.elim, rfl, fun _ _ _ _ _ h => h, fun _ _ h => h, fun k V h => by simp at h⟩
  | cons q l ih =>
    obtain ⟨t, x⟩ := q
    intro g s Vs U r h
    simp only [takes] at h
    split at h
    case h_2 => cases h
    rename_i V u ht
    split at h
    case h_2 => cases h
    rename_i vs us hts
    cases h
    obtain ⟨g1, Oc, L, r1, e, hG, hB, hC, ⟨hO, hfrom⟩, hn, hl, _, _, hlive, hval⟩ := take_new r ht
    obtain ⟨g2, Os, css, k⟩ := ih r1 hts
    obtain ⟨cs, m1, m2, _, _⟩ := hn.2 hval
    rw [upds_append]
    refine ⟨g2, fun n => if n = 0 then Oc else Os (n - 1), fun n => if n = 0 then cs else css (n - 1), k.rel, k.G.trans hG, fun l b h => hO l b (k.O l b h), fun m => Nat.le_trans (e.ups m) (k.ups m), fun n => ?_, fun n b h => ?_, fun i j b hne => ?_, by simp [k.len], fun W cs Oc hf hv hR => ?_, fun lend hf hv => ?_, fun n W hW => ?_⟩
    · by_cases hn0 : n = 0
      · simp only [if_pos hn0]
        exact fun b hb => ⟨by rw [k.G]; exact (hl b hb).1, fun l h => (hl b hb).2.1 l (k.O l b h), (hl b hb).2.2⟩
      · simp only [if_neg hn0]; exact k.loose _
    · by_cases hn0 : n = 0
      · simp only [if_pos hn0] at h
        exact hfrom b h
      · simp only [if_neg hn0] at h
        obtain ⟨l, hl⟩ := k.from_ _ b h
        exact ⟨l, hO l b hl⟩
    · by_cases hi : i = 0
      · by_cases hj : j = 0
        · omega
        · simp only [if_pos hi, if_neg hj]
          intro h1 h2
          obtain ⟨l, h3⟩ := k.from_ _ b h2
          exact (hl b h1).2.1 l h3
      · by_cases hj : j = 0
        · simp only [if_neg hi, if_pos hj]
          intro h1 h2
          obtain ⟨l, h3⟩ := k.from_ _ b h1
          exact (hl b h2).2.1 l h3
        · simp only [if_neg hi, if_neg hj]
          exact k.disj _ _ b (by omega)
    · obtain ⟨v1, v2⟩ := e.valid hf (k.valid _ (fun x hx => Nat.le_trans (hf x hx) (e.ups _)) hv)
      refine k.keep W cs Oc (fun x hx => Nat.le_trans (hf x hx) (e.ups _)) hv (hR.mono (e.sof v2).1 (fun _ h => h))
    · exact (e.valid hf (k.valid _ (fun x hx => Nat.le_trans (hf x hx) (e.ups _)) hv)).1
    · cases n with
      | zero =>
        simp at hW; subst hW
        simp only [if_true]
        refine ⟨t, x, rfl, m1, m2.cells, m2.len, fun e he => Nat.le_trans (hn.1.1 e he) (k.ups _), hlive, fun hv => k.keep V cs Oc hn.1.1 hv m2⟩
      | succ n =>
        have : (n + 1 = 0) = False := by simp
        simp only [this, if_false, Nat.add_sub_cancel]
        obtain ⟨t', x', z1, z2⟩ := k.each n W (by simpa using hW)
        exact ⟨t', x', by simpa using z1, z2⟩
theorem Ow.le_live {x : Ow} : ∀ {y : Ow}, x.le y = true → y.live = true → x.live = true := by
  induction x with
  | a => intro y _ _; rfl
  | z => intro y _ _; rfl
  | own x ih => intro y h k; cases y <;> simp_all [Ow.le, Ow.live]; exact ih h k
  | two x1 x2 i1 i2 =>
    intro y h k
    cases y <;> simp_all [Ow.le, Ow.live]
    exact ⟨i1 h.1 k.1, i2 h.2 k.2⟩
  | dead => intro y h k; cases y <;> simp_all [Ow.le, Ow.live]
theorem Ow.le_trans {x : Ow} : ∀ {y zz : Ow}, x.le y = true → y.le zz = true → x.le zz = true := by
  induction x with
  | a => intro y zz _ _; cases zz <;> rfl
  | z => intro y zz h k; cases y <;> first | (simp [Ow.le] at h; done) | exact k
  | own x ih =>
    intro y zz h k
    cases y with
    | own y =>
      cases zz with
      | own zz => exact ih h k
      | z => exact Ow.le_live (x := x) h k
      | a | two _ _ | dead => simp [Ow.le] at k
    | z =>
      cases zz with
      | z => exact h
      | a | two _ _ | dead | own _ => simp [Ow.le] at k
    | a | two _ _ | dead => simp [Ow.le] at h
  | two x1 x2 i1 i2 =>
    intro y zz h k
    cases y with
    | two y1 y2 =>
      simp only [Ow.le, Bool.and_eq_true] at h
      cases zz with
      | two z1 z2 =>
        simp only [Ow.le, Bool.and_eq_true] at k ⊢
        exact ⟨i1 h.1 k.1, i2 h.2 k.2⟩
      | z =>
        simp only [Ow.le, Bool.and_eq_true] at k ⊢
        exact ⟨Ow.le_live h.1 k.1, Ow.le_live h.2 k.2⟩
      | a | own _ | dead => simp [Ow.le] at k
    | z =>
      cases zz with
      | z => exact h
      | a | two _ _ | dead | own _ => simp [Ow.le] at k
    | a | own _ | dead => simp [Ow.le] at h
  | dead =>
    intro y zz h k
    cases y <;> simp_all [Ow.le]
theorem Ow.gone_live {x : Ow} : x.gone = x.live := by
  induction x <;> simp_all [Ow.gone, Ow.live]
theorem Ow.le_z {x : Ow} (h : x.live = true) : x.le .z = true := by
  cases x <;> simp_all [Ow.le, Ow.live]
theorem Ow.le_mk2 {x y u v : Ow} (h : x.le u = true) (k : y.le v = true) : (Ow.two x y).le (Ow.mk2 u v) = true := by
  unfold Ow.mk2
  split
  · simp only [Ow.le, Bool.and_eq_true]
    exact ⟨Ow.le_live h rfl, Ow.le_live k rfl⟩
  · simp [Ow.le, h, k]
theorem Ow.join_le {x : Ow} : ∀ {y zz : Ow}, x.join y = some zz → x.le zz = true ∧ y.le zz = true := by
  induction x with
  | a => intro y zz h; cases h; exact ⟨by cases y <;> rfl, le_refl_a⟩
  | z =>
    intro y zz h
    have h : (if y.gone then some Ow.z else none) = some zz := by cases y <;> exact h
    split at h
    · rename_i hg
      cases h
      exact ⟨rfl, Ow.le_z (by rw [← Ow.gone_live]; exact hg)⟩
    · cases h
  | own x ih =>
    intro y zz h
    cases y with
    | a => cases h; exact ⟨le_refl_a, rfl⟩
    | z =>
      have h : (if (Ow.own x).gone then some Ow.z else none) = some zz := h
      split at h
      · rename_i hg
        cases h
        exact ⟨Ow.le_z (by rw [← Ow.gone_live]; exact hg), rfl⟩
      · cases h
    | own y =>
      obtain ⟨u, hu, rfl⟩ := Option.map_eq_some_iff.1 (show (x.join y).map Ow.own = some zz from h)
      exact ih hu
    | two _ _ | dead => cases h
  | two x1 x2 i1 i2 =>
    intro y zz h
    cases y with
    | a => cases h; exact ⟨le_refl_a, rfl⟩
    | z =>
      have h : (if (Ow.two x1 x2).gone then some Ow.z else none) = some zz := h
      split at h
      · rename_i hg
        cases h
        exact ⟨Ow.le_z (by rw [← Ow.gone_live]; exact hg), rfl⟩
      · cases h
    | two y1 y2 =>
      obtain ⟨u, hu, h⟩ := Option.bind_eq_some_iff.1 (show ((x1.join y1).bind fun u => (x2.join y2).map fun v => Ow.mk2 u v) = some zz from h)
      obtain ⟨v, hv, rfl⟩ := Option.map_eq_some_iff.1 h
      obtain ⟨a1, a2⟩ := i1 hu
      obtain ⟨b1, b2⟩ := i2 hv
      exact ⟨Ow.le_mk2 a1 b1, Ow.le_mk2 a2 b2⟩
    | own _ | dead => cases h
  | dead =>
    intro y zz h
    cases y with
    | a => cases h; exact ⟨rfl, rfl⟩
    | z => cases h
    | own _ | two _ _ | dead => cases h
theorem castT_some {t t' : Ty} {x : t.den} {y : t'.den} (h : (castT x : Option t'.den) = some y) : ∃ e : t = t', y = e ▸ x := by
  unfold castT at h
  split at h
  · rename_i e; exact ⟨e, (Option.some.inj h).symm⟩
  · cases h
theorem gatherE_takes {t : Ty} : ∀ {ps : List (Nat × Operand)} {i : Nat} {s : St} {u : Upds} {acc : List t.den} {o : Ow} {lend : Lend} {V : V} {U : Upds}, gatherE t i ps s u acc o lend = some (V, U) →
    ∃ (Vs : List OM.V) (us : Upds) (ys : List t.den) (o2 : Ow), takes (ps.map fun q => (t, q.2)) s = some (Vs, us) ∧ U = u ++ us ∧ V = ⟨.sl t, .own o2, acc ++ ys, lend ++ Vs.flatMap OM.V.lend, 0⟩ ∧ ys.length = ps.length ∧ o.le o2 = true ∧
      (∀ (k : Nat) (W : OM.V), Vs[k]? = some W → W.o.le o2 = true ∧ ∃ h : W.t = t, ys[k]? = some (h ▸ W.x)) ∧ ps.map (·.1) = List.range' i ps.length := by
  intro ps
  induction ps with
  | nil =>
    intro i s u acc o lend V U h
    cases h
    exact ⟨[], [], [], o, rfl, by simp, by simp, rfl, le_refl_a, fun k W h => by simp at h, rfl⟩
  | cons q ps ih =>
    obtain ⟨j, x⟩ := q
    intro i s u acc o lend V U h
    simp only [gatherE] at h
    split at h
    case isFalse => cases h
    rename_i hij
    obtain rfl := beq_eq.1 hij
    split at h
    case h_2 => cases h
    rename_i t' o' y lend' tg u' ht
    split at h
    case h_2 => cases h
    rename_i y' o1 hy hj
    obtain ⟨Vs, us, ys, o2, h1, rfl, rfl, h4, h5, h6, h7⟩ := ih h
    obtain ⟨e, rfl⟩ := castT_some hy
    obtain ⟨j1, j2⟩ := Ow.join_le hj
    refine ⟨⟨t', o', y, lend', tg⟩ :: Vs, u' ++ us, (e ▸ y) :: ys, o2, ?_, by simp, by simp, by simp [h4], Ow.le_trans j1 h5, fun k W hW => ?_, ?_⟩
    · simp only [List.map_cons, takes, ht, h1]
    · cases k with
      | zero => simp at hW; subst hW; exact ⟨Ow.le_trans j2 h5, e, rfl⟩
      | succ k => obtain ⟨z1, z2, z3⟩ := h6 k W (by simpa using hW); exact ⟨z1, z2, by simpa using z3⟩
    · simp [h7, List.range'_succ]
end
end Go.OM

namespace Go.OM
open Go
section
variable {c : Ctx} {g : Ghost} {s : St} {a : Act} {w : World} {P : Program} {E : Env}

/-- Blocks that nobody has are given up: they are only read from here on. -/
theorem RelG.giveup (r : RelG c g s a w) {F : Nat → Prop} (h : Loose c g w F) : RelG c { g with G := fun b => g.G b ∨ F b } s a w := by
  have e : Evo (fun _ => False) g s a w { g with G := fun b => g.G b ∨ F b } s a w :=
    ⟨fun _ _ => rfl, fun _ h => h.elim, fun _ _ => rfl, fun _ _ => rfl, fun _ _ => rfl, fun _ _ _ _ _ => rfl, fun _ h => .inl h, fun _ _ => rfl, fun _ h => h.elim⟩
  exact e.rel r (Grow.refl w) (fun b hb => hb.elim (r.gin b) (fun hf => (h b hf).2.2.2.elim .inl (fun h => .inr (.inl h)))) (fun _ _ => .inl rfl) r.disj (fun l b hl hb => hb.elim (r.ownG l b hl) (fun hf => (h b hf).2.1 l hl)) (fun _ _ h => h.elim) (fun b hb => hb.elim (r.gsz b) (fun hf => (h b hf).2.2.1)) (fun _ _ _ h => h.elim) r.fr r.defs r.size (fun _ h => h.elim) (fun _ h => h.elim) (fun _ h => h.elim)
theorem Sof.giveup {F : Nat → Prop} {ln : Lend} {b : Nat} (h : Sof g ln b ∨ F b) : Sof { g with G := fun b => g.G b ∨ F b } ln b := by
  rcases h with (h | h) | h
  · exact .inl (.inl h)
  · exact .inr h
  · exact .inl (.inr h)
theorem Loose.giveup {F O : Nat → Prop} (h : Loose c g w O) (hd : ∀ b, O b → ¬ F b) : Loose c { g with G := fun b => g.G b ∨ F b } w O :=
  fun b hb => ⟨fun hk => hk.elim (h b hb).1 (hd b hb), (h b hb).2⟩
theorem validL_flat {s : St} {Vs : List V} (h : validL s (Vs.flatMap V.lend) = true) {k : Nat} {W : V} (hW : Vs[k]? = some W) : validL s W.lend = true := by
  simp only [validL, List.all_eq_true] at h ⊢
  exact fun x hx => h x (List.mem_flatMap.2 ⟨W, List.mem_of_getElem? hW, hx⟩)
theorem Sof.flat {Vs : List V} {k : Nat} {W : V} (hW : Vs[k]? = some W) {b : Nat} (h : Sof g W.lend b) : Sof g (Vs.flatMap V.lend) b :=
  h.imp id (fun ⟨x, hx, hb⟩ => ⟨x, List.mem_flatMap.2 ⟨W, List.mem_of_getElem? hW, hx⟩, hb⟩)
/-- Elements of one kind. -/
theorem Took.row {g2 : Ghost} {s2 : St} {l : List (Ty × Operand)} {Vs : List V} {Os : Nat → Nat → Prop} {css : Nat → List Value} (k : Took c g s a w g2 s2 l Vs Os css) {t : Ty} {o2 : Ow} {ys : List t.den}
    (hy : ∀ (k : Nat) (W : V), Vs[k]? = some W → W.o.le o2 = true ∧ ∃ h : W.t = t, ys[k]? = some (h ▸ W.x)) (hlen : ys.length = Vs.length) (hv : validL s2 (Vs.flatMap V.lend) = true) :
    ∃ (F : Nat → Prop) (Os' : Nat → Nat → Prop), RelG c { g2 with G := fun b => g2.G b ∨ F b } s2 a w ∧ (∀ n, Loose c { g2 with G := fun b => g2.G b ∨ F b } w (Os' n)) ∧ (∀ n b, Os' n b → Os n b) ∧ (∀ b, F b → ∃ n, Os n b) ∧
      ∀ n y, ys[n]? = some y → Rp w (Sof { g2 with G := fun b => g2.G b ∨ F b } (Vs.flatMap V.lend)) t o2 y (css n) (Os' n) := by
  have key : ∀ n, ∃ PF : (Nat → Prop) × (Nat → Prop), (∀ b, PF.1 b → Os n b) ∧ (∀ b, PF.2 b → Os n b) ∧ (∀ b, PF.1 b → ¬ PF.2 b) ∧
      ∀ y, ys[n]? = some y → Rp w (fun b => Sof g2 (Vs.flatMap V.lend) b ∨ PF.2 b) t o2 y (css n) PF.1 := by
    intro n
    cases hn : Vs[n]? with
    | none =>
      refine ⟨(fun _ => False, fun _ => False), fun _ h => h.elim, fun _ h => h.elim, fun _ h => h.elim, fun y hy => ?_⟩
      have := (List.getElem?_eq_some_iff.1 hy).1
      rw [List.getElem?_eq_none_iff] at hn
      omega
    | some W =>
      obtain ⟨h1, h2, h3⟩ := hy n W hn
      obtain ⟨_, _, _, _, _, _, _, _, hR⟩ := k.each n W hn
      have hR := hR (validL_flat hv hn)
      obtain ⟨tW, oW, xW, lW, gW⟩ := W
      simp only at h2
      subst h2
      obtain ⟨P1, F, p1, p2, p3, p4⟩ := hR.le h1
      refine ⟨(P1, F), p1, p2, p3, fun y hy' => ?_⟩
      rw [h3] at hy'
      cases hy'
      exact p4.mono (fun b hb => hb.imp (fun h => Sof.flat (W := ⟨tW, oW, xW, lW, gW⟩) hn h) id) (fun _ h => h)
  obtain ⟨f, hf⟩ := Classical.axiomOfChoice key
  have hF : Loose c g2 w (fun b => ∃ n, (f n).2 b) := by
    rintro b ⟨n, hb⟩
    exact k.loose n b ((hf n).2.1 b hb)
  refine ⟨fun b => ∃ n, (f n).2 b, fun n => (f n).1, k.rel.giveup hF, fun n => ?_, fun n => (hf n).1, fun b ⟨n, hb⟩ => ⟨n, (hf n).2.1 b hb⟩, fun n y hy' => ?_⟩
  · refine Loose.giveup (fun b hb => k.loose n b ((hf n).1 b hb)) ?_
    rintro b hb ⟨m, hm⟩
    by_cases hnm : n = m
    · subst hnm; exact (hf n).2.2.1 b hb hm
    · exact k.disj n m b hnm ((hf n).1 b hb) ((hf m).2.1 b hm)
  · refine ((hf n).2.2.2 y hy').mono (fun b hb => Sof.giveup ?_) (fun _ h => h)
    exact hb.imp id (fun h => ⟨n, h⟩)
theorem ok_buildSlice (he : EnvOk P E) {o : Oper} {ty : TypeId} {n : Nat} {ps : Array (Nat × Operand)} (ho : o.op = .buildSlice ty n ps) : OpOk c P E o := by
  intro g s a w U Q r hN h
  simp only [evOp, ho] at h
  split at h
  case h_2 => cases h
  rename_i t ht
  split at h
  case isFalse => cases h
  rename_i hsz
  simp only [Bool.and_eq_true] at hsz
  obtain ⟨hn, hsm⟩ := hsz
  have hn : ps.size = n := beq_eq.1 hn
  have hsm : n * t.size ≤ 16777216 := Nat.le_of_ble_eq_true hsm
  obtain ⟨V, u, d, hx, hd, rfl⟩ := outT_run h
  obtain ⟨Vs, us, ys, o2, h1, h2, rfl, h4, h5, h6, h7⟩ := gatherE_takes hx
  simp only [List.nil_append] at h2
  subst h2
  obtain ⟨g2, Os, css, k⟩ := takes_new r h1
  have hlen : ys.length = Vs.length := by rw [h4, k.len]; simp
  have hyn : ys.length = n := by rw [h4, ← hn]; simp
  obtain ⟨e, u1, u2, u3⟩ := (he.fact ht).und
  have fe := he.fact (tyOf_eq.2 u2)
  obtain ⟨ni, i1, i2, i3, i4, i5⟩ := fe.info
  -- the values
  let vs := ps.toList.map fun q => a.eval q.2
  have hvs : ∀ i v, vs[i]? = some v → ∃ W, Vs[i]? = some W ∧ W.t = t ∧ v = mkV t (css i) ∧ v.cells.toList = css i ∧ (css i).length = t.size := by
    intro i v hv
    have hi : i < Vs.length := by
      have := (List.getElem?_eq_some_iff.1 hv).1
      simp only [vs, List.length_map, Array.length_toList] at this
      omega
    have hW := List.getElem?_eq_getElem hi
    obtain ⟨t', x, z1, z2, z3, z4, _⟩ := k.each i _ hW
    obtain ⟨_, htt, _⟩ := h6 i _ hW
    refine ⟨_, hW, htt, ?_⟩
    have : v = a.eval x := by
      simp only [vs, List.getElem?_map] at hv
      rw [List.getElem?_map] at z1
      cases hp : ps.toList[i]? with
      | none => rw [hp] at hv; simp at hv
      | some q =>
        rw [hp] at hv z1
        simp at hv z1
        rw [← hv, z1.2]
    rw [this, z2, ← htt]
    exact ⟨rfl, z3, z4⟩
  have hvsl : vs.length = n := by simp [vs, hn]
  have hparts : (ps.map fun q => (q.1, a.eval q.2)).toList = (vs.zipIdx 0).map fun x => (x.2, x.1) := by
    apply List.ext_getElem?
    intro i
    simp only [Array.toList_map, List.getElem?_map, List.getElem?_zipIdx, vs]
    cases hp : ps.toList[i]? with
    | none => simp
    | some q =>
      have : (ps.toList.map (·.1))[i]? = some q.1 := by rw [List.getElem?_map, hp]; rfl
      have hi : i < ps.toList.length := (List.getElem?_eq_some_iff.1 hp).1
      rw [h7, List.getElem?_range' hi] at this
      simp at this; simp [this]
  have hsize : ∀ v ∈ vs, v.cells.size = t.size := by
    intro v hv
    obtain ⟨i, hi⟩ := List.getElem?_of_mem hv
    obtain ⟨_, _, _, _, z1, z2⟩ := hvs i v hi
    rw [← Array.length_toList, z1, z2]
  have hfill : ∀ cells : Array Value, cells.size = n * t.size → Instr.fill (fun i => some (i * t.size, t.size)) cells (ps.map fun q => (q.1, a.eval q.2)).toList = some (vs.flatMap fun v => v.cells.toList).toArray := by
    intro cells hc
    rw [hparts]
    exact Great.fill_whole u3 vs cells hsize (by rw [hvsl, hc])
  let cells : Array Value := (vs.flatMap fun v => v.cells.toList).toArray
  have hcl : cells.size = n * t.size := by
    have aux : ∀ (l : List Value), (∀ v ∈ l, v.cells.size = t.size) → (l.flatMap fun v => v.cells.toList).length = l.length * t.size := by
      intro l
      induction l with
      | nil => intro _; simp
      | cons v l ih =>
        intro h
        rw [List.flatMap_cons, List.length_append, ih (fun u hu => h u (List.mem_cons_of_mem _ hu)), Array.length_toList, h v List.mem_cons_self, List.length_cons, Nat.add_mul]
        omega
    show (vs.flatMap fun v => v.cells.toList).toArray.size = _
    rw [List.size_toArray, aux vs hsize, hvsl]
  have hrun : (Instr.buildSlice ty n (ps.map fun q => (q.1, a.eval q.2))).run P w = .ok (.slice (some ⟨w.heap.size, 0, none⟩) n n) (w.alloc (.cells cells e)) := by
    by_cases hz : n * ni.size = 0
    · have h0 : n = 0 := by
        rcases Nat.mul_eq_zero.1 hz with h | h
        · exact h
        · rw [i2] at h; omega
      subst h0
      have hps : ps = #[] := Array.eq_empty_of_size_eq_zero hn
      subst hps
      have hc : cells = #[] := by simp [cells, vs]
      rw [hc]
      simp only [Instr.buildSlice, Sem.run_bind, run_underlying u1, Result.andThen_ok, sizeOf, typeInfo, Sem.run_pure]
      simp [i1, Instr.fill, newRow, Array.range_zero']
    · exact run_buildSlice w ty e n _ cells ni _ u1 i1 i5 (by rw [i2]; omega) hz (by rw [i2]; exact hfill _ (by simp))
  refine wp_value (v := .slice (some ⟨w.heap.size, 0, none⟩) n n) (w' := w.alloc (.cells cells e)) (by rw [execOp]; simp only [ho]; rw [Sem.run_bind, hrun]; rfl) ?_
  rw [upds_append]
  by_cases hv : validL (upds s u) (Vs.flatMap OM.V.lend) = true
  · obtain ⟨F, Os', r3, q1, q2, q2', q3⟩ := k.row h6 hlen hv
    have r4 := r3.alloc (.cells cells e)
    refine put_rel r4 (Same.refl _) hd (hN d hd) (Oc := fun b => b = w.heap.size ∨ ∃ i, Os' i b) ⟨⟨?_, trivial⟩, fun _ => ⟨[.slice (some ⟨w.heap.size, 0, none⟩) (List.length ys) n], ?_, ?_, by simp, trivial⟩⟩ ?_
    · intro x hx
      obtain ⟨W, hW, hx⟩ := List.mem_flatMap.1 (by simpa using hx)
      obtain ⟨i, hi⟩ := List.getElem?_of_mem hW
      obtain ⟨_, _, _, _, _, _, z, _⟩ := k.each i W hi
      exact z x hx
    · show Value.slice _ _ _ = Value.slice _ _ _
      rw [hyn]
    · simp only [List.nil_append]
      refine new_row (w := w) (Os := Os') (heap_new w _) (fun o _ h => by omega) (fun b hb hs => ?_) (fun b hs => ?_) (by omega) (by rw [hcl]; exact Nat.le_refl _) (fun i y hy => ?_) (fun i j b hne hi hj => k.disj i j b hne (q2 _ _ hi) (q2 _ _ hj))
      · refine RowKit.Below.heap_alloc w _ b ?_
        rcases hs with (hs | ⟨x, hx, hs⟩) | ⟨i, hs⟩
        · exact r3.gsz b hs
        · exact (r3.own _ b hs).1
        · exact (q1 i b hs).2.2.1
      · have : b < w.heap.size := by
          rcases hs with (hs | ⟨x, hx, hs⟩) | ⟨i, hs⟩
          · exact r3.gsz b hs
          · exact (r3.own _ b hs).1
          · exact (q1 i b hs).2.2.1
        omega
      · refine ⟨css i, fun j v hv => ?_, q3 i y hy⟩
        have hi := (List.getElem?_eq_some_iff.1 hy).1
        have hvi : vs[i]? = some (vs[i]'(by omega)) := List.getElem?_eq_getElem _
        obtain ⟨W, z1, z2, z3, z4, z5⟩ := hvs i _ hvi
        have hj : j < t.size := by have := (List.getElem?_eq_some_iff.1 hv).1; omega
        show (vs.flatMap fun v => v.cells.toList).toArray[i * t.size + j]? = some v
        rw [List.getElem?_toArray, Great.flat_get u3 vs hsize]
        have e1 : (i * t.size + j) / t.size = i := by rw [Nat.mul_comm, Nat.mul_add_div u3, Nat.div_eq_of_lt hj, Nat.add_zero]
        have e2 : (i * t.size + j) % t.size = j := by rw [Nat.mul_comm, Nat.mul_add_mod, Nat.mod_eq_of_lt hj]
        rw [e1, e2, hvi, Option.bind_some, ← Array.getElem?_toList, z4]; exact hv
    · rintro b (rfl | ⟨i, hb⟩)
      · obtain ⟨z1, z2, z3⟩ := Fr.fresh r3 (Nat.le_refl w.heap.size)
        exact ⟨z1, z2, by simp, z3⟩
      · exact (q1 i).grow (by simp) b hb
  · have r4 := k.rel.alloc (.cells cells e)
    refine put_rel r4 (Same.refl _) hd (hN d hd) (Oc := fun _ => False) ⟨⟨?_, trivial⟩, fun hv' => absurd (by simpa using hv') hv⟩ Loose.none
    intro x hx
    obtain ⟨W, hW, hx⟩ := List.mem_flatMap.1 (by simpa using hx)
    obtain ⟨i, hi⟩ := List.getElem?_of_mem hW
    obtain ⟨_, _, _, _, _, _, z, _⟩ := k.each i W hi
    exact z x hx
end
end Go.OM

namespace Go.OM
open Go

def foldF : List (Nat × V) → V → Option V
  | [], acc => some acc
  | (j, v) :: r, ⟨t, o, acc, lend, _⟩ => match setP t acc (fpath j) v.t v.x, setO o (fpath j) v.o with
    | some acc, some o => foldF r ⟨t, o, acc, lend ++ v.lend, 0⟩
    | _, _ => none
def foldC (t : Ty) : List (Nat × List Value) → List Value → List Value
  | [], cs => cs
  | (j, d) :: r, cs => foldC t r (replC t cs (fpath j) d)
theorem setP_getT : ∀ {p : Path} {t t' : Ty} {x xn : t.den} {y : t'.den}, setP t x p t' y = some xn → getT t p = some t' := by
  intro p
  induction p with
  | nil => intro t t' x xn y h
           obtain ⟨e, _⟩ := setP_nil_some h
           subst e; cases t' <;> rfl
  | cons s p ih =>
    intro t t' x xn y h
    cases s <;> cases t <;> simp only [setP] at h <;> first | (cases h; done) | skip
    · obtain ⟨e, he, _⟩ := Option.map_eq_some_iff.1 h; exact ih he
    · obtain ⟨e, he, _⟩ := Option.map_eq_some_iff.1 h; exact ih he
    · rename_i i t
      obtain ⟨e, he, _⟩ := Option.map_eq_some_iff.1 (show (setP t _ p t' y).map (fun e => List.set x _ e) = some xn from h); exact ih he
theorem gatherF_takes : ∀ {ps : List (Nat × Operand)} {s : St} {u : Upds} {A V : V} {U : Upds}, gatherF ps s u A = some (V, U) →
    ∃ (l : List (Ty × Operand)) (Vs : List OM.V) (us : Upds), takes l s = some (Vs, us) ∧ U = u ++ us ∧ l.map (·.2) = ps.map (·.2) ∧ foldF ((ps.map (·.1)).zip Vs) A = some V := by
  intro ps
  induction ps with
  | nil => intro s u A V U h; cases h; exact ⟨[], [], [], rfl, by simp, rfl, rfl⟩
  | cons q ps ih =>
    obtain ⟨j, x⟩ := q
    intro s u A V U h
    obtain ⟨t, o, acc, lend, tg⟩ := A
    simp only [gatherF] at h
    split at h
    case h_2 => cases h
    rename_i tj _ hg
    split at h
    case h_2 => cases h
    rename_i t' o' y lend' tg' u' ht
    split at h
    case h_2 => cases h
    rename_i acc' o1 h1 h2
    obtain ⟨l, Vs, us, k1, rfl, k3, k4⟩ := ih h
    refine ⟨(tj, x) :: l, ⟨t', o', y, lend', tg'⟩ :: Vs, u' ++ us, ?_, by simp, by simp [k3], ?_⟩
    · simp only [takes, ht, k1]
    · simp only [List.map_cons, List.zip_cons_cons, foldF, h1, h2]; exact k4
theorem foldF_t : ∀ {l : List (Nat × V)} {A V : V}, foldF l A = some V → V.t = A.t ∧ V.lend = A.lend ++ l.flatMap (·.2.lend) ∧ (l ≠ [] → V.tag = 0) ∧ (l = [] → V = A) ∧ ∀ q ∈ l, getT A.t (fpath q.1) = some q.2.t := by
  intro l
  induction l with
  | nil => intro A V h; cases h; exact ⟨rfl, by simp, by simp, fun _ => rfl, by simp⟩
  | cons q l ih =>
    obtain ⟨j, v⟩ := q
    intro A V h
    obtain ⟨t, o, acc, lend, tg⟩ := A
    simp only [foldF] at h
    split at h
    case h_2 => cases h
    rename_i acc' o1 h1 h2
    obtain ⟨k1, k2, k3, k4, k5⟩ := ih h
    refine ⟨k1, by rw [k2]; simp, fun _ => ?_, by simp, fun q hq => ?_⟩
    · by_cases hl : l = []
      · rw [k4 hl]
      · exact k3 hl
    · rcases List.mem_cons.1 hq with rfl | hq
      · exact setP_getT h1
      · exact k5 q hq
theorem foff_le : ∀ {p : Path} {t t' : Ty}, p.flat = true → getT t p = some t' → foff t p + t'.size ≤ t.size := by
  intro p
  induction p with
  | nil => intro t t' _ h
           have : t = t' := by cases t <;> exact Option.some.inj h
           subst this
           have : foff t [] = 0 := by cases t <;> rfl
           omega
  | cons s p ih =>
    intro t t' hf h
    cases s <;> cases t <;> simp only [getT] at h <;> first | (cases h; done) | skip
    · have := ih (by simpa [Path.flat] using hf) h; simp only [foff, Ty.size]; omega
    · have := ih (by simpa [Path.flat] using hf) h; simp only [foff, Ty.size]; omega
    · simp [Path.flat] at hf
theorem replC_flat : ∀ {p : Path} {t t' : Ty} {cs d : List Value}, p.flat = true → getT t p = some t' → cs.length = t.size → d.length = t'.size →
    replC t cs p d = cs.take (foff t p) ++ d ++ cs.drop (foff t p + d.length) := by
  intro p
  induction p with
  | nil => intro t t' cs d _ h hl hd
           have : t = t' := by cases t <;> exact Option.some.inj h
           subst this
           have e : foff t [] = 0 := by cases t <;> rfl
           rw [replC_nil, e, List.take_zero, Nat.zero_add, List.drop_eq_nil_of_le (by omega)]
           simp
  | cons s p ih =>
    intro t t' cs d hf h hl hd
    cases s <;> cases t <;> simp only [getT] at h <;> first | (cases h; done) | skip
    · rename_i a g
      simp only [Ty.size] at hl
      have hf' : Path.flat p = true := by simpa [Path.flat] using hf
      have hle := foff_le hf' h
      simp only [replC, foff]
      rw [ih hf' h (by simp; omega) hd]
      have e1 : (cs.take a.size).take (foff a p) = cs.take (foff a p) := by rw [List.take_take]; congr 1; omega
      have e2 : (cs.take a.size).drop (foff a p + d.length) ++ cs.drop a.size = cs.drop (foff a p + d.length) := by
        rw [List.drop_take]
        have : cs.drop a.size = (cs.drop (foff a p + d.length)).drop (a.size - (foff a p + d.length)) := by rw [List.drop_drop]; congr 1; omega
        rw [this, List.take_append_drop]
      rw [e1, List.append_assoc, e2]
    · rename_i a g
      simp only [Ty.size] at hl
      have hf' : Path.flat p = true := by simpa [Path.flat] using hf
      simp only [replC, foff]
      rw [ih hf' h (by simp; omega) hd]
      have e1 : cs.take (a.size + foff g p) = cs.take a.size ++ (cs.drop a.size).take (foff g p) := by rw [List.take_add]
      rw [e1, List.drop_drop]
      simp [List.append_assoc, Nat.add_assoc]
    · simp [Path.flat] at hf
/-- A part's cells put in one by one. -/
theorem fold_repl {t t' : Ty} {p : Path} (hf : p.flat = true) (h : getT t p = some t') {cells : Array Value} {v : Value} {d : List Value} (hc : cells.size = t.size) (hv : v.cells.toList = d) (hd : d.length = t'.size) :
    (v.cells.zipIdx.foldl (fun cs (c, j) => cs.setIfInBounds (foff t p + j) c) cells).toList = replC t cells.toList p d := by
  have e : v.cells.zipIdx.foldl (fun cs (c, j) => cs.setIfInBounds (foff t p + j) c) cells = (d.zipIdx 0).foldl (fun cs (x : Value × Nat) => cs.setIfInBounds (foff t p + x.2) x.1) cells := by
    rw [← Array.foldl_toList]
    congr 1
    rw [Array.toList_zipIdx, hv]
  have hle := foff_le hf h
  obtain ⟨g1, g2⟩ := Great.foldl_set (foff t p) d 0 cells
  rw [e, replC_flat hf h (by simpa using hc) hd]
  apply List.ext_getElem?
  intro k
  rw [Array.getElem?_toList, g2 k]
  by_cases h1 : foff t p ≤ k
  · by_cases h2 : k < foff t p + d.length
    · rw [if_pos ⟨by omega, by omega, by omega⟩, List.getElem?_append_left (by simp; omega), List.getElem?_append_right (by simp; omega)]
      simp only [List.length_take, Array.length_toList]
      congr 1; omega
    · rw [if_neg (by omega), List.getElem?_append_right (by simp; omega), List.getElem?_drop, Array.getElem?_toList]
      congr 1
      simp only [List.length_append, List.length_take, Array.length_toList]; omega
  · rw [if_neg (by omega), List.append_assoc, List.getElem?_append_left (by simp; omega), List.getElem?_take_of_lt (by omega), Array.getElem?_toList]
theorem fill_foldC {t : Ty} {place : Nat → Option (Nat × Nat)} : ∀ {l : List (Nat × Value × List Value)} {cells : Array Value}, cells.size = t.size →
    (∀ q ∈ l, ∃ t', getT t (fpath q.1) = some t' ∧ place q.1 = some (foff t (fpath q.1), t'.size) ∧ q.2.1.cells.toList = q.2.2 ∧ q.2.2.length = t'.size) →
    ∃ r, Instr.fill place cells (l.map fun q => (q.1, q.2.1)) = some r ∧ r.toList = foldC t (l.map fun q => (q.1, q.2.2)) cells.toList := by
  intro l
  induction l with
  | nil => intro cells _ _; exact ⟨cells, rfl, rfl⟩
  | cons q l ih =>
    obtain ⟨j, v, d⟩ := q
    intro cells hc hq
    obtain ⟨t', h1, h2, h3, h4⟩ := hq _ List.mem_cons_self
    simp only at h1 h2 h3 h4
    have hvs : v.cells.size = t'.size := by rw [← Array.length_toList, h3, h4]
    have hle := foff_le (fpath_flat j) h1
    have hfr := fold_repl (fpath_flat j) h1 hc h3 h4
    have hsz : (v.cells.zipIdx.foldl (fun cs (c, k) => cs.setIfInBounds (foff t (fpath j) + k) c) cells).size = t.size := by
      rw [← Array.length_toList, hfr, replC_flat (fpath_flat j) h1 (by simpa using hc) h4]
      simp
      omega
    obtain ⟨r, hr, hl⟩ := ih hsz (fun q hq' => hq q (List.mem_cons_of_mem _ hq'))
    refine ⟨r, ?_, ?_⟩
    · simp only [List.map_cons, Instr.fill, h2]
      rw [if_neg (by simp [hvs]; omega)]
      exact hr
    · rw [hl, hfr]; rfl
section
variable {c : Ctx} {g : Ghost} {s : St} {a : Act} {w : World} {P : Program} {E : Env}
/-- The parts set one by one: what the struct is. -/
theorem foldF_rp {S : Nat → Prop} {Os : Nat → Nat → Prop} {css : Nat → List Value} : ∀ {l : List (Nat × V)} {k : Nat} {A V : V} {cs : List Value} {OA : Nat → Prop}, foldF l A = some V → Rp w S A.t A.o A.x cs OA →
    (∀ b, S b → ¬ OA b) → (∀ n b, Os n b → ¬ S b) → (∀ i j b, i ≠ j → Os i b → ¬ Os j b) → (∀ n b, k ≤ n → Os n b → ¬ OA b) →
    (∀ n q, l[n]? = some q → Rp w S q.2.t q.2.o q.2.x (css (k + n)) (Os (k + n))) →
    ∃ O', (∀ b, O' b → OA b ∨ ∃ n, Os n b) ∧ Rp w S V.t V.o V.x (foldC A.t ((l.zipIdx k).map fun q => (q.1.1, css q.2)) cs) O' := by
  intro l
  induction l with
  | nil => intro k A V cs OA h hR _ _ _ _ _; cases h; exact ⟨OA, fun _ h => .inl h, hR⟩
  | cons q l ih =>
    obtain ⟨j, v⟩ := q
    intro k A V cs OA h hR hSO hOS hdis hOA hel
    obtain ⟨t, o, acc, lend, tg⟩ := A
    simp only [foldF] at h
    split at h
    case h_2 => cases h
    rename_i acc' o1 h1 h2
    have hT := setP_getT h1
    have hn : NavC w (fun _ => False) t cs (fpath j) _ := navC_flatT (fpath_flat j) hT hR.len
    have hv := hel 0 _ rfl
    simp only [Nat.add_zero] at hv
    have hd : ((cs.drop (foff t (fpath j))).take v.t.size).length = (css k).length := by
      rw [hv.len]
      have := foff_le (fpath_flat j) hT
      have := hR.len
      simp only at this
      simp; omega
    obtain ⟨Oi, i1, i2, i3, i4⟩ := Rp.set (w2 := w) (S2 := S) (d := css k) (fun _ h => h) hR hSO hn h1 h2
    have hall := i4 none (Os k) ⟨fun _ _ _ _ => rfl, fun hf => by rw [fpath_flat] at hf; cases hf⟩ hv hd (fun b hb ho => (hOA k b (Nat.le_refl _) hb ho).elim)
    obtain ⟨O', z1, z2⟩ := ih (k := k + 1) (OA := fun b => (OA b ∧ ¬ Oi b) ∨ Os k b) h hall
      (fun b hb ho => ho.elim (fun h => hSO b hb h.1) (fun h => hOS k b h hb)) hOS hdis
      (fun n b hn hb ho => ho.elim (fun h => hOA n b (by omega) hb h.1) (fun h => hdis n k b (by omega) hb h))
      (fun n q hq => by have := hel (n + 1) q (by simpa using hq); rwa [show k + (n + 1) = k + 1 + n by omega] at this)
    refine ⟨O', fun b hb => ?_, ?_⟩
    · rcases z1 b hb with (h | h) | h
      · exact .inl h.1
      · exact .inr ⟨k, h⟩
      · exact .inr h
    · exact z2
theorem places_ok (he : EnvOk P E) : ∀ {fs : List Field} {t : Ty} {off : Nat}, fieldsOk E.tys fs t off = true →
    ∃ pl, fs.mapM (fun f => (P.info? f.type).map fun i => (f.offset, i.size)) = some pl ∧ ∀ j t', getT t (fpath j) = some t' → pl[j]? = some (off + foff t (fpath j), t'.size) := by
  intro fs
  induction fs with
  | nil =>
    intro t off h
    cases t <;> simp [fieldsOk] at h
    exact ⟨[], rfl, fun j t' hj => by cases j <;> simp [fpath, getT] at hj⟩
  | cons f fs ih =>
    intro t off h
    cases t <;> simp [fieldsOk] at h
    rename_i a b
    obtain ⟨⟨⟨h1, h2⟩, h3⟩, h4⟩ := h
    obtain ⟨pl, k1, k2⟩ := ih h4
    obtain ⟨ni, i1, i2, _⟩ := (he.fact (tyOf_eq.2 h1)).info
    refine ⟨(f.offset, a.size) :: pl, ?_, fun j t' hj => ?_⟩
    · simp [List.mapM_cons, i1, k1, i2]
    · cases j with
      | zero =>
        have e : a = t' := by
          have : getT a [] = some t' := hj
          cases a <;> exact Option.some.inj this
        subst e
        have hb : foff (a.pair b) (fpath 0) = 0 := by show foff a [] = 0; cases a <;> rfl
        rw [hb]; simp [h2]
      | succ j =>
        have := k2 j t' hj
        rw [List.getElem?_cons_succ, this]
        show _ = some (off + (a.size + foff b (fpath j)), _)
        rw [Nat.add_assoc]
theorem ok_build (he : EnvOk P E) {o : Oper} {ty : TypeId} {ps : Array (Nat × Operand)} (ho : o.op = .build ty ps) : OpOk c P E o := by
  intro g s a w U Q r hN h
  simp only [evOp, ho] at h
  split at h
  case h_2 => cases h
  rename_i t ht
  split at h
  case isFalse => cases h
  rename_i hag
  obtain ⟨V, u, d, hx, hd, rfl⟩ := outT_run h
  obtain ⟨l, Vs, us, h1, h2, h3, h4⟩ := gatherF_takes hx
  simp only [List.nil_append] at h2
  subst h2
  obtain ⟨g2, Os, css, k⟩ := takes_new r h1
  obtain ⟨f1, f2, f3, f4, f5⟩ := foldF_t h4
  simp only at f1 f2
  have f := he.fact ht
  have hfs : ∃ fs, P.underlying ty = some (.struct fs) ∧ fieldsOk E.tys fs.toList t 0 = true := by
    have hu := f.und
    cases t <;> simp [Ty.agg] at hag <;> exact hu
  obtain ⟨fs, u1, u2⟩ := hfs
  obtain ⟨pl, p1, p2⟩ := places_ok he u2
  obtain ⟨ni, i1, i2, i3, i4, i5⟩ := f.info
  have hzc : (mkV t (zc t)).cells = (zc t).toArray := arr_eq (mkV_cells (t := t) zc_len zc_one)
  have hln : Vs.length = ps.toList.length := by
    have := congrArg List.length h3
    simp only [List.length_map] at this
    rw [k.len, this]
  -- what is known of each part
  have hpart : ∀ n q, ps.toList[n]? = some q → ∃ W, Vs[n]? = some W ∧ getT t (fpath q.1) = some W.t ∧ a.eval q.2 = mkV W.t (css n) ∧ (mkV W.t (css n)).cells.toList = css n ∧ (css n).length = W.t.size ∧ (∀ e ∈ W.lend, e.2 ≤ (upds s u e.1).v) ∧ (validL (upds s u) W.lend = true → Rp w (Sof g2 W.lend) W.t W.o W.x (css n) (Os n)) := by
    intro n q hq
    have hi : n < Vs.length := by have := (List.getElem?_eq_some_iff.1 hq).1; omega
    have hW := List.getElem?_eq_getElem hi
    obtain ⟨t', x, z1, z2, z3, z4, z5, z6, z7⟩ := k.each n _ hW
    have hx' : q.2 = x := by
      have := congrArg (fun L => L[n]?) h3
      simp only [List.getElem?_map, z1, hq, Option.map_some, Option.some.injEq] at this
      exact this.symm
    have hmem : (q.1, Vs[n]) ∈ (ps.toList.map (·.1)).zip Vs := by
      refine List.mem_of_getElem? (i := n) ?_
      rw [List.getElem?_zip_eq_some]
      exact ⟨by rw [List.getElem?_map, hq]; rfl, hW⟩
    refine ⟨_, hW, f5 _ hmem, by rw [hx']; exact z2, z3, z4, z5, z7⟩
  have hfill := fill_foldC (t := t) (place := fun i => pl.toArray[i]?) (l := ps.toList.zipIdx.map fun q => (q.1.1, a.eval q.1.2, css q.2)) (cells := (zc t).toArray) (by simp [zc_len]) (by
    intro q hq
    obtain ⟨⟨q, n⟩, hqn, rfl⟩ := List.mem_map.1 hq
    obtain ⟨W, z1, z2, z3, z4, z5, _⟩ := hpart n q (by simpa using List.mem_zipIdx_iff_getElem?.1 hqn)
    refine ⟨W.t, z2, by have := p2 _ _ z2; simp at this; simpa using this, by simp only [z3]; exact z4, z5⟩)
  obtain ⟨cells, c1, c2⟩ := hfill
  have hl1 : (ps.toList.zipIdx.map fun q => (q.1.1, a.eval q.1.2, css q.2)).map (fun q => (q.1, q.2.1)) = (ps.map fun q => (q.1, a.eval q.2)).toList := by
    rw [List.map_map, Array.toList_map]
    apply List.ext_getElem?
    intro n
    simp only [List.getElem?_map, List.getElem?_zipIdx]
    cases ps.toList[n]? <;> rfl
  have hl2 : (ps.toList.zipIdx.map fun q => (q.1.1, a.eval q.1.2, css q.2)).map (fun q => (q.1, q.2.2)) = (((ps.toList.map (·.1)).zip Vs).zipIdx 0).map fun q => (q.1.1, css q.2) := by
    rw [List.map_map]
    apply List.ext_getElem?
    intro n
    simp only [List.getElem?_map, List.getElem?_zipIdx]
    cases hq : ps.toList[n]? with
    | none =>
      have : ((ps.toList.map (·.1)).zip Vs)[n]? = none := by
        rw [List.getElem?_eq_none_iff] at hq ⊢
        simp; omega
      rw [this]; rfl
    | some q =>
      obtain ⟨W, z1, _⟩ := hpart n q hq
      have : ((ps.toList.map (·.1)).zip Vs)[n]? = some (q.1, W) := by
        rw [List.getElem?_zip_eq_some]
        exact ⟨by rw [List.getElem?_map, hq]; rfl, z1⟩
      rw [this]; simp
  rw [hl1] at c1
  rw [hl2] at c2
  have hb : P.built ty (ps.map fun q => (q.1, a.eval q.2)).toList = some cells := by
    unfold Program.built
    simp only [i1, u1, i5, p1, hzc]
    exact c1
  refine wp_value (v := .agg cells) (w' := w) (by rw [execOp]; simp only [ho]; rw [Sem.run_bind, run_build w ty _ cells hb]; rfl) ?_
  rw [upds_append]
  have hfm : V.lend = Vs.flatMap OM.V.lend := by
    rw [f2, List.nil_append]
    have : ∀ (x : List Nat) (Vs : List OM.V), Vs.length = x.length → (x.zip Vs).flatMap (fun q => q.2.lend) = Vs.flatMap OM.V.lend := by
      intro x
      induction x with
      | nil => intro Vs h; cases Vs <;> simp_all
      | cons j x ih => intro Vs h; cases Vs <;> simp_all
    exact this _ _ (by simpa using hln)
  have hF : Fut (upds s u) (.val V none) := by
    refine ⟨fun x hx => ?_, trivial⟩
    rw [hfm] at hx
    obtain ⟨W, hW, hx⟩ := List.mem_flatMap.1 hx
    obtain ⟨i, hi⟩ := List.getElem?_of_mem hW
    obtain ⟨_, _, _, _, _, _, z, _⟩ := k.each i W hi
    exact z x hx
  by_cases hv : validL (upds s u) V.lend = true
  · have hS : ∀ n b, Os n b → ¬ Sof g2 V.lend b := fun n b hb hs => by
      obtain ⟨y1, y2, _⟩ := k.loose n b hb
      rcases hs with hs | ⟨e, _, hs⟩
      · exact y1 hs
      · exact y2 _ hs
    obtain ⟨O', z1, z2⟩ := foldF_rp (w := w) (S := Sof g2 V.lend) (Os := Os) (css := css) (k := 0) (OA := fun _ => False) h4 (Rp.zero f.plain) (fun _ _ h => h) hS k.disj (fun _ _ _ _ h => h) (fun n q hq => by
      rw [List.getElem?_zip_eq_some] at hq
      have hq1 : ∃ p, ps.toList[n]? = some p := by
        rw [List.getElem?_map] at hq
        obtain ⟨p, hp, _⟩ := Option.map_eq_some_iff.1 hq.1
        exact ⟨p, hp⟩
      obtain ⟨p, hp⟩ := hq1
      obtain ⟨W, y1, y2, y3, y4, y5, y6, y7⟩ := hpart n p hp
      rw [hq.2] at y1
      cases y1
      rw [Nat.zero_add]
      refine (y7 (validL_flat (hfm ▸ hv) hq.2)).mono (fun b hb => ?_) (fun _ h => h)
      rw [hfm]; exact Sof.flat hq.2 hb)
    have htag : V.tag = 0 := by
      by_cases hnil : (ps.toList.map (·.1)).zip Vs = []
      · rw [f4 hnil]
      · exact f3 hnil
    refine put_rel k.rel (Same.refl w) hd (hN d hd) (Oc := O') ⟨hF, fun _ => ⟨_, ?_, z2, fun h => absurd htag h, trivial⟩⟩ (fun b hb => ?_)
    · rw [← c2, f1]
      unfold mkV; rw [if_pos hag]
    · rcases z1 b hb with h | ⟨n, h⟩
      · exact h.elim
      · exact k.loose n b h
  · exact put_rel k.rel (Same.refl w) hd (hN d hd) (Oc := fun _ => False) ⟨hF, fun hv' => absurd hv' hv⟩ Loose.none
end
end Go.OM

namespace Go.OM
open Go
section
variable {c : Ctx} {g : Ghost} {s : St} {a : Act} {w : World} {P : Program} {E : Env}

/-- Elements of several kinds are brought to one: what is given up for it is only read from here on. -/
theorem elems_le (r : RelG c g s a w) {ln : Lend} {t : Ty} {o : Ow} {zs : List t.den} {ci : Nat → List Value} {Os : Nat → Nat → Prop} (hl : ∀ i, Loose c g w (Os i)) (hd : ∀ i j b, i ≠ j → Os i b → ¬ Os j b)
    (h : ∀ i z, zs[i]? = some z → ∃ oi, oi.le o = true ∧ Rp w (Sof g ln) t oi z (ci i) (Os i)) :
    ∃ (F : Nat → Prop) (Os' : Nat → Nat → Prop), RelG c { g with G := fun b => g.G b ∨ F b } s a w ∧ (∀ i, Loose c { g with G := fun b => g.G b ∨ F b } w (Os' i)) ∧ (∀ i b, Os' i b → Os i b) ∧ (∀ b, F b → ∃ i, Os i b) ∧
      ∀ i z, zs[i]? = some z → Rp w (Sof { g with G := fun b => g.G b ∨ F b } ln) t o z (ci i) (Os' i) := by
  have key : ∀ n, ∃ PF : (Nat → Prop) × (Nat → Prop), (∀ b, PF.1 b → Os n b) ∧ (∀ b, PF.2 b → Os n b) ∧ (∀ b, PF.1 b → ¬ PF.2 b) ∧
      ∀ y, zs[n]? = some y → Rp w (fun b => Sof g ln b ∨ PF.2 b) t o y (ci n) PF.1 := by
    intro n
    cases hn : zs[n]? with
    | none => exact ⟨(fun _ => False, fun _ => False), fun _ h => h.elim, fun _ h => h.elim, fun _ h => h.elim, fun y hy => by cases hy⟩
    | some z =>
      obtain ⟨oi, h1, h2⟩ := h n z hn
      obtain ⟨P1, F, p1, p2, p3, p4⟩ := h2.le h1
      exact ⟨(P1, F), p1, p2, p3, fun y hy' => by cases hy'; exact p4⟩
  obtain ⟨f, hf⟩ := Classical.axiomOfChoice key
  have hF : Loose c g w (fun b => ∃ n, (f n).2 b) := by
    rintro b ⟨n, hb⟩
    exact hl n b ((hf n).2.1 b hb)
  refine ⟨fun b => ∃ n, (f n).2 b, fun n => (f n).1, r.giveup hF, fun n => ?_, fun n => (hf n).1, fun b ⟨n, hb⟩ => ⟨n, (hf n).2.1 b hb⟩, fun n y hy' => ?_⟩
  · refine Loose.giveup (fun b hb => hl n b ((hf n).1 b hb)) ?_
    rintro b hb ⟨m, hm⟩
    by_cases hnm : n = m
    · subst hnm; exact (hf n).2.2.1 b hb hm
    · exact hd n m b hnm ((hf n).1 b hb) ((hf m).2.1 b hm)
  · refine ((hf n).2.2.2 y hy').mono (fun b hb => Sof.giveup ?_) (fun _ h => h)
    exact hb.imp id (fun h => ⟨n, h⟩)
/-- A block that nobody has is written. -/
theorem RelG.poke (r : RelG c g s a w) {w' : World} (hg : Grow w w') {b : Nat} (hb : Loose c g w (· = b)) (hs : ∀ k, k ≠ b → w'.heap[k]? = w.heap[k]?) : RelG c g s a w' := by
  obtain ⟨b1, b2, b3, b4⟩ := hb b rfl
  have e : Evo (fun _ => False) g s a w g s a w' :=
    { st := fun _ _ => rfl, up := fun _ h => h.elim, O := fun _ _ => rfl, Bk := fun _ _ => rfl, val := fun _ _ => rfl, CV := fun _ _ _ _ _ => rfl, G := fun _ h => h
      heap := fun k hk => hs k (fun e => by subst e; exact hk.elim b1 (fun ⟨l, _, h⟩ => b2 l h)), refs := fun _ h => h.elim }
  exact e.rel r hg r.gin (fun _ _ => .inl rfl) r.disj r.ownG (fun _ _ h => h.elim) (fun b h => Nat.lt_of_lt_of_le (r.gsz b h) hg.size) (fun _ _ _ h => h.elim)
    ⟨r.fr.grow.trans hg, r.fr.le, fun k hk hm => by rw [hs k (fun e => by subst e; exact b4.elim (fun h => by omega) hm)]; exact r.fr.old k hk hm⟩ r.defs r.size (fun _ h => h.elim) (fun _ h => h.elim) (fun _ h => h.elim)
/-- The cells of a row of n elements. -/
theorem row_cells {sz b off : Nat} : ∀ {n : Nat}, (∀ i, i < n → ∃ ci : List Value, ci.length = sz ∧ AtC w b (off + i * sz) ci) → ∃ cs : List Value, cs.length = n * sz ∧ AtC w b off cs := by
  intro n
  induction n with
  | zero => intro _; exact ⟨[], by simp, fun i v h => by simp at h⟩
  | succ n ih =>
    intro h
    obtain ⟨cs, h1, h2⟩ := ih (fun i hi => h i (by omega))
    obtain ⟨ci, k1, k2⟩ := h n (Nat.lt_succ_self n)
    exact ⟨cs ++ ci, by rw [List.length_append, h1, k1, Nat.add_mul]; omega, AtC.app h2 (by rw [h1]; exact k2)⟩
theorem row_cell {sz b off n i : Nat} {cs ci : List Value} (h1 : cs.length = n * sz) (h2 : AtC w b off cs) (hi : i < n) (k1 : ci.length = sz) (k2 : AtC w b (off + i * sz) ci) {j : Nat} (hj : j < sz) : cs[i * sz + j]? = ci[j]? := by
  have hlt : i * sz + j < cs.length := by
    have : (i + 1) * sz ≤ n * sz := Nat.mul_le_mul_right _ hi
    rw [Nat.add_mul] at this; omega
  have e1 := h2 (i * sz + j) _ (List.getElem?_eq_getElem hlt)
  have e2 := k2 j _ (List.getElem?_eq_getElem (by omega))
  rw [← Nat.add_assoc] at e1
  rw [e1] at e2
  rw [List.getElem?_eq_getElem hlt, List.getElem?_eq_getElem (by omega : j < ci.length)]
  exact e2
theorem row_one {b off sz n : Nat} {cs : List Value} (h1 : cs.length = n * sz) (h2 : AtC w b off cs) (h : ∀ i, i < n → ∃ ci : List Value, ci.length = sz ∧ AtC w b (off + i * sz) ci ∧ ∀ v ∈ ci, cell1 v = true) : ∀ v ∈ cs, cell1 v = true := by
  intro v hv
  obtain ⟨k, hk⟩ := List.getElem?_of_mem hv
  have hlt := (List.getElem?_eq_some_iff.1 hk).1
  rcases Nat.eq_zero_or_pos sz with rfl | hp
  · rw [h1] at hlt; simp at hlt
  · have hi : k / sz < n := (Nat.div_lt_iff_lt_mul hp).2 (by rw [← h1]; exact hlt)
    obtain ⟨ci, c1, c2, c3⟩ := h _ hi
    have := row_cell h1 h2 hi c1 c2 (Nat.mod_lt k hp)
    rw [Nat.mul_comm, Nat.div_add_mod] at this
    rw [hk] at this
    exact c3 v (List.mem_of_getElem? this.symm)
/-- A row, told by its elements. -/
theorem row_mk {w' : World} {S : Nat → Prop} {t : Ty} {o : Ow} {zs : List t.den} {n off cap : Nat} {ci : Nat → List Value} {Os : Nat → Nat → Prop} (hcap : List.length zs ≤ cap) (hw : Wr w' n (off + cap * t.size))
    (hold : ∀ b, (S b ∨ ∃ i, Os i b) → b ≠ n ∧ w'.heap[b]? = w.heap[b]?) (hel : ∀ i z, zs[i]? = some z → AtC w' n (off + i * t.size) (ci i) ∧ Rp w S t o z (ci i) (Os i)) (hd : ∀ i j b, i ≠ j → Os i b → ¬ Os j b) :
    Rp w' S (.sl t) (.own o) zs [.slice (some ⟨n, off, none⟩) (List.length zs) cap] (fun b => b = n ∨ ∃ i, Os i b) := by
  refine ⟨some ⟨n, off, none⟩, cap, rfl, hcap, rfl, .inl rfl, hw, Os, fun i z hz => ?_, fun i b hb => ⟨.inr ⟨i, hb⟩, (hold b (.inr ⟨i, hb⟩)).1⟩, hd⟩
  obtain ⟨h1, h2⟩ := hel i z hz
  exact ⟨ci i, h1, h2.frame (fun _ h => h) (fun _ h => h) (fun b hb => (hold b (hb.imp id (fun h => ⟨i, h⟩))).2)⟩
/-- What is appended, in the machine: its cells; and each element. -/
theorem appSrc_src {sz : Nat} {ty : TypeId} (he : EnvOk P E) {W : V} {t : Ty} {ys : List t.den} {o2 : Ow} {ln2 : Lend} (h : appSrc t W = some (ys, o2, ln2)) (hlive : W.o.live = true) (hty : tyOf E ty = some W.t) (hsz : sz = t.size) {S Oc : Nat → Prop} {cs : List Value}
    (hR : Rp w S W.t W.o W.x cs Oc) :
    ln2 = W.lend ∧ ∃ (news : List Value) (Os : Nat → Nat → Prop), Src P sz ty (mkV W.t cs) ys.length news w ∧ (∀ i b, Os i b → Oc b) ∧ (∀ i j b, i ≠ j → Os i b → ¬ Os j b) ∧
      ∀ i y, ys[i]? = some y → Rp w S t o2 y ((news.drop (i * t.size)).take t.size) (Os i) := by
  subst hsz
  obtain ⟨tW, oW, xW, lW, gW⟩ := W
  have slcase : ∀ {t' : Ty} {o' : Ow} {xs : List t'.den} {oe : Ow}, Rp w S (.sl t') o' xs cs Oc → tyOf E ty = some (.sl t') → o'.live = true → (o' = .z ∧ oe = .z ∨ o' = .own oe) →
      ∃ (news : List Value) (Os : Nat → Nat → Prop), Src P t'.size ty (mkV (.sl t') cs) xs.length news w ∧ (∀ i b, Os i b → Oc b) ∧ (∀ i j b, i ≠ j → Os i b → ¬ Os j b) ∧ ∀ i y, xs[i]? = some y → Rp w S t' oe y ((news.drop (i * t'.size)).take t'.size) (Os i) := by
    intro t' o' xs oe hR hty hl ho
    obtain ⟨e, u1, u2, u3⟩ := (he.fact hty).und
    have fin : ∀ {b off cap : Nat} {Os : Nat → Nat → Prop}, cs = [.slice (some ⟨b, off, none⟩) xs.length cap] → (∀ i x, xs[i]? = some x → ∃ ci, AtC w b (off + i * t'.size) ci ∧ Rp w S t' oe x ci (Os i)) → (∀ i b, Os i b → Oc b) → (∀ i j b, i ≠ j → Os i b → ¬ Os j b) →
        ∃ (news : List Value) (Os : Nat → Nat → Prop), Src P t'.size ty (mkV (.sl t') cs) xs.length news w ∧ (∀ i b, Os i b → Oc b) ∧ (∀ i j b, i ≠ j → Os i b → ¬ Os j b) ∧ ∀ i y, xs[i]? = some y → Rp w S t' oe y ((news.drop (i * t'.size)).take t'.size) (Os i) := by
      intro b off cap Os hcs hel h1 h2
      have hel' : ∀ i, i < xs.length → ∃ ci : List Value, ci.length = t'.size ∧ AtC w b (off + i * t'.size) ci ∧ ∀ v ∈ ci, cell1 v = true := fun i hi => by
        obtain ⟨ci, q1, q2⟩ := hel i _ (List.getElem?_eq_getElem hi)
        exact ⟨ci, q2.len, q1, q2.one⟩
      obtain ⟨news, n1, n2⟩ := row_cells (n := xs.length) (fun i hi => by obtain ⟨ci, q1, q2, _⟩ := hel' i hi; exact ⟨ci, q1, q2⟩)
      refine ⟨news, Os, ?_, h1, h2, fun i y hy => ?_⟩
      · rw [hcs]
        refine Src.ofSlice w u1 ⟨b, off, none⟩ _ cap news n1 (fun j u hu => by rw [add_none]; exact n2 j u hu) (fun u hu => ?_)
        rw [cell1_one]
        exact row_one n1 n2 hel' u hu
      · obtain ⟨ci, q1, q2⟩ := hel i y hy
        have hi := (List.getElem?_eq_some_iff.1 hy).1
        have : (news.drop (i * t'.size)).take t'.size = ci := by
          apply List.ext_getElem?
          intro j
          by_cases hj : j < t'.size
          · rw [List.getElem?_take_of_lt hj, List.getElem?_drop]
            exact row_cell n1 n2 hi q2.len q1 hj
          · rw [List.getElem?_eq_none (by simp; omega), List.getElem?_eq_none (by rw [q2.len]; omega)]
        rw [this]; exact q2
    rcases ho with ⟨rfl, rfl⟩ | rfl
    · obtain ⟨ad, cap, hcs, hc, hh⟩ := hR
      cases ad with
      | none =>
        have hx : xs = [] := hh
        subst hx
        refine ⟨[], fun _ _ => False, ?_, fun _ _ h => h.elim, fun _ _ _ _ h => h.elim, fun i y hy => by simp at hy⟩
        rw [hcs]; exact Src.ofNil w u1 cap
      | some ad =>
        by_cases hx : xs = []
        · subst hx
          refine ⟨[], fun _ _ => False, ?_, fun _ _ h => h.elim, fun _ _ _ _ h => h.elim, fun i y hy => by simp at hy⟩
          rw [hcs]
          exact Src.ofSlice w u1 ad _ cap [] (by simp) (fun j u hu => by simp at hu) (fun u hu => by simp at hu)
        · obtain ⟨b, off, sp⟩ := ad
          have hlt : 0 < List.length xs := List.length_pos_iff.2 hx
          have q1 := (hh 0 _ (List.getElem?_eq_getElem hlt)).1
          simp only at q1; subst q1
          exact fin (Os := fun _ _ => False) hcs (fun i x hx => (hh i x hx).2.2) (fun _ _ h => h.elim) (fun _ _ _ _ h => h.elim)
    · obtain ⟨ad, cap, hcs, hc, hh⟩ := hR
      cases ad with
      | none =>
        obtain ⟨hx, rfl⟩ := hh
        subst hx
        refine ⟨[], fun _ _ => False, ?_, fun _ _ h => h.elim, fun _ _ _ _ h => h.elim, fun i y hy => by simp at hy⟩
        rw [hcs]; exact Src.ofNil w u1 0
      | some ad =>
        obtain ⟨b, off, sp⟩ := ad
        obtain ⟨q1, q2, q3, Os, q4, q5, q6⟩ := hh
        simp only at q1; subst q1
        exact fin hcs q4 (fun i b h => (q5 i b h).1) q6
  cases tW with
  | sl t' =>
    rcases sl_shape hR hlive with rfl | ⟨oe, rfl⟩
    · simp only [appSrc] at h
      obtain ⟨ys', hy, e⟩ := Option.map_eq_some_iff.1 h
      cases e
      obtain ⟨e, rfl⟩ := castT_some hy
      have e' : t' = t := by injection e
      subst e'
      refine ⟨rfl, ?_⟩
      exact slcase (oe := .z) hR hty hlive (.inl ⟨rfl, rfl⟩)
    · simp only [appSrc] at h
      obtain ⟨ys', hy, e⟩ := Option.map_eq_some_iff.1 h
      cases e
      obtain ⟨e, rfl⟩ := castT_some hy
      have e' : t' = t := by injection e
      subst e'
      refine ⟨rfl, ?_⟩
      exact slcase hR hty hlive (.inr rfl)
  | str =>
    have h : ((castT (t := .sl (.int .u8)) (listOf xW) : Option (Ty.sl t).den).map fun ys => (ys, Ow.z, lW)) = some (ys, o2, ln2) := by cases oW <;> exact h
    obtain ⟨ys', hy, e⟩ := Option.map_eq_some_iff.1 h
    cases e
    obtain ⟨e, rfl⟩ := castT_some hy
    have e' : Ty.int .u8 = t := by injection e
    subst e'
    refine ⟨rfl, byteCells xW, fun _ _ => False, ?_, fun _ _ h => h.elim, fun _ _ _ _ h => h.elim, fun i y hy => ?_⟩
    · have hu := (he.fact hty).und
      rw [hR.str hlive]
      have : List.length (listOf xW) = xW.size := by simp [listOf]
      show Src P 1 ty (.string xW) (List.length (listOf xW)) _ w
      rw [this]
      exact Src.ofString w hu xW
    · have hy : (listOf xW)[i]? = some y := hy
      have hlt := (List.getElem?_eq_some_iff.1 hy).1
      show Rp w S (.int .u8) .z y (List.take 1 (List.drop (i * 1) (byteCells xW))) _
      rw [Nat.mul_one]
      have hb : (byteCells xW)[i]? = some (.int .u8 y) := by
        simp only [listOf, List.getElem?_map] at hy
        simp only [byteCells, List.getElem?_map]
        cases hx : xW.data.toList[i]? with
        | none => rw [hx] at hy; simp at hy
        | some v => rw [hx] at hy; simp at hy ⊢; exact hy
      obtain ⟨hi, he⟩ := List.getElem?_eq_some_iff.1 hb
      rw [List.drop_eq_getElem_cons hi, he]
      rfl
  | _ => cases oW <;> cases h
theorem place_new (r : RelG c g s a w) {x : Operand} {tx : Ty} {l : Loc} {p : Path} (h : placeOf s x = some (tx, l, p)) :
    ∃ cs V org d, (s l).t = .val V org ∧ Cells g a w l cs ∧ cs.length = V.t.size ∧ NavC w (g.O l) V.t cs p d ∧ a.eval x = mkV tx d := by
  unfold placeOf at h
  split at h
  case h_2 => cases h
  rename_i v l' p' ver hp
  cases h
  obtain ⟨n1, n2, n3, n4, _⟩ := peek_new r hp
  obtain ⟨k1, k2, k3, k4⟩ := n4 _ _ rfl
  obtain ⟨cs, m1, m2, m3, m4⟩ := n1.2 k1
  obtain ⟨cs', V', org', q1, q2, q3, q4⟩ := m4 (k4 _ rfl)
  exact ⟨cs', V', org', cs, q1, q2, q3, q4, m1⟩
/-- The new row where there was no room: it is there. -/
theorem own_parts {S O : Nat → Prop} {t : Ty} {o1 : Ow} {xs : List t.den} {d : List Value} (h : Rp w S (.sl t) (.own o1) xs d O) : 
    ∃ ad cap, d = [.slice ad xs.length cap] ∧ xs.length ≤ cap ∧ (ad = none → xs = [] ∧ cap = 0) ∧ ∃ (olds : List Value) (Os : Nat → Nat → Prop), olds.length = xs.length * t.size ∧ (∀ i b, Os i b → O b) ∧ (∀ i j b, i ≠ j → Os i b → ¬ Os j b) ∧
      (∀ i x, xs[i]? = some x → Rp w S t o1 x ((olds.drop (i * t.size)).take t.size) (Os i)) ∧ (∀ v ∈ olds, cell1 v = true) ∧ ∀ b off sp, ad = some ⟨b, off, sp⟩ → sp = none ∧ O b ∧ Wr w b (off + cap * t.size) ∧ AtC w b off olds ∧ ∀ i, ¬ Os i b := by
  obtain ⟨ad, cap, rfl, hc, hh⟩ := h
  refine ⟨ad, cap, rfl, hc, ?_, ?_⟩
  · rintro rfl; exact hh
  cases ad with
  | none =>
    obtain ⟨hx, rfl⟩ := hh
    subst hx
    exact ⟨[], fun _ _ => False, by simp, fun _ _ h => h.elim, fun _ _ _ _ h => h.elim, fun i x hx => by simp at hx, by simp, fun _ _ _ h => by cases h⟩
  | some ad =>
    obtain ⟨b, off, sp⟩ := ad
    obtain ⟨q1, q2, q3, Os, q4, q5, q6⟩ := hh
    simp only at q1; subst q1
    have hel' : ∀ i, i < xs.length → ∃ ci : List Value, ci.length = t.size ∧ AtC w b (off + i * t.size) ci ∧ ∀ v ∈ ci, cell1 v = true := fun i hi => by
      obtain ⟨ci, q1, q2⟩ := q4 i _ (List.getElem?_eq_getElem hi)
      exact ⟨ci, q2.len, q1, q2.one⟩
    obtain ⟨olds, n1, n2⟩ := row_cells (n := xs.length) (fun i hi => by obtain ⟨ci, q1, q2, _⟩ := hel' i hi; exact ⟨ci, q1, q2⟩)
    refine ⟨olds, Os, n1, fun i b h => (q5 i b h).1, q6, fun i x hx => ?_, row_one n1 n2 hel', fun b' off' sp' e => ?_⟩
    · obtain ⟨ci, z1, z2⟩ := q4 i x hx
      have hi := (List.getElem?_eq_some_iff.1 hx).1
      have : (olds.drop (i * t.size)).take t.size = ci := by
        apply List.ext_getElem?
        intro j
        by_cases hj : j < t.size
        · rw [List.getElem?_take_of_lt hj, List.getElem?_drop]
          exact row_cell n1 n2 hi z2.len z1 hj
        · rw [List.getElem?_eq_none (by simp; omega), List.getElem?_eq_none (by rw [z2.len]; omega)]
      rw [this]; exact z2
    · cases e
      exact ⟨rfl, q2, q3, n2, fun i hi => (q5 i _ hi).2 rfl⟩
/-- The three ways of an append: a row whose block is told, in a world that has it; all other blocks are as they were. -/
theorem run_append {ty0 ty1 ty : TypeId} (he : EnvOk P E) {t : Ty} (h0 : tyOf E ty0 = some (.sl t)) {ad : Option Addr} {len cap : Nat} (hc : len ≤ cap) (hnone : ad = none → len = 0 ∧ cap = 0) {olds : List Value} (hol : olds.length = len * t.size)
    (hrow : ∀ b off sp, ad = some ⟨b, off, sp⟩ → sp = none ∧ Wr w b (off + cap * t.size) ∧ AtC w b off olds) {x : Value} {n : Nat} {news : List Value} (hs : Src P t.size ty1 x n news w) (hlim : (len : Int) + n ≤ 1073741824) :
    ∃ w' ad' cap', (Builtin.append_ #[ty0, ty1] ty #[.slice ad len cap, x]).run P w = .ok (.slice ad' (len + n) cap') w' ∧ Grow w w' ∧ len + n ≤ cap' ∧
      ((ad' = none ∧ len + n = 0 ∧ cap' = 0 ∧ w' = w) ∨ ∃ b off, ad' = some ⟨b, off, none⟩ ∧ (ad = some ⟨b, off, none⟩ ∨ b = w.heap.size) ∧ (∀ k, k ≠ b → k < w.heap.size → w'.heap[k]? = w.heap[k]?) ∧ b < w'.heap.size ∧ (ad = some ⟨b, off, none⟩ → ∀ k, k ≠ b → w'.heap[k]? = w.heap[k]?) ∧ (b = w.heap.size → ∀ k, k < w.heap.size → w'.heap[k]? = w.heap[k]?) ∧ Wr w' b (off + cap' * t.size) ∧ AtC w' b off (olds ++ news)) := by
  obtain ⟨e, u1, u2, u3⟩ := (he.fact h0).und
  have fe := he.fact (tyOf_eq.2 u2)
  obtain ⟨ni, i1, i2, i3, i4, i5⟩ := fe.info
  have hzc : (mkV t (zc t)).cells = (zc t).toArray := arr_eq (mkV_cells (t := t) zc_len zc_one)
  by_cases hn : n = 0
  · subst hn
    have hnews : news = [] := by have := hs.newsLen; simpa using this
    subst hnews
    refine ⟨w, ad, cap, ?_, Grow.refl w, by omega, ?_⟩
    · exact run_append_nothing w ty0 ty1 ty e ni u1 i1 ad len cap hc x (by rw [i2]; exact hs)
    · cases ad with
      | none => obtain ⟨h1, h2⟩ := hnone rfl; exact .inl ⟨rfl, by omega, h2, rfl⟩
      | some ad =>
        obtain ⟨b, off, sp⟩ := ad
        obtain ⟨rfl, q1, q2⟩ := hrow b off sp rfl
        have hb : b < w.heap.size := by obtain ⟨_, _, _, h, _⟩ := q1; exact (Array.getElem?_eq_some_iff.1 h).1
        exact .inr ⟨b, off, rfl, .inl rfl, fun _ _ _ => rfl, hb, fun _ _ _ => rfl, fun _ _ _ => rfl, q1, by simpa using q2⟩
  · by_cases hroom : len + n ≤ cap
    · cases had : ad with
      | none => obtain ⟨h1, h2⟩ := hnone had; omega
      | some ad' =>
        obtain ⟨b, off, sp⟩ := ad'
        obtain ⟨rfl, q1, q2⟩ := hrow b off sp had
        have hb : b < w.heap.size := by obtain ⟨_, _, _, h, _⟩ := q1; exact (Array.getElem?_eq_some_iff.1 h).1
        have hnl := hs.newsLen
        have hsome : ∀ j, j < news.length → (w.cell? ⟨b, off + len * t.size + j, none⟩).isSome = true := by
          intro j hj
          obtain ⟨cc, ee, ff, w1, w2, w3⟩ := q1
          have hlt : off + len * t.size + j < cc.size := by
            have : (len + n) * t.size ≤ cap * t.size := Nat.mul_le_mul_right _ hroom
            rw [Nat.add_mul] at this; omega
          simp only [World.cell?, w1]
          simp only [Option.isSome_none, Bool.false_eq_true, if_false]
          rw [Array.getElem?_eq_getElem hlt]; rfl
        have hrun := run_append_room_src (P := P) w ty0 ty1 ty e ni u1 i1 b off len cap x n news (by rw [i2]; exact hs) hroom (by rw [i2]; exact hsome) (by rw [i2]; exact fun j hj => q1.froz (hsome j hj))
        rw [i2] at hrun
        refine ⟨_, _, cap, hrun, Grow.setCells w b _ news, hroom, .inr ⟨b, off, rfl, .inl rfl, fun k hk _ => setCells_other b news _ w k hk, by rw [(setCells_same b news _ w).2.2.2]; exact hb, fun _ k hk => setCells_other b news _ w k hk, fun e => by omega, ?_, ?_⟩⟩
        · exact (RowKeep.setCells w b _ news).2 _ q1
        · refine AtC.app (q2.keep (RowKeep.setCells w b _ news) (.inl (by rw [hol]; exact Nat.le_refl _))) ?_
          rw [hol]
          intro i v hv
          obtain ⟨hi, rfl⟩ := List.getElem?_eq_some_iff.1 hv
          exact World.cell?_setCells_in b news _ w hsome i hi
    · have hg : cap < len + n := by omega
      have hfit : Builtin.nextslicecap (len + n) cap * ni.bytes ≤ 281474976710656 := by
        refine growslice_fits hg ?_
        have : (len + n) * ni.bytes ≤ 1073741824 * 65536 := Nat.mul_le_mul (by omega) i3
        omega
      have hold : (Builtin.firstCells ni.size len (.slice ad len cap)).run P w.drew = .ok olds.toArray w.drew := by
        rw [i2]
        cases had : ad with
        | none =>
          obtain ⟨h1, h2⟩ := hnone had
          have : olds = [] := by subst h1; simpa using hol
          subst this
          exact run_firstCells_none w.drew t.size len len cap
        | some ad' =>
          obtain ⟨b, off, sp⟩ := ad'
          obtain ⟨rfl, q1, q2⟩ := hrow b off sp had
          exact run_firstCells_some w.drew t.size len ⟨b, off, none⟩ len cap olds hol (fun j u hu => by rw [add_none]; exact q2 j u hu)
      have hrun := run_append_grow_src (P := P) w ty0 ty1 ty e ni _ u1 i1 i5 ad len cap olds hold x n news (by rw [i2]; exact hs) hg (by omega) hfit
      have hge := grownCap_ge w (len + n) cap e
      rw [hzc] at hrun
      have hnl := hs.newsLen
      refine ⟨_, _, _, hrun, ?_, hge, .inr ⟨w.heap.size, 0, rfl, .inr rfl, fun k _ hk => ?_, by simp, fun had => ?_, fun _ k hk => ?_, ?_, ?_⟩⟩
      · exact (Grow.drew w).trans (Grow.alloc w.drew _)
      · exact heap_alloc_old w.drew _ hk
      · obtain ⟨_, ⟨_, _, _, h, _⟩, _⟩ := hrow _ _ _ had
        have := (Array.getElem?_eq_some_iff.1 h).1
        omega
      · exact heap_alloc_old w.drew _ hk
      · refine ⟨_, e, (0, 0), heap_alloc_new w.drew _, ?_, fun o _ h => by omega⟩
        simp only [Array.size_append, List.size_toArray, List.length_append, size_zeroCells, hol, hnl, zc_len]
        rw [← Nat.add_mul, ← Nat.add_mul]
        have : len + n + (grownCap w (len + n) cap e - (len + n)) = grownCap w (len + n) cap e := by omega
        rw [this]; omega
      · intro i v hv
        have hx : (w.drew.alloc (.cells ((olds ++ news).toArray ++ Builtin.zeroCells (zc t).toArray (grownCap w (len + n) cap e - (len + n))) e)).heap[w.heap.size]? = _ := heap_alloc_new w.drew _
        simp only [World.cell?, hx]
        simp only [Option.isSome_none, Bool.false_eq_true, if_false, Nat.zero_add]
        have hlt := (List.getElem?_eq_some_iff.1 hv).1
        rw [Array.getElem?_append_left (by simpa using hlt)]
        simpa using hv
end
end Go.OM

