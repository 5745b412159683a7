/- OM: calls, guards and regions in any order. Conditions: none. -/
import Derived.Test.YtngfjichhphjeaaGreatOmB
set_option linter.unusedVariables false
set_option linter.unusedSimpArgs false
namespace Go.OM
open Go
section
variable {c : Ctx} {g : Ghost} {s : St} {a : Act} {w : World} {P : Program} {E : Env}

theorem validL_agree' {s s' : St} {ln : Lend} (h : ∀ e ∈ ln, s' e.1 = s e.1) : validL s' ln = validL s ln := by
  unfold validL
  induction ln with
  | nil => rfl
  | cons e ln ih => rw [List.all_cons, List.all_cons, h e List.mem_cons_self, ih fun x hx => h x (List.mem_cons_of_mem _ hx)]
/-- What is taken out of a place from which it was read. -/
theorem takeP_new (r : RelG c g s a w) {x : Operand} {V : V} {u : Upds} (h : takeP s x = some (V, u)) :
    ∃ g1 Oc, RelG c g1 (upds s u) a w ∧ New c g1 (upds s u) a w (a.eval x) Oc (.val V none) ∧ Loose c g1 w Oc ∧ V.o.live = true ∧ validL (upds s u) V.lend = true := by
  unfold takeP at h
  split at h
  · obtain ⟨g1, Oc, L, h1, h2, _, _, _, _, h3, h4, h5, h6, h7, h8⟩ := take_new r h
    exact ⟨g1, Oc, h1, h3, h4, h7, h8⟩
  · split at h
    case h_2 =>
      obtain ⟨g1, Oc, L, h1, h2, _, _, _, _, h3, h4, h5, h6, h7, h8⟩ := take_new r h
      exact ⟨g1, Oc, h1, h3, h4, h7, h8⟩
    rename_i tx l p hpl
    split at h
    case isFalse => cases h
    rename_i hflat
    split at h
    case h_2 => cases h
    rename_i v t' y o' hat
    split at h
    case h_2 => cases h
    rename_i od hso
    split at h
    case isFalse => cases h
    rename_i hc
    simp only [Bool.and_eq_true, decide_eq_true_eq] at hc
    obtain ⟨⟨htx, hhas⟩, hlive⟩ := hc
    subst htx
    cases h
    obtain ⟨hcont, _, _⟩ := at_some hat
    obtain ⟨g1, Oc, cs, d, r1, e1, a1, a2, a3, a4, a5, a6, a7, a8, a9, a10⟩ := takeAt r hflat hat hso
    obtain ⟨cs', V', org', d', p1, p2, p3, p4, p5⟩ := place_new r hpl
    obtain ⟨⟨org2, ht2⟩, hval⟩ := content_some hcont
    rw [p1] at ht2
    cases ht2
    obtain rfl := p2.uniq a5
    obtain rfl := navC_uniq p4 a7
    obtain ⟨_, _, _, _, _, _, _, f1, f2, _⟩ := content_new r hcont
    have hst : ∀ e ∈ v.lend, upds s [bump s l (.val { v with o := od, tag := 0 } none)] e.1 = s e.1 := fun e he => upd_ne (f2 e he)
    refine ⟨g1, Oc, r1, ⟨⟨fun e he => ?_, trivial⟩, fun _ => ⟨d', p5, ?_, by simp, trivial⟩⟩, a10, hlive, ?_⟩
    · rw [hst e he]; exact f1 e he
    · refine a8.mono (fun b hb => ?_) (fun _ h => h)
      rcases hb with hb | ⟨e, he, hb⟩
      · exact .inl (e1.G b hb)
      · exact .inr ⟨e, he, by rw [e1.O _ (f2 e he)]; exact hb⟩
    · rw [← hval]; exact validL_agree' hst
theorem ok_slice (he : EnvOk P E) {o : Oper} {ty : TypeId} {x : Operand} {lo hi : Option Operand} (ho : o.op = .slice ty x lo hi none) : OpOk c P E o := by
  intro g s a w U Q r hN h
  simp only [evOp, ho] at h
  split at h
  case h_2 => cases h
  rename_i t o1 xs ln tg u hV
  split at h
  case isFalse => cases h
  rename_i hty
  split at h
  case h_2 => cases h
  rename_i l hh hlo hhi
  simp only [Prog.run] at h
  split at h
  case isFalse => cases h
  rename_i hb
  obtain ⟨V, u', d, e, hd, rfl⟩ := outT_run h
  cases e
  have key : ∃ g1 Oc, RelG c g1 (upds s u) a w ∧ New c g1 (upds s u) a w (a.eval x) Oc (.val ⟨.sl t, o1, xs, ln, tg⟩ none) ∧ Loose c g1 w Oc ∧ o1.live = true ∧ validL (upds s u) ln = true := by
    split at hV
    · exact takeP_new r hV
    · obtain ⟨V, hV2, e⟩ := Option.map_eq_some_iff.1 hV
      cases e
      obtain ⟨k1, k2, k3, k4, cs, m1, m2⟩ := peekV_new r hV2
      exact ⟨g, _, r, ⟨⟨k3, trivial⟩, fun _ => ⟨cs, m1, m2, fun h => absurd k4 h, trivial⟩⟩, Loose.none, k2, k1⟩
  obtain ⟨g1, Oc, r1, hn, hl, hlive, hval⟩ := key
  obtain ⟨cs, m1, m2, _, _⟩ := hn.2 hval
  have m2 : Rp w (Sof g1 ln) (.sl t) o1 xs cs Oc := m2
  obtain ⟨ad, cap, rfl, e2⟩ := sl_val m2 hlive
  have hcap : List.length xs ≤ cap := by
    rcases sl_shape m2 hlive with rfl | ⟨oe, rfl⟩ <;> (obtain ⟨_, _, e, hc, _⟩ := m2; simp at e; omega)
  have hlo' : (lo.map a.eval = none ∧ l = 0) ∨ ∃ k, lo.map a.eval = some (.int k l) := by
    rcases bound_run r hlo with ⟨rfl, rfl⟩ | ⟨y, k, rfl, hy⟩
    · exact .inl ⟨rfl, rfl⟩
    · exact .inr ⟨k, by rw [Option.map_some, hy]⟩
  have hhi' : (hi.map a.eval = none ∧ hh = ((List.length xs : Nat) : Int)) ∨ ∃ k, hi.map a.eval = some (.int k hh) := by
    rcases bound_run r hhi with ⟨rfl, rfl⟩ | ⟨y, k, rfl, hy⟩
    · exact .inl ⟨rfl, rfl⟩
    · exact .inr ⟨k, by rw [Option.map_some, hy]⟩
  obtain ⟨b1, b2, b3⟩ := hb
  have hrun := run_sliceAt (w := w) he hty (ad := ad) hlo' hhi' b1 b2 b3 hcap
  have aux : ∀ (l h : Int) (n : Nat), 0 ≤ l → l ≤ h → h ≤ n → l.toNat ≤ h.toNat ∧ h.toNat ≤ n := by omega
  obtain ⟨c1, c2⟩ := aux l hh _ b1 b2 b3
  have hsub := m2.sub hlive c1 c2
  rw [upds_append]
  refine wp_value (by rw [execOp]; simp only [ho, Option.map_none, m1, show mkV (V.t ⟨Ty.sl t, o1, xs, ln, tg⟩) [.slice ad (List.length xs) cap] = .slice ad (List.length xs) cap from rfl]; rw [Sem.run_bind, hrun]; rfl) (put_rel r1 (Same.refl _) hd (hN d hd) (Oc := Oc) ⟨hn.1, fun _ => ⟨_, ?_, hsub, by simp, trivial⟩⟩ hl)
  rfl
theorem upds_cons (s : St) (p : Loc × Cell) (r : Upds) : upds s (p :: r) = upds (upds s [p]) r := by obtain ⟨l, c⟩ := p; rfl
theorem Loose.sub {O1 O2 : Nat → Prop} (h : Loose c g w O1) (hs : ∀ b, O2 b → O1 b) : Loose c g w O2 := fun b hb => h b (hs b hb)
theorem validL_app {s : St} {x y : Lend} (h : validL s (x ++ y) = true) : validL s x = true ∧ validL s y = true := by
  simpa [validL, List.all_append] using h
theorem Sof.left {x y : Lend} {b : Nat} (h : Sof g x b) : Sof g (x ++ y) b := h.imp id (fun ⟨e, he, hb⟩ => ⟨e, List.mem_append_left _ he, hb⟩)
theorem Sof.right {x y : Lend} {b : Nat} (h : Sof g y b) : Sof g (x ++ y) b := h.imp id (fun ⟨e, he, hb⟩ => ⟨e, List.mem_append_right _ he, hb⟩)
theorem Loose.sof {Oc : Nat → Prop} (h : Loose c g w Oc) {ln : Lend} {b : Nat} (hb : Oc b) : ¬ Sof g ln b := fun hs => by
  obtain ⟨h1, h2, _⟩ := h b hb
  exact hs.elim h1 (fun ⟨e, _, he⟩ => h2 _ he)
theorem ok_append (he : EnvOk P E) {o : Oper} {cl : Call} (ho : o.op = .call cl) (hc : cl.callee = .builtin .append) : OpOk c P E o := by
  intro g s a w U Q r hN h
  simp only [evOp, ho, hc] at h
  split at h
  case h_2 => cases h
  rename_i dd hd
  split at h
  case isFalse => cases h
  rename_i hsz
  simp only [Bool.and_eq_true, decide_eq_true_eq] at hsz
  obtain ⟨hsz1, hsz2⟩ := hsz
  unfold evAppend at h
  split at h
  case h_2 => cases h
  rename_i tx l p hpl
  split at h
  case isFalse => cases h
  rename_i hflat
  split at h
  case h_2 => cases h
  rename_i v t xs o1 hat
  split at h
  case h_2 => cases h
  rename_i od hso hdec
  simp only [Bool.and_eq_true, decide_eq_true_eq] at hdec
  obtain ⟨hty0, htx⟩ := hdec
  subst htx
  split at h
  case h_2 => cases h
  rename_i W u2 htk
  split at h
  case h_2 => cases h
  rename_i ys o2 ln2 hsrc hty1
  simp only [decide_eq_true_eq] at hty1
  split at h
  case h_2 => cases h
  rename_i oo hjoin
  simp only [Prog.run] at h
  split at h
  case isFalse => cases h
  rename_i hlim
  obtain rfl := Option.some.inj h
  -- the taken row
  obtain ⟨hcont, _, _⟩ := at_some hat
  obtain ⟨g1, Oc, cs, d, r1, e1, a1, a2, a3, a4, a5, a6, a7, a8, a9, a10⟩ := takeAt r hflat hat hso
  obtain ⟨cs', V', org', d', p1, p2, p3, p4, p5⟩ := place_new r hpl
  obtain ⟨⟨org2, ht2⟩, hval⟩ := content_some hcont
  rw [p1] at ht2
  cases ht2
  obtain rfl := p2.uniq a5
  obtain rfl := navC_uniq p4 a7
  obtain ⟨_, _, _, _, _, _, _, f1, _, _⟩ := content_new r hcont
  -- what is appended
  obtain ⟨g2, Oc2, L2, r2, e2, b1, b2, b3, ⟨b4, b5⟩, hn2, hl2, _, _, hlive2, hval2⟩ := take_new r1 htk
  obtain ⟨cs2, m1, m2, _, _⟩ := hn2.2 hval2
  obtain ⟨ty0, t01, t02⟩ := argTy_some hty0
  obtain ⟨ty1, t11, t12⟩ := argTy_some hty1
  obtain ⟨ad, cap, rfl, hcap, hnone, olds, Os1, s1, s2, s3, s4, s5, s6⟩ := own_parts a8
  obtain ⟨rfl, news, Os2, hs, s7, s8, s9⟩ := appSrc_src (w := w) he hsrc hlive2 t12 rfl m2
  have hlimN : ((List.length xs : Nat) : Int) + ((List.length ys : Nat) : Int) ≤ 1073741824 := (lim_eq ▸ hlim)
  obtain ⟨w', ad', cap', hrun, hgrow, hcap', harm⟩ := run_append (ty := o.type) he t02 hcap (fun h => ⟨by rw [(hnone h).1]; rfl, (hnone h).2⟩) s1 (fun b off sp h => ⟨(s6 b off sp h).1, (s6 b off sp h).2.2.1, (s6 b off sp h).2.2.2.1⟩) hs hlimN
  -- the arguments
  have hA0 : cl.args[0]? = some (cl.args.getD 0 (.global 0)) := by rw [Array.getD_eq_getD_getElem?, Array.getElem?_eq_getElem (by omega)]; rfl
  have hA1 : cl.args[1]? = some (cl.args.getD 1 (.global 0)) := by rw [Array.getD_eq_getD_getElem?, Array.getElem?_eq_getElem (by omega)]; rfl
  have hargs : cl.args.map a.eval = #[.slice ad (List.length xs) cap, mkV W.t cs2] := by
    apply Array.ext_getElem?
    intro n
    rw [Array.getElem?_map]
    match n with
    | 0 => rw [hA0, Option.map_some, p5]; rfl
    | 1 => rw [hA1, Option.map_some, m1]; rfl
    | n + 2 => rw [Array.getElem?_eq_none (by omega)]; simp
  have htys : cl.argTypes = #[ty0, ty1] := by
    apply Array.ext_getElem?
    intro n
    match n with
    | 0 => rw [t01]; rfl
    | 1 => rw [t11]; rfl
    | n + 2 => rw [Array.getElem?_eq_none (by omega)]; simp
  have hexec : (execOp a.eval o).run P w = .ok (.value (.slice ad' (List.length xs + List.length ys) cap')) w' := by
    refine exec_builtin ho hc ?_
    show ((do pure (.value (← Builtin.append_ cl.argTypes o.type (cl.args.map a.eval))) : Sem Next)).run P w = _
    rw [Sem.run_bind, hargs, htys, hrun]; rfl
  refine wp_value hexec ?_
  rw [upds_cons, upds_append]
  -- the row that was taken is nobody's
  have hO2 : Loose c g2 w Oc := fun b hb => ⟨by rw [b1]; exact (a10 b hb).1, fun m hm => (a10 b hb).2.1 m (b4 m b hm), (a10 b hb).2.2⟩
  have hOO : ∀ b, Oc b → ¬ Oc2 b := fun b hb hb2 => by obtain ⟨m, hm⟩ := b5 b hb2; exact (a10 b hb).2.1 m hm
  have step : ∀ gx, RelG c gx (upds (upds s [bump s l (.val { v with o := od, tag := 0 } none)]) u2) a w → (∀ b off, ad = some ⟨b, off, none⟩ → Loose c gx w (· = b)) → RelG c gx (upds (upds s [bump s l (.val { v with o := od, tag := 0 } none)]) u2) a w' := by
    intro gx rx hb
    rcases harm with ⟨_, _, _, rfl⟩ | ⟨b, off, _, hb', hk, hbs, hk1, hk2, _, _⟩
    · exact rx
    · rcases hb' with hb' | hb'
      · exact rx.poke hgrow (hb b off hb') (hk1 hb')
      · exact rx.grow hgrow (hk2 hb')
  have hF0 : Fut (upds (upds s [bump s l (.val { v with o := od, tag := 0 } none)]) u2) (.val ⟨.sl t, .own oo, List.append xs ys, v.lend ++ W.lend, 0⟩ none) := by
    refine ⟨fun x hx => ?_, trivial⟩
    rcases List.mem_append.1 hx with hx | hx
    · exact Nat.le_trans (f1 x hx) (Nat.le_trans (e1.ups _) (e2.ups _))
    · exact hn2.1.1 x hx
  by_cases hv : validL (upds (upds s [bump s l (.val { v with o := od, tag := 0 } none)]) u2) (v.lend ++ W.lend) = true
  · obtain ⟨hv1, hv2⟩ := validL_app hv
    obtain ⟨y1, y2⟩ := e2.valid (fun x hx => Nat.le_trans (f1 x hx) (e1.ups _)) hv1
    obtain ⟨y3, y4⟩ := e1.valid f1 y1
    have hS : ∀ b, Sof g v.lend b → Sof g2 (v.lend ++ W.lend) b := fun b hb => Sof.left ((e2.sof y2).1 b ((e1.sof y4).1 b hb))
    obtain ⟨j1, j2⟩ := Ow.join_le hjoin
    have hol : olds.length = xs.length * t.size := s1
    obtain ⟨F, Os', r3, q1, q2, q3, q4⟩ := elems_le r2 (ln := v.lend ++ W.lend) (t := t) (o := oo) (zs := xs ++ ys) (ci := fun i => ((olds ++ news).drop (i * t.size)).take t.size) (Os := fun i => if i < xs.length then Os1 i else Os2 (i - xs.length))
      (fun i => by
        by_cases hi : i < xs.length
        · simp only [if_pos hi]; exact hO2.sub (s2 i)
        · simp only [if_neg hi]; exact hl2.sub (s7 _))
      (fun i j b hne => by
        by_cases hi : i < xs.length <;> by_cases hj : j < xs.length
        · simp only [if_pos hi, if_pos hj]; exact s3 i j b hne
        · simp only [if_pos hi, if_neg hj]; exact fun h k => hOO b (s2 i b h) (s7 _ b k)
        · simp only [if_neg hi, if_pos hj]; exact fun h k => hOO b (s2 j b k) (s7 _ b h)
        · simp only [if_neg hi, if_neg hj]; exact s8 _ _ b (by omega))
      (fun i z hz => by
        by_cases hi : i < xs.length
        · simp only [if_pos hi]
          rw [List.getElem?_append_left hi] at hz
          refine ⟨o1, j1, ?_⟩
          have hle : i * t.size + t.size ≤ olds.length := by
            have : (i + 1) * t.size ≤ xs.length * t.size := Nat.mul_le_mul_right _ hi
            rw [Nat.add_mul] at this; omega
          have : ((olds ++ news).drop (i * t.size)).take t.size = (olds.drop (i * t.size)).take t.size := by
            rw [List.drop_append_of_le_length (by omega), List.take_append_of_le_length (by simp; omega)]
          rw [this]
          exact (s4 i z hz).mono hS (fun _ h => h)
        · simp only [if_neg hi]
          rw [List.getElem?_append_right (by omega)] at hz
          refine ⟨o2, j2, ?_⟩
          have : ((olds ++ news).drop (i * t.size)).take t.size = (news.drop ((i - xs.length) * t.size)).take t.size := by
            congr 1
            have e : i * t.size = olds.length + (i - xs.length) * t.size := by rw [hol, ← Nat.add_mul]; congr 1; omega
            rw [e, List.drop_append]
            simp
          rw [this]
          exact (s9 _ z hz).mono (fun b hb => Sof.right hb) (fun _ h => h))
    have hbF : ∀ b off, ad = some ⟨b, off, none⟩ → ∀ i, ¬ (if i < xs.length then Os1 i else Os2 (i - xs.length)) b := by
      intro b off had i h
      obtain ⟨_, z1, _, _, z2⟩ := s6 b off none had
      by_cases hi : i < xs.length
      · simp only [if_pos hi] at h; exact z2 i h
      · simp only [if_neg hi] at h; exact hOO b z1 (s7 _ b h)
    have hb3 : ∀ b off, ad = some ⟨b, off, none⟩ → Loose c { g2 with G := fun b => g2.G b ∨ F b } w (· = b) := by
      intro b off had
      obtain ⟨_, z1, _, _, z2⟩ := s6 b off none had
      refine Loose.giveup (fun x hx => by subst hx; exact hO2 x z1) (fun x hx hF => ?_)
      subst hx
      obtain ⟨i, hi⟩ := q3 x hF
      exact hbF x off had i hi
    have r4 := step _ r3 hb3
    have hlz : List.length (xs ++ ys) = List.length xs + List.length ys := List.length_append
    rcases harm with ⟨rfl, hz, rfl, rfl⟩ | ⟨b, off, rfl, hb', hk, hbs, hk1, hk2, hwr, hatc⟩
    · have hx0 : xs = [] := List.eq_nil_of_length_eq_zero (by omega)
      have hy0 : ys = [] := List.eq_nil_of_length_eq_zero (by omega)
      subst hx0; subst hy0
      exact put_rel r4 (Same.refl _) hd (hN dd hd) (Oc := fun _ => False) ⟨hF0, fun _ => ⟨[.slice none 0 0], rfl, ⟨none, 0, rfl, Nat.le_refl _, rfl, rfl⟩, by simp, trivial⟩⟩ Loose.none
    · have hlt : ∀ x, (Sof { g2 with G := fun b => g2.G b ∨ F b } (v.lend ++ W.lend) x ∨ ∃ i, Os' i x) → x < w.heap.size ∧ x ≠ b := by
        intro x hx
        have h1 : x < w.heap.size := by
          rcases hx with (hx | ⟨e, _, hx⟩) | ⟨i, hx⟩
          · exact r3.gsz x hx
          · exact (r3.own _ x hx).1
          · exact (q1 i x hx).2.2.1
        refine ⟨h1, fun e => ?_⟩
        subst e
        rcases hb' with hb' | hb'
        · rcases hx with hx | ⟨i, hx⟩
          · exact (hb3 x off hb').sof rfl hx
          · exact hbF x off hb' i (q2 i x hx)
        · omega
      have hrow := row_mk (w := w) (w' := w') (S := Sof { g2 with G := fun b => g2.G b ∨ F b } (v.lend ++ W.lend)) (t := t) (o := oo) (zs := xs ++ ys) (n := b) (off := off) (cap := cap') (ci := fun i => ((olds ++ news).drop (i * t.size)).take t.size) (Os := Os')
        (by rw [hlz]; exact hcap') hwr (fun x hx => ⟨(hlt x hx).2, hk x (hlt x hx).2 (hlt x hx).1⟩) (fun i z hz => ⟨by
          intro j u hu
          have hj : j < t.size := by
            have := (List.getElem?_eq_some_iff.1 hu).1
            simp at this; omega
          rw [List.getElem?_take_of_lt hj, List.getElem?_drop] at hu
          rw [Nat.add_assoc]; exact hatc _ u hu, q4 i z hz⟩) (fun i j x hne h1 h2 => by
          have h1 := q2 i x h1
          have h2 := q2 j x h2
          by_cases hi : i < xs.length <;> by_cases hj : j < xs.length
          · simp only [if_pos hi] at h1; simp only [if_pos hj] at h2; exact s3 i j x hne h1 h2
          · simp only [if_pos hi] at h1; simp only [if_neg hj] at h2; exact hOO x (s2 i x h1) (s7 _ x h2)
          · simp only [if_neg hi] at h1; simp only [if_pos hj] at h2; exact hOO x (s2 j x h2) (s7 _ x h1)
          · simp only [if_neg hi] at h1; simp only [if_neg hj] at h2; exact s8 _ _ x (by omega) h1 h2)
      refine put_rel r4 (Same.refl _) hd (hN dd hd) (Oc := fun x => x = b ∨ ∃ i, Os' i x) ⟨hF0, fun _ => ⟨[.slice (some ⟨b, off, none⟩) (List.length (xs ++ ys)) cap'], ?_, hrow, by simp, trivial⟩⟩ ?_
      · show Value.slice _ _ _ = Value.slice _ _ _
        rw [hlz]
      · rintro x (rfl | ⟨i, hx⟩)
        · rcases hb' with hb' | hb'
          · exact (hb3 x off hb').grow hgrow.size x rfl
          · obtain ⟨z1, z2, z3⟩ := Fr.fresh r3 (show w.heap.size ≤ x by omega)
            exact ⟨z1, z2, hbs, z3⟩
        · exact (q1 i).grow hgrow.size x hx
  · have r4 := step _ r2 (fun b off had => hO2.sub (fun x hx => by subst hx; exact (s6 x off none had).2.1))
    exact put_rel r4 (Same.refl _) hd (hN dd hd) (Oc := fun _ => False) ⟨hF0, fun hv' => absurd hv' hv⟩ Loose.none
end
end Go.OM

namespace Go.OM
open Go

def Boxed (w : World) (S : Nat → Prop) (t : Ty) (o : Ow) (x : t.den) (v : Value) (O : Nat → Prop) : Prop :=
  ∃ b cs Oc, v = .pointer (some ⟨b, 0, none⟩) ∧ Box w b t.size ∧ (∃ c e f, w.heap[b]? = some (.cells c e f) ∧ c.toList = cs) ∧ Rp w S t o x cs Oc ∧ O b ∧ ∀ k, Oc k → O k ∧ k ≠ b
/-- An argument's value. -/
def ArgOk (w : World) (S : Nat → Prop) : (p : PM) → p.ty.den → Value → (Nat → Prop) → Prop
  | .fz t, x, v, _ => ∃ cs, v = mkV t cs ∧ Rp w S t .z x cs (fun _ => False)
  | .own t o, x, v, O => ∃ cs, v = mkV t cs ∧ Rp w S t o x cs O
  | .mut t o, x, v, O => ∃ cs, v = mkV t cs ∧ Rp w S t o x cs O
  | .ptr t o _, x, v, O => Boxed w S t o x v O
def ArgsOk (w : World) (S : Nat → Prop) : (pms : List PM) → denI pms → List Value → (Nat → Nat → Prop) → Prop
  | [], _, [], _ => True
  | p :: ps, x, v :: vs, Os => ArgOk w S p x.1 v (Os 0) ∧ ArgsOk w S ps x.2 vs (fun i => Os (i + 1))
  | _, _, _, _ => False
def ResOk (w : World) (S : Nat → Prop) (r : RT) (x : r.ty.den) (v : Value) (O : Nat → Prop) : Prop :=
  if r.ptr then Boxed w S r.ty r.o x v O else ∃ cs, v = mkV r.ty cs ∧ Rp w S r.ty r.o x cs O
def RessOk (w : World) (S : Nat → Prop) : (rts : List RT) → denR (rts.map RT.ty) → List Value → (Nat → Nat → Prop) → Prop
  | [], _, [], _ => True
  | r :: rs, x, v :: vs, Os => ResOk w S r (headR r.ty (rs.map RT.ty) x) v (Os 0) ∧ RessOk w S rs (tailR r.ty (rs.map RT.ty) x) vs (fun i => Os (i + 1))
  | _, _, _, _ => False
/-- What a call leaves at the places that it was handed; the header of a row that was to be written is what it was. -/
def OutsOk (w : World) (S : Nat → Prop) : (pms : List PM) → denR (pms.flatMap PM.outs) → List Value → (Nat → Nat → Prop) → Prop
  | [], _, [], _ => True
  | .fz _ :: ps, y, _ :: vs, Os => OutsOk w S ps y vs (fun i => Os (i + 1))
  | .own _ _ :: ps, y, _ :: vs, Os => OutsOk w S ps y vs (fun i => Os (i + 1))
  | .mut t o :: ps, y, v :: vs, Os => Rp w S t o (headR t (ps.flatMap PM.outs) y) v.cells.toList (Os 0) ∧ OutsOk w S ps (tailR t (ps.flatMap PM.outs) y) vs (fun i => Os (i + 1))
  | .ptr t _ o :: ps, y, v :: vs, Os => Boxed w S t o (headR t (ps.flatMap PM.outs) y) v (Os 0) ∧ OutsOk w S ps (tailR t (ps.flatMap PM.outs) y) vs (fun i => Os (i + 1))
  | _, _, _, _ => False
def retV : List Value → Value
  | [v] => v | vs => .tuple vs.toArray
/-- Sets that have nothing in common, and nothing with S. -/
structure Apart (S : Nat → Prop) (n : Nat) (Os : Nat → Nat → Prop) : Prop where
  disj : ∀ i j b, i ≠ j → Os i b → ¬ Os j b
  noS : ∀ i b, Os i b → ¬ S b
  lt : ∀ i b, Os i b → b < n
  ltS : ∀ b, S b → b < n
/-- A summary is true. -/
def SmOk (P : Program) (sm : Sm) : Prop :=
  ∀ (args : List Value) (w : World) (S : Nat → Prop) (Os : Nat → Nat → Prop) (x : denI sm.pms) (y : denR (outTys sm.rts sm.pms)), sm.fn x = some y → ArgsOk w S sm.pms x args Os → Apart S w.heap.size Os →
    Calls P sm.f args.toArray w fun e w' => ∃ vs S' Or Oo, e = .returned (retV vs) ∧
      RessOk w' S' sm.rts (splitR (sm.rts.map RT.ty) (sm.pms.flatMap PM.outs) y).1 vs Or ∧ OutsOk w' S' sm.pms (splitR (sm.rts.map RT.ty) (sm.pms.flatMap PM.outs) y).2 args Oo ∧
      Grow w w' ∧ (∀ b, b < w.heap.size → ¬ (∃ i, Os i b) → w'.heap[b]? = w.heap[b]?) ∧
      (∀ b, S b → S' b) ∧ (∀ b, S' b → S b ∨ (∃ i, Os i b) ∨ w.heap.size ≤ b) ∧ (∀ i b, Or i b ∨ Oo i b → (∃ j, Os j b) ∨ w.heap.size ≤ b) ∧
      Apart S' w'.heap.size Or ∧ Apart S' w'.heap.size Oo ∧ ∀ i j b, Or i b → ¬ Oo j b
section
variable {c : Ctx} {g : Ghost} {s s' : St} {a : Act} {w w' : World} {P : Program} {E : Env}
/-- Places that a call was handed, behind it. -/
theorem RelG.called (r : RelG c g s a w) {L : Loc → Prop} {On : Loc → Nat → Prop} {F Mx : Nat → Prop} [DecidablePred L]
    (hst : ∀ l, ¬ L l → s' l = s l) (hgrow : Grow w w') (hsame : ∀ b, b < w.heap.size → ¬ Mx b → w'.heap[b]? = w.heap[b]?) (hM : ∀ b, Mx b → ∃ l, L l ∧ g.O l b)
    (hOn : ∀ l b, On l b → g.O l b ∨ (∃ m, L m ∧ g.O m b) ∨ w.heap.size ≤ b) (hOd : ∀ l m b, L l → L m → l ≠ m → On l b → ¬ On m b) (hOl : ∀ l b, L l → On l b → b < w'.heap.size)
    (hF : ∀ b, F b → (∃ m, L m ∧ g.O m b) ∨ w.heap.size ≤ b) (hFd : ∀ l b, L l → On l b → ¬ F b) (hFl : ∀ b, F b → b < w'.heap.size)
    (hpl : ∀ l, L l → ∃ V org Vn cs, (s l).t = .val V org ∧ (s' l).t = .val Vn none ∧ Vn.t = V.t ∧ (s' l).v = (s l).v + 1 ∧ (s' l).hv = (s l).hv + 1 ∧ (∀ e ∈ Vn.lend, e.2 ≤ (s e.1).v) ∧ cs.length = V.t.size ∧
      (l % 4 = 1 → On l (g.Bk l) ∧ Box w' (g.Bk l) V.t.size ∧ ∃ c e f, w'.heap[g.Bk l]? = some (.cells c e f) ∧ c.toList = cs) ∧ (l % 4 ≠ 1 → valAt g a l = some (mkV V.t cs) ∧ (mkV V.t cs).cells.toList = cs) ∧
      ((∀ b, Sof g Vn.lend b → Sof { g with G := fun b => g.G b ∨ F b, O := fun m => if L m then On m else g.O m } Vn.lend b) → ∃ Oc, Rp w' (Sof { g with G := fun b => g.G b ∨ F b, O := fun m => if L m then On m else g.O m } Vn.lend) Vn.t Vn.o Vn.x cs Oc ∧ (Vn.tag ≠ 0 → cs = c.tags Vn.tag) ∧ ∀ b, Oc b → On l b ∧ (l % 4 = 1 → b ≠ g.Bk l))) :
    RelG c { g with G := fun b => g.G b ∨ F b, O := fun m => if L m then On m else g.O m } s' a w' ∧ Evo L g s a w { g with G := fun b => g.G b ∨ F b, O := fun m => if L m then On m else g.O m } s' a w' := by
  let g' : Ghost := { g with G := fun b => g.G b ∨ F b, O := fun m => if L m then On m else g.O m }
  have hcell : ∀ l, L l → ∀ cs, (l % 4 = 1 → ∃ c e f, w'.heap[g.Bk l]? = some (.cells c e f) ∧ c.toList = cs) → (∀ V : OM.V, l % 4 ≠ 1 → valAt g a l = some (mkV V.t cs) ∧ (mkV V.t cs).cells.toList = cs → Cells g' a w' l cs) ∧ (l % 4 = 1 → Cells g' a w' l cs) := by
    intro l hl cs h1
    refine ⟨fun V h4 h2 => ?_, fun h4 => ?_⟩
    · unfold Cells; rw [if_neg h4]; exact ⟨_, h2⟩
    · unfold Cells; rw [if_pos h4]; exact h1 h4
  have hnM : ∀ l b, ¬ L l → g.O l b → ¬ Mx b := fun l b hl hb hm => by
    obtain ⟨m, h1, h2⟩ := hM b hm
    have := r.disj _ _ b hb h2
    subst this; exact hl h1
  have e : Evo L g s a w g' s' a w' := by
    refine { st := hst, up := fun l hl => ?_, O := fun l hl => if_neg hl, Bk := fun _ _ => rfl, val := fun _ _ => rfl, CV := fun _ _ _ _ _ => rfl, G := fun _ h => .inl h, heap := fun b hb => ?_, refs := ?_ }
    · obtain ⟨V, org, Vn, cs, h1, h2, h3, h4, h5, _⟩ := hpl l hl
      exact ⟨by omega, by omega⟩
    · rcases hb with hb | ⟨l, hl, hb⟩
      · refine hsame b (r.gsz b hb) (fun hm => ?_)
        obtain ⟨m, _, h2⟩ := hM b hm
        exact r.ownG _ _ h2 hb
      · exact hsame b (r.own l b hb).1 (hnM l b hl hb)
    · intro l hl hli W org' cs' p' b off v hv iv hW hc hlen hna hvl hle hle2
      obtain ⟨V, org, Vn, cs, h1, h2, h3, h4, h5, h6, h7, h8, h9, _⟩ := hpl l hl
      rw [h1] at hW
      cases hW
      have hf : p'.flat = true := by
        simp only [validR, Bool.and_eq_true, Bool.or_eq_true, beq_eq] at hvl
        rcases hvl.2 with hf | ⟨he, _⟩
        · exact hf
        · omega
      refine ⟨Vn, none, cs, ⟨h2, h3⟩, ?_, by rw [h3]; exact h7, ?_⟩
      · by_cases h4 : l % 4 = 1
        · exact (hcell l hl cs (fun h => (h8 h).2.2)).2 h4
        · exact (hcell l hl cs (fun h => (h8 h).2.2)).1 _ h4 (h9 h4)
      · rw [h3]; exact NavA.flat_any hf hna
  have gO : ∀ l b, g'.O l b → (L l ∧ On l b) ∨ (¬ L l ∧ g.O l b) := by
    intro l b h
    by_cases hl : L l
    · simp only [g', if_pos hl] at h; exact .inl ⟨hl, h⟩
    · simp only [g', if_neg hl] at h; exact .inr ⟨hl, h⟩
  have key : ∀ l b, L l → On l b → (∃ m, L m ∧ g.O m b) ∨ w.heap.size ≤ b := fun l b hl hb => by
    rcases hOn l b hb with h | h | h
    · exact .inl ⟨l, hl, h⟩
    · exact .inl h
    · exact .inr h
  have old : ∀ l b, ¬ L l → g.O l b → ¬ ((∃ m, L m ∧ g.O m b) ∨ w.heap.size ≤ b) := by
    rintro l b hl hb (⟨m, h1, h2⟩ | h)
    · have := r.disj _ _ b hb h2
      subst this; exact hl h1
    · have := (r.own l b hb).1; omega
  refine ⟨e.rel r hgrow (fun b hb => hb.elim (r.gin b) (fun hf => by
    rcases hF b hf with ⟨m, _, h⟩ | h
    · exact (r.own m b h).2.elim .inl (fun h => .inr (.inl h))
    · exact .inl (Nat.le_trans (Nat.le_trans r.fr.le r.fr.grow.size) h))) (fun _ _ => .inl rfl) ?_ ?_ ?_ ?_ ?_ ?_ r.defs r.size ?_ ?_ ?_, e⟩
  · intro l m b h1 h2
    rcases gO l b h1 with ⟨hl, h1⟩ | ⟨hl, h1⟩ <;> rcases gO m b h2 with ⟨hm, h2⟩ | ⟨hm, h2⟩
    · by_cases hlm : l = m
      · exact hlm
      · exact (hOd l m b hl hm hlm h1 h2).elim
    · exact (old m b hm h2 (key l b hl h1)).elim
    · exact (old l b hl h1 (key m b hm h2)).elim
    · exact r.disj l m b h1 h2
  · intro l b h1 h2
    rcases gO l b h1 with ⟨hl, h1⟩ | ⟨hl, h1⟩ <;> rcases h2 with h2 | h2
    · rcases key l b hl h1 with ⟨m, _, h⟩ | h
      · exact r.ownG _ _ h h2
      · have := r.gsz b h2; omega
    · exact hFd l b hl h1 h2
    · exact r.ownG l b h1 h2
    · exact old l b hl h1 (hF b h2)
  · intro l b hl h1
    rcases gO l b h1 with ⟨_, h1⟩ | ⟨hl', _⟩
    · refine ⟨hOl l b hl h1, ?_⟩
      rcases key l b hl h1 with ⟨m, _, h⟩ | h
      · exact (r.own m b h).2
      · exact .inl (Nat.le_trans (Nat.le_trans r.fr.le r.fr.grow.size) h)
    · exact absurd hl hl'
  · exact fun b hb => hb.elim (fun h => Nat.lt_of_lt_of_le (r.gsz b h) hgrow.size) (hFl b)
  · intro l W org' hl h4 hW
    obtain ⟨V, org, Vn, cs, h1, h2, h3, _, _, _, _, h8, _⟩ := hpl l hl
    rw [h2] at hW
    cases hW
    obtain ⟨q1, q2, _⟩ := h8 h4
    rw [h3]
    refine ⟨?_, q2⟩
    simp only [g', if_pos hl]; exact q1
  · refine ⟨r.fr.grow.trans hgrow, r.fr.le, fun b hb hm => ?_⟩
    have hlt : b < w.heap.size := Nat.lt_of_lt_of_le hb (Nat.le_trans r.fr.le r.fr.grow.size)
    rw [hsame b hlt (fun h => ?_)]
    · exact r.fr.old b hb hm
    · obtain ⟨l, _, h2⟩ := hM b h
      exact (r.own l b h2).2.elim (fun h => by omega) hm
  · intro l hl
    obtain ⟨V, org, Vn, cs, h1, h2, h3, h4, h5, h6, _⟩ := hpl l hl
    rw [h2]
    exact ⟨fun x hx => Nat.le_trans (h6 x hx) (e.ups _), trivial⟩
  · intro l hl
    obtain ⟨V, org, Vn, cs, h1, h2, h3, h4, h5, h6, _⟩ := hpl l hl
    rw [h2]
    intro x hx hxl
    have := h6 x hx
    rw [hxl] at this; omega
  · intro l hl
    obtain ⟨V, org, Vn, cs, h1, h2, h3, h4, h5, h6, h7, h8, h9, h10⟩ := hpl l hl
    rw [h2]
    intro hv
    obtain ⟨v1, v2⟩ := e.valid h6 hv
    obtain ⟨Oc, q1, q2, q3⟩ := h10 (e.sof v2).1
    refine ⟨cs, Oc, ?_, fun h4 => by rw [h3]; exact (h9 h4).1, ⟨q1, q2, trivial⟩, fun b hb => ?_⟩
    · by_cases h4 : l % 4 = 1
      · exact (hcell l hl cs (fun h => (h8 h).2.2)).2 h4
      · exact (hcell l hl cs (fun h => (h8 h).2.2)).1 _ h4 (h9 h4)
    · simp only [g', if_pos hl]; exact q3 b hb
end
end Go.OM

namespace Go.OM
open Go

/-- A place, behind a call that it was handed to. -/
def PlaceAfter (c : Ctx) (g g' : Ghost) (s : St) (a : Act) (w' : World) (l : Loc) (X : Cell) (On : Nat → Prop) : Prop :=
  ∃ V org Vn cs, (s l).t = .val V org ∧ X.t = .val Vn none ∧ Vn.t = V.t ∧ X.v = (s l).v + 1 ∧ X.hv = (s l).hv + 1 ∧ (∀ e ∈ Vn.lend, e.2 ≤ (s e.1).v) ∧ cs.length = V.t.size ∧
      (l % 4 = 1 → On (g.Bk l) ∧ Box w' (g.Bk l) V.t.size ∧ ∃ c e f, w'.heap[g.Bk l]? = some (.cells c e f) ∧ c.toList = cs) ∧ (l % 4 ≠ 1 → valAt g a l = some (mkV V.t cs) ∧ (mkV V.t cs).cells.toList = cs) ∧
      ((∀ b, Sof g Vn.lend b → Sof g' Vn.lend b) → ∃ Oc, Rp w' (Sof g' Vn.lend) Vn.t Vn.o Vn.x cs Oc ∧ (Vn.tag ≠ 0 → cs = c.tags Vn.tag) ∧ ∀ b, Oc b → On b ∧ (l % 4 = 1 → b ≠ g.Bk l))
section
variable {c : Ctx} {g g' : Ghost} {s s' : St} {a : Act} {w w' : World} {P : Program} {E : Env}
theorem PlaceAfter.mono {l : Loc} {X : Cell} {O1 O2 : Nat → Prop} (h : PlaceAfter c g g' s a w' l X O1) (hO : ∀ b, O1 b → O2 b) : PlaceAfter c g g' s a w' l X O2 := by
  obtain ⟨V, org, Vn, cs, h1, h2, h3, h4, h5, h6, h7, h8, h9, h10⟩ := h
  refine ⟨V, org, Vn, cs, h1, h2, h3, h4, h5, h6, h7, fun h => ⟨hO _ (h8 h).1, (h8 h).2⟩, h9, fun h => ?_⟩
  obtain ⟨Oc, q1, q2, q3⟩ := h10 h
  exact ⟨Oc, q1, q2, fun b hb => ⟨hO b (q3 b hb).1, (q3 b hb).2⟩⟩
/-- What is asked of the world behind a call, at one place. -/
structure Behind (g : Ghost) (w w' : World) (l : Loc) (ln : Lend) (Mx Oi : Nat → Prop) : Prop where
  grow : Grow w w'
  lt : ∀ b, g.O l b ∨ Sof g ln b → b < w.heap.size
  same : ∀ b, b < w.heap.size → ¬ Mx b → w'.heap[b]? = w.heap[b]?
  own : ∀ b, Mx b → g.O l b → Oi b
  sof : ∀ b, Sof g ln b → ¬ Mx b
theorem rel_lt (r : RelG c g s a w) {l : Loc} {ln : Lend} {b : Nat} (h : g.O l b ∨ Sof g ln b) : b < w.heap.size := by
  rcases h with h | h | ⟨e, _, h⟩
  · exact (r.own _ _ h).1
  · exact r.gsz _ h
  · exact (r.own _ _ h).1
/-- What leads nowhere but to its own needs nothing else. -/
theorem Rp.nofrz {S S2 : Nat → Prop} : ∀ {t : Ty} {o : Ow} {x : t.den} {cs : List Value} {O : Nat → Prop}, frz t o = false → Rp w S t o x cs O → Rp w S2 t o x cs O := by
  intro t
  induction t with
  | int k | bool | str | unit => intro o x cs O _ h; cases o <;> exact h
  | sl t ih =>
    intro o x cs O hf h
    cases o with
    | a => exact h
    | dead => exact h
    | two _ _ => obtain ⟨a, cap, _, _, h⟩ := h; exact h.elim
    | z => simp [frz] at hf
    | own o =>
      obtain ⟨a, cap, rfl, hc, h⟩ := h
      refine ⟨a, cap, rfl, hc, ?_⟩
      cases a with
      | none => exact h
      | some ad =>
        obtain ⟨h1, h2, h3, Os, h4, h5, h6⟩ := h
        exact ⟨h1, h2, h3, Os, fun i y hy => by obtain ⟨ci, k1, k2⟩ := h4 i y hy; exact ⟨ci, k1, ih (by simpa [frz] using hf) k2⟩, h5, h6⟩
  | pair p q i1 i2 =>
    intro o x cs O hf h
    cases o with
    | a => exact h
    | dead => exact h
    | own _ => obtain ⟨oa, ob, c1, c2, O1, O2, e1, _⟩ := h; simp [Ow.fst] at e1
    | z =>
      obtain ⟨oa, ob, c1, c2, O1, O2, e1, e2, rfl, h1, h2, hr⟩ := h
      simp [Ow.fst] at e1; simp [Ow.snd] at e2; subst e1 e2
      simp [frz, Ow.fst, Ow.snd] at hf
      exact ⟨.z, .z, c1, c2, O1, O2, rfl, rfl, rfl, i1 hf.1 h1, i2 hf.2 h2, hr⟩
    | two u v =>
      obtain ⟨oa, ob, c1, c2, O1, O2, e1, e2, rfl, h1, h2, hr⟩ := h
      simp [Ow.fst] at e1; simp [Ow.snd] at e2; subst e1 e2
      simp [frz, Ow.fst, Ow.snd] at hf
      exact ⟨u, v, c1, c2, O1, O2, rfl, rfl, rfl, i1 hf.1 h1, i2 hf.2 h2, hr⟩
  | fp t _ => intro o x cs O hf h; cases o <;> first | (simp [frz] at hf; done) | exact h
  | fn n t _ => intro o x cs O hf h; cases o <;> first | (simp [frz] at hf; done) | exact h
theorem lnOf_mem {b : Bool} {ln : Lend} {e : Loc × Nat} (h : e ∈ lnOf b ln) : e ∈ ln := by
  cases b with
  | true => exact h
  | false => cases h
theorem Rp.lnOf {S' : Nat → Prop} {t : Ty} {o : Ow} {x : t.den} {cs : List Value} {O : Nat → Prop} {ln : Lend} (h : Rp w S' t o x cs O) (hS : validL s ln = true → ∀ b, S' b → Sof g ln b) (hv : validL s (OM.lnOf (frz t o) ln) = true) : Rp w (Sof g (OM.lnOf (frz t o) ln)) t o x cs O := by
  cases hf : frz t o with
  | true => rw [hf] at hv; exact h.mono (hS hv) (fun _ h => h)
  | false => exact h.nofrz hf
/-- A part of a place is handed on: what of it was kept, and what comes back, behind the call. -/
theorem handOn (r : RelG c g s a w) {l : Loc} {p : Path} {V : V} {t : Ty} {y : t.den} {o' o : Ow} (hat : at_ s l p = some (V, ⟨t, y⟩, o')) (hle : o'.le o = true) {cs d : List Value} (hcell : Cells g a w l cs) (hn : NavC w (g.O l) V.t cs p d) :
    ∃ Oi Os F : Nat → Prop, (∀ b, Os b → Oi b) ∧ (∀ b, F b → Oi b) ∧ (∀ b, Os b → ¬ F b) ∧ (∀ b, Oi b → g.O l b) ∧ (l % 4 = 1 → ¬ Oi (g.Bk l)) ∧ Rp w (fun b => Sof g V.lend b ∨ F b) t o y d Os ∧
      ∀ (o2 on : Ow) (xn : V.t.den) (y2 : t.den), setP V.t V.x p t y2 = some xn → setO V.o p o2 = some on → ∀ (w' : World) (g' : Ghost) (Mx Oo S2 : Nat → Prop) (LN : Lend) (tag : Nat), Behind g w w' l V.lend Mx Oi → (∀ e ∈ LN, e.2 ≤ (s e.1).v) →
        Rp w' S2 t o2 y2 d Oo → (∀ b, Oo b → g.O l b → Oi b) → (∀ b, Oo b → l % 4 = 1 → b ≠ g.Bk l) → ((∀ b, Sof g (V.lend ++ LN) b → Sof g' (V.lend ++ LN) b) → ∀ b, S2 b → Sof g' (V.lend ++ LN) b) → (tag ≠ 0 → tag = V.tag) →
        PlaceAfter c g g' s a w' l ⟨.val ⟨V.t, on, xn, V.lend ++ LN, tag⟩ none, (s l).v + 1, (s l).hv + 1⟩ (fun b => (g.O l b ∧ ¬ Oi b) ∨ Oo b) := by
  obtain ⟨hct, hg, hgo⟩ := at_some hat
  obtain ⟨cs0, Oc, k1, k2, k3, k4, k5, k6, k7, k8⟩ := content_new r hct
  obtain rfl := hcell.uniq k1
  obtain ⟨⟨org, ht⟩, hval⟩ := content_some hct
  obtain ⟨Oi, i1, i2, i3, i4⟩ := k3.part (fun b hb ho => k8 b hb (k5 b ho).1) hn hg hgo
  obtain ⟨Os, F, j1, j2, j3, j4⟩ := i2.le hle
  refine ⟨Oi, Os, F, j1, j2, j3, fun b hb => (k5 b (i1 b hb)).1, fun h4 hb => (k5 _ (i1 _ hb)).2 h4 rfl, j4, ?_⟩
  intro o2 on xn y2 hs ho w' g' Mx Oo S2 LN tag hb hLN hr hO hOk hS2 htag
  have hsame : ∀ b, (g.O l b ∨ Sof g V.lend b) → ¬ Oi b → w'.heap[b]? = w.heap[b]? := by
    intro b h hno
    refine hb.same b (hb.lt b h) (fun hm => ?_)
    rcases h with h | h
    · exact hno (hb.own b hm h)
    · exact hb.sof b h hm
  refine ⟨V, org, ⟨V.t, on, xn, V.lend ++ LN, tag⟩, cs, ht, rfl, rfl, rfl, rfl, fun e he => ?_, k3.len, fun h4 => ?_, fun h4 => ⟨k2 h4, k3.cells⟩, fun hS => ?_⟩
  · rcases List.mem_append.1 he with he | he
    · exact k6 e he
    · exact hLN e he
  · obtain ⟨b1, b2⟩ := r.boxes l V org h4 ht
    have hni : ¬ Oi (g.Bk l) := fun h => (k5 _ (i1 _ h)).2 h4 rfl
    have he := hsame (g.Bk l) (.inl b1) hni
    refine ⟨.inl ⟨b1, hni⟩, ?_, ?_⟩
    · obtain ⟨cc, ee, ff, q1, q2, q3⟩ := b2
      exact ⟨cc, ee, ff, by rw [he]; exact q1, q2, q3⟩
    · unfold Cells at hcell
      rw [if_pos h4] at hcell
      rw [he]; exact hcell
  · have hrow : p.flat = false → ∀ q r, NavA w (g.O l) V.t none cs p q r → Oc q ∧ ¬ Oi q := fun hf q r hq => i3 hf ⟨_, _, ho⟩ none q r hq
    have hfin := i4 w' (Sof g' (V.lend ++ LN)) o2 on xn d y2 (fun b hb => hS b (Sof.left hb)) hs ho none Oo ?_ (hr.mono (hS2 hS) (fun _ h => h)) rfl (fun b h1 h2 => hO b h1 (k5 b h2).1)
    · rw [replC_same hn] at hfin
      refine ⟨_, hfin, fun h => ?_, fun b hb => ?_⟩
      · have := htag h
        exact this ▸ k4 (this ▸ h)
      · rcases hb with ⟨h1, h2⟩ | h
        · exact ⟨.inl ⟨(k5 b h1).1, h2⟩, (k5 b h1).2⟩
        · exact ⟨.inr h, hOk b h⟩
    · refine ⟨fun b hb hno _ => hsame b (hb.elim .inr (fun h => .inl (k5 b h).1)) hno, fun hf q r' hq => ?_⟩
      obtain ⟨h1, h2⟩ := hrow hf q r' hq
      have he := hsame q (.inl (k5 q h1).1) h2
      refine ⟨⟨fun i _ v hv => ?_, fun k hk => hk.frame he⟩, ?_⟩
      · have : w'.cell? ⟨q, i, none⟩ = w.cell? ⟨q, i, none⟩ := by simp only [World.cell?, he]
        rw [this]; exact hv
      · exact (hq.at hn (fun _ h => by cases h) k3.len).frame he
end
end Go.OM

namespace Go.OM
open Go

structure ArgIn (g : Ghost) (s : St) (a : Act) (w : World) (p : PM) (x : Operand) (y : p.ty.den) (ln : Lend) (ls : List Loc) (Oi Os F : Nat → Prop) : Prop where
  fut : ∀ e ∈ ln, e.2 ≤ (s e.1).v
  val : validL s ln = true
  ok : ∀ S : Nat → Prop, (∀ b, Sof g ln b ∨ F b → S b) → ArgOk w S p y (a.eval x) Os
  os : ∀ b, Os b → Oi b
  f : ∀ b, F b → Oi b
  osf : ∀ b, Os b → ¬ F b
  oi : ∀ b, Oi b → ∃ l ∈ ls, g.O l b
def AfterArg (c : Ctx) (g : Ghost) (s : St) (a : Act) (w : World) (ln : Lend) (x : Operand) (moved : Upds) (back : List (Loc × Path)) (Oi : Nat → Prop) : PM → Prop
  | .fz _ => moved = [] ∧ back = []
  | .own _ _ => back = [] ∧ ∃ e, moved = [e] ∧ ∀ (w' : World) (g' : Ghost) (Mx : Nat → Prop), Behind g w w' e.1 ln Mx Oi → PlaceAfter c g g' s a w' e.1 e.2 (fun b => g.O e.1 b ∧ ¬ Oi b)
  | .mut t o => moved = [] ∧ ∃ l p, back = [(l, p)] ∧ ∀ (V : V) (on : Ow) (xn : V.t.den) (y2 : t.den), content s l = some V → setP V.t V.x p t y2 = some xn → setO V.o p o = some on →
      ∀ (w' : World) (g' : Ghost) (Mx Oo S2 : Nat → Prop) (LN : Lend), Behind g w w' l ln Mx Oi → (∀ e ∈ LN, e.2 ≤ (s e.1).v) → Rp w' S2 t o y2 (a.eval x).cells.toList Oo → (∀ b, Oo b → g.O l b → Oi b) →
        (∀ ln', (∀ e ∈ LN, e ∈ ln') → (∀ b, Sof g ln' b → Sof g' ln' b) → ∀ b, S2 b → Sof g' ln' b) →
        PlaceAfter c g g' s a w' l (bump s l (.val ⟨V.t, on, xn, V.lend ++ LN, V.tag⟩ none)).2 (fun b => (g.O l b ∧ ¬ Oi b) ∨ Oo b)
  | .ptr t _ o' => moved = [] ∧ ∃ l, back = [(l, [])] ∧ ∀ (y2 : t.den) (w' : World) (g' : Ghost) (Mx Oo S2 : Nat → Prop) (LN : Lend), Behind g w w' l ln Mx Oi → (∀ e ∈ LN, e.2 ≤ (s e.1).v) → Boxed w' S2 t o' y2 (a.eval x) Oo →
        (∀ ln', (∀ e ∈ LN, e ∈ ln') → (∀ b, Sof g ln' b → Sof g' ln' b) → ∀ b, S2 b → Sof g' ln' b) →
        PlaceAfter c g g' s a w' l (bump s l (.val ⟨t, o', y2, LN, 0⟩ none)).2 (fun b => (g.O l b ∧ ¬ Oi b) ∨ Oo b)
section
variable {c : Ctx} {g g' : Ghost} {s s' : St} {a : Act} {w w' : World} {P : Program} {E : Env}
theorem arg_in (r : RelG c g s a w) {p : PM} {x : Operand} {y : p.ty.den} {ln : Lend} {back : List (Loc × Path)} {moved : Upds} (h : argOf s p x = some (y, ln, back, moved)) :
    ∃ Oi Os F, ArgIn g s a w p x y ln (moved.map (·.1) ++ back.map (·.1)) Oi Os F ∧ AfterArg c g s a w ln x moved back Oi p := by
  cases p with
  | fz t =>
    have triv : ∀ {cs : List Value} (ln : Lend), (∀ e ∈ ln, e.2 ≤ (s e.1).v) → validL s ln = true → a.eval x = mkV t cs → Rp w (Sof g ln) t .z y cs (fun _ => False) → back = [] → moved = [] →
        ∃ Oi Os F, ArgIn g s a w (.fz t) x y ln (moved.map (·.1) ++ back.map (·.1)) Oi Os F ∧ AfterArg c g s a w ln x moved back Oi (.fz t) := by
      intro cs ln h1 h2 h3 h4 hb hm
      subst hb; subst hm
      exact ⟨fun _ => False, fun _ => False, fun _ => False, ⟨h1, h2, fun S hS => ⟨cs, h3, h4.mono (fun b hb => hS b (.inl hb)) (fun _ h => h)⟩, fun _ h => h, fun _ h => h, fun _ h => h.elim, fun _ h => h.elim⟩, rfl, rfl⟩
    simp only [argOf] at h
    split at h
    · rename_i l p v hv iv tr hp
      cases t <;> first | (cases h; done) | skip
      rename_i t'
      simp only at h
      split at h
      case h_2 => cases h
      rename_i V t2 y2 o2 hat
      split at h
      case isFalse => cases h
      rename_i hlive
      split at h
      case h_2 => cases h
      rename_i y3 hy
      cases h
      obtain ⟨e, rfl⟩ := castT_some hy
      subst e
      obtain ⟨b, off, cs, d, O', m1, m2, m3, m4⟩ := ref_at r hp hat
      obtain ⟨⟨org, ht⟩, hval⟩ := content_some (at_some hat).1
      obtain ⟨cs0, Oc0, k1, k2, k3, k4, k5, k6, k7, k8⟩ := content_new r (at_some hat).1
      refine triv (cs := [a.eval x]) _ ?_ ?_ (by rw [m1]; rfl) ⟨b, off, d, by rw [m1], .inr ⟨_, List.mem_cons_self, navA_own r ht m4⟩, m3, (m2.rp.freeze hlive).mono (fun b hb => ?_) (fun _ h => h)⟩ rfl rfl
      · intro e he
        rcases List.mem_cons.1 he with rfl | he
        · exact Nat.le_refl _
        · exact k6 e he
      · show (Nat.beq _ _ && validL s V.lend) = true
        rw [hval]; simp [Nat.beq_refl]
      · rcases hb with (hb | ⟨e, he, hb⟩) | hb
        · exact .inl hb
        · exact .inr ⟨e, List.mem_cons_of_mem _ he, hb⟩
        · exact .inr ⟨_, List.mem_cons_self, m2.sub b hb⟩
    · rename_i T hnr hT
      split at h
      case h_2 => cases h
      rename_i v hv
      split at h
      case h_2 => cases h
      rename_i y3 hy
      cases h
      obtain ⟨e, rfl⟩ := castT_some hy
      subst e
      obtain ⟨k1, k2, k3, k4, cs, m1, m2⟩ := peekV_new r (ty := some v.t) (x := x) (V := v) (by unfold peekV; rw [hT]; exact hv)
      exact triv _ k3 k1 m1 (show Rp w (Sof g v.lend) v.t .z v.x cs _ from (m2.freeze k2).mono (fun b hb => hb.elim id (fun h => h.elim)) (fun _ h => h)) rfl rfl
    · cases h
  | own t o =>
    simp only [argOf] at h
    split at h
    case h_2 => cases h
    rename_i tx l p hpl
    split at h
    case isFalse => cases h
    rename_i hf
    simp only [Bool.and_eq_true, decide_eq_true_eq] at hf
    obtain ⟨hflat, htx⟩ := hf
    subst htx
    split at h
    case h_2 => cases h
    rename_i V t2 y2 o2 hat
    split at h
    case isFalse => cases h
    rename_i hle
    split at h
    case h_2 => cases h
    rename_i y3 od hy hso
    cases h
    obtain ⟨e, rfl⟩ := castT_some hy
    subst e
    obtain ⟨cs, V', org, d, p1, p2, p3, p4, p5⟩ := place_new r hpl
    obtain ⟨⟨org2, ht2⟩, hval⟩ := content_some (at_some hat).1
    rw [p1] at ht2
    cases ht2
    obtain ⟨_, _, _, _, _, _, _, k6, _, _⟩ := content_new r (at_some hat).1
    obtain ⟨Oi, Os, F, h1, h2, h3, h4, h4', h5, h6⟩ := handOn r hat hle p2 p4
    refine ⟨Oi, Os, F, ⟨k6, hval, fun S hS => ⟨d, p5, h5.mono hS (fun _ h => h)⟩, h1, h2, h3, fun b hb => ⟨l, by simp [bump], h4 b hb⟩⟩, rfl, _, rfl, ?_⟩
    intro w' g' Mx hB
    have := h6 .dead od V.x y2 (getP_setP hflat (at_some hat).2.1) hso w' g' Mx (fun _ => False) (fun _ => False) [] 0 hB (by simp) (Rp.dead h5.len h5.one) (fun _ h => h.elim) (fun _ h => h.elim) (fun _ _ h => h.elim) (by simp)
    rw [List.append_nil] at this
    exact this.mono (fun b hb => hb.elim id (fun h => h.elim))
  | «mut» t o =>
    simp only [argOf] at h
    split at h
    case h_2 => cases h
    rename_i tx l p hpl
    split at h
    case h_2 => cases h
    rename_i V t2 y2 o2 hat
    split at h
    case isFalse => cases h
    rename_i hf
    simp only [Bool.and_eq_true, decide_eq_true_eq] at hf
    obtain ⟨hle, htx⟩ := hf
    subst htx
    split at h
    case h_2 => cases h
    rename_i y3 hy
    cases h
    obtain ⟨e, rfl⟩ := castT_some hy
    subst e
    obtain ⟨cs, V', org, d, p1, p2, p3, p4, p5⟩ := place_new r hpl
    obtain ⟨⟨org2, ht2⟩, hval⟩ := content_some (at_some hat).1
    rw [p1] at ht2
    cases ht2
    obtain ⟨_, _, _, _, _, _, _, k6, _, _⟩ := content_new r (at_some hat).1
    obtain ⟨Oi, Os, F, h1, h2, h3, h4, h4', h5, h6⟩ := handOn r hat hle p2 p4
    refine ⟨Oi, Os, F, ⟨k6, hval, fun S hS => ⟨d, p5, h5.mono hS (fun _ h => h)⟩, h1, h2, h3, fun b hb => ⟨l, by simp, h4 b hb⟩⟩, rfl, l, p, rfl, ?_⟩
    intro V2 on xn y4 hct hsp hso w' g' Mx Oo S2 LN hB hLN hr hO hS2
    rw [(at_some hat).1] at hct
    cases hct
    have hd : (a.eval x).cells.toList = d := by rw [p5]; exact h5.cells
    rw [hd] at hr
    refine h6 o on xn y4 hsp hso w' g' Mx Oo S2 LN _ hB hLN hr hO (fun b hb h4 e => ?_) (fun h => hS2 _ (fun e he => List.mem_append_right _ he) h) (fun _ => rfl)
    subst e
    exact h4' h4 (hO _ hb (r.boxes _ _ _ h4 p1).1)
  | ptr t o o' =>
    simp only [argOf] at h
    split at h
    case h_2 => cases h
    rename_i l v hv iv tr hp
    split at h
    case h_2 => cases h
    rename_i V t2 y2 o2 hat
    split at h
    case isFalse => cases h
    rename_i hle
    split at h
    case h_2 => cases h
    rename_i y3 hy
    cases h
    obtain ⟨e, rfl⟩ := castT_some hy
    subst e
    obtain ⟨b, off, cs, d, O', m1, m2, m3, m4⟩ := ref_at r hp hat
    obtain ⟨⟨org, ht⟩, hval⟩ := content_some (at_some hat).1
    obtain ⟨cs0, Oc, k1, k2, k3, k4, k5, k6, k7, k8⟩ := content_new r (at_some hat).1
    obtain rfl := m2.cells.uniq k1
    have hbase : baseOf g l = some (b, off) := by cases hV : V.t <;> (rw [hV] at m4; exact m4)
    have h4 : l % 4 = 1 := by
      unfold baseOf at hbase
      split at hbase
      · assumption
      · cases hbase
    have hbo : b = g.Bk l ∧ off = 0 := by
      unfold baseOf at hbase
      rw [if_pos h4] at hbase
      cases hbase
      exact ⟨rfl, rfl⟩
    obtain ⟨rfl, rfl⟩ := hbo
    obtain ⟨tV, oV, xV, lV, gV⟩ := V
    have hg : (⟨tV, xV⟩ : (t : Ty) × t.den) = ⟨t2, y2⟩ := by
      have := (at_some hat).2.1
      cases tV <;> exact Option.some.inj this
    have hgo : oV = o2 := by
      have := (at_some hat).2.2
      cases oV <;> exact Option.some.inj this
    cases hg
    subst hgo
    obtain ⟨Os, F, j1, j2, j3, j4⟩ := k3.le hle
    obtain ⟨b1, b2⟩ := r.boxes l _ _ h4 ht
    have hcells : ∃ c e f, w.heap[g.Bk l]? = some (.cells c e f) ∧ c.toList = cs := by
      have := m2.cells
      unfold Cells at this
      rw [if_pos h4] at this
      exact this
    refine ⟨fun b => Oc b ∨ b = g.Bk l, fun b => Os b ∨ b = g.Bk l, F, ⟨k6, hval, fun S hS => ⟨g.Bk l, cs, Os, m1, b2, hcells, j4.mono hS (fun _ h => h), .inr rfl, fun k hk => ⟨.inl hk, (k5 k (j1 k hk)).2 h4⟩⟩, fun b hb => hb.imp (j1 b) id, fun b hb => .inl (j2 b hb), fun b hb hF => ?_, fun b hb => ⟨l, by simp, ?_⟩⟩, rfl, l, rfl, ?_⟩
    · rcases hb with hb | rfl
      · exact j3 b hb hF
      · exact (k5 _ (j2 _ hF)).2 h4 rfl
    · rcases hb with hb | rfl
      · exact (k5 b hb).1
      · exact b1
    · intro y4 w' g' Mx Oo S2 LN hB hLN hr hS2
      obtain ⟨b', cs', Oc', q1, q2, q3, q4, q5, q6⟩ := hr
      rw [m1] at q1
      simp at q1
      subst q1
      refine ⟨_, org, ⟨t2, o', y4, LN, 0⟩, cs', ht, rfl, rfl, rfl, rfl, hLN, q4.len, fun _ => ⟨.inr q5, q2, q3⟩, fun h => absurd h4 h, fun hS => ⟨Oc', q4.mono (hS2 LN (fun _ h => h) hS) (fun _ h => h), by simp, fun b hb => ⟨.inr (q6 b hb).1, fun _ => (q6 b hb).2⟩⟩⟩
end
end Go.OM

namespace Go.OM
open Go

theorem noDup_nodup : ∀ {l : List Loc}, noDup l = true ↔ l.Nodup := by
  intro l
  induction l with
  | nil => simp [noDup]
  | cons x l ih =>
    have hx : (l.any (Nat.beq x) = true) ↔ x ∈ l := by
      rw [List.any_eq_true]
      constructor
      · rintro ⟨y, hy, he⟩; rw [beq_eq.1 he]; exact hy
      · intro h; exact ⟨x, h, beq_eq.2 rfl⟩
    rw [noDup, Bool.and_eq_true, List.nodup_cons, ih]
    constructor
    · rintro ⟨h1, h2⟩
      refine ⟨fun hm => ?_, h2⟩
      rw [hx.2 hm] at h1; cases h1
    · rintro ⟨h1, h2⟩
      refine ⟨?_, h2⟩
      cases ha : l.any (Nat.beq x) with
      | false => rfl
      | true => exact (h1 (hx.1 ha)).elim
section
variable {c : Ctx} {g g' : Ghost} {s s' : St} {a : Act} {w w' : World} {P : Program} {E : Env}
theorem Behind.sub {l : Loc} {ln ln2 : Lend} {Mx Oi : Nat → Prop} (h : Behind g w w' l ln Mx Oi) (hs : ∀ e ∈ ln2, e ∈ ln) : Behind g w w' l ln2 Mx Oi := by
  have : ∀ b, Sof g ln2 b → Sof g ln b := fun b hb => hb.imp id (fun ⟨e, he, hb⟩ => ⟨e, hs e he, hb⟩)
  exact ⟨h.grow, fun b hb => h.lt b (hb.imp id (this b)), h.same, h.own, fun b hb => h.sof b (this b hb)⟩
structure Gathered (c : Ctx) (g : Ghost) (s : St) (a : Act) (w : World) (pms : List PM) (args : List Operand) (G : Gath pms) (Ois Oss Fs : Nat → Nat → Prop) (idx : Loc → Nat) : Prop where
  fut : ∀ e ∈ G.lend, e.2 ≤ (s e.1).v
  val : validL s G.lend = true
  ok : ∀ S : Nat → Prop, (∀ b, Sof g G.lend b ∨ (∃ i, Fs i b) → S b) → ArgsOk w S pms G.x (args.map a.eval) Oss
  os : ∀ i b, Oss i b → Ois i b
  f : ∀ i b, Fs i b → Ois i b
  osf : ∀ i b, Oss i b → ¬ Fs i b
  oi : ∀ i b, Ois i b → ∃ l ∈ G.moved.map (·.1) ++ G.back.map (·.1), idx l = i ∧ g.O l b
  inj : ∀ l ∈ G.moved.map (·.1) ++ G.back.map (·.1), ∀ m ∈ G.moved.map (·.1) ++ G.back.map (·.1), idx l = idx m → l = m
  after : ∀ (y : denR (pms.flatMap PM.outs)) (u : Upds) (LN : Lend), backs pms y G.back LN s = some u → u.map (·.1) = G.back.map (·.1) ∧
    ∀ (w' : World) (g' : Ghost) (Mx S2 : Nat → Prop) (Oo : Nat → Nat → Prop), (∀ e ∈ LN, e.2 ≤ (s e.1).v) → (∀ l ∈ G.moved.map (·.1) ++ G.back.map (·.1), Behind g w w' l G.lend Mx (Ois (idx l))) → OutsOk w' S2 pms y (args.map a.eval) Oo →
      (∀ l ∈ G.moved.map (·.1) ++ G.back.map (·.1), ∀ b, Oo (idx l) b → g.O l b → Ois (idx l) b) → (∀ ln', (∀ e ∈ LN, e ∈ ln') → (∀ b, Sof g ln' b → Sof g' ln' b) → ∀ b, S2 b → Sof g' ln' b) →
      ∀ e ∈ G.moved ++ u, PlaceAfter c g g' s a w' e.1 e.2 (fun b => (g.O e.1 b ∧ ¬ Ois (idx e.1) b) ∨ Oo (idx e.1) b)
theorem gather_in (r : RelG c g s a w) : ∀ {pms : List PM} {args : List Operand} {G : Gath pms}, gatherA pms args s = some G → (G.moved.map (·.1) ++ G.back.map (·.1)).Nodup → ∃ Ois Oss Fs idx, Gathered c g s a w pms args G Ois Oss Fs idx := by
  intro pms
  induction pms with
  | nil =>
    intro args G h _
    cases args with
    | cons x xs => cases h
    | nil =>
      cases h
      refine ⟨fun _ _ => False, fun _ _ => False, fun _ _ => False, fun _ => 0, by simp, rfl, fun S _ => trivial, fun _ _ h => h, fun _ _ h => h, fun _ _ h => h.elim, fun _ _ h => h.elim, fun _ h => by simp at h, fun y u LN h => ?_⟩
      cases h
      exact ⟨rfl, fun _ _ _ _ _ _ _ _ _ _ e he => by simp at he⟩
  | cons p ps ih =>
    intro args G h hnd
    cases args with
    | nil => cases h
    | cons x xs =>
      simp only [gatherA] at h
      split at h
      case h_2 => cases h
      rename_i y0 ln0 back0 moved0 Gt h0 ht
      cases h
      obtain ⟨Oi, Os, F, A, Af⟩ := arg_in r h0
      have hperm : ((moved0 ++ Gt.moved).map (·.1) ++ (back0 ++ Gt.back).map (·.1)).Perm ((moved0.map (·.1) ++ back0.map (·.1)) ++ (Gt.moved.map (·.1) ++ Gt.back.map (·.1))) := by
        simp only [List.map_append, List.append_assoc]
        refine List.Perm.append_left _ ?_
        rw [← List.append_assoc, ← List.append_assoc]
        exact List.Perm.append_right _ List.perm_append_comm
      have hnd2 := hperm.nodup_iff.1 hnd
      obtain ⟨hn0, hnt, hdis⟩ := List.nodup_append.1 hnd2
      obtain ⟨Ois, Oss, Fs, idx, K⟩ := ih ht hnt
      let ls0 := moved0.map (·.1) ++ back0.map (·.1)
      let lst := Gt.moved.map (·.1) ++ Gt.back.map (·.1)
      have hmem : ∀ l, l ∈ (moved0 ++ Gt.moved).map (·.1) ++ (back0 ++ Gt.back).map (·.1) ↔ l ∈ ls0 ∨ l ∈ lst := fun l => by
        rw [hperm.mem_iff, List.mem_append]
      have hidx0 : ∀ l, l ∈ ls0 → (if l ∈ ls0 then 0 else idx l + 1) = 0 := fun l h => if_pos h
      have hidxt : ∀ l, l ∈ lst → (if l ∈ ls0 then 0 else idx l + 1) = idx l + 1 := fun l h => if_neg (fun h0 => hdis l h0 l h rfl)
      refine ⟨fun i => match i with | 0 => Oi | i + 1 => Ois i, fun i => match i with | 0 => Os | i + 1 => Oss i, fun i => match i with | 0 => F | i + 1 => Fs i, fun l => if l ∈ ls0 then 0 else idx l + 1, ?_, ?_, ?_, ?_, ?_, ?_, ?_, ?_, ?_⟩
      · intro e he
        rcases List.mem_append.1 he with he | he
        · exact A.fut e he
        · exact K.fut e he
      · show validL s (ln0 ++ Gt.lend) = true
        have h1 := A.val
        have h2 := K.val
        unfold validL at h1 h2 ⊢
        rw [List.all_append, h1, h2]; rfl
      · intro S hS
        refine ⟨A.ok S (fun b hb => hS b (hb.imp (fun h => Sof.left h) (fun h => ⟨0, h⟩))), K.ok S (fun b hb => hS b (hb.imp (fun h => Sof.right h) (fun ⟨i, h⟩ => ⟨i + 1, h⟩)))⟩
      · intro i b h; cases i with
        | zero => exact A.os b h
        | succ i => exact K.os i b h
      · intro i b h; cases i with
        | zero => exact A.f b h
        | succ i => exact K.f i b h
      · intro i b h; cases i with
        | zero => exact A.osf b h
        | succ i => exact K.osf i b h
      · intro i b h; cases i with
        | zero =>
          obtain ⟨l, hl, hb⟩ := A.oi b h
          exact ⟨l, (hmem l).2 (.inl hl), hidx0 l hl, hb⟩
        | succ i =>
          obtain ⟨l, hl, hi, hb⟩ := K.oi i b h
          exact ⟨l, (hmem l).2 (.inr hl), by rw [hidxt l hl, hi], hb⟩
      · have h0 : ∀ l ∈ ls0, ∀ m ∈ ls0, l = m := by
          cases p with
          | fz t => obtain ⟨rfl, rfl⟩ := Af; intro l hl; simp [ls0] at hl
          | own t o => obtain ⟨rfl, e0, rfl, _⟩ := Af; intro l hl m hm; simp [ls0] at hl hm; rw [hl, hm]
          | «mut» t o => obtain ⟨rfl, l', q, rfl, _⟩ := Af; intro l hl m hm; simp [ls0] at hl hm; rw [hl, hm]
          | ptr t o o' => obtain ⟨rfl, l', rfl, _⟩ := Af; intro l hl m hm; simp [ls0] at hl hm; rw [hl, hm]
        intro l hl m hm he
        rcases (hmem l).1 hl with h1 | h1 <;> rcases (hmem m).1 hm with h2 | h2
        · exact h0 l h1 m h2
        · simp only [hidx0 l h1, hidxt m h2] at he; omega
        · simp only [hidxt l h1, hidx0 m h2] at he; omega
        · simp only [hidxt l h1, hidxt m h2] at he; exact K.inj l h1 m h2 (by omega)
      · intro y u LN hbk
        -- the tail's places
        have tail : ∀ (yt : denR (ps.flatMap PM.outs)) (ut : Upds), backs ps yt Gt.back LN s = some ut → ut.map (·.1) = Gt.back.map (·.1) ∧ ∀ (w' : World) (g' : Ghost) (Mx S2 : Nat → Prop) (Oo : Nat → Nat → Prop), (∀ e ∈ LN, e.2 ≤ (s e.1).v) →
            (∀ l ∈ (moved0 ++ Gt.moved).map (·.1) ++ (back0 ++ Gt.back).map (·.1), Behind g w w' l (ln0 ++ Gt.lend) Mx ((fun i => match i with | 0 => Oi | i + 1 => Ois i : Nat → Nat → Prop) (if l ∈ ls0 then 0 else idx l + 1))) →
            OutsOk w' S2 ps yt (xs.map a.eval) (fun i => Oo (i + 1)) →
            (∀ l ∈ (moved0 ++ Gt.moved).map (·.1) ++ (back0 ++ Gt.back).map (·.1), ∀ b, Oo (if l ∈ ls0 then 0 else idx l + 1) b → g.O l b → (fun i => match i with | 0 => Oi | i + 1 => Ois i : Nat → Nat → Prop) (if l ∈ ls0 then 0 else idx l + 1) b) →
            (∀ ln', (∀ e ∈ LN, e ∈ ln') → (∀ b, Sof g ln' b → Sof g' ln' b) → ∀ b, S2 b → Sof g' ln' b) →
            ∀ e ∈ Gt.moved ++ ut, PlaceAfter c g g' s a w' e.1 e.2 (fun b => (g.O e.1 b ∧ ¬ (fun i => match i with | 0 => Oi | i + 1 => Ois i : Nat → Nat → Prop) (if e.1 ∈ ls0 then 0 else idx e.1 + 1) b) ∨ Oo (if e.1 ∈ ls0 then 0 else idx e.1 + 1) b) := by
          intro yt ut hut
          obtain ⟨hf, haf⟩ := K.after yt ut LN hut
          refine ⟨hf, fun w' g' Mx S2 Oo hLN hB hO hOo hS2 e he => ?_⟩
          have hel : e.1 ∈ lst := by
            rcases List.mem_append.1 he with he | he
            · exact List.mem_append_left _ (List.mem_map_of_mem he)
            · refine List.mem_append_right _ ?_
              rw [← hf]; exact List.mem_map_of_mem he
          rw [hidxt _ hel]
          refine haf w' g' Mx S2 (fun i => Oo (i + 1)) hLN (fun l hl => ?_) hO (fun l hl b h1 h2 => ?_) hS2 e he
          · have := hB l ((hmem l).2 (.inr hl))
            rw [hidxt l hl] at this
            exact this.sub (fun e he => List.mem_append_right _ he)
          · have := hOo l ((hmem l).2 (.inr hl)) b
            rw [hidxt l hl] at this
            exact this h1 h2
        have headB : ∀ {w' : World} {Mx : Nat → Prop}, (∀ l ∈ (moved0 ++ Gt.moved).map (·.1) ++ (back0 ++ Gt.back).map (·.1), Behind g w w' l (ln0 ++ Gt.lend) Mx ((fun i => match i with | 0 => Oi | i + 1 => Ois i : Nat → Nat → Prop) (if l ∈ ls0 then 0 else idx l + 1))) → ∀ l ∈ ls0, Behind g w w' l ln0 Mx Oi := by
          intro w' Mx hB l hl
          have := hB l ((hmem l).2 (.inl hl))
          rw [hidx0 l hl] at this
          exact this.sub (fun e he => List.mem_append_left _ he)
        cases p with
        | fz t =>
          obtain ⟨rfl, rfl⟩ := Af
          obtain ⟨hf, haf⟩ := tail y u hbk
          exact ⟨by simpa using hf, fun w' g' Mx S2 Oo hLN hB hO hOo hS2 e he => haf w' g' Mx S2 Oo hLN hB hO hOo hS2 e (by simpa using he)⟩
        | own t o =>
          obtain ⟨rfl, e0, rfl, haf0⟩ := Af
          obtain ⟨hf, haf⟩ := tail y u hbk
          refine ⟨by simpa using hf, fun w' g' Mx S2 Oo hLN hB hO hOo hS2 e he => ?_⟩
          by_cases he0 : e ∈ [e0]
          · have hel : e.1 ∈ ls0 := List.mem_append_left _ (List.mem_map_of_mem he0)
            rw [hidx0 _ hel]
            obtain rfl := List.mem_singleton.1 he0
            exact (haf0 w' g' Mx (headB hB e.1 hel)).mono (fun b hb => .inl hb)
          · refine haf w' g' Mx S2 Oo hLN hB hO hOo hS2 e ?_
            have he : e ∈ ([e0] ++ Gt.moved) ++ u := he
            rw [List.append_assoc] at he
            exact (List.mem_append.1 he).resolve_left he0
        | «mut» t o =>
          obtain ⟨rfl, l, q, rfl, haf0⟩ := Af
          have hbk : (match content s l with
            | some v => match setP v.t v.x q t (headR t (ps.flatMap PM.outs) y), setO v.o q o with
              | some yn, some on => (backs ps (tailR t (ps.flatMap PM.outs) y) Gt.back LN s).map fun u => bump s l (.val ⟨v.t, on, yn, v.lend ++ lnOf (frz t o) LN, v.tag⟩ none) :: u
              | _, _ => none
            | none => none) = some u := hbk
          split at hbk
          case h_2 => cases hbk
          rename_i V hct
          split at hbk
          case h_2 => cases hbk
          rename_i yn on hsp hso
          obtain ⟨ut, hut, rfl⟩ := Option.map_eq_some_iff.1 hbk
          obtain ⟨hf, haf⟩ := tail _ ut hut
          refine ⟨by simpa [bump] using hf, fun w' g' Mx S2 Oo hLN hB hO hOo hS2 e he => ?_⟩
          have hl0 : l ∈ ls0 := by simp [ls0]
          have he : e ∈ Gt.moved ++ (bump s l (.val ⟨V.t, on, yn, V.lend ++ lnOf (frz t o) LN, V.tag⟩ none) :: ut) := he
          rcases List.mem_append.1 he with he | he
          · exact haf w' g' Mx S2 Oo hLN hB hO.2 hOo hS2 e (List.mem_append_left _ he)
          · rcases List.mem_cons.1 he with rfl | he
            · show PlaceAfter c g g' s a w' l _ (fun b => (g.O l b ∧ ¬ (fun i => match i with | 0 => Oi | i + 1 => Ois i : Nat → Nat → Prop) (if l ∈ ls0 then 0 else idx l + 1) b) ∨ Oo (if l ∈ ls0 then 0 else idx l + 1) b)
              rw [hidx0 _ hl0]
              have h3 := hOo l ((hmem l).2 (.inl hl0))
              rw [hidx0 _ hl0] at h3
              cases hfz : frz t o with
              | true => exact haf0 V on yn _ hct hsp hso w' g' Mx (Oo 0) S2 LN (headB hB l hl0) hLN hO.1 h3 hS2
              | false => exact haf0 V on yn _ hct hsp hso w' g' Mx (Oo 0) (fun _ => False) [] (headB hB l hl0) (fun e he => by cases he) (hO.1.nofrz hfz) h3 (fun _ _ _ _ h => h.elim)
            · exact haf w' g' Mx S2 Oo hLN hB hO.2 hOo hS2 e (List.mem_append_right _ he)
        | ptr t o o' =>
          obtain ⟨rfl, l, rfl, haf0⟩ := Af
          have hbk : ((backs ps (tailR t (ps.flatMap PM.outs) y) Gt.back LN s).map fun u => bump s l (.val ⟨t, o', headR t (ps.flatMap PM.outs) y, lnOf (frz t o') LN, 0⟩ none) :: u) = some u := hbk
          obtain ⟨ut, hut, rfl⟩ := Option.map_eq_some_iff.1 hbk
          obtain ⟨hf, haf⟩ := tail _ ut hut
          refine ⟨by simpa [bump] using hf, fun w' g' Mx S2 Oo hLN hB hO hOo hS2 e he => ?_⟩
          have hl0 : l ∈ ls0 := by simp [ls0]
          have he : e ∈ Gt.moved ++ (bump s l (.val ⟨t, o', headR t (ps.flatMap PM.outs) y, lnOf (frz t o') LN, 0⟩ none) :: ut) := he
          rcases List.mem_append.1 he with he | he
          · exact haf w' g' Mx S2 Oo hLN hB hO.2 hOo hS2 e (List.mem_append_left _ he)
          · rcases List.mem_cons.1 he with rfl | he
            · show PlaceAfter c g g' s a w' l _ (fun b => (g.O l b ∧ ¬ (fun i => match i with | 0 => Oi | i + 1 => Ois i : Nat → Nat → Prop) (if l ∈ ls0 then 0 else idx l + 1) b) ∨ Oo (if l ∈ ls0 then 0 else idx l + 1) b)
              rw [hidx0 _ hl0]
              cases hfz : frz t o' with
              | true => exact haf0 _ w' g' Mx (Oo 0) S2 LN (headB hB l hl0) hLN hO.1 hS2
              | false =>
                obtain ⟨n, cs, Oc, q1, q2, q3, q4, q5⟩ := hO.1
                exact haf0 _ w' g' Mx (Oo 0) (fun _ => False) [] (headB hB l hl0) (fun e he => by cases he) ⟨n, cs, Oc, q1, q2, q3, q4.nofrz hfz, q5⟩ (fun _ _ _ _ h => h.elim)
            · exact haf w' g' Mx S2 Oo hLN hB hO.2 hOo hS2 e (List.mem_append_right _ he)
end
end Go.OM

namespace Go.OM
open Go
section
variable {c : Ctx} {g : Ghost} {s : St} {a : Act} {w : World} {P : Program} {E : Env}
/-- A place that is no box gets a value. -/
theorem RelG.putAt (r : RelG c g s a w) {w' : World} (hw : Same w w') {l0 : Loc} (hm : l0 % 4 ≠ 1) (hm3 : ∀ m, idl m ≠ l0) {a' : Act} {v : Value} {cv : Loc → Value} {T : T} {Oc : Nat → Prop} (hdef : a'.defers = []) (size : a'.tmps.size = c.N)
    (hval : valAt { g with O := fun l => if l = l0 then Oc else g.O l, CV := cv } a' l0 = some v) (hoth : ∀ l, l ≠ l0 → valAt { g with O := fun l => if l = l0 then Oc else g.O l, CV := cv } a' l = valAt g a l)
    (hCV : ∀ b i, i < 8 → (∃ l n, (s l).t = .tup b n (s (idl (tm b))).v) → cv (cp b i) = g.CV (cp b i)) (hT : ∀ b n iv, T = .tup b n iv → ∀ i, cv (cp b i) = g.CV (cp b i)) (hn : New c g s a w v Oc T) (hf : Free c g w l0 Oc) :
    RelG c { g with O := fun l => if l = l0 then Oc else g.O l, CV := cv } (upds s [bump s l0 T]) a' w' := by
  have hs : upds s [bump s l0 T] = upd s l0 ⟨T, (s l0).v + 1, (s l0).hv + 1⟩ := rfl
  rw [hs]
  have e : Evo (· = l0) g s a w { g with O := fun l => if l = l0 then Oc else g.O l, CV := cv } (upd s l0 ⟨T, (s l0).v + 1, (s l0).hv + 1⟩) a' w' :=
    { st := fun l hl => upd_ne hl
      up := fun l hl => by subst hl; rw [upd_self]; exact ⟨Nat.lt_succ_self _, Nat.le_succ _⟩
      O := fun l hl => if_neg hl
      Bk := fun _ _ => rfl
      val := fun l hl => hoth l hl
      CV := fun b i h8 _ h => hCV b i h8 h
      G := fun _ h => h
      heap := fun b _ => by rw [hw.heap]
      refs := fun l hl _ V org cs p b off v' hv iv h1 h2 h3 h4 h5 h6 h7 => by
        subst hl
        exact (noRef (s := s) hm (by rw [upd_self]; exact Nat.lt_succ_self _) h4 h5 h7).elim }
  have lt := Nat.lt_succ_self (s l0).v
  refine e.rel r hw.grow r.gin (fun _ _ => .inl rfl) ?_ ?_ ?_ ?_ ?_ (r.fr.same hw) hdef size ?_ ?_ ?_
  · intro l l' b h h'
    by_cases h1 : l = l0
    · by_cases h2 : l' = l0
      · rw [h1, h2]
      · simp only [if_pos h1] at h; simp only [if_neg h2] at h'
        exact ((hf b h).2.1 l' h2 h').elim
    · by_cases h2 : l' = l0
      · simp only [if_neg h1] at h; simp only [if_pos h2] at h'
        exact ((hf b h').2.1 l h1 h).elim
      · simp only [if_neg h1] at h; simp only [if_neg h2] at h'
        exact r.disj l l' b h h'
  · intro l b h
    by_cases h1 : l = l0
    · simp only [if_pos h1] at h; exact (hf b h).1
    · simp only [if_neg h1] at h; exact r.ownG l b h
  · intro l b hl h
    simp only [if_pos hl] at h
    rw [hw.heap]; exact (hf b h).2.2
  · intro b h; rw [hw.heap]; exact r.gsz b h
  · intro l V org hl h4; rw [hl] at h4; exact absurd h4 hm
  · intro l hl; rw [hl, upd_self]
    have up : ∀ m, (s m).v ≤ (upd s l0 ⟨T, (s l0).v + 1, (s l0).hv + 1⟩ m).v ∧ (s m).hv ≤ (upd s l0 ⟨T, (s l0).v + 1, (s l0).hv + 1⟩ m).hv := fun m => by
      by_cases hm : m = l0
      · subst hm; rw [upd_self]; exact ⟨Nat.le_succ _, Nat.le_succ _⟩
      · rw [upd_ne hm]; exact ⟨Nat.le_refl _, Nat.le_refl _⟩
    cases T with
    | val V org =>
      refine ⟨fun x hx => Nat.le_trans (hn.1.1 x hx) (up _).1, ?_⟩
      cases org with
      | none => trivial
      | some q => exact Nat.le_trans hn.1.2 (up _).1
    | ref l' p v hv iv => exact ⟨Nat.le_trans hn.1.1 (up _).1, Nat.le_trans hn.1.2.1 (up _).2, Nat.le_trans hn.1.2.2 (up _).1⟩
    | tup b n iv => exact Nat.le_trans hn.1 (up _).1
    | _ => trivial
  · intro l hl; rw [hl, upd_self]
    cases T with
    | val V org =>
      intro x hx hxl
      rw [upd_self]
      have := hn.1.1 x hx
      rw [hxl] at this
      exact Nat.lt_succ_of_le this
    | _ => trivial
  · intro l hl; rw [hl, upd_self]
    cases T with
    | undef => trivial
    | und => simp only [TOk, New] at hn ⊢; rw [hval, hn]
    | prp pos p dd => simp only [TOk, New] at hn ⊢; rw [hval, hn]
    | val V org =>
      intro hv
      obtain ⟨v1, v2⟩ := e.valid hn.1.1 hv
      obtain ⟨cs, k1, k2⟩ := hn.2 v1
      refine ⟨cs, Oc, ?_, fun _ => by rw [hval, k1], e.held r hn.1 hv (fun b _ => by rw [hw.heap]) k2, fun b hb => ⟨by simp only [if_true]; exact hb, fun h4 => absurd h4 hm⟩⟩
      unfold Cells
      rw [if_neg hm]
      exact ⟨v, hval, by rw [k1]; exact k2.1.cells⟩
    | ref l' p v' hv iv =>
      intro hv'
      have f := hn.1
      simp only [validR, Bool.and_eq_true, Bool.or_eq_true, beq_eq] at hv'
      have hi : idl l' ≠ l0 := hm3 _
      rw [upd_ne hi] at hv'
      have old : l' ≠ l0 := by
        intro hl
        subst hl
        rw [upd_self] at hv'
        have := f.2.1
        rcases hv'.2 with hfl | ⟨he, _⟩
        · obtain ⟨b, off, cs, V', org', m1, m2, m3, m4, m5⟩ := hn.2 (by simp only [validR, Bool.and_eq_true, Bool.or_eq_true, beq_eq]; exact ⟨hv'.1, .inl hfl⟩)
          unfold baseOf at m4
          rw [if_neg hm] at m4
          exact NavA.flat_none hfl m4
        · simp only at he; omega
      rw [upd_ne old] at hv' ⊢
      obtain ⟨b, off, cs, V', org', m1, m2, m3, m4, m5⟩ := hn.2 (by simp only [validR, Bool.and_eq_true, Bool.or_eq_true, beq_eq]; exact hv')
      refine ⟨b, off, cs, V', org', m1, e.cells old (fun h => (r.boxes _ _ _ h m1.1).1) m2, m3, ?_, by rw [hval, m5]⟩
      simp only [if_neg old]
      exact m4.frame (fun _ h => h) (fun b _ => by rw [hw.heap])
    | tup b n iv =>
      intro hv'
      have hi : idl (tm b) ≠ l0 := hm3 _
      rw [upd_ne hi] at hv'
      obtain ⟨vs, m1, m2, m3⟩ := hn.2 hv'
      exact ⟨vs, by rw [hval, m1], m2, fun i hi' => ⟨(m3 i hi').1, by rw [show (_ : Ghost).CV (cp b i) = cv (cp b i) from rfl, hT b n iv rfl i]; exact (m3 i hi').2⟩⟩


end
end Go.OM

namespace Go.OM
open Go
section
variable {c : Ctx} {g : Ghost} {s : St} {a : Act} {w : World} {P : Program} {E : Env}

def NoTup (s : St) (d : Nat) : Prop := ∀ l n, (s l).t ≠ .tup d n (s (idl (tm d))).v
theorem cp_inj {b j d i : Nat} (hj : j < 8) (hi : i < 8) (h : cp b j = cp d i) : b = d ∧ j = i := by
  have h' : 4 * (8 * b + j) + 2 = 4 * (8 * d + i) + 2 := h
  omega
theorem valAt_cv {cv : Loc → Value} {O : Loc → Nat → Prop} {l : Loc} (h : l % 4 = 2 → cv l = g.CV l) : valAt { g with O := O, CV := cv } a l = valAt g a l := by
  unfold valAt
  split
  · rfl
  · split
    · rename_i h2; exact congrArg some (h h2)
    · rfl
theorem bump_ne {s' : St} {l : Loc} {T : T} (h : s' l = s l) : bump s' l T = bump s l T := by simp only [bump, h]
/-- A component of a call's results gets its value. -/
theorem RelG.putC (r : RelG c g s a w) {d i : Nat} (hi : i < 8) (hno : NoTup s d) {v : Value} {T : T} {Oc : Nat → Prop} (hnt : ∀ b n iv, T ≠ .tup b n iv) (hn : New c g s a w v Oc T) (hf : Free c g w (cp d i) Oc) :
    RelG c { g with O := fun l => if l = cp d i then Oc else g.O l, CV := fun l => if l = cp d i then v else g.CV l } (upds s [bump s (cp d i) T]) a w ∧ NoTup (upds s [bump s (cp d i) T]) d := by
  have hm : cp d i % 4 ≠ 1 := by rw [cp_mod]; decide
  have hm3 : ∀ m, idl m ≠ cp d i := fun m h => by have := idl_ne m; rw [h, cp_mod] at this; cases this
  refine ⟨r.putAt (Same.refl w) hm hm3 (a' := a) (cv := fun l => if l = cp d i then v else g.CV l) r.defs r.size ?_ (fun l hl => ?_) (fun b j hj hex => ?_) (fun b n iv h => absurd h (hnt b n iv)) hn hf, ?_⟩
  · unfold valAt
    rw [if_neg (by rw [cp_mod]; decide), if_pos (cp_mod d i)]
    simp
  · exact valAt_cv (fun _ => if_neg hl)
  · refine if_neg (fun e => ?_)
    obtain ⟨rfl, _⟩ := cp_inj hj hi e
    obtain ⟨l, n, hl⟩ := hex
    exact hno l n hl
  · intro l n hl
    show False
    have h1 : upds s [bump s (cp d i) T] (idl (tm d)) = s (idl (tm d)) := upd_ne (hm3 _)
    rw [h1] at hl
    by_cases hlc : l = cp d i
    · subst hlc
      have : upds s [bump s (cp d i) T] (cp d i) = ⟨T, (s (cp d i)).v + 1, (s (cp d i)).hv + 1⟩ := upd_self
      rw [this] at hl
      exact hnt _ _ _ hl
    · have : upds s [bump s (cp d i) T] l = s l := upd_ne hlc
      rw [this] at hl
      exact hno l n hl
theorem Loose.keep {O1 O2 : Nat → Prop} {Bk : Loc → Nat} {CV : Loc → Value} {OO : Loc → Nat → Prop} (h : Loose c g w O1) (hd : ∀ b, O1 b → ¬ O2 b) (hO : ∀ l b, OO l b → g.O l b ∨ O2 b) : Loose c { g with O := OO, Bk := Bk, CV := CV } w O1 :=
  fun b hb => ⟨(h b hb).1, fun l hl => (hO l b hl).elim ((h b hb).2.1 l) (hd b hb), (h b hb).2.2⟩
/-- What is not lent from the places that are written is lent as it was. -/
theorem sof_keep {s' : St} {ln : Lend} {O2 : Loc → Nat → Prop} {Bk : Loc → Nat} {CV : Loc → Value} {L : Loc → Prop} (hst : ∀ l, ¬ L l → s' l = s l) (hup : ∀ l, L l → (s l).v < (s' l).v) (hO : ∀ l, ¬ L l → O2 l = g.O l) (hf : ∀ e ∈ ln, e.2 ≤ (s e.1).v) (hv : validL s' ln = true) :
    validL s ln = true ∧ ∀ b, Sof g ln b → Sof { g with O := O2, Bk := Bk, CV := CV } ln b := by
  have key : ∀ e ∈ ln, ¬ L e.1 := by
    intro e he hl
    simp only [validL, List.all_eq_true] at hv
    have h1 := beq_eq.1 (hv e he)
    have h2 := hf e he
    have h3 := hup _ hl
    omega
  refine ⟨?_, fun b hb => hb.imp id (fun ⟨e, he, hb⟩ => ⟨e, he, by show O2 e.1 b; rw [hO _ (key e he)]; exact hb⟩)⟩
  simp only [validL, List.all_eq_true] at hv ⊢
  intro e he
  have := hv e he
  rwa [hst _ (key e he)] at this
theorem comps_congr {s' : St} {d : Nat} : ∀ {rts : List RT} {i : Nat} {x : denR (rts.map RT.ty)} {ln : Lend}, (∀ j, i ≤ j → s' (cp d j) = s (cp d j) ∧ s' (bxc d j) = s (bxc d j) ∧ s' (idl (bxc d j)) = s (idl (bxc d j))) → comps s' d i rts x ln = comps s d i rts x ln := by
  intro rts
  induction rts with
  | nil => intro i x ln _; rfl
  | cons r rts ih =>
    intro i x ln h
    obtain ⟨h1, h2, h3⟩ := h i (Nat.le_refl i)
    simp only [comps]
    rw [ih (fun j hj => h j (by omega))]
    simp only [newBox, bump, refTo, h1, h2, h3]
theorem cp_ne_bx {d i j k : Nat} : cp d i ≠ bxc j k := fun h => by have := cp_mod d i; rw [h, bx_mod] at this; cases this
theorem cp_ne_idl {d i : Nat} {m : Loc} : cp d i ≠ idl m := fun h => by have h1 := cp_mod d i; rw [h, idl_ne] at h1; cases h1
theorem tm_ne_bxc {n d i : Nat} : tm n ≠ bxc d i := tm_ne_bx _ _
theorem bxc_inj {d i j : Nat} (h : bxc d i = bxc d j) : i = j := by
  have h' : 4 * (10000 + 8 * d + i) + 1 = 4 * (10000 + 8 * d + j) + 1 := h
  omega
theorem cp_inj2 {d i j : Nat} (h : cp d i = cp d j) : i = j := by
  have h' : 4 * (8 * d + i) + 2 = 4 * (8 * d + j) + 2 := h
  omega
theorem comps_rel {d : Nat} {S' : Nat → Prop} {ln : Lend} : ∀ {rts : List RT} {i : Nat} {x : denR (rts.map RT.ty)} {vs : List Value} {Or : Nat → Nat → Prop} {g : Ghost} {s : St}, i + rts.length ≤ 8 → RelG c g s a w → NoTup s d → RessOk w S' rts x vs Or →
    (∀ e ∈ ln, e.2 ≤ (s e.1).v) → (validL s ln = true → ∀ b, S' b → Sof g ln b) → (∀ k, Loose c g w (Or k)) → (∀ j k b, j ≠ k → Or j b → ¬ Or k b) →
    ∃ g', RelG c g' (upds s (comps s d i rts x ln)) a w ∧ NoTup (upds s (comps s d i rts x ln)) d ∧ vs.length = rts.length ∧ (∀ j v, vs[j]? = some v → g'.CV (cp d (i + j)) = v) ∧ (∀ j, j < i → g'.CV (cp d j) = g.CV (cp d j)) ∧
      ∀ n, upds s (comps s d i rts x ln) (tm n) = s (tm n) ∧ upds s (comps s d i rts x ln) (idl (tm n)) = s (idl (tm n)) := by
  intro rts
  induction rts with
  | nil =>
    intro i x vs Or g s _ r hno hR _ _ _ _
    cases vs with
    | nil => exact ⟨g, r, hno, rfl, fun j v h => by simp at h, fun _ _ => rfl, fun _ => ⟨rfl, rfl⟩⟩
    | cons v vs => exact hR.elim
  | cons rt rts ih =>
    intro i x vs Or g s hi r hno hR hfut hS hl hd
    cases vs with
    | nil => exact hR.elim
    | cons v vs =>
      obtain ⟨hR1, hR2⟩ := hR
      simp only [List.length_cons] at hi
      -- what follows the first
      have rest : ∀ {g1 : Ghost} {s1 : St} (U : Upds), upds s U = s1 → RelG c g1 s1 a w → NoTup s1 d → g1.CV (cp d i) = v → (∀ j, j < i → g1.CV (cp d j) = g.CV (cp d j)) → (∀ j, i + 1 ≤ j → s1 (cp d j) = s (cp d j) ∧ s1 (bxc d j) = s (bxc d j) ∧ s1 (idl (bxc d j)) = s (idl (bxc d j))) →
          (∀ e ∈ ln, e.2 ≤ (s1 e.1).v) → (validL s1 ln = true → ∀ b, S' b → Sof g1 ln b) → (∀ k, Loose c g1 w (Or (k + 1))) → (∀ n, s1 (tm n) = s (tm n) ∧ s1 (idl (tm n)) = s (idl (tm n))) →
          ∃ g', RelG c g' (upds s (U ++ comps s d (i + 1) rts (tailR rt.ty (rts.map RT.ty) x) ln)) a w ∧ NoTup (upds s (U ++ comps s d (i + 1) rts (tailR rt.ty (rts.map RT.ty) x) ln)) d ∧ (v :: vs).length = (rt :: rts).length ∧ (∀ j v', (v :: vs)[j]? = some v' → g'.CV (cp d (i + j)) = v') ∧ (∀ j, j < i → g'.CV (cp d j) = g.CV (cp d j)) ∧
            ∀ n, upds s (U ++ comps s d (i + 1) rts (tailR rt.ty (rts.map RT.ty) x) ln) (tm n) = s (tm n) ∧ upds s (U ++ comps s d (i + 1) rts (tailR rt.ty (rts.map RT.ty) x) ln) (idl (tm n)) = s (idl (tm n)) := by
        intro g1 s1 U hU r1 hno1 hcv hcv2 hst hf1 hS1 hl1 htm
        rw [upds_append, hU, ← comps_congr (s' := s1) (s := s) hst]
        obtain ⟨g', k1, k2, k3, k4, k5, k6⟩ := ih (i := i + 1) (by omega) r1 hno1 hR2 hf1 hS1 hl1 (fun j k b hne => hd (j + 1) (k + 1) b (by omega))
        refine ⟨g', k1, k2, by simp [k3], fun j v' hj => ?_, fun j hj => by rw [k5 j (by omega), hcv2 j hj], fun n => ⟨(k6 n).1.trans (htm n).1, (k6 n).2.trans (htm n).2⟩⟩
        cases j with
        | zero => simp at hj; subst hj; rw [Nat.add_zero, k5 i (by omega), hcv]
        | succ j => rw [show i + (j + 1) = i + 1 + j by omega]; exact k4 j v' (by simpa using hj)
      unfold ResOk at hR1
      cases hp : rt.ptr with
      | false =>
        rw [hp] at hR1
        obtain ⟨cs, rfl, hRp⟩ := hR1
        have hN : New c g s a w (mkV rt.ty cs) (Or 0) (.val ⟨rt.ty, rt.o, headR rt.ty (rts.map RT.ty) x, lnOf (frz rt.ty rt.o) ln, 0⟩ none) := ⟨⟨fun e he => hfut e (lnOf_mem he), trivial⟩, fun hv => ⟨cs, rfl, hRp.lnOf hS hv, by simp, trivial⟩⟩
        obtain ⟨r1, hno1⟩ := r.putC (i := i) (by omega) hno (fun _ _ _ h => by cases h) hN ((hl 0).free _)
        simp only [comps, hp, Bool.false_eq_true, if_false]
        have hne : ∀ m, m ≠ cp d i → upds s [bump s (cp d i) (.val ⟨rt.ty, rt.o, headR rt.ty (rts.map RT.ty) x, lnOf (frz rt.ty rt.o) ln, 0⟩ none)] m = s m := fun m hm => upd_ne hm
        have hself : (upds s [bump s (cp d i) (.val ⟨rt.ty, rt.o, headR rt.ty (rts.map RT.ty) x, lnOf (frz rt.ty rt.o) ln, 0⟩ none)] (cp d i)).v = (s (cp d i)).v + 1 := by show (upd s (cp d i) _ (cp d i)).v = _; rw [upd_self]
        have hup : ∀ m, (s m).v ≤ (upds s [bump s (cp d i) (.val ⟨rt.ty, rt.o, headR rt.ty (rts.map RT.ty) x, lnOf (frz rt.ty rt.o) ln, 0⟩ none)] m).v := fun m => by
          by_cases hm : m = cp d i
          · rw [hm, hself]; exact Nat.le_succ _
          · rw [hne m hm]; exact Nat.le_refl _
        refine rest _ rfl r1 hno1 (if_pos rfl) (fun j hj => if_neg (fun e => by have := cp_inj2 e; omega)) (fun j hj => ⟨hne _ (fun e => by have := cp_inj2 e; omega), hne _ (fun e => cp_ne_bx e.symm), hne _ (fun e => cp_ne_idl e.symm)⟩)
          (fun e he => Nat.le_trans (hfut e he) (hup _)) (fun hv => ?_) (fun k => (hl (k + 1)).keep (O2 := Or 0) (fun b h1 h2 => hd _ _ b (by omega) h1 h2) (fun l b h => ?_)) (fun n => ⟨hne _ (tm_ne_cp _ _ _), hne _ (fun e => cp_ne_idl e.symm)⟩)
        · obtain ⟨v1, v2⟩ := sof_keep (g := g) (s' := upds s [bump s (cp d i) (.val ⟨rt.ty, rt.o, headR rt.ty (rts.map RT.ty) x, lnOf (frz rt.ty rt.o) ln, 0⟩ none)]) (L := (· = cp d i)) (O2 := fun l => if l = cp d i then Or 0 else g.O l) (Bk := g.Bk) (CV := fun l => if l = cp d i then mkV rt.ty cs else g.CV l) hne (fun l hl => by rw [hl, hself]; exact Nat.lt_succ_self _) (fun l hl => if_neg hl) hfut hv
          exact fun b hb => v2 b (hS v1 b hb)
        · by_cases hlc : l = cp d i
          · simp only [if_pos hlc] at h; exact .inr h
          · simp only [if_neg hlc] at h; exact .inl h
      | true =>
        rw [hp] at hR1
        obtain ⟨n, cs, Oc, rfl, hbox, hcell, hRp, hOn, hOc⟩ := hR1
        simp only [comps, hp, if_true]
        let V : OM.V := ⟨rt.ty, rt.o, headR rt.ty (rts.map RT.ty) x, lnOf (frz rt.ty rt.o) ln, 0⟩
        let l := bxc d i
        have h4 : l % 4 = 1 := bx_mod _
        have hli : l ≠ idl l := ne_idl h4 l
        have r0 := r.adopt (l := l) (c.bkN _ (.inr (by omega))) h4 (V := V) (cs := cs) (n := n) (Oc := Oc) ⟨fun e he => hfut e (lnOf_mem he), trivial⟩ (fun hv => ⟨hRp.lnOf hS hv, by simp [V]⟩) hbox hcell ((hl 0).sub (fun b hb => hb.elim (fun e => by rw [e]; exact hOn) (fun h => (hOc b h).1))) (fun h => (hOc n h).2 rfl)
        have sA : ∀ m, m ≠ l → m ≠ idl l → upds s (newBox s l V) m = s m := fun m h1 h2 => by rw [newBox_st, if_neg h2, if_neg h1]
        have sl : upds s (newBox s l V) l = ⟨.val V none, (s l).v + 1, (s l).hv + 1⟩ := by rw [newBox_st, if_neg hli, if_pos rfl]
        have si : upds s (newBox s l V) (idl l) = ⟨.undef, (s (idl l)).v + 1, (s (idl l)).hv + 1⟩ := by rw [newBox_st, if_pos rfl]
        have hidne : idl (tm d) ≠ idl l := fun e => tm_ne_bx _ _ (idl_inj e)
        have hno0 : NoTup (upds s (newBox s l V)) d := by
          intro m k hm
          rw [sA (idl (tm d)) (fun e => hli (e ▸ (by have := idl_ne (tm d); rw [e, h4] at this; cases this))) hidne] at hm
          by_cases h1 : m = l
          · rw [h1, sl] at hm; cases hm
          · by_cases h2 : m = idl l
            · rw [h2, si] at hm; cases hm
            · rw [sA m h1 h2] at hm; exact hno m k hm
        have hN : New c { g with O := fun m => if m = l then (fun b => b = n ∨ Oc b) else if m = idl l then (fun _ => False) else g.O m, Bk := fun m => if m = l then n else g.Bk m } (upds s (newBox s l V)) a w (.pointer (some ⟨n, 0, none⟩)) (fun _ => False) (refTo s l V.t) := by
          refine ⟨?_, fun _ => ⟨n, 0, cs, V, none, ⟨by rw [sl], by cases hV : V.t <;> rfl⟩, ?_, hRp.len, ?_, rfl⟩⟩
          · simp only [Fut, refTo]
            rw [sl, si]
            exact ⟨Nat.le_refl _, Nat.le_refl _, Nat.le_refl _⟩
          · unfold Cells
            rw [if_pos h4]
            simp only [if_true]
            exact hcell
          · have hb : baseOf { g with O := fun m => if m = l then (fun b => b = n ∨ Oc b) else if m = idl l then (fun _ => False) else g.O m, Bk := fun m => if m = l then n else g.Bk m } l = some (n, 0) := by
              unfold baseOf; rw [if_pos h4]; simp
            rw [hb]
            cases hV : V.t <;> rfl
        obtain ⟨r1, hno1⟩ := r0.putC (i := i) (by omega) hno0 (fun _ _ _ h => by cases h) hN (fun _ h => h.elim)
        have hcs : upds s (newBox s l V) (cp d i) = s (cp d i) := sA _ cp_ne_bx cp_ne_idl
        rw [bump_ne hcs] at r1 hno1
        have hU : upds s (newBox s l V ++ [bump s (cp d i) (refTo s l V.t)]) = upds (upds s (newBox s l V)) [bump s (cp d i) (refTo s l V.t)] := upds_append _ _ _
        rw [← hU] at r1 hno1
        have hne : ∀ m, m ≠ cp d i → m ≠ l → m ≠ idl l → upds s (newBox s l V ++ [bump s (cp d i) (refTo s l V.t)]) m = s m := fun m h1 h2 h3 => by
          rw [hU]
          show upd _ (cp d i) _ m = _
          rw [upd_ne h1, sA m h2 h3]
        have hup : ∀ m, (m = cp d i ∨ m = l ∨ m = idl l) → (s m).v < (upds s (newBox s l V ++ [bump s (cp d i) (refTo s l V.t)]) m).v := fun m hm => by
          rw [hU]
          show _ < (upd _ (cp d i) _ m).v
          by_cases h1 : m = cp d i
          · rw [h1, upd_self]; exact Nat.lt_succ_self _
          · rw [upd_ne h1]
            rcases hm with hm | hm | hm
            · exact absurd hm h1
            · rw [hm, sl]; exact Nat.lt_succ_self _
            · rw [hm, si]; exact Nat.lt_succ_self _
        have hle : ∀ m, (s m).v ≤ (upds s (newBox s l V ++ [bump s (cp d i) (refTo s l V.t)]) m).v := fun m => by
          by_cases hm : m = cp d i ∨ m = l ∨ m = idl l
          · exact Nat.le_of_lt (hup m hm)
          · rw [hne m (fun e => hm (.inl e)) (fun e => hm (.inr (.inl e))) (fun e => hm (.inr (.inr e)))]; exact Nat.le_refl _
        refine rest _ rfl r1 hno1 (if_pos rfl) (fun j hj => if_neg (fun e => by have := cp_inj2 e; omega)) (fun j hj => ⟨hne _ (fun e => by have := cp_inj2 e; omega) cp_ne_bx cp_ne_idl, hne _ (fun e => cp_ne_bx e.symm) (fun e => by have := bxc_inj e; omega) (ne_idl (bx_mod _) _), hne _ (fun e => cp_ne_idl e.symm) (fun e => ne_idl h4 _ e.symm) (fun e => by have := bxc_inj (idl_inj e); omega)⟩)
          (fun e he => Nat.le_trans (hfut e he) (hle _)) (fun hv => ?_) (fun k => (hl (k + 1)).keep (O2 := fun b => b = n ∨ Oc b) (fun b h1 h2 => hd (k + 1) 0 b (by omega) h1 (h2.elim (fun e => by rw [e]; exact hOn) (fun h => (hOc b h).1))) (fun m b h => ?_)) (fun m => ⟨hne _ (tm_ne_cp _ _ _) tm_ne_bxc (tm_ne_idl _ _), hne _ (fun e => cp_ne_idl e.symm) (fun e => ne_idl h4 _ e.symm) (fun e => tm_ne_bx _ _ (idl_inj e))⟩)
        · obtain ⟨v1, v2⟩ := sof_keep (g := g) (s' := upds s (newBox s l V ++ [bump s (cp d i) (refTo s l V.t)])) (L := fun m => m = cp d i ∨ m = l ∨ m = idl l)
            (O2 := fun m => if m = cp d i then (fun _ => False) else if m = l then (fun b => b = n ∨ Oc b) else if m = idl l then (fun _ => False) else g.O m) (Bk := fun m => if m = l then n else g.Bk m) (CV := fun l => if l = cp d i then .pointer (some ⟨n, 0, none⟩) else g.CV l)
            (fun m hm => hne m (fun e => hm (.inl e)) (fun e => hm (.inr (.inl e))) (fun e => hm (.inr (.inr e)))) hup (fun m hm => by
              show (if m = cp d i then (fun _ => False) else if m = l then (fun b => b = n ∨ Oc b) else if m = idl l then (fun _ => False) else g.O m) = g.O m
              rw [if_neg (fun e => hm (.inl e)), if_neg (fun e => hm (.inr (.inl e))), if_neg (fun e => hm (.inr (.inr e)))]) hfut hv
          exact fun b hb => v2 b (hS v1 b hb)
        · by_cases h1 : m = cp d i
          · simp only [if_pos h1] at h
          · simp only [if_neg h1] at h
            by_cases h2 : m = l
            · simp only [if_pos h2] at h; exact .inr h
            · simp only [if_neg h2] at h
              by_cases h3 : m = idl l
              · simp only [if_pos h3] at h
              · simp only [if_neg h3] at h; exact .inl h
end
end Go.OM

namespace Go.OM
open Go
section
variable {c : Ctx} {g : Ghost} {s : St} {a : Act} {w : World} {P : Program} {E : Env}
theorem RessOk.len {S : Nat → Prop} : ∀ {rts : List RT} {x : denR (rts.map RT.ty)} {vs : List Value} {Or : Nat → Nat → Prop}, RessOk w S rts x vs Or → vs.length = rts.length := by
  intro rts
  induction rts with
  | nil => intro x vs Or h; cases vs with
    | nil => rfl
    | cons v vs => exact h.elim
  | cons rt rts ih => intro x vs Or h; cases vs with
    | nil => exact h.elim
    | cons v vs => simp [ih h.2]
theorem results_rel (r : RelG c g s a w) {d : Nat} (hd : d < c.N) {S' : Nat → Prop} {ln : Lend} {rts : List RT} {x : denR (rts.map RT.ty)} {vs : List Value} {Or : Nat → Nat → Prop} (h8 : rts.length ≤ 8) (hR : RessOk w S' rts x vs Or)
    (hfut : ∀ e ∈ ln, e.2 ≤ (s e.1).v) (hS : validL s ln = true → ∀ b, S' b → Sof g ln b) (hl : ∀ k, Loose c g w (Or k)) (hdis : ∀ j k b, j ≠ k → Or j b → ¬ Or k b) :
    Rel c (upds s (results s d rts x ln)) (a.put (some d) (retV vs)) w := by
  match rts, x, vs, h8, hR with
  | [], x, [], _, _ => exact ⟨_, r.put (Same.refl w) hd (T := .undef) (Oc := fun _ => False) trivial (fun _ h => h.elim)⟩
  | [rt], x, [v], h8, hR =>
    have hR1 : ResOk w S' rt x v (Or 0) := hR.1
    unfold ResOk at hR1
    show Rel c (upds s (if rt.ptr then putB s d ⟨rt.ty, rt.o, x, lnOf (frz rt.ty rt.o) ln, 0⟩ else putV s d ⟨rt.ty, rt.o, x, lnOf (frz rt.ty rt.o) ln, 0⟩)) (a.put (some d) v) w
    cases hp : rt.ptr with
    | false =>
      rw [hp] at hR1
      obtain ⟨cs, rfl, hRp⟩ := hR1
      exact ⟨_, r.put (Same.refl w) hd (Oc := Or 0) ⟨⟨fun e he => hfut e (lnOf_mem he), trivial⟩, fun hv => ⟨cs, rfl, hRp.lnOf hS hv, by simp, trivial⟩⟩ ((hl 0).free _)⟩
    | true =>
      rw [hp] at hR1
      obtain ⟨n, cs, Oc, rfl, hbox, hcell, hRp, hOn, hOc⟩ := hR1
      exact r.putB hd (V := ⟨rt.ty, rt.o, x, lnOf (frz rt.ty rt.o) ln, 0⟩) (Oc := Oc) ⟨fun e he => hfut e (lnOf_mem he), trivial⟩ (fun hv => ⟨hRp.lnOf hS hv, by simp⟩) hbox hcell ((hl 0).sub (fun b hb => hb.elim (fun e => by rw [e]; exact hOn) (fun h => (hOc b h).1))) (fun h => (hOc n h).2 rfl) hRp.len
  | r1 :: r2 :: rts, x, v1 :: v2 :: vs, h8, hR =>
    have h4 : idl (tm d) % 4 ≠ 1 := by rw [idl_ne]; decide
    obtain ⟨r0, e0⟩ := r.drop (l0 := idl (tm d)) h4
    have hs0 : ∀ m, m ≠ idl (tm d) → upds s [bump s (idl (tm d)) .undef] m = s m := fun m hm => upd_ne hm
    have hs1 : upds s [bump s (idl (tm d)) .undef] (idl (tm d)) = ⟨.undef, (s (idl (tm d))).v + 1, (s (idl (tm d))).hv + 1⟩ := upd_self
    have hno : NoTup (upds s [bump s (idl (tm d)) .undef]) d := by
      intro l n hl
      rw [hs1] at hl
      by_cases h : l = idl (tm d)
      · rw [h, hs1] at hl; cases hl
      · rw [hs0 l h] at hl
        have f := r.fut l
        rw [hl] at f
        simp only [Fut] at f; omega
    obtain ⟨g', k1, k2, k3, k4, k5, k6⟩ := comps_rel (ln := ln) (S' := S') (i := 0) (d := d) (rts := r1 :: r2 :: rts) (x := x) (by simpa using h8) r0 hno hR (fun e he => Nat.le_trans (hfut e he) (e0.ups _)) (fun hv => by
      obtain ⟨v1, v2⟩ := sof_keep (g := g) (L := (· = idl (tm d))) (O2 := fun l => if l = idl (tm d) then (fun _ => False) else g.O l) (Bk := g.Bk) (CV := g.CV) hs0 (fun l hl => by rw [hl, hs1]; exact Nat.lt_succ_self _) (fun l hl => if_neg hl) hfut hv
      exact fun b hb => v2 b (hS v1 b hb)) (fun k => (hl k).keep (O2 := fun _ => False) (fun _ _ h => h) (fun l b h => by
        by_cases h1 : l = idl (tm d)
        · simp only [if_pos h1] at h
        · simp only [if_neg h1] at h; exact .inl h)) hdis
    have hcc : comps (upds s [bump s (idl (tm d)) .undef]) d 0 (r1 :: r2 :: rts) x ln = comps s d 0 (r1 :: r2 :: rts) x ln := comps_congr (fun j _ => ⟨hs0 _ cp_ne_idl, hs0 _ (ne_idl (bx_mod _) _), hs0 _ (fun e => tm_ne_bx _ _ (idl_inj e).symm)⟩)
    rw [hcc] at k1 k2 k6
    show Rel c (upds s (bump s (idl (tm d)) .undef :: (comps s d 0 (r1 :: r2 :: rts) x ln ++ [bump s (tm d) (.tup d (r1 :: r2 :: rts).length ((s (idl (tm d))).v + 1))]))) (a.put (some d) (.tuple (v1 :: v2 :: vs).toArray)) w
    rw [upds_cons, upds_append]
    have htm : upds (upds s [bump s (idl (tm d)) .undef]) (comps s d 0 (r1 :: r2 :: rts) x ln) (tm d) = s (tm d) := (k6 d).1.trans (hs0 _ (tm_ne_idl _ _))
    have hid : upds (upds s [bump s (idl (tm d)) .undef]) (comps s d 0 (r1 :: r2 :: rts) x ln) (idl (tm d)) = ⟨.undef, (s (idl (tm d))).v + 1, (s (idl (tm d))).hv + 1⟩ := (k6 d).2.trans hs1
    rw [← bump_ne htm]
    refine ⟨_, k1.put (Same.refl w) hd (Oc := fun _ => False) ⟨?_, fun _ => ⟨(v1 :: v2 :: vs).toArray, rfl, by simpa using k3, fun i hi => ⟨by omega, ?_⟩⟩⟩ (fun _ h => h.elim)⟩
    · simp only [Fut]; rw [hid]; exact Nat.le_refl _
    · have hi' : i < (v1 :: v2 :: vs).length := by rw [k3]; exact hi
      have := k4 i _ (List.getElem?_eq_getElem hi')
      rw [Nat.zero_add] at this
      rw [this, List.getElem?_toArray, List.getElem?_eq_getElem hi']
end
end Go.OM

namespace Go.OM
open Go
section
variable {c : Ctx} {g : Ghost} {s : St} {a : Act} {w : World} {P : Program} {E : Env}
theorem upds_out : ∀ {U : Upds} {s : St} {l : Loc}, l ∉ U.map (·.1) → upds s U l = s l := by
  intro U
  induction U with
  | nil => intro s l _; rfl
  | cons e U ih =>
    intro s l h
    simp only [List.map_cons, List.mem_cons, not_or] at h
    rw [upds_cons, ih h.2]
    obtain ⟨m, x⟩ := e
    exact upd_ne h.1
theorem upds_in : ∀ {U : Upds} {s : St} {e : Loc × Cell}, (U.map (·.1)).Nodup → e ∈ U → upds s U e.1 = e.2 := by
  intro U
  induction U with
  | nil => intro s e _ h; simp at h
  | cons q U ih =>
    intro s e hn h
    simp only [List.map_cons, List.nodup_cons] at hn
    rw [upds_cons]
    rcases List.mem_cons.1 h with rfl | h
    · rw [upds_out hn.1]
      obtain ⟨m, x⟩ := e
      exact upd_self
    · exact ih hn.2 h
theorem RessOk.nofrz {S S2 : Nat → Prop} : ∀ {rts : List RT} {x : denR (rts.map RT.ty)} {vs : List Value} {Or : Nat → Nat → Prop}, rts.any RT.frz = false → RessOk w S rts x vs Or → RessOk w S2 rts x vs Or := by
  intro rts
  induction rts with
  | nil => intro x vs Or _ h; cases vs with
    | nil => trivial
    | cons v vs => exact h.elim
  | cons rt rts ih =>
    intro x vs Or hf h
    cases vs with
    | nil => exact h.elim
    | cons v vs =>
      simp only [List.any_cons, Bool.or_eq_false_iff] at hf
      refine ⟨?_, ih hf.2 h.2⟩
      have h1 := h.1
      unfold ResOk at h1 ⊢
      cases hp : rt.ptr with
      | false =>
        rw [hp] at h1
        obtain ⟨cs, e, hR⟩ := h1
        exact ⟨cs, e, hR.nofrz hf.1⟩
      | true =>
        rw [hp] at h1
        obtain ⟨b, cs, Oc, e1, e2, e3, e4, e5⟩ := h1
        exact ⟨b, cs, Oc, e1, e2, e3, e4.nofrz hf.1, e5⟩
theorem OutsOk.none {S S2 : Nat → Prop} : ∀ {pms : List PM} {y : denR (pms.flatMap PM.outs)} {vs : List Value} {Oo : Nat → Nat → Prop}, pms.any (fun p => !p.outs.isEmpty) = false → OutsOk w S pms y vs Oo → OutsOk w S2 pms y vs Oo := by
  intro pms
  induction pms with
  | nil => intro y vs Oo _ h; cases vs with
    | nil => trivial
    | cons v vs => exact h.elim
  | cons p ps ih =>
    intro y vs Oo hf h
    simp only [List.any_cons, Bool.or_eq_false_iff] at hf
    cases p with
    | fz t => cases vs with
      | nil => exact h.elim
      | cons v vs => exact ih (y := y) hf.2 h
    | own t o => cases vs with
      | nil => exact h.elim
      | cons v vs => exact ih (y := y) hf.2 h
    | «mut» t o => simp at hf
    | ptr t o o' => simp at hf
/-- What is gathered for a call. -/
structure Gath2 (c : Ctx) (g : Ghost) (s : St) (a : Act) (w : World) (pms : List PM) (x : denI pms) (lend : Lend) (back : List (Loc × Path)) (moved : Upds) (vals : List Value) (Ois Oss Fs : Nat → Nat → Prop) (idx : Loc → Nat) : Prop where
  fut : ∀ e ∈ lend, e.2 ≤ (s e.1).v
  val : validL s lend = true
  ok : ∀ S : Nat → Prop, (∀ b, Sof g lend b ∨ (∃ i, Fs i b) → S b) → ArgsOk w S pms x vals Oss
  os : ∀ i b, Oss i b → Ois i b
  f : ∀ i b, Fs i b → Ois i b
  osf : ∀ i b, Oss i b → ¬ Fs i b
  oi : ∀ i b, Ois i b → ∃ l ∈ moved.map (·.1) ++ back.map (·.1), idx l = i ∧ g.O l b
  inj : ∀ l ∈ moved.map (·.1) ++ back.map (·.1), ∀ m ∈ moved.map (·.1) ++ back.map (·.1), idx l = idx m → l = m
  after : ∀ (y : denR (pms.flatMap PM.outs)) (u : Upds) (LN : Lend), backs pms y back LN s = some u → u.map (·.1) = back.map (·.1) ∧
    ∀ (w' : World) (g' : Ghost) (Mx S2 : Nat → Prop) (Oo : Nat → Nat → Prop), (∀ e ∈ LN, e.2 ≤ (s e.1).v) → (∀ l ∈ moved.map (·.1) ++ back.map (·.1), Behind g w w' l lend Mx (Ois (idx l))) → OutsOk w' S2 pms y vals Oo →
      (∀ l ∈ moved.map (·.1) ++ back.map (·.1), ∀ b, Oo (idx l) b → g.O l b → Ois (idx l) b) → (∀ ln', (∀ e ∈ LN, e ∈ ln') → (∀ b, Sof g ln' b → Sof g' ln' b) → ∀ b, S2 b → Sof g' ln' b) →
      ∀ e ∈ moved ++ u, PlaceAfter c g g' s a w' e.1 e.2 (fun b => (g.O e.1 b ∧ ¬ Ois (idx e.1) b) ∨ Oo (idx e.1) b)
theorem Gathered.two {pms : List PM} {args : List Operand} {G : Gath pms} {Ois Oss Fs : Nat → Nat → Prop} {idx : Loc → Nat} (K : Gathered c g s a w pms args G Ois Oss Fs idx) : Gath2 c g s a w pms G.x G.lend G.back G.moved (args.map a.eval) Ois Oss Fs idx :=
  ⟨K.fut, K.val, K.ok, K.os, K.f, K.osf, K.oi, K.inj, K.after⟩
theorem go_ok (r : RelG c g s a w) {sm : Sm} (hsm : SmOk P sm) {d : Option Nat} (hd : ∀ n, d = some n → n < c.N) {x : denI sm.pms} {lend : Lend} {back : List (Loc × Path)} {moved : Upds} {vals : List Value}
    (K : (moved.map (·.1) ++ back.map (·.1)).Nodup → ∃ Ois Oss Fs idx, Gath2 c g s a w sm.pms x lend back moved vals Ois Oss Fs idx) {U : Upds} (h : (evGo sm d s x lend back moved).run some = some U) :
    Calls P sm.f vals.toArray w fun e w' => ∃ v, e = .returned v ∧ Rel c (upds s U) (a.put d v) w' := by
  unfold evGo at h
  simp only at h
  split at h
  case isFalse => cases h
  rename_i hcond
  simp only [Bool.and_eq_true] at hcond
  obtain ⟨⟨hnd, hlend⟩, h8⟩ := hcond
  have hnd := noDup_nodup.1 hnd
  obtain ⟨Ois, Oss, Fs, idx, K⟩ := K hnd
  let ls := moved.map (·.1) ++ back.map (·.1)
  have hlend : ∀ e ∈ lend, e.1 ∉ ls := by
    intro e he hm
    have := List.all_eq_true.1 hlend e he
    have h2 : (moved.map (·.1) ++ back.map (·.1)).any (Nat.beq e.1) = true := List.any_eq_true.2 ⟨e.1, hm, beq_eq.2 rfl⟩
    rw [h2] at this; cases this
  simp only [Prog.run] at h
  obtain ⟨y, hy, h⟩ := Option.bind_eq_some_iff.1 h
  split at h
  case h_2 => cases h
  rename_i u hu
  obtain rfl := Option.some.inj h
  -- what the call may write
  have hSn : ∀ i b, Ois i b → ¬ Sof g lend b := by
    intro i b hb hs
    obtain ⟨l, hl, _, ho⟩ := K.oi i b hb
    rcases hs with hs | ⟨e, he, hs⟩
    · exact r.ownG _ _ ho hs
    · have := r.disj _ _ b hs ho
      exact hlend e he (this ▸ hl)
  have hdj : ∀ i j b, i ≠ j → Ois i b → ¬ Ois j b := by
    intro i j b hne h1 h2
    obtain ⟨l, _, hi, ho⟩ := K.oi i b h1
    obtain ⟨m, _, hj, hm⟩ := K.oi j b h2
    have := r.disj _ _ b ho hm
    subst this; exact hne (hi ▸ hj)
  have hsame_l : ∀ i b l, Ois i b → l ∈ ls → g.O l b → Ois (idx l) b := by
    intro i b l hb hl ho
    obtain ⟨m, _, hi, hm⟩ := K.oi i b hb
    have := r.disj _ _ b ho hm
    subst this; rw [hi]; exact hb
  let S : Nat → Prop := fun b => Sof g lend b ∨ ∃ i, Fs i b
  have hargs := K.ok S (fun _ h => h)
  have hap : Apart S w.heap.size Oss := by
    refine ⟨fun i j b hne h1 h2 => hdj i j b hne (K.os i b h1) (K.os j b h2), fun i b h1 h2 => ?_, fun i b h1 => ?_, fun b h1 => ?_⟩
    · rcases h2 with h2 | ⟨j, h2⟩
      · exact hSn i b (K.os i b h1) h2
      · by_cases hij : i = j
        · subst hij; exact K.osf i b h1 h2
        · exact hdj i j b hij (K.os i b h1) (K.f j b h2)
    · obtain ⟨l, _, _, ho⟩ := K.oi i b (K.os i b h1); exact (r.own l b ho).1
    · rcases h1 with h1 | ⟨i, h1⟩
      · exact rel_lt r (l := 0) (ln := lend) (.inr h1)
      · obtain ⟨l, _, _, ho⟩ := K.oi i b (K.f i b h1); exact (r.own l b ho).1
  refine Calls.mono (hsm vals w S Oss x y hy hargs hap) ?_
  rintro e w' ⟨vs, S', Or, Oo, rfl, hR, hO, hgrow, hsame, hSS, hS', hfrom, hAr, hAo, hAA⟩
  refine ⟨_, rfl, ?_⟩
  generalize hLN : (if sm.rts.any RT.frz || sm.pms.any (fun p => !p.outs.isEmpty) then lend else ([] : Lend)) = LN at hu
  obtain ⟨hf1, haf⟩ := K.after _ u LN hu
  have hLNsub : ∀ e ∈ LN, e ∈ lend := by
    intro e he
    rw [← hLN] at he
    split at he
    · exact he
    · simp at he
  have hLNfut : ∀ e ∈ LN, e.2 ≤ (s e.1).v := fun e he => K.fut e (hLNsub e he)
  have hkeys : (moved ++ u).map (·.1) = ls := by rw [List.map_append, hf1]
  have hndu : ((moved ++ u).map (·.1)).Nodup := by rw [hkeys]; exact hnd
  let On : Loc → Nat → Prop := fun l b => (g.O l b ∧ ¬ Ois (idx l) b) ∨ Oo (idx l) b
  let F : Nat → Prop := fun b => S' b ∧ ¬ Sof g lend b
  let g' : Ghost := { g with G := fun b => g.G b ∨ F b, O := fun m => if m ∈ ls then On m else g.O m }
  -- blocks that come back
  have hplace : ∀ i b, Oss i b → ∃ l ∈ ls, g.O l b ∧ idx l = i := fun i b h => by obtain ⟨l, h1, h2, h3⟩ := K.oi i b (K.os i b h); exact ⟨l, h1, h3, h2⟩
  have hback : ∀ i b, (Or i b ∨ Oo i b) → (∀ l, g.O l b → l ∈ ls ∧ Ois (idx l) b) ∧ ¬ g.G b ∧ (c.base ≤ b ∨ c.M b) := by
    intro i b h
    rcases hfrom i b h with ⟨j, hj⟩ | hb
    · obtain ⟨l, h1, h2, h3⟩ := hplace j b hj
      refine ⟨fun m hm => ?_, fun hg => r.ownG _ _ h2 hg, (r.own l b h2).2⟩
      have := r.disj _ _ b hm h2
      subst this
      exact ⟨h1, by rw [h3]; exact K.os j b hj⟩
    · obtain ⟨q1, q2, q3⟩ := Fr.fresh r hb
      exact ⟨fun m hm => (q2 m hm).elim, q1, q3⟩
  have hS2 : ∃ S2 : Nat → Prop, OutsOk w' S2 sm.pms (splitR (sm.rts.map RT.ty) (sm.pms.flatMap PM.outs) y).2 vals Oo ∧ (∀ ln', (∀ e ∈ LN, e ∈ ln') → (∀ b, Sof g ln' b → Sof g' ln' b) → ∀ b, S2 b → Sof g' ln' b) := by
    by_cases hc : (sm.rts.any RT.frz || sm.pms.any (fun p => !p.outs.isEmpty)) = true
    · rw [if_pos hc] at hLN
      subst hLN
      refine ⟨S', hO, fun ln' h1 h2 b hb => ?_⟩
      by_cases hs : Sof g lend b
      · exact h2 b (hs.imp id (fun ⟨e, he, hb⟩ => ⟨e, h1 e he, hb⟩))
      · exact .inl (.inr ⟨hb, hs⟩)
    · have hc2 : sm.pms.any (fun p => !p.outs.isEmpty) = false := by
        cases h : sm.pms.any (fun p => !p.outs.isEmpty) with
        | false => rfl
        | true => rw [h] at hc; simp at hc
      exact ⟨fun _ => False, hO.none hc2, fun _ _ _ _ h => h.elim⟩
  obtain ⟨S2, hO2, hS2⟩ := hS2
  have hPA := haf w' g' (fun b => ∃ i, Oss i b) S2 Oo hLNfut (fun l hl => ⟨hgrow, fun b hb => rel_lt r hb, hsame, fun b ⟨i, hi⟩ ho => hsame_l i b l (K.os i b hi) hl ho, fun b hb ⟨i, hi⟩ => hSn i b (K.os i b hi) hb⟩) hO2
    (fun l hl b hb ho => ((hback _ b (.inr hb)).1 l ho).2) hS2
  obtain ⟨r2, e2⟩ := r.called (s' := upds s (moved ++ u)) (w' := w') (L := (· ∈ ls)) (On := On) (F := F) (Mx := fun b => ∃ i, Oss i b)
    (fun l hl => upds_out (by rw [hkeys]; exact hl)) hgrow hsame (fun b ⟨i, hi⟩ => by obtain ⟨l, h1, h2, _⟩ := hplace i b hi; exact ⟨l, h1, h2⟩)
    (fun l b h => by
      rcases h with h | h
      · exact .inl h.1
      · rcases hfrom _ b (.inr h) with ⟨j, hj⟩ | hb
        · obtain ⟨m, h1, h2, _⟩ := hplace j b hj; exact .inr (.inl ⟨m, h1, h2⟩)
        · exact .inr (.inr hb))
    (fun l m b hl hm hne h1 h2 => by
      rcases h1 with ⟨h1, h1'⟩ | h1 <;> rcases h2 with ⟨h2, h2'⟩ | h2
      · exact hne (r.disj _ _ b h1 h2)
      · exact h1' ((hback _ b (.inr h2)).1 l h1).2
      · exact h2' ((hback _ b (.inr h1)).1 m h2).2
      · exact hAo.disj _ _ b (fun e => hne (K.inj l hl m hm e)) h1 h2)
    (fun l b hl h => by
      rcases h with ⟨h, _⟩ | h
      · exact Nat.lt_of_lt_of_le (r.own l b h).1 hgrow.size
      · exact hAo.lt _ b h)
    (fun b ⟨h, hn⟩ => by
      rcases hS' b h with (h | ⟨i, h⟩) | ⟨i, h⟩ | h
      · exact absurd h hn
      · obtain ⟨l, h1, _, h3⟩ := K.oi i b (K.f i b h); exact .inl ⟨l, h1, h3⟩
      · obtain ⟨l, h1, h2, _⟩ := hplace i b h; exact .inl ⟨l, h1, h2⟩
      · exact .inr h)
    (fun l b hl h ⟨hs, hn⟩ => by
      rcases h with ⟨h, h'⟩ | h
      · rcases hS' b hs with (hs | ⟨i, hi⟩) | ⟨i, hi⟩ | hs
        · exact hn hs
        · exact h' (hsame_l i b l (K.f i b hi) hl h)
        · exact h' (hsame_l i b l (K.os i b hi) hl h)
        · have := (r.own l b h).1; omega
      · exact hAo.noS _ b h hs)
    (fun b ⟨h, _⟩ => hAo.ltS b h)
    (fun l hl => by
      have hm : l ∈ (moved ++ u).map (·.1) := by rw [hkeys]; exact hl
      obtain ⟨e, he, rfl⟩ := List.mem_map.1 hm
      have := hPA e he
      rw [← upds_in (s := s) hndu he] at this
      exact this)
  cases hdd : d with
  | none =>
    rw [List.append_nil]
    exact ⟨g', r2⟩
  | some n =>
    simp only
    rw [upds_append]
    have hl : ∀ k, Loose c g' w' (Or k) := by
      intro k b hb
      obtain ⟨h1, h2, h3⟩ := hback k b (.inl hb)
      refine ⟨fun h => h.elim h2 (fun h => hAr.noS k b hb h.1), fun l h => ?_, hAr.lt k b hb, h3⟩
      by_cases hl : l ∈ ls
      · have h : On l b := by have h' : (if l ∈ ls then On l else g.O l) b := h; rwa [if_pos hl] at h'
        rcases h with ⟨h, h'⟩ | h
        · exact h' (h1 l h).2
        · exact hAA k _ b hb h
      · have h : g.O l b := by have h' : (if l ∈ ls then On l else g.O l) b := h; rwa [if_neg hl] at h'
        exact hl (h1 l h).1
    have hres : ∃ S3 : Nat → Prop, RessOk w' S3 sm.rts (splitR (sm.rts.map RT.ty) (sm.pms.flatMap PM.outs) y).1 vs Or ∧ (validL (upds s (moved ++ u)) LN = true → ∀ b, S3 b → Sof g' LN b) := by
      cases hc : sm.rts.any RT.frz with
      | false => exact ⟨fun _ => False, hR.nofrz hc, fun _ _ h => h.elim⟩
      | true =>
        rw [hc, Bool.true_or, if_pos rfl] at hLN
        subst hLN
        refine ⟨S', hR, fun hv b hb => ?_⟩
        obtain ⟨v1, v2⟩ := e2.valid K.fut hv
        by_cases hs : Sof g lend b
        · exact (e2.sof v2).1 b hs
        · exact .inl (.inr ⟨hb, hs⟩)
    obtain ⟨S3, hR3, hS3⟩ := hres
    exact results_rel r2 (hd n hdd) (Nat.le_of_ble_eq_true h8) hR3 (fun e he => Nat.le_trans (hLNfut e he) (e2.ups _)) hS3 hl hAr.disj
end
end Go.OM

namespace Go.OM
open Go
def Entry (P : Program) (f : FuncId) : Prop := ∃ fn, P.funcs[f]? = some fn ∧ (fn.name == "runtime.NumGoroutine") = false ∧ fn.body.isNone = false
structure EnvOk2 (P : Program) (E : Env) : Prop extends EnvOk P E where
  sms : ∀ sm ∈ E.sms, SmOk P sm ∧ Entry P sm.f
theorem findSm_mem {f : Nat} {q : Sm → Bool} : ∀ {l : List Sm} {sm : Sm}, findSm f q l = some sm → sm ∈ l ∧ sm.f = f ∧ q sm = true := by
  intro l
  induction l with
  | nil => intro sm h; cases h
  | cons x l ih =>
    intro sm h
    simp only [findSm] at h
    split at h
    · rename_i hc
      cases h
      simp only [Bool.and_eq_true] at hc
      exact ⟨List.mem_cons_self, beq_eq.1 hc.1, hc.2⟩
    · obtain ⟨h1, h2⟩ := ih h
      exact ⟨List.mem_cons_of_mem _ h1, h2⟩
section
variable {c : Ctx} {g : Ghost} {s : St} {a : Act} {w : World} {P : Program} {E : Env}
theorem run_callFunc {f : FuncId} (h : Entry P f) (args : Array Value) : (callFunc f args).run P w = .ok (.enter f args) w := by
  obtain ⟨fn, h1, h2, h3⟩ := h
  unfold callFunc
  simp only [Sem.run_bind, run_program, Result.andThen_ok, h1, h2, h3, Bool.false_eq_true, if_false, Sem.run_pure]
theorem wp_enter {o : Oper} {K : Act → World → Prop} {Q : Exit → Act → World → Prop} {f : FuncId} {args : Array Value} (h : (execOp a.eval o).run P w = .ok (.enter f args) w)
    (hk : Calls P f args w fun e w' => ∃ v, e = .returned v ∧ K (a.put o.dst v) w') : o.wp P a w K Q := by
  unfold Oper.wp
  rw [h, Oper.upon_enter]
  refine Calls.mono hk ?_
  rintro e w' ⟨v, rfl, h⟩
  exact h
theorem ok_callF (he : EnvOk2 P E) {o : Oper} {cl : Call} {f : FuncId} (ho : o.op = .call cl) (hc : cl.callee = .value (.func f)) : OpOk c P E o := by
  intro g s a w U Q r hN h
  simp only [evOp, ho, hc] at h
  split at h
  case h_2 => cases h
  rename_i sm hsm
  obtain ⟨hmem, rfl, hlen⟩ := findSm_mem hsm
  obtain ⟨h1, h2⟩ := he.sms sm hmem
  simp only [evCall] at h
  split at h
  case h_2 => cases h
  rename_i G hG
  have hgo := go_ok r h1 hN (fun hnd => by obtain ⟨Ois, Oss, Fs, idx, K⟩ := gather_in r hG hnd; exact ⟨Ois, Oss, Fs, idx, K.two⟩) h
  refine wp_enter (f := sm.f) (args := (cl.args.map a.eval)) ?_ ?_
  · rw [execOp]
    simp only [ho, resolve, hc, Sem.run_bind]
    show ((Deferred.ofValue (.func (.func sm.f) #[] #[]) (cl.args.map a.eval)).run P w).andThen _ = _
    simp only [Deferred.ofValue, Sem.run_pure, Result.andThen_ok, invoke, run_callFunc h2]
    simp
  · have e : cl.args.map a.eval = (cl.args.toList.map a.eval).toArray := by
      apply Array.ext'; simp
    rw [e]; exact hgo
end
end Go.OM

namespace Go.OM
open Go
section
variable {c : Ctx} {g : Ghost} {s : St} {a : Act} {w : World} {P : Program} {E : Env}
theorem headR_consR {t : Ty} : ∀ {r : List Ty} {x : t.den} {y : denR r}, headR t r (consR t r x y) = x := by
  intro r x y; cases r <;> rfl
theorem tailR_consR {t : Ty} : ∀ {r : List Ty} {x : t.den} {y : denR r}, tailR t r (consR t r x y) = y := by
  intro r x y; cases r <;> rfl
theorem ArgsOk.app {S : Nat → Prop} : ∀ {p q : List PM} {x : denI p} {y : denI q} {vs us : List Value} {Os : Nat → Nat → Prop}, ArgsOk w S p x vs Os → (∀ Os, ArgsOk w S q y us Os) → ArgsOk w S (p ++ q) (appI p q x y) (vs ++ us) Os := by
  intro p
  induction p with
  | nil =>
    intro q x y vs us Os h k
    cases vs with
    | nil => exact k Os
    | cons _ _ => exact h.elim
  | cons p ps ih =>
    intro q x y vs us Os h k
    cases vs with
    | nil => exact h.elim
    | cons v vs => exact ⟨h.1, ih h.2 k⟩
def allFz : List PM → Bool
  | [] => true
  | .fz _ :: r => allFz r
  | _ => false
theorem gatherC_fz : ∀ {q : List PM} {t : Ty} {x : t.den} {y : denI q}, gatherC q t x = some y → allFz q = true := by
  intro q
  induction q with
  | nil => intro t x y _; rfl
  | cons p ps ih =>
    intro t x y h
    cases p with
    | fz tp =>
      cases t with
      | pair ta tb =>
        simp only [gatherC] at h
        split at h
        · cases h
        · split at h
          · rename_i y1 r1 h1 h2
            exact ih h2
          · cases h
      | _ => cases h
    | _ => cases t <;> cases h
theorem gatherC_args {S : Nat → Prop} : ∀ {q : List PM} {t : Ty} {x : t.den} {y : denI q} {cs : List Value} {o : Ow} {O : Nat → Prop}, gatherC q t x = some y → Rp w S t .z x cs O → ∀ Os, ArgsOk w S q y cs Os := by
  intro q
  induction q with
  | nil =>
    intro t x y cs o O h hr Os
    cases t with
    | unit => have hr : cs = [] := hr; subst hr; trivial
    | _ => cases h
  | cons p ps ih =>
    intro t x y cs o O h hr Os
    cases p with
    | fz tp =>
      cases t with
      | pair ta tb =>
        simp only [gatherC] at h
        split at h
        · cases h
        · rename_i hag
          split at h
          · rename_i y1 r1 h1 h2
            cases h
            obtain ⟨e, rfl⟩ := castT_some h1
            subst e
            obtain ⟨oa, ob, c1, c2, O1, O2, e1, e2, rfl, r1, r2, _⟩ := hr
            cases e1; cases e2
            have hs : ta.size = 1 := by cases ta <;> simp_all [Ty.agg, Ty.size]
            have hl := r1.len
            rw [hs] at hl
            match c1, hl with
            | [v], _ =>
              refine ⟨⟨[v], ?_, (r1.noOwn rfl).mono (fun _ h => h) (fun _ h => h)⟩, ih (o := .z) h2 r2 _⟩
              simp only [Bool.not_eq_true] at hag
              simp [mkV, hag]
          · cases h
      | _ => cases h
    | _ => cases t <;> cases h
theorem backs_app {ln : Lend} {q : List PM} (hq : allFz q = true) : ∀ {p : List PM} {y : denR ((p ++ q).flatMap PM.outs)} {bk : List (Loc × Path)} {u : Upds}, backs (p ++ q) y bk ln s = some u →
    ∃ y' : denR (p.flatMap PM.outs), backs p y' bk ln s = some u ∧ ∀ (w : World) (S : Nat → Prop) (vs us : List Value) (Oo : Nat → Nat → Prop), vs.length = p.length → OutsOk w S (p ++ q) y (vs ++ us) Oo → OutsOk w S p y' vs Oo := by
  intro p
  induction p with
  | nil =>
    intro y bk u h
    have : ∀ {q : List PM} {y : denR (q.flatMap PM.outs)}, allFz q = true → backs q y bk ln s = some u → bk = [] ∧ u = [] := by
      intro q
      induction q with
      | nil => intro y _ h; cases bk with
        | nil => cases h; exact ⟨rfl, rfl⟩
        | cons _ _ => cases h
      | cons p ps ih =>
        intro y hf h
        cases p with
        | fz t => exact ih (y := y) hf h
        | _ => cases hf
    obtain ⟨rfl, rfl⟩ := this hq h
    refine ⟨(), rfl, fun w S vs us Oo hl _ => ?_⟩
    rw [List.length_eq_zero_iff.1 hl]; trivial
  | cons p ps ih =>
    intro y bk u h
    cases p with
    | fz t =>
      obtain ⟨y', h1, h2⟩ := ih (y := y) h
      refine ⟨y', h1, fun w S vs us Oo hl ho => ?_⟩
      cases vs with
      | nil => cases hl
      | cons v vs => exact h2 w S vs us _ (by simpa using hl) ho
    | own t o =>
      obtain ⟨y', h1, h2⟩ := ih (y := y) h
      refine ⟨y', h1, fun w S vs us Oo hl ho => ?_⟩
      cases vs with
      | nil => cases hl
      | cons v vs => exact h2 w S vs us _ (by simpa using hl) ho
    | «mut» t o =>
      cases bk with
      | nil => cases h
      | cons b bk =>
        obtain ⟨l, pa⟩ := b
        have h : (match content s l with
          | some v => match setP v.t v.x pa t (headR t ((ps ++ q).flatMap PM.outs) y), setO v.o pa o with
            | some yn, some on => (backs (ps ++ q) (tailR t ((ps ++ q).flatMap PM.outs) y) bk ln s).map fun u => bump s l (.val ⟨v.t, on, yn, v.lend ++ lnOf (frz t o) ln, v.tag⟩ none) :: u
            | _, _ => none
          | none => none) = some u := h
        split at h
        case h_2 => cases h
        rename_i v hv
        split at h
        case h_2 => cases h
        rename_i yn on h3 h4
        obtain ⟨u', h5, h6⟩ := Option.map_eq_some_iff.1 h
        obtain ⟨y', k1, k2⟩ := ih h5
        refine ⟨consR t (ps.flatMap PM.outs) (headR t ((ps ++ q).flatMap PM.outs) y) y', ?_, fun w S vs us Oo hl ho => ?_⟩
        · have e1 : headR t (ps.flatMap PM.outs) (consR t (ps.flatMap PM.outs) (headR t ((ps ++ q).flatMap PM.outs) y) y') = headR t ((ps ++ q).flatMap PM.outs) y := headR_consR
          have e2 : tailR t (ps.flatMap PM.outs) (consR t (ps.flatMap PM.outs) (headR t ((ps ++ q).flatMap PM.outs) y) y') = y' := tailR_consR
          show (match content s l with
          | some v => match setP v.t v.x pa t (headR t (ps.flatMap PM.outs) (consR t (ps.flatMap PM.outs) (headR t ((ps ++ q).flatMap PM.outs) y) y')), setO v.o pa o with
            | some yn, some on => (backs ps (tailR t (ps.flatMap PM.outs) (consR t (ps.flatMap PM.outs) (headR t ((ps ++ q).flatMap PM.outs) y) y')) bk ln s).map fun u => bump s l (.val ⟨v.t, on, yn, v.lend ++ lnOf (frz t o) ln, v.tag⟩ none) :: u
            | _, _ => none
          | none => none) = some u
          rw [e1, e2, hv]
          simp only [h3, h4, k1, Option.map_some]
          rw [← h6]
        · cases vs with
          | nil => cases hl
          | cons v vs =>
            obtain ⟨o1, o2⟩ := ho
            refine ⟨?_, ?_⟩
            · have e1 : headR t (ps.flatMap PM.outs) (consR t (ps.flatMap PM.outs) (headR t ((ps ++ q).flatMap PM.outs) y) y') = headR t ((ps ++ q).flatMap PM.outs) y := headR_consR
              rw [e1]; exact o1
            · have e2 : tailR t (ps.flatMap PM.outs) (consR t (ps.flatMap PM.outs) (headR t ((ps ++ q).flatMap PM.outs) y) y') = y' := tailR_consR
              rw [e2]; exact k2 w S vs us _ (by simpa using hl) o2
    | ptr t o o' =>
      cases bk with
      | nil => cases h
      | cons b bk =>
        obtain ⟨l, pa⟩ := b
        have h : ((backs (ps ++ q) (tailR t ((ps ++ q).flatMap PM.outs) y) bk ln s).map fun u => bump s l (.val ⟨t, o', headR t ((ps ++ q).flatMap PM.outs) y, lnOf (frz t o') ln, 0⟩ none) :: u) = some u := h
        obtain ⟨u', h5, h6⟩ := Option.map_eq_some_iff.1 h
        obtain ⟨y', k1, k2⟩ := ih h5
        refine ⟨consR t (ps.flatMap PM.outs) (headR t ((ps ++ q).flatMap PM.outs) y) y', ?_, fun w S vs us Oo hl ho => ?_⟩
        · have e1 : headR t (ps.flatMap PM.outs) (consR t (ps.flatMap PM.outs) (headR t ((ps ++ q).flatMap PM.outs) y) y') = headR t ((ps ++ q).flatMap PM.outs) y := headR_consR
          have e2 : tailR t (ps.flatMap PM.outs) (consR t (ps.flatMap PM.outs) (headR t ((ps ++ q).flatMap PM.outs) y) y') = y' := tailR_consR
          show ((backs ps (tailR t (ps.flatMap PM.outs) (consR t (ps.flatMap PM.outs) (headR t ((ps ++ q).flatMap PM.outs) y) y')) bk ln s).map fun u => bump s l (.val ⟨t, o', headR t (ps.flatMap PM.outs) (consR t (ps.flatMap PM.outs) (headR t ((ps ++ q).flatMap PM.outs) y) y'), lnOf (frz t o') ln, 0⟩ none) :: u) = some u
          rw [e1, e2, k1, Option.map_some, ← h6]
        · cases vs with
          | nil => cases hl
          | cons v vs =>
            obtain ⟨o1, o2⟩ := ho
            refine ⟨?_, ?_⟩
            · have e1 : headR t (ps.flatMap PM.outs) (consR t (ps.flatMap PM.outs) (headR t ((ps ++ q).flatMap PM.outs) y) y') = headR t ((ps ++ q).flatMap PM.outs) y := headR_consR
              rw [e1]; exact o1
            · have e2 : tailR t (ps.flatMap PM.outs) (consR t (ps.flatMap PM.outs) (headR t ((ps ++ q).flatMap PM.outs) y) y') = y' := tailR_consR
              rw [e2]; exact k2 w S vs us _ (by simpa using hl) o2
theorem Gath2.app {p q : List PM} {x : denI p} {y : denI q} {ln ln2 : Lend} {bk : List (Loc × Path)} {mv : Upds} {vals us : List Value} {Ois Oss Fs : Nat → Nat → Prop} {idx : Loc → Nat} (K : Gath2 c g s a w p x ln bk mv vals Ois Oss Fs idx) (hlen : vals.length = p.length) (hq : allFz q = true)
    (hf : ∀ e ∈ ln2, e.2 ≤ (s e.1).v) (hv : validL s ln2 = true) (hy : ∀ S : Nat → Prop, (∀ b, Sof g ln2 b → S b) → ∀ Os, ArgsOk w S q y us Os) {pms : List PM} (e : p ++ q = pms) :
    Gath2 c g s a w pms (cast (congrArg denI e) (appI p q x y)) (ln2 ++ ln) bk mv (vals ++ us) Ois Oss Fs idx := by
  subst e
  refine ⟨fun e he => (List.mem_append.1 he).elim (hf e) (K.fut e), ?_, fun S hS => ?_, K.os, K.f, K.osf, K.oi, K.inj, fun y2 u LN hb => ?_⟩
  · have := K.val
    unfold validL at hv this ⊢
    rw [List.all_append, hv, this]; rfl
  · refine ArgsOk.app (K.ok S (fun b hb => hS b ?_)) (hy S (fun b hb => hS b (.inl ?_)))
    · exact hb.imp (fun h => h.imp (fun h => h) (fun ⟨e, he, h⟩ => ⟨e, List.mem_append.2 (.inr he), h⟩)) (fun h => h)
    · exact hb.imp (fun h => h) (fun ⟨e, he, h⟩ => ⟨e, List.mem_append.2 (.inl he), h⟩)
  · obtain ⟨y', h1, h2⟩ := backs_app hq hb
    obtain ⟨k1, k2⟩ := K.after y' u LN h1
    refine ⟨k1, fun w' g' Mx S2 Oo hLN hB hO hOi hS2 => k2 w' g' Mx S2 Oo hLN (fun l hl => (hB l hl).sub (fun e he => List.mem_append.2 (.inr he))) (h2 w' S2 vals us Oo hlen hO) hOi hS2⟩
theorem ok_callV (he : EnvOk2 P E) {o : Oper} {cl : Call} {j : Nat} (ho : o.op = .call cl) (hc : cl.callee = .value (.tmp j)) : OpOk c P E o := by
  intro g s a w U Q r hN h
  simp only [evOp, ho, hc] at h
  split at h
  case h_2 => cases h
  rename_i gf t w1 y ln tg org hp
  split at h
  case h_2 => cases h
  rename_i sm hsm
  obtain ⟨hmem, rfl, _⟩ := findSm_mem hsm
  obtain ⟨h1, h2⟩ := he.sms sm hmem
  simp only [evCall] at h
  split at h
  case h_2 => cases h
  rename_i G cc hG hC
  obtain ⟨n1, n2, n3, n4, _⟩ := peek_new r hp
  obtain ⟨k1, k2, k3, k4⟩ := n4 _ _ rfl
  obtain ⟨cs, m1, m2, _⟩ := n1.2 k1
  have m2 : Rp w (Sof g ln) (.fn sm.f t) w1 y cs (fun _ => False) := m2
  have m2 : ∃ cap, cs = [.func (.func sm.f) #[] cap.toArray] ∧ Rp w (Sof g ln) t .z y cap (fun _ => False) := by
    have k2 : w1.live = true := k2
    cases w1 <;> first | exact m2.elim | (simp [Ow.live] at k2; done) | exact m2
  obtain ⟨cap, rfl, m3⟩ := m2
  have hgl : ∀ {pms : List PM} {xs : List Operand} {G : Gath pms}, gatherA pms xs s = some G → xs.length = pms.length := by
    intro pms
    induction pms with
    | nil => intro xs G h; cases xs with
      | nil => rfl
      | cons _ _ => cases h
    | cons p ps ih =>
      intro xs G h
      cases xs with
      | nil => cases h
      | cons x xs =>
        simp only [gatherA] at h
        split at h
        · rename_i g' hg'
          simp [ih hg']
        · cases h
  have hgo := go_ok r h1 hN (x := cast (congrArg denI (List.take_append_drop cl.args.toList.length sm.pms)) (appI _ _ G.x cc)) (vals := cl.args.toList.map a.eval ++ cap) (fun hnd => by
    obtain ⟨Ois, Oss, Fs, idx, K⟩ := gather_in r hG hnd
    exact ⟨Ois, Oss, Fs, idx, K.two.app (by rw [List.length_map]; exact hgl hG) (gatherC_fz hC) n1.1.1 k1 (fun S hS => gatherC_args (o := .z) hC (m3.mono hS (fun _ h => h))) (List.take_append_drop cl.args.toList.length sm.pms)⟩) h
  refine wp_enter (f := sm.f) (args := (cl.args.toList.map a.eval ++ cap).toArray) ?_ hgo
  have e : cl.args.map a.eval ++ cap.toArray = (cl.args.toList.map a.eval ++ cap).toArray := by
    apply Array.ext'; simp
  rw [execOp]
  simp only [ho, resolve, hc, Sem.run_bind, m1]
  show ((Deferred.ofValue (.func (.func sm.f) #[] cap.toArray) (cl.args.map a.eval)).run P w).andThen _ = _
  simp only [Deferred.ofValue, Sem.run_pure, Result.andThen_ok, invoke, run_callFunc h2]
  rw [← e]
  simp
theorem ok_fail {o : Oper} (h : ∀ s, evOp E o s = .fail) : OpOk c P E o := by
  intro g s a w U Q r hN hr
  rw [h s] at hr; cases hr
theorem ok_op (he : EnvOk2 P E) (o : Oper) : OpOk c P E o := by
  cases ho : o.op with
  | move x => exact ok_move ho
  | assign x => exact ok_assign ho
  | pick x y z => exact ok_pick ho
  | alloc t => exact ok_alloc he.toEnvOk ho
  | box t x => exact ok_box ho
  | build t ps => exact ok_build he.toEnvOk ho
  | buildSlice t n ps => exact ok_buildSlice he.toEnvOk ho
  | load t x => exact ok_load he.toEnvOk ho
  | store t x y => exact ok_store he.toEnvOk ho
  | nilCheck x => exact ok_nilCheck ho
  | binOp op t x y u => exact ok_binOp he.toEnvOk ho
  | unOp op t x => exact ok_unOp ho
  | convert s d x => exact ok_convert he.toEnvOk ho
  | makeSlice t x y => exact ok_makeSlice he.toEnvOk ho
  | slice t x lo hi mx => cases mx with
    | none => exact ok_slice he.toEnvOk ho
    | some _ => exact ok_fail (fun s => by simp only [evOp, ho])
  | fieldAddr t x i => exact ok_fieldAddr he.toEnvOk ho
  | field t x i => exact ok_field he.toEnvOk ho
  | indexAddr t x i => exact ok_indexAddr he.toEnvOk ho
  | extract x i => cases x with
    | tmp j => exact ok_extract ho
    | const _ => exact ok_fail (fun s => by simp only [evOp, ho])
    | func _ => exact ok_fail (fun s => by simp only [evOp, ho])
    | global _ => exact ok_fail (fun s => by simp only [evOp, ho])
  | makeFunc f first cap => cases f with
    | func f => exact ok_makeFunc ho
    | _ => exact ok_fail (fun s => by simp only [evOp, ho])
  | call cl =>
    cases hc : cl.callee with
    | builtin b => cases b with
      | len => exact ok_len he.toEnvOk ho hc
      | append => exact ok_append he.toEnvOk ho hc
      | max => exact ok_max ho hc
      | _ => exact ok_fail (fun s => by simp only [evOp, ho, hc])
    | value x => cases x with
      | func f => exact ok_callF he ho hc
      | tmp j => exact ok_callV he ho hc
      | const _ => exact ok_fail (fun s => by simp only [evOp, ho, hc])
      | global _ => exact ok_fail (fun s => by simp only [evOp, ho, hc])
    | invoke x n => exact ok_fail (fun s => by simp only [evOp, ho, hc])
  | _ => exact ok_fail (fun s => by simp only [evOp, ho])
end
end Go.OM

namespace Go.OM
open Go
section
variable {c : Ctx} {g : Ghost} {s : St} {a : Act} {w : World} {P : Program} {E : Env}
theorem RelG.retell (r : RelG c g s a w) {l : Loc} {X : Cell} (h0 : l % 4 = 0) (hv : X.v = (s l).v) (hh : X.hv = (s l).hv) {b : Bool} (hX : X.t = .val (.p .bool b) none)
    (hold : (∃ pos p d, (s l).t = .prp pos p d) ∨ ∃ V org, (s l).t = .val V org ∧ V.t = .bool) (hval : valAt g a l = some (.bool b)) : RelG c g (upd s l X) a w := by
  have hver : ∀ m, (upd s l X m).v = (s m).v ∧ (upd s l X m).hv = (s m).hv := fun m => by
    by_cases hm : m = l
    · rw [hm, upd_self]; exact ⟨hv, hh⟩
    · rw [upd_ne hm]; exact ⟨rfl, rfl⟩
  have hvalid : ∀ ln, validL (upd s l X) ln = validL s ln := fun ln => by
    unfold validL
    congr 1
    funext e
    rw [(hver e.1).1]
  have hvalidR : ∀ l' p v hv iv, validR (upd s l X) l' p v hv iv = validR s l' p v hv iv := fun l' p v hv' iv => by
    unfold validR
    rw [(hver _).1, (hver _).1, (hver _).2]
  have hcl : Cells g a w l [.bool b] := by
    unfold Cells
    rw [if_neg (by rw [h0]; decide)]
    exact ⟨_, hval, rfl⟩
  refine ⟨r.disj, r.ownG, r.own, r.gsz, fun m V org h4 ht => ?_, r.fr, r.defs, r.size, fun m => ?_, fun m => ?_, fun m => ?_, r.gin, r.bks⟩
  · rw [upd_ne (fun e => by rw [e, h0] at h4; cases h4)] at ht
    exact r.boxes m V org h4 ht
  · by_cases hm : m = l
    · rw [hm, upd_self, hX]
      exact ⟨by simp [V.p], trivial⟩
    · rw [upd_ne hm]
      have f := r.fut m
      cases ht : (s m).t with
      | val V org =>
        rw [ht] at f
        refine ⟨fun e he => by rw [(hver e.1).1]; exact f.1 e he, ?_⟩
        cases org with
        | none => trivial
        | some q => have := f.2; simp only at this ⊢; rw [(hver _).1]; exact this
      | ref l' p v hv iv t => rw [ht] at f; simp only [Fut] at f ⊢; rw [(hver _).1, (hver _).2, (hver _).1]; exact f
      | tup b n iv => rw [ht] at f; simp only [Fut] at f ⊢; rw [(hver _).1]; exact f
      | _ => trivial
  · by_cases hm : m = l
    · rw [hm, upd_self, hX]
      intro x hx; simp [V.p] at hx
    · rw [upd_ne hm]
      have f := r.self m
      cases ht : (s m).t with
      | val V org =>
        rw [ht] at f
        intro x hx hxm
        rw [upd_ne hm]; exact f x hx hxm
      | _ => trivial
  · by_cases hm : m = l
    · rw [hm, upd_self, hX]
      exact fun _ => ⟨[.bool b], fun _ => False, hcl, fun _ => hval, ⟨rfl, by simp [V.p], trivial⟩, fun _ h => h.elim⟩
    · rw [upd_ne hm]
      have t := r.toks m
      cases ht : (s m).t with
      | undef => trivial
      | und => rw [ht] at t; exact t
      | prp pos p d => rw [ht] at t; exact t
      | val V org =>
        rw [ht] at t
        intro hvl
        rw [hvalid] at hvl
        obtain ⟨cs, Oc, k1, k2, ⟨k3, k4, k5⟩, k6⟩ := t hvl
        refine ⟨cs, Oc, k1, k2, ⟨k3, k4, ?_⟩, k6⟩
        cases org with
        | none => trivial
        | some q =>
          obtain ⟨l', p, ver⟩ := q
          intro hver'
          rw [(hver _).1] at hver'
          obtain ⟨cs', V', org', m1, m2, m3, m4⟩ := k5 hver'
          by_cases hl : l' = l
          · subst hl
            rcases hold with ⟨pos, p', d, hp⟩ | ⟨V2, org2, hV2, hb⟩
            · rw [hp] at m1; cases m1
            · rw [hV2] at m1; cases m1
              refine ⟨cs', _, _, by rw [upd_self]; exact hX, m2, ?_, ?_⟩
              · rw [m3, hb]; rfl
              · rw [hb] at m4; exact m4
          · exact ⟨cs', V', org', by rw [upd_ne hl]; exact m1, m2, m3, m4⟩
      | ref l' p v hv' iv tr =>
        rw [ht] at t
        intro hvr
        rw [hvalidR] at hvr
        obtain ⟨b', off, cs', V', org', ⟨m1, m6⟩, m2, m3, m4, m5⟩ := t hvr
        by_cases hl : l' = l
        · exfalso
          subst hl
          rcases hold with ⟨pos, p', d, hp⟩ | ⟨V2, org2, hV2, hb⟩
          · rw [hp] at m1; cases m1
          · rw [hV2] at m1; cases m1
            rw [hb] at m4
            unfold baseOf at m4
            rw [if_neg (by rw [h0]; decide)] at m4
            cases p with
            | nil => cases m4
            | cons s p => cases s <;> exact m4.elim
        · exact ⟨b', off, cs', V', org', ⟨by rw [upd_ne hl]; exact m1, m6⟩, m2, m3, m4, m5⟩
      | tup b' n iv =>
        rw [ht] at t
        intro hvt
        rw [(hver _).1] at hvt
        exact t hvt
theorem settleC_run {x y : Cell} (h : (settleC x).run some = some y) : y = x ∨ (y.v = x.v ∧ y.hv = x.hv ∧ ∃ b, y.t = .val (.p .bool b) none ∧ ((∃ pos p d, x.t = .prp pos p d ∧ b = boolOf pos p d) ∨ ∃ bb org tg, x.t = .val ⟨.bool, .z, bb, [], tg⟩ org ∧ b = bb)) := by
  unfold settleC at h
  split at h
  · rename_i pos p d ht
    simp only [Prog.run] at h
    split at h
    · rename_i hp
      cases h
      exact .inr ⟨rfl, rfl, pos, rfl, .inl ⟨pos, p, d, ht, by cases pos <;> simp [boolOf, hp]⟩⟩
    · rename_i hp
      cases h
      exact .inr ⟨rfl, rfl, !pos, rfl, .inl ⟨pos, p, d, ht, by cases pos <;> simp [boolOf, hp]⟩⟩
  · rename_i bb tg org ht
    simp only [Prog.run] at h
    split at h
    · rename_i hp
      cases h
      exact .inr ⟨rfl, rfl, true, rfl, .inr ⟨bb, org, tg, ht, hp.symm⟩⟩
    · rename_i hp
      cases h
      exact .inr ⟨rfl, rfl, false, rfl, .inr ⟨bb, org, tg, ht, by cases bb <;> simp_all⟩⟩
  · cases h; exact .inl rfl
theorem settleU_run : ∀ {U U' : Upds}, (settleU U).run some = some U' → U' = U ∨ ∃ U0 l x y, U = U0 ++ [(l, x)] ∧ U' = U0 ++ [(l, y)] ∧ l % 4 = 0 ∧ (settleC x).run some = some y := by
  intro U
  induction U with
  | nil => intro U' h; cases h; exact .inl rfl
  | cons e U ih =>
    intro U' h
    cases U with
    | nil =>
      obtain ⟨l, x⟩ := e
      simp only [settleU] at h
      split at h
      · rename_i h4
        rw [Prog.run_bind] at h
        obtain ⟨y, hy, h⟩ := Prog.run_some h
        cases h
        exact .inr ⟨[], l, x, y, rfl, rfl, beq_eq.1 h4, hy⟩
      · cases h; exact .inl rfl
    | cons e2 U =>
      have h : ((settleU (e2 :: U)).bind fun r => .ret (e :: r)).run some = some U' := h
      rw [Prog.run_bind] at h
      obtain ⟨V, hV, h⟩ := Prog.run_some h
      cases h
      rcases ih hV with rfl | ⟨U0, l, x, y, h1, rfl, h2, h3⟩
      · exact .inl rfl
      · exact .inr ⟨e :: U0, l, x, y, by rw [h1]; rfl, rfl, h2, h3⟩
theorem settle_rel {U U' : Upds} (h : (settleU U).run some = some U') (r : Rel c (upds s U) a w) : Rel c (upds s U') a w := by
  rcases settleU_run h with rfl | ⟨U0, l, x, y, rfl, rfl, h4, hy⟩
  · exact r
  · rcases settleC_run hy with rfl | ⟨h1, h2, b, h3, hx⟩
    · exact r
    · obtain ⟨g, r⟩ := r
      rw [upds_append] at r ⊢
      have hl : upds (upds s U0) [(l, x)] l = x := upd_self
      have t := r.toks l
      rw [hl] at t
      have hval : valAt g a l = some (.bool b) := by
        rcases hx with ⟨pos, p, d, ht, rfl⟩ | ⟨bb, org, tg, ht, rfl⟩
        · rw [ht] at t; exact t
        · rw [ht] at t
          obtain ⟨cs, Oc, k1, k2, ⟨k3, _, _⟩, _⟩ := t rfl
          have k2 := k2 (by rw [h4]; decide)
          rw [k2]
          have k3 : cs = [.bool b] := k3
          rw [k3]; rfl
      have := r.retell (X := y) h4 (by rw [hl]; exact h1) (by rw [hl]; exact h2) h3 (by
        rw [hl]
        rcases hx with ⟨pos, p, d, ht, _⟩ | ⟨bb, org, tg, ht, _⟩
        · exact .inl ⟨pos, p, d, ht⟩
        · exact .inr ⟨_, org, ht, rfl⟩) hval
      refine ⟨g, ?_⟩
      have e : upd (upds (upds s U0) [(l, x)]) l y = upds (upds s U0) [(l, y)] := by
        funext m
        show upd (upd (upds s U0) l x) l y m = upd (upds s U0) l y m
        by_cases hm : m = l
        · rw [hm, upd_self, upd_self]
        · rw [upd_ne hm, upd_ne hm, upd_ne hm]
      rw [← e]; exact this
end
end Go.OM

namespace Go.OM
open Go
section
variable {c : Ctx} {s : St} {a : Act} {w : World} {P : Program} {E : Env}
theorem unwanted_rel (r : Rel c s a w) {o : Oper} (hN : ∀ d, o.dst = some d → d < c.N) : Rel c (upds s (match o.dst with | some d => [bump s (tm d) .und] | none => [])) (a.put o.dst undef) w := by
  obtain ⟨g, r⟩ := r
  cases hd : o.dst with
  | none => exact ⟨g, r⟩
  | some d => exact ⟨_, r.put (Same.refl w) (hN d hd) (T := .und) (Oc := fun _ => False) rfl (fun _ h => h.elim)⟩
theorem evG_ok (he : EnvOk2 P E) {ops : Array Oper} {i : Nat} {o : Oper} (hi : ops[i]? = some o) (hN : ∀ d, o.dst = some d → d < c.N) {u : Upds} (r : Rel c s a w) (h : (evG E ops.toList i o s).run some = some u)
    {K : Act → World → Prop} {Q : Exit → Act → World → Prop} (hK : ∀ a' w', Rel c (upds s u) a' w' → K a' w') : wpOp P ops Q i K a w := by
  have go : ∀ {u : Upds}, (if isGuard ops.toList i || isPick ops.toList o.dst then (evOp E o s).bind settleU else evOp E o s).run some = some u → (∀ a' w', Rel c (upds s u) a' w' → K a' w') → o.wp P a w K Q := by
    intro u h hK
    obtain ⟨g, r⟩ := r
    split at h
    · rw [Prog.run_bind] at h
      obtain ⟨U, hU, h⟩ := Prog.run_some h
      exact Oper.wp_mono (fun a' w' hr => hK a' w' (settle_rel h hr)) (ok_op he o g s a w U Q r hN hU)
    · exact Oper.wp_mono hK (ok_op he o g s a w u Q r hN h)
  unfold wpOp
  rw [hi]
  simp only
  unfold evG at h
  simp only at h
  cases hg : o.guard with
  | none =>
    rw [hg] at h
    have hw : Region.wanted o (yielded ops a.tmps) = true := by simp [Region.wanted, hg]
    rw [if_pos hw]
    exact .inl (go h hK)
  | some q =>
    obtain ⟨gi, b⟩ := q
    rw [hg] at h
    simp only at h
    split at h
    case h_2 => cases h
    rename_i dg hdg
    rw [Array.getElem?_toList] at hdg
    have tk : ∃ g, RelG c g s a w := r
    obtain ⟨g, rg⟩ := tk
    have t := rg.toks (tm dg)
    split at h
    · rename_i x tg org ht
      rw [ht] at t
      obtain ⟨cs, Oc, k1, k2, ⟨k3, _, _⟩, _⟩ := t rfl
      have k3 : cs = [.bool x] := k3
      have k2 := k2 (tm_ne _)
      rw [k3, valAt_tm] at k2
      have k2 : a.tmps[dg]? = some (.bool x) := k2
      have hy : yielded ops a.tmps gi = some x := by simp [yielded, hdg, k2]
      simp only [Prog.run] at h
      split at h
      · rename_i hxb
        have hw : Region.wanted o (yielded ops a.tmps) = true := by simp [Region.wanted, hg, hy, hxb]
        rw [if_pos hw]
        exact .inl (go h hK)
      · rename_i hxb
        have hw : ¬ Region.wanted o (yielded ops a.tmps) = true := by simp [Region.wanted, hg, hy]; exact hxb
        rw [if_neg hw]
        cases h
        exact hK _ _ (unwanted_rel r hN)
    · rename_i ht
      rw [ht] at t
      have k2 : a.tmps[dg]? = some undef := by rw [← valAt_tm (g := g)]; exact t
      have hy : yielded ops a.tmps gi = none := by simp [yielded, hdg, k2, undef]
      have hw : ¬ Region.wanted o (yielded ops a.tmps) = true := by simp [Region.wanted, hg, hy]
      rw [if_neg hw]
      cases h
      exact hK _ _ (unwanted_rel r hN)
    · cases h
end
end Go.OM

namespace Go.OM
open Go
section
variable {c : Ctx} {s : St} {a : Act} {w : World} {P : Program} {E : Env}
theorem evOps_wp (he : EnvOk2 P E) {R : Type} {ops : Array Oper} {Q : Exit → Act → World → Prop} {k : St → List Log → Option R} {res : R} (hN : ∀ (i : Nat) (o : Oper) (d : Nat), ops[i]? = some o → o.dst = some d → d < c.N)
    (hQ : ∀ s' lg a' w', Rel c s' a' w' → k s' lg = some res → Q .normal a' w') : ∀ {l : List Oper} {i0 : Nat} {s : St} {lg : List Log} {a : Act} {w : World},
    (∀ n o, l[n]? = some o → ops[i0 + n]? = some o) → Rel c s a w → evOps E ops.toList (enum i0 l) s lg k = some res → wpOps P ops Q (List.range' i0 l.length) a w := by
  intro l
  induction l with
  | nil => intro i0 s lg a w _ r h; exact hQ s lg a w r h
  | cons o l ih =>
    intro i0 s lg a w hl r h
    simp only [enum, evOps] at h
    obtain ⟨u, hu, h⟩ := Prog.run_some h
    rw [forceU_eq] at h
    rw [List.length_cons, List.range'_succ, wpOps_cons]
    have hi : ops[i0]? = some o := by have := hl 0 o rfl; simpa using this
    refine evG_ok he hi (fun d hd => hN i0 o d hi hd) r hu (fun a' w' hr => ?_)
    exact ih (fun n o' hn => by have := hl (n + 1) o' (by simpa using hn); rwa [show i0 + (n + 1) = i0 + 1 + n by omega] at this) hr h
/-- A region that is run as it stands. -/
theorem evRegion_wp (he : EnvOk2 P E) {R : Type} {id : Nat} {ops : Array Oper} {Q : Exit → Act → World → Prop} {k : St → Option R} {res : R} (hN : ∀ (i : Nat) (o : Oper) (d : Nat), ops[i]? = some o → o.dst = some d → d < c.N)
    (r : Rel c s a w) (h : evRegion E ops false s k = some res) (hQ : ∀ s' a' w', Rel c s' a' w' → k s' = some res → Q .normal a' w') : (Code.region id ops false).wp P Q a w := by
  refine wp_region ?_
  unfold evRegion at h
  simp only [tif_eq, Bool.false_and] at h
  rw [if_neg (by decide)] at h
  have := evOps_wp he (k := fun s' lg => if false = true then (if indep (waits ops.toList []) lg && pastOk ops.toList then k s' else none) else k s') hN (Q := Q) (fun s' lg a' w' hr hk => hQ s' a' w' hr (by simpa using hk)) (l := ops.toList) (i0 := 0) (fun n o hn => by rw [Nat.zero_add, ← Array.getElem?_toList]; exact hn) r h
  rw [Array.length_toList] at this
  rwa [List.range_eq_range']
end
end Go.OM

namespace Go.OM
open Go
section
variable {s s' : St}
theorem validL_agree {ln : Lend} (h : ∀ e ∈ ln, s' e.1 = s e.1) : validL s' ln = validL s ln := by
  unfold validL
  induction ln with
  | nil => rfl
  | cons e ln ih =>
    rw [List.all_cons, List.all_cons, ih (fun x hx => h x (List.mem_cons_of_mem _ hx)), h e List.mem_cons_self]
theorem peek_agree {full : Bool} {ty : Option Ty} {x : Operand} (h : ∀ l ∈ seesT s full x, s' l = s l) : peek s' ty x = peek s ty x := by
  cases x with
  | tmp j =>
    have hj : s' (tm j) = s (tm j) := h _ (by simp [seesT])
    simp only [peek, hj]
    split
    · rename_i t o x lend tag org ht
      have hl : validL s' lend = validL s lend := validL_agree (fun e he => h _ (by
        simp only [seesT, ht, List.mem_cons, List.mem_append, List.mem_map]
        exact .inr (.inl (.inr ⟨e, he, rfl⟩))))
      have ho : validO s' org = validO s org := by
        cases org with
        | none => rfl
        | some q =>
          obtain ⟨l, p, v⟩ := q
          have : s' l = s l := h _ (by simp [seesT, ht])
          simp only [validO, this]
      rw [hl, ho]
    · rfl
    · rename_i l p v hv iv t ht
      have hi : s' (idl l) = s (idl l) := h _ (by simp [seesT, ht])
      have hr : validR s' l p v hv iv = validR s l p v hv iv := by
        unfold validR
        rw [hi]
        cases hf : p.flat with
        | true => simp
        | false =>
          have hl : s' l = s l := h _ (by simp [seesT, ht, hf])
          rw [hl]
      rw [hr]
    · rename_i b n iv ht
      have hi : s' (idl (tm b)) = s (idl (tm b)) := h _ (by simp [seesT, ht])
      rw [hi]
    · rfl
  | _ => rfl
theorem peekV_agree {full : Bool} {ty : Option Ty} {x : Operand} (h : ∀ l ∈ seesT s full x, s' l = s l) : peekV s' ty x = peekV s ty x := by
  unfold peekV; rw [peek_agree h]
theorem bump_agree {l : Loc} {T : T} (h : s' l = s l) : bump s' l T = bump s l T := by simp only [bump, h]
theorem take_agree {full : Bool} {ty : Option Ty} {x : Operand} (h : ∀ l ∈ seesT s full x, s' l = s l) : take s' ty x = take s ty x := by
  cases x with
  | tmp j =>
    have hj : s' (tm j) = s (tm j) := h _ (by simp [seesT])
    simp only [take, hj, bump]
    split
    · rename_i t o x lend tag org ht
      have hl : validL s' lend = validL s lend := validL_agree (fun e he => h _ (by
        simp only [seesT, ht, List.mem_cons, List.mem_append, List.mem_map]
        exact .inr (.inl (.inr ⟨e, he, rfl⟩))))
      rw [hl]
    · rfl
    · rfl
  | const v => simp only [take, peekV_agree h]
  | func v => simp only [take, peekV_agree h]
  | global v => simp only [take, peekV_agree h]
theorem content_agree {l : Loc} (h : s' l = s l) (h2 : ∀ m ∈ lendsAt s l, s' m = s m) : content s' l = content s l := by
  unfold content
  rw [h]
  split
  · rename_i v org ht
    rw [validL_agree (fun e he => h2 _ (by simp only [lendsAt, ht, List.mem_map]; exact ⟨e, he, rfl⟩))]
  · rfl
theorem at_agree {l : Loc} {p : Path} (h : s' l = s l) (h2 : ∀ m ∈ lendsAt s l, s' m = s m) : at_ s' l p = at_ s l p := by
  unfold at_; rw [content_agree h h2]
theorem placeOf_agree {full : Bool} {x : Operand} (h : ∀ l ∈ seesT s full x, s' l = s l) : placeOf s' x = placeOf s x := by
  unfold placeOf; rw [peek_agree h]
end
end Go.OM

namespace Go.OM
open Go
section
variable {s s' : St} {E : Env}
/-- Two states that agree on X still agree behind the same updates. -/
theorem upds_agree : ∀ {U : Upds} {s s' : St} {l : Loc}, s' l = s l → upds s' U l = upds s U l := by
  intro U
  induction U with
  | nil => intro s s' l h; exact h
  | cons e U ih =>
    intro s s' l h
    rw [upds_cons, upds_cons s']
    obtain ⟨m, x⟩ := e
    refine ih ?_
    show upd s' m x l = upd s m x l
    by_cases hm : l = m
    · rw [hm, upd_self, upd_self]
    · rw [upd_ne hm, upd_ne hm, h]
theorem putT_agree {o : Oper} {T : T} (hd : ∀ d, o.dst = some d → s' (tm d) = s (tm d)) : putT o s' T = putT o s T := by
  unfold putT
  split
  · rename_i d hdd; rw [bump_agree (hd d hdd)]
  · rfl
theorem outT_agree {o : Oper} {x : Option (V × Upds)} (hd : ∀ d, o.dst = some d → s' (tm d) = s (tm d)) : outT o s' x = outT o s x := by
  unfold outT
  split
  · split
    · rename_i d hdd
      simp only [putV, bump, upds_agree (hd d hdd)]
    · rfl
  · rfl
theorem ownTmp_agree {full : Bool} {x : Operand} (h : ∀ l ∈ seesT s full x, s' l = s l) : ownTmp s' x = ownTmp s x := by
  cases x with
  | tmp j =>
    have hj : s' (tm j) = s (tm j) := h _ (by simp [seesT])
    simp only [ownTmp, hj]
  | _ => rfl
theorem agree_move {o : Oper} {x : Operand} (ho : o.op = .move x) (h : ∀ l ∈ seesT s (fullOp o.op) x, s' l = s l) (hd : ∀ d, o.dst = some d → s' (tm d) = s (tm d)) : evOp E o s' = evOp E o s := by
  simp only [evOp, ho, ownTmp_agree h, take_agree h, peek_agree h, outT_agree hd, putT_agree hd]
theorem agree_assign {o : Oper} {x : Operand} (ho : o.op = .assign x) (h : ∀ l ∈ seesT s (fullOp o.op) x, s' l = s l) (hd : ∀ d, o.dst = some d → s' (tm d) = s (tm d)) : evOp E o s' = evOp E o s := by
  simp only [evOp, ho, ownTmp_agree h, take_agree h, peek_agree h, outT_agree hd, putT_agree hd]
theorem agree_nilCheck {o : Oper} {x : Operand} (ho : o.op = .nilCheck x) (h : ∀ l ∈ seesT s (fullOp o.op) x, s' l = s l) (hd : ∀ d, o.dst = some d → s' (tm d) = s (tm d)) : evOp E o s' = evOp E o s := by
  simp only [evOp, ho, peek_agree h, putT_agree hd]
theorem agree_fieldAddr {o : Oper} {t : TypeId} {x : Operand} {i : Nat} (ho : o.op = .fieldAddr t x i) (h : ∀ l ∈ seesT s (fullOp o.op) x, s' l = s l) (hd : ∀ d, o.dst = some d → s' (tm d) = s (tm d)) : evOp E o s' = evOp E o s := by
  simp only [evOp, ho, peek_agree h, putT_agree hd]
theorem agree_field {o : Oper} {t : TypeId} {x : Operand} {i : Nat} (ho : o.op = .field t x i) (h : ∀ l ∈ seesT s (fullOp o.op) x, s' l = s l) (hd : ∀ d, o.dst = some d → s' (tm d) = s (tm d)) : evOp E o s' = evOp E o s := by
  simp only [evOp, ho, peekV_agree h, putT_agree hd]
end
end Go.OM

namespace Go.OM
open Go
section
variable {s s' : St} {E : Env}
theorem agree_pick {o : Oper} {x y z : Operand} (ho : o.op = .pick x y z) (hx : ∀ l ∈ seesT s (fullOp o.op) x, s' l = s l) (hy : ∀ l ∈ seesT s (fullOp o.op) y, s' l = s l) (hz : ∀ l ∈ seesT s (fullOp o.op) z, s' l = s l) (hd : ∀ d, o.dst = some d → s' (tm d) = s (tm d)) : evOp E o s' = evOp E o s := by
  simp only [evOp, ho, peekV_agree hx, peek_agree hy, peek_agree hz, putT_agree hd]
theorem agree_unOp {o : Oper} {op : UnOp} {t : TypeId} {x : Operand} (ho : o.op = .unOp op t x) (h : ∀ l ∈ seesT s (fullOp o.op) x, s' l = s l) (hd : ∀ d, o.dst = some d → s' (tm d) = s (tm d)) : evOp E o s' = evOp E o s := by
  have : putT o s' = putT o s := funext fun T => putT_agree hd
  simp only [evOp, ho, peek_agree h, this]
theorem agree_binOp {o : Oper} {op : BinOp} {t u : TypeId} {x y : Operand} (ho : o.op = .binOp op t x y u) (hx : ∀ l ∈ seesT s (fullOp o.op) x, s' l = s l) (hy : ∀ l ∈ seesT s (fullOp o.op) y, s' l = s l) (hd : ∀ d, o.dst = some d → s' (tm d) = s (tm d)) : evOp E o s' = evOp E o s := by
  have : putT o s' = putT o s := funext fun T => putT_agree hd
  simp only [evOp, ho, peekV_agree hx, peekV_agree hy, this]
theorem agree_convert {o : Oper} {t u : TypeId} {x : Operand} (ho : o.op = .convert t u x) (h : ∀ l ∈ seesT s (fullOp o.op) x, s' l = s l) (hd : ∀ d, o.dst = some d → s' (tm d) = s (tm d)) : evOp E o s' = evOp E o s := by
  simp only [evOp, ho, peekV_agree h, putT_agree hd]
theorem agree_makeSlice {o : Oper} {t : TypeId} {x y : Operand} (ho : o.op = .makeSlice t x y) (hx : ∀ l ∈ seesT s (fullOp o.op) x, s' l = s l) (hy : ∀ l ∈ seesT s (fullOp o.op) y, s' l = s l) (hd : ∀ d, o.dst = some d → s' (tm d) = s (tm d)) : evOp E o s' = evOp E o s := by
  simp only [evOp, ho, peekV_agree hx, peekV_agree hy, putT_agree hd]
theorem putB_agree {d : Nat} {v : V} (h1 : s' (tm d) = s (tm d)) (h2 : s' (bx d) = s (bx d)) (h3 : s' (idl (bx d)) = s (idl (bx d))) : putB s' d v = putB s d v := by
  simp only [putB, newBox, refTo, bump, h1, h2, h3]
theorem agree_alloc {o : Oper} {t : TypeId} (ho : o.op = .alloc t) (hd : ∀ d, o.dst = some d → s' (tm d) = s (tm d) ∧ s' (bx d) = s (bx d) ∧ s' (idl (bx d)) = s (idl (bx d))) : evOp E o s' = evOp E o s := by
  simp only [evOp, ho]
  cases tyOf E t with
  | none => rfl
  | some t =>
    cases hdd : o.dst with
    | none => rfl
    | some d =>
      obtain ⟨h1, h2, h3⟩ := hd d hdd
      show Prog.ret _ = Prog.ret _
      rw [putB_agree h1 h2 h3]
theorem agree_box {o : Oper} {t : TypeId} {x : Operand} (ho : o.op = .box t x) (h : ∀ l ∈ seesT s (fullOp o.op) x, s' l = s l) (hd : ∀ d, o.dst = some d → s' (tm d) = s (tm d) ∧ s' (bx d) = s (bx d) ∧ s' (idl (bx d)) = s (idl (bx d))) : evOp E o s' = evOp E o s := by
  simp only [evOp, ho, take_agree h]
  cases tyOf E t with
  | none => rfl
  | some t =>
    cases hdd : o.dst with
    | none => rfl
    | some d =>
      obtain ⟨h1, h2, h3⟩ := hd d hdd
      simp only [take_agree h]
      cases take s (some t) x with
      | none => rfl
      | some q =>
        obtain ⟨v, u⟩ := q
        simp only [putB_agree (upds_agree (U := u) h1) (upds_agree (U := u) h2) (upds_agree (U := u) h3)]
end
end Go.OM

namespace Go.OM
open Go
section
variable {s s' : St} {E : Env}
/-- What an address leads to is looked at too, where that is asked. -/
theorem ref_sees {x : Operand} {ty : Option Ty} {l : Loc} {p : Path} {v hv iv : Nat} {t : Ty} (hp : peek s ty x = some (.ref l p v hv iv t)) (h : ∀ m ∈ seesT s true x, s' m = s m) : s' l = s l ∧ s' (idl l) = s (idl l) ∧ ∀ m ∈ lendsAt s l, s' m = s m := by
  cases x with
  | tmp j =>
    simp only [peek] at hp
    split at hp
    · split at hp
      · split at hp <;> cases hp
      · cases hp
    · cases hp
    · rename_i l' p' v' hv' iv' t' ht
      split at hp
      · cases hp
        refine ⟨h _ (by simp [seesT, ht]), h _ (by simp [seesT, ht]), fun m hm => h m ?_⟩
        simp only [seesT, ht, Bool.true_or, if_true, List.mem_cons]
        exact .inr (.inr (.inr hm))
      · cases hp
    · split at hp <;> cases hp
    · cases hp
  | const v => simp only [peek] at hp; obtain ⟨_, _, e⟩ := Option.map_eq_some_iff.1 hp; cases e
  | func f => cases hp
  | global n => cases hp
theorem agree_load {o : Oper} {ty : TypeId} {x : Operand} (ho : o.op = .load ty x) (h : ∀ l ∈ seesT s true x, s' l = s l) (hd : ∀ d, o.dst = some d → s' (tm d) = s (tm d)) : evOp E o s' = evOp E o s := by
  simp only [evOp, ho, peek_agree h]
  split
  · rename_i l p v hv iv tr t hp ht
    obtain ⟨h1, h2, h3⟩ := ref_sees hp h
    simp only [at_agree h1 h3, putT_agree hd, outT_agree hd, bump, h1]
  · simp only [putT_agree hd]
  · rfl
theorem orgOf_agree {full : Bool} {x : Operand} (h : ∀ l ∈ seesT s full x, s' l = s l) : orgOf s' x = orgOf s x := by
  cases x with
  | tmp j =>
    have hj : s' (tm j) = s (tm j) := h _ (by simp [seesT])
    simp only [orgOf, hj]
    split
    · rename_i v org ht
      have ho : validO s' org = validO s org := by
        cases org with
        | none => rfl
        | some q =>
          obtain ⟨l, p, v⟩ := q
          have : s' l = s l := h _ (by simp [seesT, ht])
          simp only [validO, this]
      rw [ho]
    · rfl
  | _ => rfl
theorem evStore_agree {l : Loc} {p : Path} {v : V} {u : Upds} {org : Option (Loc × Path × Nat)} (h : s' l = s l) (hc : content s' l = content s l) : evStore s' l p v u org = evStore s l p v u org := by
  simp only [evStore, hc, bump, bumpIn, h]
theorem fit_agree {l : Loc} {p : Path} {v : V} (hc : content s' l = content s l) : fit s' l p v = fit s l p v := by
  simp only [fit, hc]
theorem deadOf_agree {full : Bool} {x : Operand} (h : ∀ l ∈ seesT s full x, s' l = s l) : deadOf s' x = deadOf s x := by
  cases x with
  | tmp j =>
    have hj : s' (tm j) = s (tm j) := h _ (by simp [seesT])
    simp only [deadOf, hj]
    split
    · rename_i t o x lend tag org ht
      have hl : validL s' lend = validL s lend := validL_agree (fun e he => h _ (by
        simp only [seesT, ht, List.mem_cons, List.mem_append, List.mem_map]
        exact .inr (.inl (.inr ⟨e, he, rfl⟩))))
      rw [hl]
    · rfl
  | _ => rfl
theorem takeS_agree {full : Bool} {ty : Option Ty} {p : Path} {x : Operand} (h : ∀ l ∈ seesT s full x, s' l = s l) : takeS s' ty p x = takeS s ty p x := by
  simp only [takeS, take_agree h, deadOf_agree h]
end
end Go.OM

namespace Go.OM
open Go
section
variable {s s' s1 : St} {E : Env}
/-- Nothing new is led to. -/
def Sub (s1 s : St) : Prop := ∀ l, s1 l = s l ∨ (s1 l).t = .undef ∨ ∃ V V' org, (s l).t = .val V org ∧ (s1 l).t = .val V' none ∧ V'.lend = V.lend
theorem Sub.refl (s : St) : Sub s s := fun l => .inl rfl
theorem Sub.lends (h : Sub s1 s) {l m : Loc} (hm : m ∈ lendsAt s1 l) : m ∈ lendsAt s l := by
  rcases h l with e | e | ⟨V, V', org, e1, e2, e3⟩
  · unfold lendsAt at hm ⊢; rwa [e] at hm
  · unfold lendsAt at hm; rw [e] at hm; cases hm
  · unfold lendsAt at hm ⊢; rw [e2] at hm; rw [e1]; simp only at hm ⊢; rw [← e3]; exact hm
theorem Sub.sees (h : Sub s1 s) {full : Bool} {x : Operand} {m : Loc} (hm : m ∈ seesT s1 full x) : m ∈ seesT s full x := by
  cases x with
  | tmp j =>
    simp only [seesT, List.mem_cons] at hm ⊢
    rcases hm with e | hm
    · exact .inl e
    refine .inr ?_
    rcases h (tm j) with e | e | ⟨V, V', org, e1, e2, e3⟩
    · rw [e] at hm
      split at hm
      · rename_i v org ht
        simp only [List.mem_append] at hm ⊢
        refine hm.imp id (fun hm => ?_)
        split at hm
        · simp only [List.mem_cons] at hm ⊢
          exact hm.imp id (fun hm => hm.imp id (fun hm => h.lends hm))
        · cases hm
      · rename_i l p _ _ _ _ ht
        simp only [List.mem_cons] at hm ⊢
        refine hm.imp id (fun hm => ?_)
        split at hm
        · rename_i hc
          rw [if_pos hc]
          simp only [List.mem_cons] at hm ⊢
          exact hm.imp id (fun hm => h.lends hm)
        · cases hm
      · exact hm
      · cases hm
    · rw [e] at hm; cases hm
    · rw [e2] at hm; rw [e1]
      simp only [List.mem_append] at hm ⊢
      rcases hm with hm | hm
      · rw [e3] at hm; exact .inl hm
      · cases hm
  | _ => exact hm
theorem Sub.undef {u : Upds} (h : ∀ e ∈ u, e.2.t = .undef) : ∀ {s : St}, Sub (upds s u) s := by
  induction u with
  | nil => intro s; exact Sub.refl s
  | cons e u ih =>
    intro s l
    rw [upds_cons]
    obtain ⟨m, x⟩ := e
    rcases ih (fun e he => h e (List.mem_cons_of_mem _ he)) (s := upd s m x) l with h1 | h1 | ⟨V, V', org, h1, h2, h3⟩
    · by_cases hl : l = m
      · subst hl
        rw [upd_self] at h1
        exact .inr (.inl (by show (upds (upd s l x) u l).t = _; rw [h1]; exact h _ List.mem_cons_self))
      · rw [upd_ne hl] at h1; exact .inl h1
    · exact .inr (.inl h1)
    · by_cases hl : l = m
      · subst hl
        rw [upd_self] at h1
        have e : x.t = .undef := h _ List.mem_cons_self
        rw [e] at h1; cases h1
      · rw [upd_ne hl] at h1
        exact .inr (.inr ⟨V, V', org, h1, h2, h3⟩)
theorem Sub.trans {s2 : St} (h2 : Sub s2 s1) (h1 : Sub s1 s) : Sub s2 s := by
  intro l
  rcases h2 l with e | e | ⟨V, V', org, e1, e2, e3⟩
  · rw [e]; exact h1 l
  · exact .inr (.inl e)
  · rcases h1 l with f | f | ⟨W, W', org', f1, f2, f3⟩
    · rw [f] at e1; exact .inr (.inr ⟨V, V', org, e1, e2, e3⟩)
    · rw [f] at e1; cases e1
    · rw [f2] at e1; cases e1; exact .inr (.inr ⟨W, V', org', f1, e2, e3.trans f3⟩)
theorem take_undef {ty : Option Ty} {x : Operand} {v : V} {u : Upds} (h : take s ty x = some (v, u)) : ∀ e ∈ u, e.2.t = .undef := by
  have tl : ∀ {x : Operand}, (peekV s ty x).map (fun v => (v, ([] : Upds))) = some (v, u) → u = [] := fun h => by
    obtain ⟨_, _, e⟩ := Option.map_eq_some_iff.1 h; cases e; rfl
  cases x with
  | tmp j =>
    simp only [take] at h
    split at h
    · split at h
      · split at h
        · cases h; intro e he; simp only [List.mem_singleton] at he; subst he; rfl
        · cases h; simp
      · cases h
    · cases h; simp
    · cases h
  | _ => have := tl (by simpa only [take] using h); subst this; simp
theorem takeS_undef {ty : Option Ty} {p : Path} {x : Operand} {v : V} {u : Upds} (h : takeS s ty p x = some (v, u)) : ∀ e ∈ u, e.2.t = .undef := by
  unfold takeS at h
  split at h
  · cases h; exact take_undef (by assumption)
  · split at h
    · obtain ⟨v, h1, h2⟩ := Option.map_eq_some_iff.1 h
      cases h2; simp
    · cases h
theorem gatherE_agree {t : Ty} : ∀ {ps : List (Nat × Operand)} {i : Nat} {s s' : St} {u : Upds} {acc : List t.den} {o : Ow} {ln : Lend} (h : ∀ q ∈ ps, ∀ l ∈ seesT s true q.2, s' l = s l), gatherE t i ps s' u acc o ln = gatherE t i ps s u acc o ln := by
  intro ps
  induction ps with
  | nil => intros; rfl
  | cons q ps ih =>
    intro i s s' u acc o ln h
    obtain ⟨j, x⟩ := q
    simp only [gatherE]
    split
    · rw [take_agree (h _ List.mem_cons_self)]
      cases ht : take s (some t) x with
      | none => rfl
      | some q =>
        obtain ⟨⟨t', o', y, ln', tg⟩, u'⟩ := q
        simp only
        split
        · exact ih (fun q hq l hl => upds_agree (h q (List.mem_cons_of_mem _ hq) l ((Sub.undef (take_undef ht)).sees hl)))
        · rfl
    · rfl
theorem gatherF_agree : ∀ {ps : List (Nat × Operand)} {s s' : St} {u : Upds} {v : V} (h : ∀ q ∈ ps, ∀ l ∈ seesT s true q.2, s' l = s l), gatherF ps s' u v = gatherF ps s u v := by
  intro ps
  induction ps with
  | nil => intros; rfl
  | cons q ps ih =>
    intro s s' u v h
    obtain ⟨j, x⟩ := q
    obtain ⟨t, o, acc, ln, tg⟩ := v
    simp only [gatherF]
    split
    · rename_i tj y hg
      rw [take_agree (h _ List.mem_cons_self)]
      cases ht : take s (some tj) x with
      | none => rfl
      | some q =>
        obtain ⟨⟨t', o', y, ln', tg⟩, u'⟩ := q
        simp only
        split
        · exact ih (fun q hq l hl => upds_agree (h q (List.mem_cons_of_mem _ hq) l ((Sub.undef (take_undef ht)).sees hl)))
        · rfl
    · rfl
theorem agree_build {o : Oper} {t : TypeId} {ps : Array (Nat × Operand)} (ho : o.op = .build t ps) (h : ∀ q ∈ ps.toList, ∀ l ∈ seesT s true q.2, s' l = s l) (hd : ∀ d, o.dst = some d → s' (tm d) = s (tm d)) : evOp E o s' = evOp E o s := by
  simp only [evOp, ho, gatherF_agree h, outT_agree hd]
theorem agree_buildSlice {o : Oper} {t : TypeId} {n : Nat} {ps : Array (Nat × Operand)} (ho : o.op = .buildSlice t n ps) (h : ∀ q ∈ ps.toList, ∀ l ∈ seesT s true q.2, s' l = s l) (hd : ∀ d, o.dst = some d → s' (tm d) = s (tm d)) : evOp E o s' = evOp E o s := by
  simp only [evOp, ho, gatherE_agree h, outT_agree hd]
theorem agree_storeT {o : Oper} {ty : TypeId} {x y : Operand} (ho : o.op = .store ty x y) (hx : ∀ l ∈ seesT s true x, s' l = s l) (hy : ∀ l ∈ seesT s true y, s' l = s l) : evOp E o s' = evOp E o s := by
  simp only [evOp, ho, peek_agree hx]
  split
  · rename_i l p v hv iv tr t hp ht hd
    obtain ⟨h1, h2, h3⟩ := ref_sees hp hx
    rw [takeS_agree hy, orgOf_agree hy]
    cases hk : takeS s (some t) p y with
    | none => rfl
    | some q =>
      obtain ⟨v, u⟩ := q
      have hc := content_agree (s := upds s u) (s' := upds s' u) (l := l) (upds_agree h1) (fun m hm => upds_agree (h3 m ((Sub.undef (takeS_undef hk)).lends hm)))
      have e : ∀ org, evStore (upds s' u) l p (fit (upds s' u) l p v) u org = evStore (upds s u) l p (fit (upds s u) l p v) u org := fun org => by
        rw [fit_agree hc]
        exact evStore_agree (upds_agree h1) hc
      simp only [e]
  · rfl
/-- What a value was read from is looked at. -/
theorem org_sees {x : Operand} {ty : Option Ty} {V : V} {l : Loc} {p : Path} {v : Nat} (hp : peek s ty x = some (.val V (some (l, p, v)))) (h : ∀ m ∈ seesT s true x, s' m = s m) : s' l = s l ∧ s' (idl l) = s (idl l) ∧ ∀ m ∈ lendsAt s l, s' m = s m := by
  cases x with
  | tmp j =>
    simp only [peek] at hp
    split at hp
    · rename_i t o y ln tg org ht
      split at hp
      · split at hp
        · cases hp
          refine ⟨h _ (by simp [seesT]), ?_, fun m hm => h m ?_⟩
          · exact h _ (by simp [seesT, ht])
          · simp only [lendsAt, ht] at hm
            simp only [seesT, ht, List.mem_cons, List.mem_append]
            exact .inr (.inl (.inr hm))
        · cases org with
          | none => cases hp
          | some q =>
            obtain ⟨l', p', v'⟩ := q
            simp only [validO] at hp
            split at hp
            · cases hp
              refine ⟨h _ (by simp [seesT, ht]), h _ (by simp [seesT, ht]), fun m hm => h m ?_⟩
              simp only [seesT, ht, List.mem_cons, List.mem_append]
              exact .inr (.inr (.inr (.inr hm)))
            · cases hp
      · cases hp
    · cases hp
    · split at hp <;> cases hp
    · split at hp <;> cases hp
    · cases hp
  | const v => simp only [peek] at hp; obtain ⟨_, _, e⟩ := Option.map_eq_some_iff.1 hp; cases e
  | func f => cases hp
  | global n => cases hp
end
end Go.OM

namespace Go.OM
open Go
section
variable {s s' s1 : St} {E : Env}
theorem agree_indexAddr {o : Oper} {t : TypeId} {x i : Operand} (ho : o.op = .indexAddr t x i) (hx : ∀ l ∈ seesT s true x, s' l = s l) (hi : ∀ l ∈ seesT s true i, s' l = s l) (hd : ∀ d, o.dst = some d → s' (tm d) = s (tm d)) : evOp E o s' = evOp E o s := by
  simp only [evOp, ho, peek_agree hx, peekV_agree hi]
  split
  · rename_i t o0 xs ln tg org k o1 i ln1 tg1 hp hq
    cases org with
    | none => simp only [putT_agree hd]
    | some q =>
      obtain ⟨l, p, v⟩ := q
      obtain ⟨h1, h2, h3⟩ := org_sees hp hx
      simp only [at_agree h1 h3, putT_agree hd, h1, h2]
  · rfl
theorem boundOf_agree {b : Option Operand} {d : Int} (h : ∀ x, b = some x → ∀ l ∈ seesT s true x, s' l = s l) : boundOf s' b d = boundOf s b d := by
  cases b with
  | none => rfl
  | some x => simp only [boundOf, peekV_agree (h x rfl)]
theorem placeOf_sees {x : Operand} {t : Ty} {l : Loc} {p : Path} (hp : placeOf s x = some (t, l, p)) (h : ∀ m ∈ seesT s true x, s' m = s m) : s' l = s l ∧ s' (idl l) = s (idl l) ∧ ∀ m ∈ lendsAt s l, s' m = s m := by
  unfold placeOf at hp
  split at hp
  · rename_i V l p v hpk
    cases hp
    exact org_sees hpk h
  · cases hp
theorem takeP_agree {x : Operand} (h : ∀ l ∈ seesT s true x, s' l = s l) : takeP s' x = takeP s x := by
  unfold takeP
  rw [take_agree h, placeOf_agree h, ownTmp_agree h]
  split
  · rfl
  · cases hp : placeOf s x with
    | none => rfl
    | some q =>
      obtain ⟨t, l, p⟩ := q
      obtain ⟨h1, h2, h3⟩ := placeOf_sees hp h
      simp only [at_agree h1 h3, bump_agree h1]
theorem agree_slice {o : Oper} {t : TypeId} {x : Operand} {lo hi : Option Operand} (ho : o.op = .slice t x lo hi none) (hx : ∀ l ∈ seesT s true x, s' l = s l) (hlo : ∀ y, lo = some y → ∀ l ∈ seesT s true y, s' l = s l) (hhi : ∀ y, hi = some y → ∀ l ∈ seesT s true y, s' l = s l) (hd : ∀ d, o.dst = some d → s' (tm d) = s (tm d)) : evOp E o s' = evOp E o s := by
  have ho' : outT o s' = outT o s := funext fun x => outT_agree hd
  simp only [evOp, ho, takeP_agree hx, peekV_agree hx, boundOf_agree hlo, boundOf_agree hhi, ho']
theorem agree_len {o : Oper} {cl : Call} (ho : o.op = .call cl) (hc : cl.callee = .builtin .len) (hx : ∀ x ∈ cl.args.toList, ∀ l ∈ seesT s true x, s' l = s l) (hd : ∀ d, o.dst = some d → s' (tm d) = s (tm d)) : evOp E o s' = evOp E o s := by
  have e : peekV s' none (cl.args.getD 0 (.global 0)) = peekV s none (cl.args.getD 0 (.global 0)) := by
    unfold Array.getD
    split
    · rename_i hlt
      exact peekV_agree (hx _ (by simp))
    · rfl
  simp only [evOp, ho, hc, e, putT_agree hd]
theorem agree_max {o : Oper} {cl : Call} (ho : o.op = .call cl) (hc : cl.callee = .builtin .max) (hx : ∀ x ∈ cl.args.toList, ∀ l ∈ seesT s true x, s' l = s l) (hd : ∀ d, o.dst = some d → s' (tm d) = s (tm d)) : evOp E o s' = evOp E o s := by
  have e : ∀ i, peekV s' none (cl.args.getD i (.global 0)) = peekV s none (cl.args.getD i (.global 0)) := fun i => by
    unfold Array.getD
    split
    · rename_i hlt
      exact peekV_agree (hx _ (by simp))
    · rfl
  simp only [evOp, ho, hc, e, putT_agree hd]
theorem at_val {l : Loc} {p : Path} {v : V} {y : (t : Ty) × t.den} {o : Ow} (h : at_ s l p = some (v, y, o)) : ∃ org, (s l).t = .val v org := by
  unfold at_ content at h
  cases ht : (s l).t with
  | val w org =>
    simp only [ht] at h
    split at h
    · rename_i v' hv
      split at hv
      · cases hv
        split at h
        · cases h; exact ⟨org, rfl⟩
        · cases h
      · cases hv
    · cases h
  | _ => simp [ht] at h
theorem Sub.val {l : Loc} {v v' : V} {org : Option (Loc × Path × Nat)} {a b : Nat} (ht : (s l).t = .val v org) (hl : v'.lend = v.lend) : Sub (upds s [(l, ⟨.val v' none, a, b⟩)]) s := by
  intro m
  show upd s l _ m = _ ∨ _
  by_cases hm : m = l
  · subst hm
    exact .inr (.inr ⟨v, v', org, ht, by show (upd s m _ m).t = _; rw [upd_self], hl⟩)
  · exact .inl (upd_ne hm)
theorem evAppend_agree {d : Nat} {t t1 : Option Ty} {x y : Operand} (hx : ∀ l ∈ seesT s true x, s' l = s l) (hy : ∀ l ∈ seesT s true y, s' l = s l) (hd : s' (tm d) = s (tm d)) : evAppend s' d t t1 x y = evAppend s d t t1 x y := by
  unfold evAppend
  rw [placeOf_agree hx]
  split
  · rename_i tx l p hp
    obtain ⟨h1, h2, h3⟩ := placeOf_sees hp hx
    rw [at_agree h1 h3]
    split
    · split
      · rename_i v t xs o1 hat
        obtain ⟨org, hv⟩ := at_val hat
        split
        · rename_i od hod htt
          have hb : bump s' l (.val { v with o := od, tag := 0 } none) = bump s l (.val { v with o := od, tag := 0 } none) := bump_agree h1
          rw [hb]
          have hy' : ∀ m ∈ seesT (upds s [bump s l (.val { v with o := od, tag := 0 } none)]) true y, upds s' [bump s l (.val { v with o := od, tag := 0 } none)] m = upds s [bump s l (.val { v with o := od, tag := 0 } none)] m :=
            fun m hm => upds_agree (hy m ((Sub.val (v' := { v with o := od, tag := 0 }) hv rfl).sees hm))
          rw [take_agree hy']
          split
          · rename_i W u2 hW
            split
            · split
              · simp only [putV, bump_agree (upds_agree (U := u2) (upds_agree (U := [bump s l (.val { v with o := od, tag := 0 } none)]) hd))]
              · rfl
            · rfl
          · rfl
        · rfl
      · rfl
    · rfl
  · rfl
theorem agree_append {o : Oper} {cl : Call} (ho : o.op = .call cl) (hc : cl.callee = .builtin .append) (hx : ∀ x ∈ cl.args.toList, ∀ l ∈ seesT s true x, s' l = s l) (hd : ∀ d, o.dst = some d → s' (tm d) = s (tm d)) : evOp E o s' = evOp E o s := by
  have e : ∀ i, ∀ l ∈ seesT s true (cl.args.getD i (.global 0)), s' l = s l := fun i => by
    unfold Array.getD
    split
    · rename_i hlt
      exact hx _ (by simp)
    · intro l hl; cases hl
  simp only [evOp, ho, hc]
  cases hdd : o.dst with
  | none => rfl
  | some d => simp only [evAppend_agree (e 0) (e 1) (hd d hdd)]
theorem capsOf_agree : ∀ {xs : List Operand} (h : ∀ x ∈ xs, ∀ l ∈ seesT s true x, s' l = s l), capsOf s' xs = capsOf s xs := by
  intro xs
  induction xs with
  | nil => intro _; rfl
  | cons x xs ih =>
    intro h
    simp only [capsOf, peek_agree (h x List.mem_cons_self), ih (fun y hy => h y (List.mem_cons_of_mem _ hy))]
    split
    · rename_i hp _
      obtain ⟨h1, h2, h3⟩ := ref_sees hp (h x List.mem_cons_self)
      simp only [at_agree h1 h3, h1]
    · rfl
theorem agree_makeFunc {o : Oper} {f : FuncId} {fi cap : Array Operand} (ho : o.op = .makeFunc (.func f) fi cap) (hx : ∀ x ∈ cap.toList, ∀ l ∈ seesT s true x, s' l = s l) (hd : ∀ d, o.dst = some d → s' (tm d) = s (tm d)) : evOp E o s' = evOp E o s := by
  simp only [evOp, ho, capsOf_agree hx, putT_agree hd]
theorem agree_extract {o : Oper} {j i : Nat} (ho : o.op = .extract (.tmp j) i) (hx : ∀ l ∈ seesT s true (.tmp j), s' l = s l) (hd : ∀ d, o.dst = some d → s' (tm d) = s (tm d))
    (hc : ∀ l ∈ (match (s (tm j)).t with | .tup b _ _ => cp b i :: (match (s (cp b i)).t with | .val w _ => w.lend.map (Prod.fst) | .ref l p _ _ _ _ => idl l :: (if p.flat then [] else [l]) | _ => []) | _ => []), s' l = s l) : evOp E o s' = evOp E o s := by
  simp only [evOp, ho]
  cases hdd : o.dst with
  | none => rfl
  | some d =>
    simp only [evExtract, peek_agree hx]
    split
    · rename_i b n iv hp
      have ht : (s (tm j)).t = .tup b n iv := by
        simp only [peek] at hp
        split at hp
        · split at hp
          · split at hp <;> cases hp
          · cases hp
        · cases hp
        · split at hp <;> cases hp
        · split at hp
          · cases hp; assumption
          · cases hp
        · cases hp
      simp only [ht, List.mem_cons] at hc
      have hb : s' (cp b i) = s (cp b i) := hc _ (.inl rfl)
      simp only [hb, putV, bump, hd d hdd]
      split
      · split
        · rename_i l p v hv iv' t' ht'
          have : validR s' l p v hv iv' = validR s l p v hv iv' := by
            unfold validR
            rw [hc (idl l) (.inr (by rw [ht']; simp))]
            cases hf : p.flat with
            | true => simp
            | false => rw [hc l (.inr (by rw [ht']; simp [hf]))]
          rw [this]
        · rename_i v org ht'
          rw [validL_agree (fun e he => hc _ (.inr (by rw [ht']; simp only [List.mem_map]; exact ⟨e, he, rfl⟩)))]
        · rfl
      · rfl
    · rfl
theorem argOf_agree {p : PM} {x : Operand} (h : ∀ l ∈ seesT s true x, s' l = s l) : argOf s' p x = argOf s p x := by
  cases p with
  | fz t =>
    simp only [argOf, peek_agree h]
    split
    · rename_i hp
      obtain ⟨h1, h2, h3⟩ := ref_sees hp h
      split
      · simp only [at_agree h1 h3, h1]
      · rfl
    · rfl
    · rfl
  | own t o =>
    simp only [argOf, placeOf_agree h]
    split
    · rename_i hp
      obtain ⟨h1, h2, h3⟩ := placeOf_sees hp h
      simp only [at_agree h1 h3, bump, h1]
    · rfl
  | «mut» t o =>
    simp only [argOf, placeOf_agree h]
    split
    · rename_i hp
      obtain ⟨h1, h2, h3⟩ := placeOf_sees hp h
      simp only [at_agree h1 h3]
    · rfl
  | ptr t o o' =>
    simp only [argOf, peek_agree h]
    split
    · rename_i hp
      obtain ⟨h1, h2, h3⟩ := ref_sees hp h
      simp only [at_agree h1 h3]
    · rfl
theorem gatherA_agree : ∀ {pms : List PM} {xs : List Operand} (h : ∀ x ∈ xs, ∀ l ∈ seesT s true x, s' l = s l), gatherA pms xs s' = gatherA pms xs s := by
  intro pms
  induction pms with
  | nil => intro xs h; cases xs <;> rfl
  | cons p pms ih =>
    intro xs h
    cases xs with
    | nil => rfl
    | cons x xs => simp only [gatherA, argOf_agree (h x List.mem_cons_self), ih (fun y hy => h y (List.mem_cons_of_mem _ hy))]
end
end Go.OM

namespace Go.OM
open Go
section
variable {s s' s1 : St} {E : Env}
def Seen (s s' : St) (l : Loc) : Prop := s' l = s l ∧ ∀ m ∈ lendsAt s l, s' m = s m
theorem argOf_back {p : PM} {x : Operand} {y : p.ty.den} {ln : Lend} {bk : List (Loc × Path)} {mv : Upds} (hr : argOf s p x = some (y, ln, bk, mv)) (h : ∀ l ∈ seesT s true x, s' l = s l) : ∀ q ∈ bk, Seen s s' q.1 := by
  cases p with
  | fz t =>
    simp only [argOf] at hr
    intro q hq
    split at hr
    · split at hr
      · split at hr
        · split at hr
          · split at hr
            · cases hr; cases hq
            · cases hr
          · cases hr
        · cases hr
      · cases hr
    · split at hr
      · split at hr
        · cases hr; cases hq
        · cases hr
      · cases hr
    · cases hr
  | own t o =>
    simp only [argOf] at hr
    intro q hq
    split at hr
    · split at hr
      · split at hr
        · split at hr
          · split at hr
            · cases hr; cases hq
            · cases hr
          · cases hr
        · cases hr
      · cases hr
    · cases hr
  | «mut» t o =>
    simp only [argOf] at hr
    split at hr
    · rename_i hp
      obtain ⟨h1, h2, h3⟩ := placeOf_sees hp h
      split at hr
      · split at hr
        · split at hr
          · cases hr
            intro q hq
            simp only [List.mem_singleton] at hq; subst hq
            exact ⟨h1, h3⟩
          · cases hr
        · cases hr
      · cases hr
    · cases hr
  | ptr t o o' =>
    simp only [argOf] at hr
    split at hr
    · rename_i hp
      obtain ⟨h1, h2, h3⟩ := ref_sees hp h
      split at hr
      · split at hr
        · split at hr
          · cases hr
            intro q hq
            simp only [List.mem_singleton] at hq; subst hq
            exact ⟨h1, h3⟩
          · cases hr
        · cases hr
      · cases hr
    · cases hr
theorem gatherA_back : ∀ {pms : List PM} {xs : List Operand} {G : Gath pms} (hr : gatherA pms xs s = some G) (h : ∀ x ∈ xs, ∀ l ∈ seesT s true x, s' l = s l), ∀ q ∈ G.back, Seen s s' q.1 := by
  intro pms
  induction pms with
  | nil =>
    intro xs G hr h
    cases xs with
    | nil => cases hr; intro q hq; cases hq
    | cons x xs => cases hr
  | cons p pms ih =>
    intro xs G hr h
    cases xs with
    | nil => cases hr
    | cons x xs =>
      simp only [gatherA] at hr
      split at hr
      · rename_i y ln bk mv g ha hg
        cases hr
        intro q hq
        rcases List.mem_append.1 hq with hq | hq
        · exact argOf_back ha (h x List.mem_cons_self) q hq
        · exact ih hg (fun y hy => h y (List.mem_cons_of_mem _ hy)) q hq
      · cases hr
theorem backs_agree {ln : Lend} : ∀ {pms : List PM} {y : denR (pms.flatMap PM.outs)} {bk : List (Loc × Path)} (h : ∀ q ∈ bk, Seen s s' q.1), backs pms y bk ln s' = backs pms y bk ln s := by
  intro pms
  induction pms with
  | nil => intro y bk h; cases bk <;> rfl
  | cons p pms ih =>
    intro y bk h
    cases p with
    | fz t => exact ih h
    | own t o => exact ih h
    | «mut» t o =>
      cases bk with
      | nil => rfl
      | cons q bk =>
        obtain ⟨l, p⟩ := q
        obtain ⟨h1, h2⟩ := h _ List.mem_cons_self
        simp only [backs, content_agree h1 h2, ih (fun q hq => h q (List.mem_cons_of_mem _ hq)), bump, h1]
    | ptr t o o' =>
      cases bk with
      | nil => rfl
      | cons q bk =>
        obtain ⟨l, p⟩ := q
        obtain ⟨h1, h2⟩ := h _ List.mem_cons_self
        simp only [backs, ih (fun q hq => h q (List.mem_cons_of_mem _ hq)), bump, h1]
/-- Where a call's results come to lie. -/
def SeenD (s s' : St) (d : Nat) : Prop := s' (tm d) = s (tm d) ∧ s' (bx d) = s (bx d) ∧ s' (idl (bx d)) = s (idl (bx d)) ∧ s' (idl (tm d)) = s (idl (tm d)) ∧
  ∀ i, i < 8 → s' (cp d i) = s (cp d i) ∧ s' (bxc d i) = s (bxc d i) ∧ s' (idl (bxc d i)) = s (idl (bxc d i))
theorem SeenD.upds {d : Nat} (h : SeenD s s' d) (u : Upds) : SeenD (upds s u) (upds s' u) d :=
  ⟨upds_agree h.1, upds_agree h.2.1, upds_agree h.2.2.1, upds_agree h.2.2.2.1, fun i hi => ⟨upds_agree (h.2.2.2.2 i hi).1, upds_agree (h.2.2.2.2 i hi).2.1, upds_agree (h.2.2.2.2 i hi).2.2⟩⟩
theorem comps_agree {d : Nat} (h : SeenD s s' d) : ∀ {rts : List RT} {i : Nat} {x : denR (rts.map RT.ty)} {ln : Lend}, i + rts.length ≤ 8 → comps s' d i rts x ln = comps s d i rts x ln := by
  intro rts
  induction rts with
  | nil => intros; rfl
  | cons r rts ih =>
    intro i x ln hi
    obtain ⟨h1, h2, h3⟩ := h.2.2.2.2 i (by simp only [List.length_cons] at hi; omega)
    simp only [comps, newBox, refTo, bump, h1, h2, h3, ih (i := i + 1) (by simp only [List.length_cons] at hi; omega)]
theorem results_agree {d : Nat} (h : SeenD s s' d) {rts : List RT} {x : denR (rts.map RT.ty)} {ln : Lend} (hi : rts.length ≤ 8) : results s' d rts x ln = results s d rts x ln := by
  match rts, x, hi with
  | [], x, _ => simp only [results, bump, h.1]
  | [r], x, _ => simp only [results, putB, putV, newBox, refTo, bump, h.1, h.2.1, h.2.2.1]
  | r :: r2 :: rs, x, hi =>
    have := comps_agree h (rts := r :: r2 :: rs) (i := 0) (x := x) (ln := ln) (by simpa using hi)
    simp only [results, this, bump, h.1, h.2.2.2.1]
theorem evGo_agree {sm : Sm} {d : Option Nat} {x : denI sm.pms} {ln : Lend} {bk : List (Loc × Path)} {mv : Upds} (hb : ∀ q ∈ bk, Seen s s' q.1) (hd : ∀ d', d = some d' → SeenD s s' d') : evGo sm d s' x ln bk mv = evGo sm d s x ln bk mv := by
  simp only [evGo]
  split
  · rename_i hc
    simp only [Bool.and_eq_true] at hc
    have h8 : sm.rts.length ≤ 8 := Nat.le_of_ble_eq_true hc.2
    congr 1
    funext r
    rw [backs_agree hb]
    split
    · rename_i u hu
      cases d with
      | none => rfl
      | some d => simp only [results_agree ((hd d rfl).upds (mv ++ u)) h8]
    · rfl
  · rfl
theorem evCall_agree {sm : Sm} {args : List Operand} {cap : Option V} {d : Option Nat} (h : ∀ x ∈ args, ∀ l ∈ seesT s true x, s' l = s l) (hd : ∀ d', d = some d' → SeenD s s' d') : evCall sm args cap d s' = evCall sm args cap d s := by
  cases cap with
  | none =>
    simp only [evCall, gatherA_agree h]
    split
    · rename_i G hG
      exact evGo_agree (gatherA_back hG h) hd
    · rfl
  | some v =>
    simp only [evCall, gatherA_agree h]
    split
    · rename_i G c hG hc
      exact evGo_agree (gatherA_back hG h) hd
    · rfl
theorem agree_callF {o : Oper} {cl : Call} {f : FuncId} (ho : o.op = .call cl) (hc : cl.callee = .value (.func f)) (hx : ∀ x ∈ cl.args.toList, ∀ l ∈ seesT s true x, s' l = s l) (hd : ∀ d, o.dst = some d → SeenD s s' d) : evOp E o s' = evOp E o s := by
  simp only [evOp, ho, hc]
  split
  · exact evCall_agree hx hd
  · rfl
theorem agree_callV {o : Oper} {cl : Call} {j : Nat} (ho : o.op = .call cl) (hc : cl.callee = .value (.tmp j)) (hj : ∀ l ∈ seesT s true (.tmp j), s' l = s l) (hx : ∀ x ∈ cl.args.toList, ∀ l ∈ seesT s true x, s' l = s l) (hd : ∀ d, o.dst = some d → SeenD s s' d) : evOp E o s' = evOp E o s := by
  simp only [evOp, ho, hc, peek_agree hj]
  split
  · split
    · exact evCall_agree hx hd
    · rfl
  · rfl
/-- What an operation with a destination looks at there. -/
theorem sees_dst {ops : List Oper} {o : Oper} {d : Nat} (hd : o.dst = some d) (h : ∀ l ∈ sees ops o s, s' l = s l) : s' (tm d) = s (tm d) ∧ s' (bx d) = s (bx d) ∧ s' (idl (bx d)) = s (idl (bx d)) := by
  refine ⟨h _ ?_, h _ ?_, h _ ?_⟩ <;> simp [sees, hd]
theorem sees_dstC {ops : List Oper} {o : Oper} {cl : Call} {d : Nat} (ho : o.op = .call cl) (hd : o.dst = some d) (h : ∀ l ∈ sees ops o s, s' l = s l) : SeenD s s' d := by
  obtain ⟨h1, h2, h3⟩ := sees_dst hd h
  refine ⟨h1, h2, h3, h _ ?_, fun i hi => ⟨h _ ?_, h _ ?_, h _ ?_⟩⟩
  · simp [sees, hd, ho]
  all_goals
    simp only [sees, hd, ho, List.mem_append, List.mem_cons, List.mem_flatMap, List.mem_range]
    refine .inr (.inr ⟨i, hi, ?_⟩)
    simp
theorem sees_opd {ops : List Oper} {o : Oper} {x : Operand} (hx : x ∈ o.op.operands.toList) (h : ∀ l ∈ sees ops o s, s' l = s l) : ∀ l ∈ seesT s (fullOp o.op) x, s' l = s l := fun l hl => h l (by
  simp only [sees, List.mem_append, List.mem_flatMap]
  exact .inl (.inl (.inl ⟨x, hx, hl⟩)))
theorem evOp_agree {ops : List Oper} {o : Oper} (h : ∀ l ∈ sees ops o s, s' l = s l) : evOp E o s' = evOp E o s := by
  have hd : ∀ d, o.dst = some d → s' (tm d) = s (tm d) := fun d hd => (sees_dst hd h).1
  have hd3 : ∀ d, o.dst = some d → s' (tm d) = s (tm d) ∧ s' (bx d) = s (bx d) ∧ s' (idl (bx d)) = s (idl (bx d)) := fun d hd => sees_dst hd h
  have hop : ∀ x ∈ o.op.operands.toList, ∀ l ∈ seesT s (fullOp o.op) x, s' l = s l := fun x hx => sees_opd hx h
  cases ho : o.op with
  | move x => exact agree_move ho (hop x (by simp [ho, Op.operands])) hd
  | assign x => exact agree_assign ho (hop x (by simp [ho, Op.operands])) hd
  | pick x y z => exact agree_pick ho (hop x (by simp [ho, Op.operands])) (hop y (by simp [ho, Op.operands])) (hop z (by simp [ho, Op.operands])) hd
  | alloc t => exact agree_alloc ho hd3
  | box t x => exact agree_box ho (hop x (by simp [ho, Op.operands])) hd3
  | build t ps =>
    rw [ho] at hop
    exact agree_build ho (fun q hq => hop q.2 (by simp only [Op.operands, List.mem_map]; exact ⟨q, hq, rfl⟩)) hd
  | buildSlice t n ps =>
    rw [ho] at hop
    exact agree_buildSlice ho (fun q hq => hop q.2 (by simp only [Op.operands, List.mem_map]; exact ⟨q, hq, rfl⟩)) hd
  | load t x => rw [ho] at hop; exact agree_load ho (hop x (by simp [Op.operands])) hd
  | store t x y => rw [ho] at hop; exact agree_storeT ho (hop x (by simp [Op.operands])) (hop y (by simp [Op.operands]))
  | nilCheck x => exact agree_nilCheck ho (hop x (by simp [ho, Op.operands])) hd
  | binOp op t x y u => exact agree_binOp ho (hop x (by simp [ho, Op.operands])) (hop y (by simp [ho, Op.operands])) hd
  | unOp op t x => exact agree_unOp ho (hop x (by simp [ho, Op.operands])) hd
  | convert t u x => exact agree_convert ho (hop x (by simp [ho, Op.operands])) hd
  | makeSlice t x y => exact agree_makeSlice ho (hop x (by simp [ho, Op.operands])) (hop y (by simp [ho, Op.operands])) hd
  | slice t x lo hi mx =>
    rw [ho] at hop
    cases mx with
    | none => exact agree_slice ho (hop x (by simp [Op.operands])) (fun y hy => hop y (by subst hy; simp [Op.operands])) (fun y hy => hop y (by subst hy; simp [Op.operands])) hd
    | some _ => simp only [evOp, ho]
  | fieldAddr t x i => exact agree_fieldAddr ho (hop x (by simp [ho, Op.operands])) hd
  | field t x i => exact agree_field ho (hop x (by simp [ho, Op.operands])) hd
  | indexAddr t x i => rw [ho] at hop; exact agree_indexAddr ho (hop x (by simp [Op.operands])) (hop i (by simp [Op.operands])) hd
  | extract x i =>
    cases x with
    | tmp j =>
      rw [ho] at hop
      exact agree_extract ho (hop (.tmp j) (by simp [Op.operands])) hd (fun l hl => h l (by
        simp only [sees, ho, List.mem_append]
        exact .inr hl))
    | const _ => simp only [evOp, ho]
    | func _ => simp only [evOp, ho]
    | global _ => simp only [evOp, ho]
  | makeFunc f first cap =>
    rw [ho] at hop
    cases f with
    | func f => exact agree_makeFunc ho (fun x hx => hop x (by simp [Op.operands, Array.mem_def.2 hx, hx])) hd
    | _ => simp only [evOp, ho]
  | call cl =>
    have hdc : ∀ d, o.dst = some d → SeenD s s' d := fun d hd => sees_dstC ho hd h
    rw [ho] at hop
    have hargs : ∀ x ∈ cl.args.toList, ∀ l ∈ seesT s true x, s' l = s l := fun x hx => hop x (by simp [Op.operands, Call.operands, hx])
    cases hc : cl.callee with
    | builtin b => cases b with
      | len => exact agree_len ho hc hargs hd
      | append => exact agree_append ho hc hargs hd
      | max => exact agree_max ho hc hargs hd
      | _ => simp only [evOp, ho, hc]
    | value x => cases x with
      | func f => exact agree_callF ho hc hargs hdc
      | tmp j => exact agree_callV ho hc (hop (.tmp j) (by simp [Op.operands, Call.operands, hc])) hargs hdc
      | const _ => simp only [evOp, ho, hc]
      | global _ => simp only [evOp, ho, hc]
    | invoke x n => simp only [evOp, ho, hc]
  | _ => simp only [evOp, ho]
theorem evG_agree {ops : List Oper} {i : Nat} {o : Oper} (h : ∀ l ∈ sees ops o s, s' l = s l) : evG E ops i o s' = evG E ops i o s := by
  unfold evG
  simp only [evOp_agree (E := E) h]
  cases hg : o.guard with
  | none => rfl
  | some q =>
    obtain ⟨gi, b⟩ := q
    simp only
    split
    · rename_i dg hdg
      have e1 : s' (tm dg) = s (tm dg) := h _ (by
        have hdg' : (ops[gi]?).bind (·.dst) = some dg := hdg
        simp only [sees, hg, hdg', List.mem_append, List.mem_singleton]
        exact .inl (.inr trivial))
      have e2 : ∀ d, o.dst = some d → bump s' (tm d) .und = bump s (tm d) .und := fun d hd => bump_agree (sees_dst hd h).1
      rw [e1]
      split
      · cases hd : o.dst with
        | none => rfl
        | some d => simp only [e2 d hd]
      · cases hd : o.dst with
        | none => rfl
        | some d => simp only [e2 d hd]
      · rfl
    · rfl
end
end Go.OM

namespace Go.OM
open Go
section
variable {c : Ctx} {g : Ghost} {s : St} {a : Act} {w : World} {P : Program} {E : Env}
theorem RelG.same (r : RelG c g s a w) {w' : World} (h : Same w w') : RelG c g s a w' := by
  have e : Evo (fun _ => False) g s a w g s a w' := ⟨fun _ _ => rfl, fun _ h => h.elim, fun _ _ => rfl, fun _ _ => rfl, fun _ _ => rfl, fun _ _ _ _ _ => rfl, fun _ h => h, fun b _ => by rw [h.heap], fun _ h => h.elim⟩
  exact e.rel r h.grow r.gin (fun _ _ => .inl rfl) r.disj r.ownG (fun _ _ h => h.elim) (fun b hb => by rw [h.heap]; exact r.gsz b hb) (fun _ _ _ h => h.elim) (r.fr.same h) r.defs r.size (fun _ h => h.elim) (fun _ h => h.elim) (fun _ h => h.elim)
theorem Rel.same (r : Rel c s a w) {w' : World} (h : Same w w') : Rel c s a w' := ⟨r.choose, r.choose_spec.same h⟩

/-- What updates do at a place does not hang on what was there. -/
theorem upds_off : ∀ {U : Upds} {s : St} {l : Loc}, l ∉ U.map (·.1) → upds s U l = s l := by
  intro U
  induction U with
  | nil => intros; rfl
  | cons e U ih =>
    intro s l h
    rw [upds_cons]
    obtain ⟨m, x⟩ := e
    simp only [List.map_cons, List.mem_cons, not_or] at h
    rw [ih h.2]
    exact upd_ne h.1
theorem upds_on : ∀ {U : Upds} {s s' : St} {l : Loc}, l ∈ U.map (·.1) → upds s U l = upds s' U l := by
  intro U
  induction U with
  | nil => intro s s' l h; cases h
  | cons e U ih =>
    intro s s' l h
    rw [upds_cons, upds_cons s']
    obtain ⟨m, x⟩ := e
    by_cases hl : l ∈ U.map (·.1)
    · exact ih hl
    · rw [upds_off hl, upds_off hl]
      simp only [List.map_cons, List.mem_cons] at h
      rcases h with rfl | h
      · show upd s l x l = upd s' l x l
        rw [upd_self, upd_self]
      · exact (hl h).elim
/-- The state behind the updates of D, by number. -/
def stD (U : Nat → Upds) (D : Nat → Bool) (s : St) : Nat → St
  | 0 => s
  | i + 1 => if D i then upds (stD U D s i) (U i) else stD U D s i
variable {U : Nat → Upds} {D : Nat → Bool}
theorem stD_off {l : Loc} {i : Nat} : ∀ {n : Nat}, i ≤ n → (∀ j, i ≤ j → j < n → D j = true → l ∉ (U j).map (·.1)) → stD U D s n l = stD U D s i l := by
  intro n
  induction n with
  | zero => intro h _; rw [Nat.le_zero.1 h]
  | succ n ih =>
    intro h hj
    by_cases hn : i = n + 1
    · rw [hn]
    · have hle : i ≤ n := by omega
      have e := ih hle (fun j h1 h2 h3 => hj j h1 (by omega) h3)
      simp only [stD]
      split
      · rename_i hD
        rw [upds_off (hj n hle (by omega) hD), e]
      · exact e
theorem stD_eq {l : Loc} {D' : Nat → Bool} : ∀ {n : Nat}, (∀ j, j < n → D j = D' j ∨ l ∉ (U j).map (·.1)) → stD U D s n l = stD U D' s n l := by
  intro n
  induction n with
  | zero => intro _; rfl
  | succ n ih =>
    intro h
    have e := ih (fun j hj => h j (by omega))
    simp only [stD]
    by_cases hl : l ∈ (U n).map (·.1)
    · have hD := (h n (by omega)).resolve_right (fun h => h hl)
      rw [hD]
      split
      · exact upds_on hl
      · exact e
    · have h1 : ∀ s, upds s (U n) l = s l := fun s => upds_off hl
      split <;> split <;> simp only [h1, e]
/-- One more. -/
theorem stD_add {i n : Nat} (hi : i < n) (hD : D i = false) (hap : ∀ j, i < j → j < n → D j = true → ∀ l ∈ (U i).map (·.1), l ∉ (U j).map (·.1)) : stD U (fun j => D j || Nat.beq j i) s n = upds (stD U D s n) (U i) := by
  funext l
  by_cases hl : l ∈ (U i).map (·.1)
  · have h1 : stD U (fun j => D j || Nat.beq j i) s n l = stD U (fun j => D j || Nat.beq j i) s (i + 1) l := stD_off (by omega) (fun j h1 h2 h3 => by
      have : Nat.beq j i = false := by
        cases hb : Nat.beq j i with
        | false => rfl
        | true => have := beq_eq.1 hb; omega
      rw [this, Bool.or_false] at h3
      exact hap j (by omega) h2 h3 l hl)
    rw [h1]
    simp only [stD, Nat.beq_refl, Bool.or_true, if_true]
    exact upds_on hl
  · rw [upds_off hl]
    refine stD_eq (fun j hj => ?_)
    by_cases hji : j = i
    · subst hji; exact .inr hl
    · refine .inl ?_
      have : Nat.beq j i = false := by
        cases hb : Nat.beq j i with
        | false => rfl
        | true => exact (hji (beq_eq.1 hb)).elim
      rw [this, Bool.or_false]
/-- What evOps has done. -/
theorem evOps_run {R : Type} {ops : List Oper} {k : St → List Log → Option R} {res : R} : ∀ {l : List Oper} {i0 : Nat} {s : St} {lg : List Log}, evOps E ops (enum i0 l) s lg k = some res →
    ∃ (U : Nat → Upds), (∀ n o, l[n]? = some o → (evG E ops (i0 + n) o (stD U (fun _ => true) s n)).run some = some (U n)) ∧
      k (stD U (fun _ => true) s l.length) ((List.range l.length).reverse.map (fun n => (⟨i0 + n, sees ops (l.getD n default) (stD U (fun _ => true) s n), (U n).map (·.1)⟩ : Log)) ++ lg) = some res := by
  intro l
  induction l with
  | nil => intro i0 s lg h; exact ⟨fun _ => [], fun n o hn => by simp at hn, h⟩
  | cons o l ih =>
    intro i0 s lg h
    simp only [enum, evOps] at h
    obtain ⟨u, hu, h⟩ := Prog.run_some h
    rw [forceU_eq] at h
    obtain ⟨U, h1, h2⟩ := ih h
    have shift : ∀ n, stD (fun j => match j with | 0 => u | j + 1 => U j) (fun _ => true) s (n + 1) = stD U (fun _ => true) (upds s u) n := by
      intro n
      induction n with
      | zero => rfl
      | succ n ihn => 
        show (if true = true then upds (stD _ _ s (n + 1)) (U n) else _) = (if true = true then _ else _)
        rw [if_pos rfl, if_pos rfl, ihn]
    refine ⟨fun j => match j with | 0 => u | j + 1 => U j, fun n o' hn => ?_, ?_⟩
    · cases n with
      | zero =>
        simp only [List.getElem?_cons_zero, Option.some.injEq] at hn
        subst hn
        exact hu
      | succ n =>
        rw [shift]
        have := h1 n o' (by simpa using hn)
        rwa [show i0 + (n + 1) = i0 + 1 + n by omega]
    · rw [List.length_cons, shift]
      rw [← h2]
      congr 1
      rw [List.range_succ_eq_map, List.reverse_cons, List.map_append, List.append_assoc, ← List.map_reverse, List.map_map]
      congr 1
      refine List.map_congr_left (fun n hn => ?_)
      simp only [Function.comp, Nat.succ_eq_add_one, shift, List.getD_cons_succ]
      rw [show i0 + (n + 1) = i0 + 1 + n by omega]
end
end Go.OM

namespace Go.OM
open Go
section
variable {c : Ctx} {g : Ghost} {s : St} {a : Act} {w : World} {P : Program} {E : Env}
theorem waits_fold {acc : List Nat} {i : Nat} : ∀ {l : List Edge} {b : Nat}, Nat.testBit (l.foldl (fun b e => if Region.binds .any e then Nat.lor (Nat.lor b (Nat.shiftLeft 1 e.on)) (acc.getD e.on 0) else b) b) i = true →
    Nat.testBit b i = true ∨ ∃ e ∈ l, Region.binds .any e = true ∧ (i = e.on ∨ Nat.testBit (acc.getD e.on 0) i = true) := by
  intro l
  induction l with
  | nil => intro b h; exact .inl h
  | cons e l ih =>
    intro b h
    rw [List.foldl_cons] at h
    rcases ih h with h | ⟨x, hx, h1, h2⟩
    · split at h
      · rename_i hb
        have h : Nat.testBit ((b ||| (1 <<< e.on)) ||| (acc.getD e.on 0)) i = true := h
        rw [Nat.testBit_or, Nat.testBit_or, Bool.or_eq_true, Bool.or_eq_true] at h
        rcases h with (h | h) | h
        · exact .inl h
        · refine .inr ⟨e, List.mem_cons_self, hb, .inl ?_⟩
          rw [Nat.testBit_shiftLeft, Bool.and_eq_true, decide_eq_true_eq] at h
          have h2 := h.2
          have := Nat.testBit_lt_two_pow (x := 1) (i := i - e.on)
          by_cases hz : i - e.on = 0
          · omega
          · rw [this (Nat.one_lt_two_pow hz)] at h2
            cases h2
        · exact .inr ⟨e, List.mem_cons_self, hb, .inr h⟩
      · exact .inl h
    · exact .inr ⟨x, List.mem_cons_of_mem _ hx, h1, h2⟩
theorem waits_ext : ∀ {r : List Oper} {acc : List Nat}, ∃ t, waits r acc = acc ++ t := by
  intro r
  induction r with
  | nil => intro acc; exact ⟨[], by simp [waits]⟩
  | cons o r ih =>
    intro acc
    obtain ⟨t, ht⟩ := ih (acc := acc ++ [o.after.toList.foldl (fun b e => if Region.binds .any e then Nat.lor (Nat.lor b (Nat.shiftLeft 1 e.on)) (acc.getD e.on 0) else b) 0])
    exact ⟨_, by rw [waits, ht, List.append_assoc]⟩
theorem waits_spec {i : Nat} : ∀ {r : List Oper} {acc : List Nat} {m : Nat} {o : Oper}, r[m]? = some o → Nat.testBit ((waits r acc).getD (acc.length + m) 0) i = true →
    ∃ e ∈ o.after.toList, Region.binds .any e = true ∧ (i = e.on ∨ (e.on < acc.length + m ∧ Nat.testBit ((waits r acc).getD e.on 0) i = true)) := by
  intro r
  induction r with
  | nil => intro acc m o h; simp at h
  | cons x r ih =>
    intro acc m o h ht
    rw [waits] at ht ⊢
    cases m with
    | zero =>
      simp only [List.getElem?_cons_zero, Option.some.injEq] at h
      subst h
      obtain ⟨t, e⟩ := waits_ext (r := r) (acc := acc ++ [x.after.toList.foldl (fun b e => if Region.binds .any e then Nat.lor (Nat.lor b (Nat.shiftLeft 1 e.on)) (acc.getD e.on 0) else b) 0])
      rw [e] at ht ⊢
      rw [Nat.add_zero, List.getD_eq_getElem?_getD, List.append_assoc, List.getElem?_append_right (Nat.le_refl _), Nat.sub_self] at ht
      simp only [List.singleton_append, List.getElem?_cons_zero, Option.getD_some] at ht
      rcases waits_fold ht with h | ⟨y, hy, h1, h2⟩
      · rw [Nat.zero_testBit] at h; cases h
      · refine ⟨y, hy, h1, h2.imp id (fun h => ?_)⟩
        have hlt : y.on < acc.length := by
          by_cases hc : y.on < acc.length
          · exact hc
          · rw [List.getD_eq_getElem?_getD, List.getElem?_eq_none (by omega), Option.getD_none, Nat.zero_testBit] at h
            cases h
        refine ⟨by omega, ?_⟩
        rw [List.getD_eq_getElem?_getD, List.append_assoc, List.getElem?_append_left hlt, ← List.getD_eq_getElem?_getD]
        exact h
    | succ m =>
      rw [List.getElem?_cons_succ] at h
      have e : acc.length + (m + 1) = (acc ++ [x.after.toList.foldl (fun b e => if Region.binds .any e then Nat.lor (Nat.lor b (Nat.shiftLeft 1 e.on)) (acc.getD e.on 0) else b) 0]).length + m := by simp; omega
      rw [e] at ht ⊢
      exact ih h ht
/-- Who is waited for is done. -/
theorem waits_done {ops : List Oper} {D : Nat → Bool} (hcl : ∀ j o, ops[j]? = some o → D j = true → ∀ e ∈ o.after.toList, Region.binds .any e = true → D e.on = true) :
    ∀ {n j i : Nat} {o : Oper}, j < n → ops[j]? = some o → (∀ e ∈ o.after.toList, Region.binds .any e = true → D e.on = true) → Nat.testBit ((waits ops []).getD j 0) i = true → D i = true := by
  intro n
  induction n with
  | zero => intro j i o h; cases h
  | succ n ih =>
    intro j i o hj ho hd ht
    obtain ⟨e, he, hb, h⟩ := waits_spec (r := ops) (acc := []) (m := j) ho (by simpa using ht)
    rcases h with rfl | ⟨h1, h2⟩
    · exact hd e he hb
    · simp only [List.length_nil, Nat.zero_add] at h1
      have hlt : j < ops.length := (List.getElem?_eq_some_iff.1 ho).1
      have ho' : ops[e.on]? = some ops[e.on] := List.getElem?_eq_getElem (by omega)
      exact ih (j := e.on) (by omega) ho' (hcl e.on _ ho' (hd e he hb)) h2
theorem indep_spec {ws : List Nat} : ∀ {lg : List Log}, indep ws lg = true → ∀ {m n : Nat} {a b : Log}, m < n → lg[m]? = some b → lg[n]? = some a → Nat.testBit (ws.getD b.i 0) a.i = true ∨ apart a b = true := by
  intro lg
  induction lg with
  | nil => intro _ m n a b _ h; simp at h
  | cons x lg ih =>
    intro h m n a b hmn hm hn
    rw [indep, Bool.and_eq_true] at h
    cases n with
    | zero => omega
    | succ n =>
      rw [List.getElem?_cons_succ] at hn
      cases m with
      | zero =>
        simp only [List.getElem?_cons_zero, Option.some.injEq] at hm
        subst hm
        have := List.all_eq_true.1 h.1 a (List.mem_of_getElem? hn)
        rwa [Bool.or_eq_true] at this
      | succ m => exact ih h.2 (m := m) (n := n) (by omega) (by simpa using hm) hn
theorem apart_spec {x y : Log} (h : apart x y = true) : (∀ l ∈ x.sets, l ∉ y.sees ∧ l ∉ y.sets) ∧ ∀ l ∈ y.sets, l ∉ x.sees := by
  have key : ∀ {l : Nat} {r : List Nat}, r.any (Nat.beq l) = false → l ∉ r := fun {l r} h hm => by
    have : r.any (Nat.beq l) = true := List.any_eq_true.2 ⟨l, hm, Nat.beq_refl l⟩
    rw [h] at this; cases this
  simp only [apart, Bool.and_eq_true, List.all_eq_true, Bool.not_eq_true'] at h
  exact ⟨fun l hl => ⟨key (h.1 l hl).1, key (h.1 l hl).2⟩, fun l hl => key (h.2 l hl)⟩
theorem countP_lt {f f' : Nat → Bool} (h : ∀ x, f' x = true → f x = true) {i : Nat} (h1 : f i = true) (h2 : f' i = false) : ∀ {l : List Nat}, i ∈ l → l.countP f' < l.countP f := by
  intro l
  induction l with
  | nil => intro h; cases h
  | cons x l ih =>
    intro hm
    have hle : l.countP f' ≤ l.countP f := List.countP_mono_left (fun x _ => h x)
    simp only [List.countP_cons]
    rcases List.mem_cons.1 hm with rfl | hm
    · rw [h1, h2]; simp; omega
    · have := ih hm
      have : (if f' x = true then 1 else 0) ≤ (if f x = true then 1 else 0) := by
        split
        · rename_i hx; rw [if_pos (h x hx)]; exact Nat.le_refl _
        · exact Nat.zero_le _
      omega
theorem getD_set {listed : Array Bool} {i j : Nat} (h : i < listed.size) : (listed.setIfInBounds i true).getD j false = (listed.getD j false || Nat.beq j i) := by
  by_cases hj : i = j
  · subst hj
    simp [Array.getD_eq_getD_getElem?, h, Nat.beq_refl]
  · rw [getD_set_ne false hj]
    have : Nat.beq j i = false := by
      cases hb : Nat.beq j i with
      | false => rfl
      | true => exact (hj (beq_eq.1 hb).symm).elim
    rw [this, Bool.or_false]
theorem getD_true {listed : Array Bool} {j : Nat} (h : j < listed.size) : listed.getD j true = listed.getD j false := by
  simp [Array.getD_eq_getD_getElem?, h]
section
variable {ops : Array Oper} {U : Nat → Upds} {Q : Exit → Act → World → Prop}
structure Drawn (E : Env) (ops : Array Oper) (U : Nat → Upds) (s : St) : Prop where
  ev : ∀ n o, ops[n]? = some o → (evG E ops.toList n o (stD U (fun _ => true) s n)).run some = some (U n)
  ind : ∀ i j oi oj, i < j → ops[i]? = some oi → ops[j]? = some oj → Nat.testBit ((waits ops.toList []).getD j 0) i = true ∨
    ((∀ l ∈ (U i).map (·.1), l ∉ sees ops.toList oj (stD U (fun _ => true) s j) ∧ l ∉ (U j).map (·.1)) ∧ ∀ l ∈ (U j).map (·.1), l ∉ sees ops.toList oi (stD U (fun _ => true) s i))
  past : ∀ (j : Nat) (o : Oper), ops[j]? = some o → ∀ e ∈ o.after.toList, Region.binds .any e = true → e.on < j
theorem wpAny_draw (he : EnvOk2 P E) (hN : ∀ (i : Nat) (o : Oper) (d : Nat), ops[i]? = some o → o.dst = some d → d < c.N) (X : Drawn E ops U s)
    (hQ : ∀ a' w', Rel c (stD U (fun _ => true) s ops.size) a' w' → Q .normal a' w') : ∀ {fuel : Nat} {listed : Array Bool} {a : Act} {w : World}, listed.size = ops.size →
    (∀ j o, ops.toList[j]? = some o → listed.getD j false = true → ∀ e ∈ o.after.toList, Region.binds .any e = true → listed.getD e.on false = true) →
    (List.range ops.size).countP (fun j => !listed.getD j false) ≤ fuel → Rel c (stD U (fun j => listed.getD j false) s ops.size) a w → wpAny P .any ops Q fuel listed a w := by
  have done : ∀ {listed : Array Bool} {a : Act} {w : World}, (∀ j, j < ops.size → listed.getD j false = true) → Rel c (stD U (fun j => listed.getD j false) s ops.size) a w → Q .normal a w := fun {listed a w} hall r => by
    refine hQ a w ?_
    have : stD U (fun j => listed.getD j false) s ops.size = stD U (fun _ => true) s ops.size := funext fun l => stD_eq (fun j hj => .inl (hall j hj))
    rwa [this] at r
  intro fuel
  induction fuel with
  | zero =>
    intro listed a w hsz hcl hc r
    have hall : ∀ j, j < ops.size → listed.getD j false = true := fun j hj => by
      have := List.countP_eq_zero.1 (Nat.le_zero.1 hc) j (List.mem_range.2 hj)
      simpa using this
    refine ⟨?_, done hall r⟩
    apply List.eq_nil_iff_forall_not_mem.2
    intro j hj
    obtain ⟨h1, o, h2, _⟩ := mem_ready.1 hj
    have hlt : j < ops.size := (Array.getElem?_eq_some_iff.1 h2).1
    rw [getD_true (by omega), hall j hlt] at h1
    cases h1
  | succ fuel ih =>
    intro listed a w hsz hcl hc r
    refine ⟨fun hr => ?_, fun i hi => ?_⟩
    · refine done ?_ r
      have : ∀ n j, j < n → j < ops.size → listed.getD j false = true := by
        intro n
        induction n with
        | zero => intro j h; cases h
        | succ n ihn =>
          intro j hj hlt
          cases hl : listed.getD j false with
          | true => rfl
          | false =>
            exfalso
            have ho : ops[j]? = some ops[j] := Array.getElem?_eq_getElem hlt
            have : j ∈ Region.ready .any ops listed := mem_ready.2 ⟨by rw [getD_true (by omega)]; exact hl, _, ho, fun e he hb => by
              have hp := X.past j _ ho e (Array.mem_toList_iff.2 he) hb
              exact ihn e.on (by omega) (by omega)⟩
            rw [hr] at this; cases this
      exact fun j hj => this (j + 1) j (by omega) hj
    · obtain ⟨h1, o, h2, h3⟩ := mem_ready.1 hi
      have hlt : i < ops.size := (Array.getElem?_eq_some_iff.1 h2).1
      rw [getD_true (by omega)] at h1
      have hL : ops.toList[i]? = some o := by rw [Array.getElem?_toList]; exact h2
      have hdone : ∀ e ∈ o.after.toList, Region.binds .any e = true → listed.getD e.on false = true := fun e he hb => h3 e (Array.mem_toList_iff.1 he) hb
      have hwt : ∀ {j}, Nat.testBit ((waits ops.toList []).getD i 0) j = true → listed.getD j false = true := fun {j} ht => waits_done (D := fun j => listed.getD j false) hcl (n := i + 1) (by omega) hL hdone ht
      have later : ∀ j oj, i < j → ops[j]? = some oj → listed.getD j false = true → Nat.testBit ((waits ops.toList []).getD j 0) i = false := fun j oj hij hoj hj => by
        cases ht : Nat.testBit ((waits ops.toList []).getD j 0) i with
        | false => rfl
        | true =>
          have hLj : ops.toList[j]? = some oj := by rw [Array.getElem?_toList]; exact hoj
          have := waits_done (D := fun j => listed.getD j false) hcl (n := j + 1) (by omega) hLj (hcl j oj hLj hj) ht
          rw [h1] at this; cases this
      have agree : ∀ l ∈ sees ops.toList o (stD U (fun _ => true) s i), stD U (fun j => listed.getD j false) s ops.size l = stD U (fun _ => true) s i l := fun l hl => by
        rw [stD_off (i := i) (by omega) (fun j h4 h5 h6 => ?_)]
        · refine stD_eq (fun j hj => ?_)
          cases hd : listed.getD j false with
          | true => exact .inl rfl
          | false =>
            refine .inr (fun hm => ?_)
            have hoj : ops[j]? = some ops[j] := Array.getElem?_eq_getElem (by omega)
            rcases X.ind j i _ _ hj hoj h2 with h | h
            · rw [hwt h] at hd; cases hd
            · exact (h.1 l hm).1 hl
        · have hij : i < j := by
            rcases Nat.lt_or_ge i j with h | h
            · exact h
            · have : j = i := by omega
              subst this
              rw [h1] at h6; cases h6
          have hoj : ops[j]? = some ops[j] := Array.getElem?_eq_getElem h5
          have hf := later j _ hij hoj h6
          rcases X.ind i j _ _ hij h2 hoj with h | h
          · rw [hf] at h; cases h
          · exact fun hm => h.2 l hm hl
      have hev : (evG E ops.toList i o (stD U (fun j => listed.getD j false) s ops.size)).run some = some (U i) := by
        rw [evG_agree agree]; exact X.ev i o h2
      refine evG_ok he h2 (fun d hd => hN i o d h2 hd) r hev (fun a' w' hr => ?_)
      have e : (fun j => (listed.setIfInBounds i true).getD j false) = fun j => listed.getD j false || Nat.beq j i := funext fun j => getD_set (by omega)
      refine ih (by simp [hsz]) (fun j oj hoj hj x hx hb => ?_) ?_ ?_
      · rw [getD_set (by omega), Bool.or_eq_true] at hj ⊢
        rcases hj with hj | hj
        · exact .inl (hcl j oj hoj hj x hx hb)
        · have := beq_eq.1 hj
          subst this
          rw [hL] at hoj; cases hoj
          exact .inl (hdone x hx hb)
      · have := countP_lt (f := fun j => !listed.getD j false) (f' := fun j => !(listed.setIfInBounds i true).getD j false) (fun x hx => by
          rw [getD_set (by omega)] at hx
          revert hx
          cases listed.getD x false <;> simp) (i := i) (by simp only [h1, Bool.not_false]) (by rw [getD_set (by omega), Nat.beq_refl]; simp) (List.mem_range.2 hlt)
        omega
      · rw [e, stD_add hlt h1 (fun j h4 h5 h6 l hl => ?_)]
        · exact hr
        · have hoj : ops[j]? = some ops[j] := Array.getElem?_eq_getElem h5
          have hf := later j _ h4 hoj h6
          rcases X.ind i j _ _ h4 h2 hoj with h | h
          · rw [hf] at h; cases h
          · exact (h.1 l hl).2
end
end
end Go.OM

namespace Go.OM
open Go
section
variable {c : Ctx} {g : Ghost} {s : St} {a : Act} {w : World} {P : Program} {E : Env}
theorem storeAtR (r : RelG c g s a w) {l : Loc} {p : Path} {C W : V} {xn : C.t.den} {on : Ow} {cs d vs : List Value} {b off : Nat} {Oc : Nat → Prop} {org : Option (Loc × Path × Nat)}
    (hct : content s l = some C) (hsp : setP C.t C.x p W.t W.x = some xn) (hso : setO C.o p W.o = some on)
    (hcell : Cells g a w l cs) (hna : NavA w (g.O l) C.t (baseOf g l) cs p b off) (hn : NavC w (g.O l) C.t cs p d)
    (hW : New c g s a w (mkV W.t vs) Oc (.val W org)) (hWv : validL s W.lend = true) (hvl : (mkV W.t vs).cells.toList = vs) (hlen : vs.length = d.length) (hl : Loose c g w Oc) :
    ∃ g', RelG c g' (upds s [if p.flat then bump s l (.val ⟨C.t, on, xn, (if p.isEmpty then [] else C.lend) ++ W.lend, 0⟩ (if p.isEmpty then org else none)) else bumpIn s l (.val ⟨C.t, on, xn, C.lend ++ W.lend, C.tag⟩ none)]) a (w.setCells b off vs) ∧ (p.flat = false → Cells g' a (w.setCells b off vs) l cs) := by
  obtain ⟨cs0, Oc0, k1, k2, k3, k4, k5, k6, k7, k8⟩ := content_new r hct
  obtain rfl := hcell.uniq k1
  obtain ⟨⟨org0, ht⟩, hval⟩ := content_some hct
  obtain ⟨cw, e1, e2, e3, e4⟩ := hW.2 hWv
  have : cw = vs := mkV_inj e2.cells hvl e1.symm
  subst this
  have hat : AtC w b off d := hna.at hn hcell.at k3.len
  -- the block that is written is the place's own
  obtain ⟨Oi, i1, i2, i3, i4⟩ := k3.set (w2 := w.setCells b off cw) (S := Sof g C.lend) (S2 := fun x => Sof g C.lend x ∨ Sof g W.lend x) (d := cw) (fun _ h => .inl h) (fun x hx ho => k8 x hx (k5 x ho).1) hn hsp hso
  have hb : g.O l b := by
    cases hf : p.flat with
    | false => exact (k5 _ (i3 hf _ _ _ hna).1).1
    | true =>
      unfold baseOf at hna
      split at hna
      · rename_i h4
        obtain ⟨rfl, _⟩ := NavA.flat hf hna
        exact (r.boxes l C org0 h4 ht).1
      · exact (NavA.flat_none hf hna).elim
  have hwr : ∃ k, Wr w b k := by
    cases hf : p.flat with
    | false => exact k3.row hso hf hna
    | true =>
      unfold baseOf at hna
      split at hna
      · rename_i h4
        obtain ⟨rfl, _⟩ := NavA.flat hf hna
        exact ⟨_, (r.boxes l C org0 h4 ht).2.wr⟩
      · exact (NavA.flat_none hf hna).elim
  have hoth : ∀ k, k ≠ b → (w.setCells b off cw).heap[k]? = w.heap[k]? := fun k hk => setCells_other b cw off w k hk
  have hGb : ∀ x, g.G x → x ≠ b := fun x hx e => r.ownG _ _ hb (e ▸ hx)
  have hOb : ∀ m x, m ≠ l → g.O m x → x ≠ b := fun m x hm hx e => hm (r.disj _ _ x hx (e ▸ hb))
  have hlb : ∀ x, Oc x → x ≠ b := fun x hx e => (hl x hx).2.1 l (e ▸ hb)
  -- the new value of the whole
  have hlen' : d.length = cw.length := hlen.symm
  have hwrote : Wrote w (w.setCells b off cw) (g.O l) (Sof g C.lend) Oc0 Oi C.t (baseOf g l) cs p d.length cw := by
    refine ⟨fun x hx hni hk => hoth x ?_, fun hf q q2 hq => ?_⟩
    · rcases hx with hx | hx
      · exact fun e => k8 x hx (e ▸ hb)
      · cases hf : p.flat with
        | false => exact hk hf _ _ hna
        | true =>
          intro e
          unfold baseOf at hna
          split at hna
          · rename_i h4
            obtain ⟨hbk, _⟩ := NavA.flat hf hna
            exact (k5 x hx).2 h4 (e.trans hbk)
          · exact (NavA.flat_none hf hna).elim
    · obtain ⟨rfl, rfl⟩ := navA_uniq hna hq
      rw [hlen']
      exact ⟨RowKeep.setCells w b off cw, hat.setCells hlen'⟩
  have hvs : (∀ x, Sof g W.lend x → x ≠ b) → Rp (w.setCells b off cw) (fun x => Sof g C.lend x ∨ Sof g W.lend x) W.t W.o W.x cw Oc := fun hS =>
    e2.frame (fun _ h => .inr h) (fun _ h => h) (fun x hx => hoth x (hx.elim (hS x) (hlb x)))
  have hall := fun hS => i4 (baseOf g l) Oc hwrote (hvs hS) hlen' (fun x hx hx0 => ((hl x hx).2.1 l (k5 x hx0).1).elim)
  have hS : ∀ {s' : St}, (s l).v < (s' l).v → validL s' W.lend = true → ∀ x, Sof g W.lend x → x ≠ b := by
    intro s' h2 hv x hx e
    subst e
    rcases hx with hx | ⟨q, hq, hx⟩
    · exact r.ownG _ _ hb hx
    · have h5 := r.disj _ _ _ hx hb
      simp only [validL, List.all_eq_true] at hv
      have h3 := beq_eq.1 (hv q hq)
      have h4 := hW.1.1 q hq
      rw [h5] at h3 h4; omega
  let g' : Ghost := { g with O := fun m => if m = l then (fun x => g.O l x ∨ Oc x) else g.O m }
  have gO : ∀ m x, g'.O m x → g.O m x ∨ (m = l ∧ Oc x) := by
    intro m x h
    by_cases hm : m = l
    · subst hm; simp only [g', if_true] at h; exact h.imp id (fun h => ⟨rfl, h⟩)
    · simp only [g', if_neg hm] at h; exact .inl h
  have hboxw : ∀ n, Box w (g.Bk l) n → Box (w.setCells b off cw) (g.Bk l) n := by
    rintro n ⟨cc, ee, ff, h1, h2, h3⟩
    by_cases hk : g.Bk l = b
    · rw [hk] at h1 ⊢
      obtain ⟨c', q1, q2⟩ := setCells_block b cw off w h1
      exact ⟨c', ee, ff, q1, q2.trans h2, fun o ho => h3 o (by omega)⟩
    · exact ⟨cc, ee, ff, by rw [hoth _ hk]; exact h1, h2, h3⟩
  have key : ∀ (X : Cell) (Vn : OM.V) (orgn : Option (Loc × Path × Nat)) (cs' : List Value), X.t = .val Vn orgn → X.v = (s l).v + 1 → (X.hv = (s l).hv + 1 ∨ (X.hv = (s l).hv ∧ cs' = cs)) → Vn.t = C.t → cs'.length = Vn.t.size →
      Cells g' a (w.setCells b off cw) l cs' → (∀ e ∈ Vn.lend, e.2 ≤ (s e.1).v) → (match orgn with | some (l, _, v) => v ≤ (s l).v | none => True) → (l % 4 ≠ 1 → valAt g a l = some (mkV Vn.t cs')) →
      (∀ e : Evo (· = l) g s a w g' (upd s l X) a (w.setCells b off cw), validL (upd s l X) Vn.lend = true → ∃ Oc', Held c g' (upd s l X) a (w.setCells b off cw) Vn orgn cs' Oc' ∧ ∀ x, Oc' x → (Oc0 x ∨ Oc x)) → RelG c g' (upd s l X) a (w.setCells b off cw) := by
    intro X Vn orgn cs' hX hXv hXh hVt hcl hcell' hf1 hf2 hval' hheld
    have e : Evo (· = l) g s a w g' (upd s l X) a (w.setCells b off cw) := by
      refine { st := fun m hm => upd_ne hm, up := fun m hm => ?_, O := fun m hm => if_neg hm, Bk := fun _ _ => rfl, val := fun _ _ => rfl, CV := fun _ _ _ _ _ => rfl, G := fun _ h => h, heap := fun x hx => hoth x (hx.elim (hGb x) (fun ⟨m, hm, hx⟩ => hOb m x hm hx)), refs := ?_ }
      · subst hm; rw [upd_self]; exact ⟨by omega, by omega⟩
      · intro m hm _ V2 org' cs2 p2 b2 off2 v hv iv hV2 hc2 hl2 hna2 hvl2 hle hle2
        subst hm
        rw [ht] at hV2
        cases hV2
        obtain rfl := hcell.uniq hc2
        rw [upd_self]
        refine ⟨Vn, orgn, cs', ⟨hX, hVt⟩, hcell', hcl, ?_⟩
        rw [hVt]
        simp only [validR, Bool.and_eq_true, Bool.or_eq_true, beq_eq] at hvl2
        rw [upd_self] at hvl2
        rcases hvl2.2 with hf | ⟨he, hf⟩
        · exact NavA.flat_any hf hna2
        · rcases hXh with hh | ⟨hh, rfl⟩
          · omega
          · rcases hf with hf | hf
            · refine hna2.ones_grow (Grow.setCells w b off cw) (fun x hx => ?_) hf
              simp only [g', if_true]; exact .inl hx
            · omega
    have up : ∀ m, (s m).v ≤ (upd s l X m).v := fun m => by
      by_cases hm : m = l
      · subst hm; rw [upd_self]; omega
      · rw [upd_ne hm]; exact Nat.le_refl _
    refine e.rel r (Grow.setCells w b off cw) r.gin (fun _ _ => .inl rfl) ?_ ?_ ?_ ?_ ?_ ?_ r.defs r.size ?_ ?_ ?_
    · intro m m' x hm hm'
      rcases gO _ _ hm with h1 | ⟨rfl, h1⟩
      · rcases gO _ _ hm' with h2 | ⟨rfl, h2⟩
        · exact r.disj _ _ x h1 h2
        · exact ((hl x h2).2.1 _ h1).elim
      · rcases gO _ _ hm' with h2 | ⟨rfl, h2⟩
        · exact ((hl x h1).2.1 _ h2).elim
        · rfl
    · intro m x hm
      rcases gO _ _ hm with h1 | ⟨rfl, h1⟩
      · exact r.ownG _ _ h1
      · exact (hl x h1).1
    · intro m x hm hx
      have hsz := (Grow.setCells w b off cw).size
      rcases gO _ _ hx with h1 | ⟨rfl, h1⟩
      · obtain ⟨q1, q2⟩ := r.own _ _ h1
        exact ⟨by omega, q2⟩
      · obtain ⟨q1, q2⟩ := (hl x h1).2.2
        exact ⟨by omega, q2⟩
    · exact fun x hx => Nat.lt_of_lt_of_le (r.gsz x hx) (Grow.setCells w b off cw).size
    · intro m V2 org' hm h4 hV2
      subst hm
      rw [upd_self, hX] at hV2
      cases hV2
      obtain ⟨q1, q2⟩ := r.boxes _ _ _ h4 ht
      rw [hVt]
      refine ⟨?_, hboxw _ q2⟩
      simp only [g', if_true]; exact .inl q1
    · refine ⟨r.fr.grow.trans (Grow.setCells w b off cw), r.fr.le, fun x hx hm => ?_⟩
      rw [hoth x (fun e => ?_)]
      · exact r.fr.old x hx hm
      · subst e
        rcases (r.own _ _ hb).2 with h | h
        · omega
        · exact hm h
    · intro m hm; subst hm
      rw [upd_self, hX]
      refine ⟨fun x hx => Nat.le_trans (hf1 x hx) (up _), ?_⟩
      cases orgn with
      | none => trivial
      | some q => exact Nat.le_trans hf2 (up _)
    · intro m hm; subst hm
      rw [upd_self, hX]
      intro x hx hxl
      rw [upd_self]
      have := hf1 x hx
      rw [hxl] at this; omega
    · intro m hm; subst hm
      rw [upd_self, hX]
      intro hv'
      obtain ⟨Oc', q1, q2⟩ := hheld e hv'
      refine ⟨cs', Oc', hcell', hval', q1, fun x hx => ?_⟩
      rcases q2 x hx with h | h
      · refine ⟨?_, (k5 x h).2⟩
        simp only [g', if_true]; exact .inl (k5 x h).1
      · refine ⟨?_, fun h4 e => (hl x h).2.1 _ (e ▸ (r.boxes _ _ _ h4 ht).1)⟩
        simp only [g', if_true]; exact .inr h
  have hsof : ∀ (ln : Lend) (s' : St), (∀ e ∈ ln, ¬ e.1 = l) → ∀ x, Sof g ln x → Sof g' ln x := by
    rintro ln s' hne x (hx | ⟨q, hq, hx⟩)
    · exact .inl hx
    · exact .inr ⟨q, hq, by simp only [g', if_neg (hne q hq)]; exact hx⟩
  have hnl : ∀ {X : Cell}, X.v = (s l).v + 1 → ∀ {ln : Lend}, (∀ e ∈ ln, e.2 ≤ (s e.1).v) → validL (upd s l X) ln = true → ∀ e ∈ ln, ¬ e.1 = l := by
    intro X hX ln hf hv e he hel
    simp only [validL, List.all_eq_true] at hv
    have h3 := beq_eq.1 (hv e he)
    have h4 := hf e he
    rw [hel] at h3 h4
    rw [upd_self] at h3; omega
  have vapp : ∀ {s' : St} {x y : Lend}, validL s' (x ++ y) = true → validL s' x = true ∧ validL s' y = true := by
    intro s' x y h
    simpa [validL, List.all_append] using h
  cases hf : p.flat with
  | false =>
    have hne : p.isEmpty = false := by cases p <;> simp_all [Path.flat]
    simp only [hf, Bool.false_eq_true, if_false]
    have hcs : replC C.t cs p cw = cs := replC.nonflat hf
    obtain ⟨ib, inb⟩ := i3 hf _ _ _ hna
    have hcw : Cells g' a (w.setCells b off cw) l cs := by
      unfold Cells at hcell ⊢
      split
      · rename_i h4
        rw [if_pos h4] at hcell
        have : g.Bk l ≠ b := fun e => (k5 _ ib).2 h4 e.symm
        show ∃ cc e f, (w.setCells b off cw).heap[g.Bk l]? = _ ∧ _
        rw [hoth _ this]; exact hcell
      · rename_i h4
        rw [if_neg h4] at hcell
        exact hcell
    refine ⟨g', key ⟨_, (s l).v + 1, (s l).hv⟩ ⟨C.t, on, xn, C.lend ++ W.lend, C.tag⟩ none cs rfl rfl (.inr ⟨rfl, rfl⟩) rfl k3.len hcw ?_ trivial k2 ?_, fun _ => hcw⟩
    · intro e he
      rcases List.mem_append.1 he with he | he
      · exact k6 e he
      · exact hW.1.1 e he
    · intro e hv
      obtain ⟨v1, v2⟩ := vapp hv
      have := hall (hS (by rw [upd_self]; exact Nat.lt_succ_self _) v2)
      rw [hcs] at this
      refine ⟨_, ⟨this.mono (fun x hx => ?_) (fun _ h => h), k4, trivial⟩, fun x hx => hx.imp (fun h => h.1) id⟩
      have n1 := hnl rfl k6 v1
      have n2 := hnl rfl hW.1.1 v2
      rcases hx with hx | hx
      · rcases hsof _ s n1 x hx with h | ⟨q, hq, h⟩
        · exact .inl h
        · exact .inr ⟨q, List.mem_append_left _ hq, h⟩
      · rcases hsof _ s n2 x hx with h | ⟨q, hq, h⟩
        · exact .inl h
        · exact .inr ⟨q, List.mem_append_right _ hq, h⟩
  | true =>
    simp only [if_true]
    unfold baseOf at hna
    split at hna
    case isFalse => exact (NavA.flat_none hf hna).elim
    rename_i h4
    obtain ⟨rfl, hoff⟩ := NavA.flat hf hna
    rw [Nat.zero_add] at hoff
    subst hoff
    have hrl : (replC C.t cs p cw).length = cs.length := replC.len hn hlen'
    have hAll : AtC (w.setCells (g.Bk l) (foff C.t p) cw) (g.Bk l) 0 (replC C.t cs p cw) := by
      have h0 := hcell.at (g.Bk l, 0) (by unfold baseOf; rw [if_pos h4])
      have rk := RowKeep.setCells w (g.Bk l) (foff C.t p) cw
      have ha := hat.setCells hlen'
      rw [← Nat.zero_add (foff C.t p)] at rk ha
      have := AtC.repl hf h0 hn k3.len hlen' rk ha
      rw [Nat.zero_add] at this
      exact this
    have hcw : Cells g' a (w.setCells (g.Bk l) (foff C.t p) cw) l (replC C.t cs p cw) := by
      unfold Cells at hcell ⊢
      rw [if_pos h4] at hcell ⊢
      obtain ⟨cc, e, f, q1, q2⟩ := hcell
      obtain ⟨c', m1, m2⟩ := setCells_block (g.Bk l) cw (foff C.t p) w q1
      refine ⟨c', e, f, m1, ?_⟩
      have hsz : c'.toList.length = (replC C.t cs p cw).length := by rw [hrl, ← q2]; simpa using m2
      apply List.ext_getElem hsz
      intro i i1' i2'
      have := hAll i _ (List.getElem?_eq_getElem i2')
      simp only [World.cell?, m1, Nat.zero_add] at this
      simp only [Option.isSome_none, Bool.false_eq_true, if_false] at this
      rw [← Array.getElem?_toList, List.getElem?_eq_getElem i1'] at this
      exact Option.some.inj this
    cases hp : p.isEmpty with
    | true =>
      have hpn : p = [] := by simpa using hp
      subst hpn
      obtain ⟨tC, oC, xC, lC, gC⟩ := C
      obtain ⟨tW, oW, xW, lW, gW⟩ := W
      obtain ⟨htt, hxn⟩ := setP_nil_some hsp
      dsimp only at htt
      subst htt
      subst hxn
      have hon : on = oW := Option.some.inj (hso.symm.trans setO_nil)
      subst hon
      have hrep : replC tW cs [] cw = cw := replC_nil
      rw [hrep] at hcw hrl
      simp only [if_true, List.nil_append]
      refine ⟨g', key ⟨_, (s l).v + 1, (s l).hv + 1⟩ ⟨tW, on, _, lW, 0⟩ org cw rfl rfl (.inl rfl) rfl (hrl.trans k3.len) hcw hW.1.1 ?_ (fun h => absurd h4 h) ?_, fun h => by cases h⟩
      · cases org with
        | none => trivial
        | some q => exact hW.1.2
      · intro e hv
        have := e.held r hW.1 hv (fun x hx => hoth x (hlb x hx)) (hW.2 hWv |> fun ⟨cc, q1, q2⟩ => by have := mkV_inj q2.1.cells hvl q1.symm; subst this; exact q2)
        exact ⟨Oc, ⟨this.1, by simp, this.2.2⟩, fun x hx => .inr hx⟩
    | false =>
      simp only [Bool.false_eq_true, if_false]
      refine ⟨g', key ⟨_, (s l).v + 1, (s l).hv + 1⟩ ⟨C.t, on, xn, C.lend ++ W.lend, 0⟩ none (replC C.t cs p cw) rfl rfl (.inl rfl) rfl (hrl.trans k3.len) hcw ?_ trivial (fun h => absurd h4 h) ?_, fun h => by cases h⟩
      · intro e he
        rcases List.mem_append.1 he with he | he
        · exact k6 e he
        · exact hW.1.1 e he
      · intro e hv
        obtain ⟨v1, v2⟩ := vapp hv
        have := hall (hS (by rw [upd_self]; exact Nat.lt_succ_self _) v2)
        refine ⟨_, ⟨this.mono (fun x hx => ?_) (fun _ h => h), by simp, trivial⟩, fun x hx => hx.imp (fun h => h.1) id⟩
        have n1 := hnl rfl k6 v1
        have n2 := hnl rfl hW.1.1 v2
        rcases hx with hx | hx
        · rcases hsof _ s n1 x hx with h | ⟨q, hq, h⟩
          · exact .inl h
          · exact .inr ⟨q, List.mem_append_left _ hq, h⟩
        · rcases hsof _ s n2 x hx with h | ⟨q, hq, h⟩
          · exact .inl h
          · exact .inr ⟨q, List.mem_append_right _ hq, h⟩
/-- A store through a row leaves the cells of the place as they were. -/
theorem ok_storeR (he : EnvOk P E) {o : Oper} {tid : TypeId} {x y : Operand} (ho : o.op = .store tid x y) {U : Upds} {Q : Exit → Act → World → Prop} (r : RelG c g s a w) (h : (evOp E o s).run some = some U) {l0 : Loc} {X0 : Cell} (hU0 : U = [(l0, X0)]) (hX0 : X0.hv = (s l0).hv) :
    o.wp P a w (fun a' w' => a' = a ∧ ∃ g', RelG c g' (upds s U) a w' ∧ (∀ cs, Cells g a w l0 cs → Cells g' a w' l0 cs) ∧ ∀ V0 org0, (s l0).t = .val V0 org0 → ∃ V1 org1, X0.t = .val V1 org1 ∧ V1.t = V0.t) Q := by
  simp only [evOp, ho] at h
  split at h
  case h_2 => cases h
  rename_i l p v hv iv tr t hp ht hd
  split at h
  case h_2 => cases h
  rename_i W0 u htk
  split at h
  case isFalse => cases h
  rename_i hWt
  obtain ⟨n1, n2, n3, n4, n5, _⟩ := peek_new r hp
  obtain ⟨b, off, cs, V', org', ⟨m1, m6⟩, m2, m3, m4, m5⟩ := n1.2 (n5 _ _ _ _ _ _ rfl)
  obtain ⟨g1, Oc, L, r1, e, hW, hl, hL, hL4, hWv⟩ := take_fit r htk l p
  have hft : (fit (upds s u) l p W0).t = W0.t := fit_t
  generalize fit (upds s u) l p W0 = W at *
  rw [← hft] at hWt
  subst hWt
  unfold evStore at h
  split at h
  case h_2 => cases h
  rename_i C hct
  split at h
  case h_2 => cases h
  rename_i xn on hsp hso
  obtain rfl := Option.some.inj h
  obtain ⟨⟨org2, ht2⟩, hval⟩ := content_some hct
  have hnl : ¬ L l := by
    intro hl
    have := takeS_gone htk ((hL l).1 hl)
    rw [this] at ht2; cases ht2
  have hs1 : upds s u l = s l := e.st l hnl
  rw [hs1, m1] at ht2
  cases ht2
  have c1 : Cells g1 a w l cs := e.cells hnl (fun h4 => (r.boxes _ _ _ h4 m1).1) m2
  have hb : baseOf g1 l = baseOf g l := by unfold baseOf; rw [e.Bk _ hnl]
  have a1 : NavA w (g1.O l) V'.t (baseOf g1 l) cs p b off := by rw [e.O _ hnl, hb]; exact m4
  obtain ⟨d, hn⟩ := a1.navC
  obtain ⟨vs, e1, e2⟩ := hW.2 hWv
  have hvl := e2.1.cells
  have hlen : vs.length = d.length := by rw [navC_setP_len m3 hn hsp]; exact e2.1.len
  have hW' := hW
  rw [e1] at hW'
  obtain ⟨gS, stR, stC⟩ := storeAtR r1 hct hsp hso c1 a1 hn hW' hWv hvl hlen hl
  have hat : AtC w b off d := a1.at hn c1.at m3
  have hu : u = [] := by
    have := congrArg List.length hU0
    simp at this
    exact this
  subst hu
  rw [List.nil_append] at hU0
  have hfl : p.flat = false := by
    cases hf : p.flat with
    | false => rfl
    | true =>
      rw [hf, if_pos rfl] at hU0
      obtain ⟨hl0, hX⟩ := Prod.mk.inj (List.cons.inj hU0).1
      subst hl0
      rw [← hX] at hX0
      have hX0 : (upds s [] l).hv + 1 = (s l).hv := hX0
      simp only [upds] at hX0
      omega
  have hl0' : l = l0 := by
    rw [hfl, if_neg (by decide)] at hU0
    exact (Prod.mk.inj (List.cons.inj hU0).1).1
  rw [List.nil_append]
  refine wp_skip (w' := w.setCells b off vs) ?_ ⟨by rw [hd]; rfl, gS, stR, fun cs' hcs' => ?_, fun V0 org0 hV0 => ?_⟩
  case refine_2 =>
    subst hl0'
    obtain rfl := m2.uniq hcs'
    exact stC hfl
  case refine_3 =>
    subst hl0'
    rw [m1] at hV0
    cases hV0
    rw [hfl, if_neg (by decide)] at hU0
    have := (Prod.mk.inj (List.cons.inj hU0).1).2
    rw [← this]
    exact ⟨_, _, rfl, rfl⟩
  have hfr : ∀ j, j < vs.length → w.frozen? ⟨b, off + j, none⟩ = false := by
    intro j hj
    have hsome := hat.some (j := j) (by omega)
    obtain ⟨cs0, Oc0, k1, k2, k3, k4, k5, k6, k7, k8⟩ := content_new r1 hct
    obtain rfl := c1.uniq k1
    cases hf : p.flat with
    | false =>
      obtain ⟨k, hwr⟩ := k3.row hso hf a1
      exact hwr.froz hsome
    | true =>
      unfold baseOf at a1
      split at a1
      · rename_i h4
        obtain ⟨rfl, _⟩ := NavA.flat hf a1
        exact (r1.boxes l _ _ h4 (hs1 ▸ m1)).2.wr.froz hsome
      · exact (NavA.flat_none hf a1).elim
  have f := he.fact ht
  have hsz : (mkV W.t vs).cells.size = W.t.size := by rw [← Array.length_toList, hvl]; exact e2.1.len
  have hrun := run_storeCells_cells (P := P) b off vs 0 w (fun j hj => by simpa using hat.some (j := j) (by omega)) (fun j hj => by simpa using hfr j hj) (fun v hv => by rw [cell1_one]; exact e2.1.one v hv)
  simp only [execOp, ho, Instr.storeAt, m5, Instr.sureAddr, Sem.run_bind, Sem.run_pure, Result.andThen_ok, storeVar, f.run_size, e1, hsz, hvl]
  simp [hrun]
theorem lendT_agree {o : Oper} {t : TypeId} {x : Operand} {s' : St} (ho : o.op = .load t x) (h : ∀ l ∈ seesT s true x, s' l = s l) : lendT E o s' = lendT E o s := by
  unfold lendT
  simp only [ho]
  rw [peek_agree h]
  cases hp : peek s none x with
  | none => rfl
  | some T =>
    cases T with
    | ref l p v hv iv tr =>
      cases ht : tyOf E t with
      | none => rfl
      | some t =>
        have hl : s' l = s l ∧ ∀ m ∈ lendsAt s l, s' m = s m := by
          cases x with
          | tmp j =>
            simp only [peek] at hp
            split at hp
            · split at hp
              · split at hp <;> cases hp
              · cases hp
            · cases hp
            · rename_i l2 p2 v2 hv2 iv2 t2 hq
              split at hp
              · cases hp
                refine ⟨h _ ?_, fun m hm => h _ ?_⟩
                · simp [seesT, hq]
                · simp [seesT, hq, hm]
              · cases hp
            · split at hp <;> cases hp
            · cases hp
          | const v => simp only [peek] at hp; obtain ⟨_, _, e⟩ := Option.map_eq_some_iff.1 hp; cases e
          | func f => cases hp
          | global n => cases hp
        simp only [at_agree hl.1 hl.2, hl.1]
    | _ => rfl
/-- What is lent stands. -/
theorem load_run (he : EnvOk P E) {o : Oper} {T : T} (h : lendT E o s = some T) (r : RelG c g s a w) (hN : ∀ d, o.dst = some d → d < c.N) :
    ∃ (V : V) (l : Loc) (p : Path), T = .val V (some (l, p, (s l).v)) ∧ p.flat = true ∧ ∃ (Vp : OM.V) (org : Option (Loc × Path × Nat)) (cs d : List Value), (s l).t = .val Vp org ∧ cs.length = Vp.t.size ∧ getT Vp.t p = some V.t ∧ Cells g a w l cs ∧ NavC w (g.O l) Vp.t cs p d ∧ (execOp a.eval o).run P w = .ok (.value (mkV V.t d)) w ∧
      ∀ dd, o.dst = some dd → Rel c (upds s [bump s (tm dd) T]) (a.put o.dst (mkV V.t d)) w := by
  unfold lendT at h
  split at h
  case h_2 => cases h
  rename_i t x ho
  split at h
  case h_2 => cases h
  rename_i l p v hv iv tr t hp ht
  split at h
  case h_2 => cases h
  rename_i V t' y o' hat
  split at h
  case isFalse => cases h
  rename_i htt
  subst htt
  split at h
  case isFalse => cases h
  rename_i hc
  simp only [Bool.and_eq_true] at hc
  cases h
  have f := he.fact ht
  obtain ⟨b, off, cs, d, O', m1, m2, m3, m4⟩ := ref_at r hp hat
  have exec : (execOp a.eval o).run P w = .ok (.value (mkV t' d)) w := by
    simp [execOp, ho, Instr.loadAt, Instr.sureAddr, m1, run_loadVar f m3 m2.rp.len]
  obtain ⟨cs0, Oc0, k1, k2, k3, k4, k5, k6, k7, k8⟩ := content_new r (at_some hat).1
  have hval := (content_some (at_some hat).1).2
  obtain ⟨⟨org, hs⟩, _⟩ := content_some (at_some hat).1
  refine ⟨_, l, p, rfl, hc.2, V, org, cs, d, hs, m2.len, getP_getT (at_some hat).2.1, m2.cells, m2.nav, exec, fun dd hd => ?_⟩
  exact put_rel r (Same.refl w) hd (hN dd hd) (New.borrow r hat m2 hc.1.1.1 hval k6) Loose.none
theorem lendT_valid {o : Oper} {V : V} {org : Option (Loc × Path × Nat)} (h : lendT E o s = some (.val V org)) : validL s V.lend = true := by
  unfold lendT at h
  split at h
  case h_2 => cases h
  split at h
  case h_2 => cases h
  split at h
  case h_2 => cases h
  rename_i hat
  split at h
  case isFalse => cases h
  split at h
  case isFalse => cases h
  cases h
  have := (content_some (at_some hat).1).2
  simp only [validL, List.all_cons, Nat.beq_refl, Bool.true_and] at this ⊢
  exact this
/-- A store through a row behind a load of the row's header: the header is loaded once more. -/
theorem store_refresh (he : EnvOk P E) {o r : Oper} {tid : TypeId} {x y : Operand} {d : Nat} {U : Upds} {l0 : Loc} {X0 : Cell} {p0 : Path} {v0 v1 : Nat} {V0 V1 : V} {Q : Exit → Act → World → Prop}
    (ho : o.op = .store tid x y) (hrd : r.dst = some d) (hN : d < c.N)
    (h0 : lendT E r s = some (.val V0 (some (l0, p0, v0)))) (hv0 : v0 = (s l0).v) (hne : l0 ≠ tm d) (hnl : ∀ e ∈ V0.lend, e.1 ≠ tm d)
    (rel : Rel c (upds s [bump s (tm d) (.val V0 (some (l0, p0, v0)))]) a w)
    (hU : (evOp E o (upds s [bump s (tm d) (.val V0 (some (l0, p0, v0)))])).run some = some U) (hUl : U = [(l0, X0)]) (hX0 : X0.hv = (s l0).hv)
    (h1 : lendT E r (upds (upds s [bump s (tm d) (.val V0 (some (l0, p0, v0)))]) U) = some (.val V1 (some (l0, p0, v1)))) (hVt : V1.t = V0.t) :
    o.wp P a w (fun a' w' => Rel c (upds (upds (upds s [bump s (tm d) (.val V0 (some (l0, p0, v0)))]) U) [bump (upds (upds s [bump s (tm d) (.val V0 (some (l0, p0, v0)))]) U) (tm d) (.val V1 (some (l0, p0, v1)))]) a' w') Q := by
  have hs : ∀ m, m ≠ tm d → upds s [bump s (tm d) (.val V0 (some (l0, p0, v0)))] m = s m := fun m hm => upd_ne hm
  have hd : (upds s [bump s (tm d) (.val V0 (some (l0, p0, v0)))] (tm d)).t = .val V0 (some (l0, p0, v0)) := by
    show (upd s (tm d) _ (tm d)).t = _
    rw [upd_self]
  have hval := lendT_valid h0
  generalize hσ : upds s [bump s (tm d) (.val V0 (some (l0, p0, v0)))] = σ at *
  obtain ⟨g, rg⟩ := rel
  have tk := rg.toks (tm d)
  rw [hd] at tk
  have hv1 : validL σ V0.lend = true := by
    rw [← hval]
    exact validL_agree fun e he' => hs _ (hnl e he')
  obtain ⟨cs0, Oc, k1, k2, ⟨k3, k4, k5⟩, _⟩ := tk hv1
  have k2 := k2 (tm_ne _)
  rw [valAt_tm] at k2
  obtain ⟨cs', V', org', n1, n2, n3, n4⟩ := k5 (by rw [hs _ hne, hv0])
  refine Oper.wp_mono (fun a' w' hk => ?_) (ok_storeR he ho rg hU hUl (by rw [hs _ hne]; exact hX0))
  obtain ⟨rfl, g', rg', hC, hT⟩ := hk
  obtain ⟨V, l, p, e1, hfl, Vp, org, cs, dd, q1, q2, q3, q4, q5, q6, q7⟩ := load_run he h1 rg' (fun d' hd' => by rw [hrd] at hd'; cases hd'; exact hN)
  injection e1 with e1 e2
  injection e2 with e2
  injection e2 with e2 e3
  injection e3 with e3 e4
  subst e1 e2 e3
  obtain rfl := q4.uniq (hC cs' n2)
  obtain ⟨V2, org2, t1, t2⟩ := hT V' org' n1
  have hX : (upds σ U l0).t = X0.t := by
    rw [hUl]
    show (upd σ l0 X0 l0).t = _
    rw [upd_self]
  rw [hX, t1] at q1
  cases q1
  have nav : NavC w (g.O l0) V'.t cs p0 ((cs.drop (foff V'.t p0)).take V1.t.size) := navC_flatT hfl (t2 ▸ q3) n3
  have nav' : NavC w' (g'.O l0) Vp.t cs p0 ((cs.drop (foff Vp.t p0)).take V1.t.size) := navC_flatT hfl q3 q2
  have hdd : dd = cs0 := by
    rw [navC_uniq q5 nav', navC_uniq n4 nav, t2]
  have := q7 d hrd
  rw [hdd, hVt] at this
  have hput : a'.put r.dst (mkV V0.t cs0) = a' := by
    rw [hrd]
    show { a' with tmps := a'.tmps.setIfInBounds d (mkV V0.t cs0) } = a'
    have : a'.tmps.setIfInBounds d (mkV V0.t cs0) = a'.tmps := by
      apply Array.ext_getElem?
      intro i
      rw [Array.getElem?_setIfInBounds]
      by_cases hi : d = i
      · subst hi
        obtain ⟨hlt, _⟩ := Array.getElem?_eq_some_iff.1 k2
        rw [if_pos rfl, if_pos hlt, k2]
      · rw [if_neg hi]
    rw [this]
  rw [hput] at this
  exact this
end
end Go.OM

namespace Go.OM
open Go
section
variable {c : Ctx} {g : Ghost} {s : St} {a : Act} {w : World} {P : Program} {E : Env}
theorem put_self {d : Nat} {v : Value} (h : a.tmps[d]? = some v) : a.put (some d) v = a := by
  show { a with tmps := a.tmps.setIfInBounds d v } = a
  have : a.tmps.setIfInBounds d v = a.tmps := by
    apply Array.ext_getElem?
    intro i
    rw [Array.getElem?_setIfInBounds]
    by_cases hi : d = i
    · subst hi
      obtain ⟨hlt, _⟩ := Array.getElem?_eq_some_iff.1 h
      rw [if_pos rfl, if_pos hlt, h]
    · rw [if_neg hi]
  rw [this]
/-- A temporary that is told once more. -/
theorem touch (r : RelG c g s a w) {d : Nat} {V : V} {org : Option (Loc × Path × Nat)} (hd : (s (tm d)).t = .val V org) (ho : V.o = .z) (hv : validL s V.lend = true) (hN : d < c.N) : Rel c (upds s [bump s (tm d) (.val V org)]) a w := by
  have tk := r.toks (tm d)
  have f := r.fut (tm d)
  rw [hd] at tk f
  obtain ⟨cs, Oc, k1, k2, ⟨k3, k4, k5⟩, _⟩ := tk hv
  have k2 := k2 (tm_ne _)
  rw [valAt_tm] at k2
  have n : New c g s a w (mkV V.t cs) (fun _ => False) (.val V org) := ⟨f, fun _ => ⟨cs, rfl, Rp.noOwn k3 (by rw [ho]; rfl), k4, k5⟩⟩
  have := r.put (Same.refl w) hN n (Loose.none.free _)
  rw [put_self k2] at this
  exact ⟨_, this⟩
theorem lendT_shape {o : Oper} {V : V} {l : Loc} {p : Path} {v : Nat} (h : lendT E o s = some (.val V (some (l, p, v)))) : v = (s l).v ∧ V.o = .z ∧ V.tag = 0 := by
  unfold lendT at h
  split at h
  case h_2 => cases h
  split at h
  case h_2 => cases h
  split at h
  case h_2 => cases h
  split at h
  case isFalse => cases h
  split at h
  case isFalse => cases h
  cases h
  exact ⟨rfl, rfl, rfl⟩
theorem upds_upd {l : Loc} {C : Cell} : ∀ {U : Upds} {s : St}, l ∉ U.map (·.1) → upds (upd s l C) U = upd (upds s U) l C := by
  intro U
  induction U with
  | nil => intro s _; rfl
  | cons e U ih =>
    intro s h
    obtain ⟨l2, X⟩ := e
    simp only [List.map_cons, List.mem_cons, not_or] at h
    show upds (upd (upd s l C) l2 X) U = upd (upds (upd s l2 X) U) l C
    rw [← ih h.2]
    congr 1
    funext m
    by_cases h1 : m = l2
    · subst h1
      have : m ≠ l := fun e => h.1 e.symm
      rw [upd_self, upd_ne this, upd_self]
    · rw [upd_ne h1]
      by_cases h2 : m = l
      · subst h2; rw [upd_self, upd_self]
      · rw [upd_ne h2, upd_ne h2, upd_ne h1]
theorem upd_upd {l : Loc} {C D : Cell} : upd (upd s l C) l D = upd s l D := by
  funext m
  by_cases h : m = l
  · subst h; rw [upd_self, upd_self]
  · rw [upd_ne h, upd_ne h, upd_ne h]
variable {ops : Array Oper} {U : Nat → Upds} {Q : Exit → Act → World → Prop}
structure Late (E : Env) (ops : Array Oper) (U : Nat → Upds) (s : St) (r m d : Nat) (ro mo : Oper) (xr : Operand) (V0 V1 : V) (l0 : Loc) (p0 : Path) (v0 v1 : Nat) (X0 : Cell) : Prop where
  rm : r < m
  hr : ops[r]? = some ro
  hm : ops[m]? = some mo
  rop : ∃ t, ro.op = .load t xr
  rd : ro.dst = some d
  rgd : ro.guard = none
  mop : ∃ t x y, mo.op = .store t x y
  mgd : mo.guard = none
  mev : ∀ σ, evG E ops.toList m mo σ = evOp E mo σ
  ev : ∀ n o, n ≤ m → n ≠ r → ops[n]? = some o → (evG E ops.toList n o (stD U (fun _ => true) s n)).run some = some (U n)
  ur : U r = []
  ind : ∀ i j oi oj, i < j → j ≤ m → i ≠ r → j ≠ r → ops[i]? = some oi → ops[j]? = some oj → Nat.testBit ((waits ops.toList []).getD j 0) i = true ∨
    ((∀ l ∈ (U i).map (·.1), l ∉ sees ops.toList oj (stD U (fun _ => true) s j) ∧ l ∉ (U j).map (·.1)) ∧ ∀ l ∈ (U j).map (·.1), l ∉ sees ops.toList oi (stD U (fun _ => true) s i))
  past : ∀ (j : Nat) (o : Oper), ops[j]? = some o → ∀ e ∈ o.after.toList, Region.binds .any e = true → e.on < j
  le0 : lendT E ro (stD U (fun _ => true) s m) = some (.val V0 (some (l0, p0, v0)))
  le1 : lendT E ro (stD U (fun _ => true) s (m + 1)) = some (.val V1 (some (l0, p0, v1)))
  vt : V1.t = V0.t
  um : U m = [(l0, X0)]
  uh : X0.hv = (stD U (fun _ => true) s m l0).hv
  ls : l0 ∈ seesT (stD U (fun _ => true) s m) true xr
  dn : ∀ j oj, j ≤ m → j ≠ r → ops[j]? = some oj → tm d ∉ sees ops.toList oj (stD U (fun _ => true) s j) ∧ tm d ∉ (U j).map (·.1)
  rin : ∀ j oj, j < m → j ≠ r → ops[j]? = some oj → Nat.testBit ((waits ops.toList []).getD r 0) j = true ∨ ∀ l ∈ (U j).map (·.1), l ∉ seesT (stD U (fun _ => true) s m) true xr ∧ l ∉ seesT (stD U (fun _ => true) s (m + 1)) true xr
  ne : l0 ≠ tm d
  nl : ∀ e ∈ V0.lend, e.1 ≠ tm d
  nl1 : ∀ e ∈ V1.lend, e.1 ≠ tm d
  xs0 : tm d ∉ seesT (stD U (fun _ => true) s m) true xr
  xs1 : tm d ∉ seesT (stD U (fun _ => true) s (m + 1)) true xr
  tail : ∀ i, m < i → i < ops.size → ∀ j, j < i → Nat.testBit ((waits ops.toList []).getD i 0) j = true
section
variable {r m d : Nat} {ro mo : Oper} {xr : Operand} {V0 V1 : V} {l0 : Loc} {p0 : Path} {v0 v1 : Nat} {X0 : Cell}
theorem Late.lt (X : Late E ops U s r m d ro mo xr V0 V1 l0 p0 v0 v1 X0) : m < ops.size := (Array.getElem?_eq_some_iff.1 X.hm).1
theorem Late.off (X : Late E ops U s r m d ro mo xr V0 V1 l0 p0 v0 v1 X0) (D : Nat → Bool) {n : Nat} (hn : n ≤ m + 1) : stD U D s n (tm d) = s (tm d) := by
  have hlt := X.lt
  rw [stD_off (i := 0) (Nat.zero_le _) (fun j _ hj _ => ?_)]
  · rfl
  · by_cases hjr : j = r
    · subst hjr; rw [X.ur]; simp
    · exact (X.dn j _ (by omega) hjr (Array.getElem?_eq_getElem (by omega))).2
theorem Late.ar0 (X : Late E ops U s r m d ro mo xr V0 V1 l0 p0 v0 v1 X0) {D : Nat → Bool} (hm : D m = false) (hw : ∀ j, Nat.testBit ((waits ops.toList []).getD r 0) j = true → D j = true) : ∀ l ∈ seesT (stD U (fun _ => true) s m) true xr, stD U D s (m + 1) l = stD U (fun _ => true) s m l := by
  have hlt := X.lt
  intro l hl
  have : stD U D s (m + 1) = stD U D s m := by show (if D m = true then _ else _) = _; rw [hm, if_neg (by decide)]
  rw [this]
  refine stD_eq fun j hj => ?_
  by_cases hjr : j = r
  · subst hjr; rw [X.ur]; exact .inr (by simp)
  · rcases X.rin j _ hj hjr (Array.getElem?_eq_getElem (by omega)) with h | h
    · exact .inl (hw j h)
    · exact .inr fun hm => (h l hm).1 hl
theorem Late.ar1 (X : Late E ops U s r m d ro mo xr V0 V1 l0 p0 v0 v1 X0) {D : Nat → Bool} (hm : D m = true) (hw : ∀ j, Nat.testBit ((waits ops.toList []).getD r 0) j = true → D j = true) : ∀ l ∈ seesT (stD U (fun _ => true) s (m + 1)) true xr, stD U D s (m + 1) l = stD U (fun _ => true) s (m + 1) l := by
  have hlt := X.lt
  intro l hl
  refine stD_eq fun j hj => ?_
  by_cases hjm : j = m
  · subst hjm; exact .inl hm
  by_cases hjr : j = r
  · subst hjr; rw [X.ur]; exact .inr (by simp)
  · rcases X.rin j _ (by omega) hjr (Array.getElem?_eq_getElem (by omega)) with h | h
    · exact .inl (hw j h)
    · exact .inr fun hm => (h l hm).2 hl
theorem seesT_agree {x : Operand} {s' : St} (h : ∀ l ∈ seesT s true x, s' l = s l) : seesT s' true x = seesT s true x := by
  cases x with
  | tmp j =>
    have hj : s' (tm j) = s (tm j) := h _ (by simp [seesT])
    unfold seesT
    simp only [hj]
    congr 1
    cases ht : (s (tm j)).t with
    | val V org =>
      cases org with
      | none => rfl
      | some q =>
        obtain ⟨l, p, v⟩ := q
        have hl : s' l = s l := h _ (by simp [seesT, ht])
        simp only [lendsAt, hl]
    | ref l p v hv iv t =>
      have hl : s' l = s l := h _ (by simp [seesT, ht])
      simp only [lendsAt, hl]
    | _ => rfl
  | const v => rfl
  | func f => rfl
  | global n => rfl
/-- The state behind what is done. -/
def tau (U : Nat → Upds) (s : St) (r m d : Nat) (T0 T1 : T) (D : Nat → Bool) : St :=
  if D r = true then upd (stD U D s (m + 1)) (tm d) (if D m = true then ⟨T1, (s (tm d)).v + 2, (s (tm d)).hv + 2⟩ else ⟨T0, (s (tm d)).v + 1, (s (tm d)).hv + 1⟩) else stD U D s (m + 1)
theorem tau_ne {T0 T1 : T} {D : Nat → Bool} {l : Loc} (h : l ≠ tm d) : tau U s r m d T0 T1 D l = stD U D s (m + 1) l := by
  unfold tau
  split
  · exact upd_ne h
  · rfl
theorem wpAny_late (he : EnvOk2 P E) (hN : ∀ (i : Nat) (o : Oper) (d : Nat), ops[i]? = some o → o.dst = some d → d < c.N) (X : Late E ops U s r m d ro mo xr V0 V1 l0 p0 v0 v1 X0)
    (hQ : ∀ {fuel : Nat} {listed : Array Bool} {a : Act} {w : World}, listed.size = ops.size → (∀ j, j < ops.size → listed.getD j false = decide (j ≤ m)) → (List.range ops.size).countP (fun j => !listed.getD j false) ≤ fuel →
      Rel c (upd (stD U (fun _ => true) s (m + 1)) (tm d) ⟨.val V1 (some (l0, p0, v1)), (s (tm d)).v + 2, (s (tm d)).hv + 2⟩) a w → wpAny P .any ops Q fuel listed a w) :
    ∀ {fuel : Nat} {listed : Array Bool} {a : Act} {w : World}, listed.size = ops.size →
    (∀ j o, ops.toList[j]? = some o → listed.getD j false = true → ∀ e ∈ o.after.toList, Region.binds .any e = true → listed.getD e.on false = true) →
    (∀ j, m < j → listed.getD j false = false) →
    (List.range ops.size).countP (fun j => !listed.getD j false) ≤ fuel → Rel c (tau U s r m d (.val V0 (some (l0, p0, v0))) (.val V1 (some (l0, p0, v1))) (fun j => listed.getD j false)) a w → wpAny P .any ops Q fuel listed a w := by
  have hlt := X.lt
  have hrm := X.rm
  have fin : ∀ {fuel : Nat} {listed : Array Bool} {a : Act} {w : World}, listed.size = ops.size → (∀ j, m < j → listed.getD j false = false) → (∀ j, j ≤ m → listed.getD j false = true) →
      (List.range ops.size).countP (fun j => !listed.getD j false) ≤ fuel → Rel c (tau U s r m d (.val V0 (some (l0, p0, v0))) (.val V1 (some (l0, p0, v1))) (fun j => listed.getD j false)) a w → wpAny P .any ops Q fuel listed a w := by
    intro fuel listed a w hsz hgt hall hc r'
    refine hQ hsz (fun j hj => ?_) hc ?_
    · by_cases h : j ≤ m
      · rw [decide_eq_true h]; exact hall j h
      · rw [decide_eq_false h]; exact hgt j (by omega)
    · unfold tau at r'
      rw [if_pos (hall r (by omega)), if_pos (hall m (Nat.le_refl _))] at r'
      have : stD U (fun j => listed.getD j false) s (m + 1) = stD U (fun _ => true) s (m + 1) := funext fun l => stD_eq (fun j hj => .inl (hall j (by omega)))
      rwa [this] at r'
  intro fuel
  induction fuel with
  | zero =>
    intro listed a w hsz hcl hgt hc r'
    refine fin hsz hgt (fun j hj => ?_) hc r'
    have := List.countP_eq_zero.1 (Nat.le_zero.1 hc) j (List.mem_range.2 (by omega))
    simpa using this
  | succ fuel ih =>
    intro listed a w hsz hcl hgt hc r'
    by_cases hall : ∀ j, j ≤ m → listed.getD j false = true
    · exact fin hsz hgt hall hc r'
    refine ⟨fun hr => ?_, fun i hi => ?_⟩
    · exfalso
      apply hall
      have : ∀ n j, j < n → j < ops.size → listed.getD j false = true := by
        intro n
        induction n with
        | zero => intro j h; cases h
        | succ n ihn =>
          intro j hj hlt
          cases hl : listed.getD j false with
          | true => rfl
          | false =>
            exfalso
            have ho : ops[j]? = some ops[j] := Array.getElem?_eq_getElem hlt
            have : j ∈ Region.ready .any ops listed := mem_ready.2 ⟨by rw [getD_true (by omega)]; exact hl, _, ho, fun e he hb => by
              have hp := X.past j _ ho e (Array.mem_toList_iff.2 he) hb
              exact ihn e.on (by omega) (by omega)⟩
            rw [hr] at this; cases this
      exact fun j hj => this (j + 1) j (by omega) (by omega)
    · obtain ⟨h1, o, h2, h3⟩ := mem_ready.1 hi
      have hlt' : i < ops.size := (Array.getElem?_eq_some_iff.1 h2).1
      rw [getD_true (by omega)] at h1
      have hL : ops.toList[i]? = some o := by rw [Array.getElem?_toList]; exact h2
      have hdone : ∀ e ∈ o.after.toList, Region.binds .any e = true → listed.getD e.on false = true := fun e he hb => h3 e (Array.mem_toList_iff.1 he) hb
      have hwt : ∀ {j}, Nat.testBit ((waits ops.toList []).getD i 0) j = true → listed.getD j false = true := fun {j} ht => waits_done (D := fun j => listed.getD j false) hcl (n := i + 1) (by omega) hL hdone ht
      have him : i ≤ m := by
        rcases Nat.lt_or_ge m i with h | h
        · exact (hall fun j hj => hwt (X.tail i h hlt' j (by omega))).elim
        · exact h
      have later : ∀ j oj, ops[j]? = some oj → listed.getD j false = true → Nat.testBit ((waits ops.toList []).getD j 0) i = false := fun j oj hoj hj => by
        cases ht : Nat.testBit ((waits ops.toList []).getD j 0) i with
        | false => rfl
        | true =>
          have hLj : ops.toList[j]? = some oj := by rw [Array.getElem?_toList]; exact hoj
          have := waits_done (D := fun j => listed.getD j false) hcl (n := j + 1) (by omega) hLj (hcl j oj hLj hj) ht
          rw [h1] at this; cases this
      have e : (fun j => (listed.setIfInBounds i true).getD j false) = fun j => listed.getD j false || Nat.beq j i := funext fun j => getD_set (by omega)
      have cont : ∀ {a' w'}, Rel c (tau U s r m d (.val V0 (some (l0, p0, v0))) (.val V1 (some (l0, p0, v1))) (fun j => listed.getD j false || Nat.beq j i)) a' w' → wpAny P .any ops Q fuel (listed.setIfInBounds i true) a' w' := fun {a' w'} hr => by
        refine ih (by simp [hsz]) (fun j oj hoj hj x hx hb => ?_) (fun j hj => ?_) ?_ (by rw [e]; exact hr)
        · rw [getD_set (by omega), Bool.or_eq_true] at hj ⊢
          rcases hj with hj | hj
          · exact .inl (hcl j oj hoj hj x hx hb)
          · have := beq_eq.1 hj
            subst this
            rw [hL] at hoj; cases hoj
            exact .inl (hdone x hx hb)
        · rw [getD_set (by omega), hgt j hj, Bool.false_or]
          cases hb : Nat.beq j i with
          | false => rfl
          | true => have := beq_eq.1 hb; omega
        · have := countP_lt (f := fun j => !listed.getD j false) (f' := fun j => !(listed.setIfInBounds i true).getD j false) (fun x hx => by
            rw [getD_set (by omega)] at hx
            revert hx
            cases listed.getD x false <;> simp) (i := i) (by simp only [h1, Bool.not_false]) (by rw [getD_set (by omega), Nat.beq_refl]; simp) (List.mem_range.2 hlt')
          omega
      by_cases hir : i = r
      · -- the header is read
        subst hir
        have h2' := h2
        rw [X.hr] at h2'
        cases h2'
        have hxs : ∀ l, l ∈ seesT (stD U (fun _ => true) s m) true xr → tau U s i m d (.val V0 (some (l0, p0, v0))) (.val V1 (some (l0, p0, v1))) (fun j => listed.getD j false) l = stD U (fun j => listed.getD j false) s (m + 1) l := fun l _ => by
          unfold tau; rw [if_neg (show ¬ listed.getD i false = true by rw [h1]; decide)]
        have ht : tau U s i m d (.val V0 (some (l0, p0, v0))) (.val V1 (some (l0, p0, v1))) (fun j => listed.getD j false) = stD U (fun j => listed.getD j false) s (m + 1) := by
          unfold tau; rw [if_neg (show ¬ listed.getD i false = true by rw [h1]; decide)]
        rw [ht] at r'
        have hsame : stD U (fun j => listed.getD j false || Nat.beq j i) s (m + 1) = stD U (fun j => listed.getD j false) s (m + 1) := funext fun l => stD_eq fun j hj => by
          by_cases hji : j = i
          · subst hji; rw [X.ur]; exact .inr (by simp)
          · have : Nat.beq j i = false := by
              cases hb : Nat.beq j i with
              | false => rfl
              | true => exact (hji (beq_eq.1 hb)).elim
            rw [this, Bool.or_false]; exact .inl rfl
        have hmi : Nat.beq m i = false := by
          cases hb : Nat.beq m i with
          | false => rfl
          | true => have := beq_eq.1 hb; omega
        obtain ⟨tr, hop⟩ := X.rop
        have hd := X.rd
        have hdN : d < c.N := hN i ro d h2 hd
        have hwp : ∀ {K : Act → World → Prop} {v : Value}, (execOp a.eval ro).run P w = .ok (.value v) w → K (a.put ro.dst v) w → wpOp P ops Q i K a w := fun {K v} hx hk => by
          unfold wpOp
          rw [h2]
          have hw : Region.wanted ro (yielded ops a.tmps) = true := by simp [Region.wanted, X.rgd]
          simp only
          rw [if_pos hw]
          exact .inl (wp_value hx hk)
        obtain ⟨g, rg⟩ := r'
        cases hDm : listed.getD m false with
        | false =>
          have hl := lendT_agree (E := E) hop (X.ar0 (D := fun j => listed.getD j false) hDm (fun j hj => hwt hj))
          rw [X.le0] at hl
          obtain ⟨V, l, p, e1, hfl, Vp, org, cs, dd, q1, q2, q3, q4, q5, q6, q7⟩ := load_run he.toEnvOk hl rg (fun d' hd' => by rw [hd] at hd'; cases hd'; exact hdN)
          refine hwp q6 (cont ?_)
          have := q7 d hd
          unfold tau
          rw [if_pos (show (listed.getD i false || Nat.beq i i) = true by rw [Nat.beq_refl]; simp), hsame, if_neg (show ¬ (listed.getD m false || Nat.beq m i) = true by rw [hDm, hmi]; decide)]
          have hoff := X.off (fun j => listed.getD j false) (Nat.le_refl (m + 1))
          have hb : upds (stD U (fun j => listed.getD j false) s (m + 1)) [bump (stD U (fun j => listed.getD j false) s (m + 1)) (tm d) (.val V0 (some (l0, p0, v0)))] = upd (stD U (fun j => listed.getD j false) s (m + 1)) (tm d) ⟨.val V0 (some (l0, p0, v0)), (s (tm d)).v + 1, (s (tm d)).hv + 1⟩ := by
            show upd _ _ _ = _
            rw [hoff]
          rw [hb] at this
          exact this
        | true =>
          have hl := lendT_agree (E := E) hop (X.ar1 (D := fun j => listed.getD j false) hDm (fun j hj => hwt hj))
          rw [X.le1] at hl
          obtain ⟨V, l, p, e1, hfl, Vp, org, cs, dd, q1, q2, q3, q4, q5, q6, q7⟩ := load_run he.toEnvOk hl rg (fun d' hd' => by rw [hd] at hd'; cases hd'; exact hdN)
          refine hwp q6 (cont ?_)
          have := q7 d hd
          unfold tau
          rw [if_pos (show (listed.getD i false || Nat.beq i i) = true by rw [Nat.beq_refl]; simp), hsame, if_pos (show (listed.getD m false || Nat.beq m i) = true by rw [hDm]; rfl)]
          have hoff := X.off (fun j => listed.getD j false) (Nat.le_refl (m + 1))
          have hval := lendT_valid hl
          obtain ⟨_, ho, _⟩ := lendT_shape hl
          generalize stD U (fun j => listed.getD j false) s (m + 1) = σ at *
          obtain ⟨g2, rg2⟩ := this
          have hcell : (upds σ [bump σ (tm d) (.val V1 (some (l0, p0, v1)))]) (tm d) = ⟨.val V1 (some (l0, p0, v1)), (s (tm d)).v + 1, (s (tm d)).hv + 1⟩ := by
            show upd _ _ _ _ = _
            rw [upd_self, hoff]
          have hv2 : validL (upds σ [bump σ (tm d) (.val V1 (some (l0, p0, v1)))]) V1.lend = true := by
            rw [← hval]
            exact validL_agree fun e he' => upd_ne (X.nl1 e he')
          have := touch rg2 (d := d) (by rw [hcell]) ho hv2 hdN
          have hb : upds (upds σ [bump σ (tm d) (.val V1 (some (l0, p0, v1)))]) [bump (upds σ [bump σ (tm d) (.val V1 (some (l0, p0, v1)))]) (tm d) (.val V1 (some (l0, p0, v1)))] = upd σ (tm d) ⟨.val V1 (some (l0, p0, v1)), (s (tm d)).v + 2, (s (tm d)).hv + 2⟩ := by
            show upd (upds σ _) (tm d) ⟨_, (upds σ [bump σ (tm d) (.val V1 (some (l0, p0, v1)))] (tm d)).v + 1, (upds σ [bump σ (tm d) (.val V1 (some (l0, p0, v1)))] (tm d)).hv + 1⟩ = _
            rw [hcell]
            show upd (upd σ (tm d) _) (tm d) _ = _
            rw [upd_upd]
          rw [hb] at this
          exact this
      · -- another operation
        have hdn := X.dn i o him hir h2
        have agree : ∀ l ∈ sees ops.toList o (stD U (fun _ => true) s i), stD U (fun j => listed.getD j false) s (m + 1) l = stD U (fun _ => true) s i l := fun l hl => by
          rw [stD_off (i := i) (by omega) (fun j h4 h5 h6 => ?_)]
          · refine stD_eq (fun j hj => ?_)
            by_cases hjr : j = r
            · subst hjr; rw [X.ur]; exact .inr (by simp)
            cases hd : listed.getD j false with
            | true => exact .inl rfl
            | false =>
              refine .inr (fun hm => ?_)
              have hoj : ops[j]? = some ops[j] := Array.getElem?_eq_getElem (by omega)
              rcases X.ind j i _ _ hj him hjr hir hoj h2 with h | h
              · rw [hwt h] at hd; cases hd
              · exact (h.1 l hm).1 hl
          · by_cases hjr : j = r
            · subst hjr; rw [X.ur]; simp
            have hij : i < j := by
              rcases Nat.lt_or_ge i j with h | h
              · exact h
              · have : j = i := by omega
                subst this
                rw [h1] at h6; cases h6
            have hoj : ops[j]? = some ops[j] := Array.getElem?_eq_getElem (by omega)
            have hf := later j _ hoj h6
            rcases X.ind i j _ _ hij (by omega) hir hjr h2 hoj with h | h
            · rw [hf] at h; cases h
            · exact fun hm => h.2 l hm hl
        have agreeT : ∀ l ∈ sees ops.toList o (stD U (fun _ => true) s i), tau U s r m d (.val V0 (some (l0, p0, v0))) (.val V1 (some (l0, p0, v1))) (fun j => listed.getD j false) l = stD U (fun _ => true) s i l := fun l hl => by
          rw [tau_ne (fun e => hdn.1 (e ▸ hl))]; exact agree l hl
        have hev : (evG E ops.toList i o (tau U s r m d (.val V0 (some (l0, p0, v0))) (.val V1 (some (l0, p0, v1))) (fun j => listed.getD j false))).run some = some (U i) := by
          rw [evG_agree agreeT]; exact X.ev i o him hir h2
        have hadd : stD U (fun j => listed.getD j false || Nat.beq j i) s (m + 1) = upds (stD U (fun j => listed.getD j false) s (m + 1)) (U i) :=
          stD_add (by omega) h1 (fun j h4 h5 h6 l hl => by
            by_cases hjr : j = r
            · subst hjr; rw [X.ur]; simp
            have hoj : ops[j]? = some ops[j] := Array.getElem?_eq_getElem (by omega)
            have hf := later j _ hoj h6
            rcases X.ind i j _ _ h4 (by omega) hir hjr h2 hoj with h | h
            · rw [hf] at h; cases h
            · exact (h.1 l hl).2)
        have hri : Nat.beq r i = false := by
          cases hb : Nat.beq r i with
          | false => rfl
          | true => exact (hir (beq_eq.1 hb).symm).elim
        by_cases hlate : i = m ∧ listed.getD r false = true
        · -- the store, behind the header's load
          obtain ⟨rfl, hDr⟩ := hlate
          have h2' := h2
          rw [X.hm] at h2'
          cases h2'
          obtain ⟨st, sx, sy, hsop⟩ := X.mop
          obtain ⟨tr, hop⟩ := X.rop
          have hdN : d < c.N := hN r ro d X.hr X.rd
          have hLr : ops.toList[r]? = some ro := by rw [Array.getElem?_toList]; exact X.hr
          have hwr : ∀ j, Nat.testBit ((waits ops.toList []).getD r 0) j = true → listed.getD j false = true := fun j hj => waits_done (D := fun j => listed.getD j false) hcl (n := r + 1) (by omega) hLr (hcl r ro hLr hDr) hj
          have hl0 := lendT_agree (E := E) hop (X.ar0 (D := fun j => listed.getD j false) h1 hwr)
          rw [X.le0] at hl0
          have hl1 := lendT_agree (E := E) hop (X.ar1 (D := fun j => listed.getD j false || Nat.beq j i) (by rw [Nat.beq_refl]; simp) (fun j hj => by rw [hwr j hj]; rfl))
          rw [X.le1] at hl1
          have hoff := X.off (fun j => listed.getD j false) (Nat.le_refl (i + 1))
          have hls := X.ar0 (D := fun j => listed.getD j false) h1 hwr l0 X.ls
          have htau : tau U s r i d (.val V0 (some (l0, p0, v0))) (.val V1 (some (l0, p0, v1))) (fun j => listed.getD j false) = upds (stD U (fun j => listed.getD j false) s (i + 1)) [bump (stD U (fun j => listed.getD j false) s (i + 1)) (tm d) (.val V0 (some (l0, p0, v0)))] := by
            unfold tau
            rw [if_pos hDr, if_neg (show ¬ listed.getD i false = true by rw [h1]; decide)]
            show _ = upd _ _ _
            rw [hoff]
          rw [htau] at r' hev
          rw [X.mev] at hev
          have hnotin := hdn.2
          have hlT : lendT E ro (upds (upds (stD U (fun j => listed.getD j false) s (i + 1)) [bump (stD U (fun j => listed.getD j false) s (i + 1)) (tm d) (.val V0 (some (l0, p0, v0)))]) (U i)) = some (.val V1 (some (l0, p0, v1))) := by
            rw [← hl1, hadd]
            show lendT E ro (upds (upd _ _ _) _) = _
            rw [upds_upd hnotin]
            have hsee : ∀ l ∈ seesT (upds (stD U (fun j => listed.getD j false) s (i + 1)) (U i)) true xr, l ≠ tm d := fun l hl e => by
              subst e
              have e1 : seesT (upds (stD U (fun j => listed.getD j false) s (i + 1)) (U i)) true xr = seesT (stD U (fun _ => true) s (i + 1)) true xr := by
                rw [← hadd]
                exact seesT_agree (X.ar1 (D := fun j => listed.getD j false || Nat.beq j i) (by rw [Nat.beq_refl]; simp) (fun j hj => by rw [hwr j hj]; rfl))
              rw [e1] at hl
              exact X.xs1 hl
            exact lendT_agree hop (fun l hl => upd_ne (hsee l hl))
          have hw : Region.wanted mo (yielded ops a.tmps) = true := by simp [Region.wanted, X.mgd]
          unfold wpOp
          rw [h2]
          simp only
          rw [if_pos hw]
          refine .inl (Oper.wp_mono (fun a' w' hr => cont ?_) (store_refresh he.toEnvOk hsop X.rd hdN hl0 (lendT_shape hl0).1 X.ne X.nl r' hev X.um (by rw [hls]; exact X.uh) hlT X.vt))
          have hcell : (upds (upds (stD U (fun j => listed.getD j false) s (i + 1)) [bump (stD U (fun j => listed.getD j false) s (i + 1)) (tm d) (.val V0 (some (l0, p0, v0)))]) (U i)) (tm d) = ⟨.val V0 (some (l0, p0, v0)), (s (tm d)).v + 1, (s (tm d)).hv + 1⟩ := by
            rw [upds_off hnotin]
            show upd _ _ _ _ = _
            rw [upd_self, hoff]
          unfold tau
          rw [if_pos (show (listed.getD r false || Nat.beq r i) = true by rw [hDr]; rfl), if_pos (show (listed.getD i false || Nat.beq i i) = true by rw [Nat.beq_refl]; simp), hadd]
          have hb : ∀ σ : St, σ (tm d) = ⟨.val V0 (some (l0, p0, v0)), (s (tm d)).v + 1, (s (tm d)).hv + 1⟩ → upds σ [bump σ (tm d) (.val V1 (some (l0, p0, v1)))] = upd σ (tm d) ⟨.val V1 (some (l0, p0, v1)), (s (tm d)).v + 2, (s (tm d)).hv + 2⟩ := fun σ hσ => by
            show upd σ (tm d) ⟨_, (σ (tm d)).v + 1, (σ (tm d)).hv + 1⟩ = _
            rw [hσ]
          rw [hb _ hcell] at hr
          have hcm : upd (upds (upds (stD U (fun j => listed.getD j false) s (i + 1)) [bump (stD U (fun j => listed.getD j false) s (i + 1)) (tm d) (.val V0 (some (l0, p0, v0)))]) (U i)) (tm d) ⟨.val V1 (some (l0, p0, v1)), (s (tm d)).v + 2, (s (tm d)).hv + 2⟩ = upd (upds (stD U (fun j => listed.getD j false) s (i + 1)) (U i)) (tm d) ⟨.val V1 (some (l0, p0, v1)), (s (tm d)).v + 2, (s (tm d)).hv + 2⟩ := by
            show upd (upds (upd _ _ _) _) _ _ = _
            rw [upds_upd hnotin, upd_upd]
          rw [hcm] at hr
          exact hr
        · refine evG_ok he h2 (fun d hd => hN i o d h2 hd) r' hev (fun a' w' hr => cont ?_)
          have : upds (tau U s r m d (.val V0 (some (l0, p0, v0))) (.val V1 (some (l0, p0, v1))) (fun j => listed.getD j false)) (U i) = tau U s r m d (.val V0 (some (l0, p0, v0))) (.val V1 (some (l0, p0, v1))) (fun j => listed.getD j false || Nat.beq j i) := by
            unfold tau
            show upds (if listed.getD r false = true then upd _ _ (if listed.getD m false = true then _ else _) else _) (U i) = (if (listed.getD r false || Nat.beq r i) = true then upd _ _ (if (listed.getD m false || Nat.beq m i) = true then _ else _) else _)
            rw [hri, Bool.or_false, hadd]
            by_cases hDr : listed.getD r false = true
            · rw [if_pos hDr, if_pos hDr, upds_upd hdn.2]
              have hmi : i ≠ m := fun e => hlate ⟨e, hDr⟩
              have : Nat.beq m i = false := by
                cases hb : Nat.beq m i with
                | false => rfl
                | true => exact (hmi (beq_eq.1 hb).symm).elim
              rw [this, Bool.or_false]
            · rw [if_neg hDr, if_neg hDr]
          rw [← this]; exact hr
end
end
end Go.OM

namespace Go.OM
open Go
section
variable {c : Ctx} {g : Ghost} {s : St} {a : Act} {w : World} {P : Program} {E : Env}
variable {ops : Array Oper} {U : Nat → Upds} {Q : Exit → Act → World → Prop}
/-- What is left of a region when each operation waits for all ahead of it. -/
theorem wpAny_seq (he : EnvOk2 P E) (hN : ∀ (i : Nat) (o : Oper) (d : Nat), ops[i]? = some o → o.dst = some d → d < c.N) {R : Type} {k : St → Option R} {res : R} {m : Nat}
    (past : ∀ (j : Nat) (o : Oper), ops[j]? = some o → ∀ e ∈ o.after.toList, Region.binds .any e = true → e.on < j)
    (tail : ∀ i, m < i → i < ops.size → ∀ j, j < i → Nat.testBit ((waits ops.toList []).getD i 0) j = true) (hQ : ∀ s' a' w', Rel c s' a' w' → k s' = some res → Q .normal a' w') :
    ∀ (n i : Nat) {fuel : Nat} {listed : Array Bool} {a : Act} {w : World} {s : St} {lg : List Log}, i + n = ops.size → m < i → listed.size = ops.size → (∀ j, j < ops.size → listed.getD j false = decide (j < i)) →
    (List.range ops.size).countP (fun j => !listed.getD j false) ≤ fuel → Rel c s a w → evOps E ops.toList (enum i (ops.toList.drop i)) s lg (fun s2 _ => k s2) = some res → wpAny P .any ops Q fuel listed a w := by
  have hlen : ops.toList.length = ops.size := Array.length_toList
  intro n
  induction n with
  | zero =>
    intro i fuel listed a w s lg hi hm hsz hl hc r h
    rw [List.drop_eq_nil_of_le (by omega)] at h
    have hq : Q .normal a w := hQ s a w r h
    have hnil : Region.ready .any ops listed = [] := by
      apply List.eq_nil_iff_forall_not_mem.2
      intro j hj
      obtain ⟨h1, o, h2, _⟩ := mem_ready.1 hj
      have hlt : j < ops.size := (Array.getElem?_eq_some_iff.1 h2).1
      rw [getD_true (by omega), hl j hlt, decide_eq_true (by omega)] at h1
      cases h1
    exact wpAny_done hnil hq fuel
  | succ n ih =>
    intro i fuel listed a w s lg hi hm hsz hl hc r h
    have hlt : i < ops.size := by omega
    have ho : ops[i]? = some ops[i] := Array.getElem?_eq_getElem hlt
    have hd : ops.toList.drop i = ops[i] :: ops.toList.drop (i + 1) := by
      rw [List.drop_eq_getElem_cons (by omega), Array.getElem_toList]
    rw [hd] at h
    simp only [enum, evOps] at h
    obtain ⟨u, hu, h⟩ := Prog.run_some h
    rw [forceU_eq] at h
    have hcl : ∀ j o, ops.toList[j]? = some o → listed.getD j false = true → ∀ e ∈ o.after.toList, Region.binds .any e = true → listed.getD e.on false = true := fun j o hj hlj e hx hb => by
      rw [Array.getElem?_toList] at hj
      have hp := past j o hj e hx hb
      have hjl : j < ops.size := (Array.getElem?_eq_some_iff.1 hj).1
      rw [hl j hjl, decide_eq_true_eq] at hlj
      rw [hl _ (by omega), decide_eq_true_eq]; omega
    cases fuel with
    | zero =>
      exfalso
      have := List.countP_eq_zero.1 (Nat.le_zero.1 hc) i (List.mem_range.2 hlt)
      rw [hl i hlt, decide_eq_false (by omega)] at this
      simp at this
    | succ fuel =>
      refine ⟨fun hr => ?_, fun j hj => ?_⟩
      · exfalso
        have : i ∈ Region.ready .any ops listed := mem_ready.2 ⟨by rw [getD_true (by omega), hl i hlt, decide_eq_false (by omega)], _, ho, fun e hx hb => by
          have hp := past i _ ho e (Array.mem_toList_iff.2 hx) hb
          rw [hl _ (by omega), decide_eq_true_eq]; exact hp⟩
        rw [hr] at this; cases this
      · obtain ⟨h1, o, h2, h3⟩ := mem_ready.1 hj
        have hjl : j < ops.size := (Array.getElem?_eq_some_iff.1 h2).1
        rw [getD_true (by omega), hl j hjl, decide_eq_false_iff_not] at h1
        have hL : ops.toList[j]? = some o := by rw [Array.getElem?_toList]; exact h2
        have hji : j = i := by
          rcases Nat.lt_or_ge i j with hij | hij
          · exfalso
            have := waits_done (D := fun j => listed.getD j false) hcl (n := j + 1) (by omega) hL (fun e he hb => h3 e (Array.mem_toList_iff.1 he) hb) (tail j (by omega) hjl i hij)
            rw [hl i hlt, decide_eq_true_eq] at this
            omega
          · omega
        subst hji
        rw [ho] at h2
        cases h2
        refine evG_ok he ho (fun d hd => hN j _ d ho hd) r hu (fun a' w' hr => ?_)
        refine ih (j + 1) (by omega) (by omega) (by simp [hsz]) (fun i' hi' => ?_) ?_ hr h
        · rw [getD_set (by omega), hl i' hi']
          by_cases hlt' : i' < j
          · rw [decide_eq_true hlt', decide_eq_true (by omega), Bool.true_or]
          · rw [decide_eq_false hlt', Bool.false_or]
            by_cases he' : i' = j
            · subst he'; rw [Nat.beq_refl, decide_eq_true (by omega)]
            · rw [decide_eq_false (by omega)]
              cases hb : Nat.beq i' j with
              | false => rfl
              | true => exact (he' (beq_eq.1 hb)).elim
        · have hjf : listed.getD j false = false := by rw [hl j hlt, decide_eq_false (by omega)]
          have := countP_lt (f := fun j => !listed.getD j false) (f' := fun i => !(listed.setIfInBounds j true).getD i false) (fun x hx => by
            rw [getD_set (by omega)] at hx
            revert hx
            cases listed.getD x false <;> simp) (i := j) (by simp only [hjf, Bool.not_false]) (by rw [getD_set (by omega), Nat.beq_refl]; simp) (List.mem_range.2 hlt)
          omega
theorem stD_congr {U U' : Nat → Upds} {D : Nat → Bool} : ∀ {n : Nat}, (∀ j, j < n → U j = U' j) → stD U D s n = stD U' D s n := by
  intro n
  induction n with
  | zero => intro _; rfl
  | succ n ih =>
    intro h
    simp only [stD]
    rw [ih fun j hj => h j (by omega), h n (by omega)]
theorem stD_cat {U : Nat → Upds} {i : Nat} : ∀ {n : Nat}, stD U (fun _ => true) s (i + n) = stD (fun j => U (i + j)) (fun _ => true) (stD U (fun _ => true) s i) n := by
  intro n
  induction n with
  | zero => rfl
  | succ n ih =>
    show stD U _ s (i + n + 1) = _
    simp only [stD]
    rw [ih]
theorem pw_get {R : Nat → Nat → Prop} : ∀ {l : List Nat}, l.Pairwise R → l.Pairwise (fun x y => y < x) → ∀ x ∈ l, ∀ y ∈ l, y < x → R x y := by
  intro l
  induction l with
  | nil => intro _ _ x hx; cases hx
  | cons a l ih =>
    intro h1 h2 x hx y hy hyx
    rw [List.pairwise_cons] at h1 h2
    rcases List.mem_cons.1 hx with hx' | hx'
    · subst hx'
      rcases List.mem_cons.1 hy with hy' | hy'
      · omega
      · exact h1.1 y hy'
    · rcases List.mem_cons.1 hy with hy' | hy'
      · have := h2.1 x hx'; omega
      · exact ih h1.2 h2.2 x hx' y hy' hyx
theorem indep_pw {ws : List Nat} : ∀ {lg : List Log}, indep ws lg = true → lg.Pairwise fun b a => Nat.testBit (ws.getD b.i 0) a.i = true ∨ apart a b = true := by
  intro lg
  induction lg with
  | nil => intro _; exact List.Pairwise.nil
  | cons x lg ih =>
    intro h
    rw [indep, Bool.and_eq_true] at h
    refine List.pairwise_cons.2 ⟨fun a ha => ?_, ih h.2⟩
    have := List.all_eq_true.1 h.1 a ha
    rwa [Bool.or_eq_true] at this
theorem any_not {l : Nat} {r : List Nat} (h : r.any (Nat.beq l) = false) : l ∉ r := fun hm => by
  have : r.any (Nat.beq l) = true := List.any_eq_true.2 ⟨l, hm, Nat.beq_refl l⟩
  rw [h] at this; cases this
theorem ne_of_nbeq {a b : Nat} (h : Nat.beq a b = false) : a ≠ b := fun e => by subst e; rw [Nat.beq_refl] at h; cases h
theorem pastOk_spec (h : pastOk ops.toList = true) : ∀ (j : Nat) (o : Oper), ops[j]? = some o → ∀ e ∈ o.after.toList, Region.binds .any e = true → e.on < j := by
  intro j o ho e hx hb
  unfold pastOk at h
  rw [List.all_eq_true] at h
  have en : ∀ {l : List Oper} {i0 n : Nat} {o : Oper}, l[n]? = some o → (i0 + n, o) ∈ enum i0 l := by
    intro l
    induction l with
    | nil => intro i0 n o h; simp at h
    | cons x l ih =>
      intro i0 n o h
      cases n with
      | zero => simp only [List.getElem?_cons_zero, Option.some.injEq] at h; subst h; exact List.mem_cons_self
      | succ n =>
        rw [List.getElem?_cons_succ] at h
        have := ih (i0 := i0 + 1) h
        rw [show i0 + 1 + n = i0 + (n + 1) by omega] at this
        exact List.mem_cons_of_mem _ this
  have := h (0 + j, o) (en (by rw [Array.getElem?_toList]; exact ho))
  rw [List.all_eq_true] at this
  have := this e hx
  rw [hb] at this
  simp only [Bool.not_true, Bool.false_or, Nat.zero_add] at this
  exact Nat.le_of_ble_eq_true this
theorem evLate_wp (he : EnvOk2 P E) (hN : ∀ (i : Nat) (o : Oper) (d : Nat), ops[i]? = some o → o.dst = some d → d < c.N) {R : Type} {k : St → Option R} {res : R}
    (rl : Rel c s a w) (h : evLate E ops.toList s k = some res) (hQ : ∀ s' a' w', Rel c s' a' w' → k s' = some res → Q .normal a' w') : wpAny P .any ops Q ops.size (Array.replicate ops.size false) a w := by
  have hlen : ops.toList.length = ops.size := Array.length_toList
  unfold evLate at h
  split at h
  case h_2 => cases h
  rename_i ro mo hro hmo
  split at h
  case h_2 => cases h
  rename_i tr xr d hop hrd
  generalize hr : lateIx E ops.toList = r at *
  generalize hm : lateM E = m at *
  have hrl : r < ops.toList.length := (List.getElem?_eq_some_iff.1 hro).1
  have hml : m < ops.toList.length := (List.getElem?_eq_some_iff.1 hmo).1
  obtain ⟨U1, e1, hA⟩ := evOps_run h
  clear h
  obtain ⟨U2, e2, hB⟩ := evOps_run hA
  clear hA
  have h := hB
  clear hB
  have n1 : (ops.toList.take r).length = r := by rw [List.length_take]; omega
  rw [n1] at h e2
  have n2 : ((ops.toList.drop (r + 1)).take (m - r - 1)).length = m - r - 1 := by rw [List.length_take, List.length_drop]; omega
  rw [n2] at h
  generalize hsA : stD U1 (fun _ => true) s r = sA at *
  split at h
  case h_2 => cases h
  rename_i V0 l0 p0 v0 hle0
  obtain ⟨um, hum, hC⟩ := Prog.run_some h
  clear h
  have h := hC
  clear hC
  rw [forceU_eq] at h
  split at h
  case h_2 => cases h
  rename_i lx X0
  split at h
  case h_2 => cases h
  rename_i V1 l1 p1 v1 hle1
  rw [tif_eq] at h
  split at h
  case isFalse => cases h
  rename_i hok
  unfold lateOk at hok
  simp only [Bool.and_eq_true, Bool.not_eq_true'] at hok
  obtain ⟨⟨⟨⟨⟨⟨⟨⟨⟨⟨⟨⟨⟨⟨⟨⟨⟨⟨⟨⟨⟨k1, k2⟩, k3⟩, k4⟩, k5⟩, k6⟩, k7⟩, k8⟩, k9⟩, k10⟩, k11⟩, k12⟩, k13⟩, k14⟩, k15⟩, k16⟩, k17⟩, k18⟩, k19⟩, k20⟩, k21⟩, k22⟩ := hok
  have hrm : r < m := by have := Nat.le_of_ble_eq_true k1; omega
  obtain rfl := beq_eq.1 k9
  obtain rfl := beq_eq.1 k10
  have k11 := of_decide_eq_true k11
  subst k11
  -- the updates, by number
  let U : Nat → Upds := fun n => if n < r then U1 n else if n = r then [] else if n < m then U2 (n - r - 1) else if n = m then [(l1, X0)] else []
  have u1 : ∀ n, n < r → U n = U1 n := fun n hn => if_pos hn
  have ur : U r = [] := by show (if r < r then _ else _) = _; rw [if_neg (by omega), if_pos rfl]
  have u2 : ∀ n, n < m - r - 1 → U (r + 1 + n) = U2 n := fun n hn => by
    show (if r + 1 + n < r then _ else _) = _
    rw [if_neg (by omega), if_neg (by omega), if_pos (by omega), show r + 1 + n - r - 1 = n by omega]
  have umm : U m = [(l1, X0)] := by
    show (if m < r then _ else _) = _
    rw [if_neg (by omega), if_neg (by omega), if_neg (by omega), if_pos rfl]
  have s1 : ∀ n, n ≤ r → stD U (fun _ => true) s n = stD U1 (fun _ => true) s n := fun n hn => stD_congr fun j hj => u1 j (by omega)
  have s2 : stD U (fun _ => true) s (r + 1) = sA := by
    show (if true = true then upds (stD U _ s r) (U r) else _) = _
    rw [if_pos rfl, ur, s1 r (Nat.le_refl _), hsA]; rfl
  have s3 : ∀ n, n ≤ m - r - 1 → stD U (fun _ => true) s (r + 1 + n) = stD U2 (fun _ => true) sA n := fun n hn => by
    rw [stD_cat, s2]
    exact stD_congr fun j hj => u2 j (by omega)
  have s4 : stD U (fun _ => true) s m = stD U2 (fun _ => true) sA (m - r - 1) := by
    have := s3 (m - r - 1) (Nat.le_refl _)
    rwa [show r + 1 + (m - r - 1) = m by omega] at this
  have s5 : stD U (fun _ => true) s (m + 1) = upds (stD U2 (fun _ => true) sA (m - r - 1)) [(l1, X0)] := by
    show (if true = true then upds (stD U _ s m) (U m) else _) = _
    rw [if_pos rfl, umm, s4]
  let F : Nat → Log := fun j => ⟨j, sees ops.toList (ops.toList.getD j default) (stD U (fun _ => true) s j), (U j).map (·.1)⟩
  have hget : ∀ {j o}, ops[j]? = some o → ops.toList.getD j default = o := fun {j o} h => by
    rw [List.getD_eq_getElem?_getD, Array.getElem?_toList, h]; rfl
  have hlog : (List.map (fun n => (⟨r + 1 + n, sees ops.toList (((ops.toList.drop (r + 1)).take (m - r - 1)).getD n default) (stD U2 (fun _ => true) sA n), (U2 n).map (·.1)⟩ : Log)) (List.range (m - r - 1)).reverse ++ (List.map (fun n => (⟨0 + n, sees ops.toList ((ops.toList.take r).getD n default) (stD U1 (fun _ => true) s n), (U1 n).map (·.1)⟩ : Log)) (List.range r).reverse ++ [])) = ((List.range (m - r - 1)).reverse.map (fun n => r + 1 + n) ++ (List.range r).reverse).map F := by
    rw [List.append_nil, List.map_append, List.map_map]
    congr 1
    · refine List.map_congr_left fun n hn => ?_
      have hn : n < m - r - 1 := by simpa using hn
      show _ = F (r + 1 + n)
      simp only [F]
      rw [s3 n (by omega), u2 n hn]
      congr 2
      rw [List.getD_eq_getElem?_getD, List.getD_eq_getElem?_getD, List.getElem?_take, if_pos hn, List.getElem?_drop]
    · refine List.map_congr_left fun n hn => ?_
      have hn : n < r := by simpa using hn
      simp only [F, Nat.zero_add]
      rw [s1 n (by omega), u1 n hn]
      congr 2
      rw [List.getD_eq_getElem?_getD, List.getD_eq_getElem?_getD, List.getElem?_take, if_pos hn]
  rw [hlog] at k7 k20 k21
  have hFm : (⟨m, sees ops.toList mo (stD U2 (fun _ => true) sA (m - r - 1)), [l1]⟩ : Log) = F m := by
    simp only [F]
    rw [umm, s4, hget (by rw [← Array.getElem?_toList]; exact hmo)]; rfl
  rw [hFm] at k7 k20
  have hidx : (m :: ((List.range (m - r - 1)).reverse.map (fun n => r + 1 + n) ++ (List.range r).reverse)).Pairwise (fun x y => y < x) := by
    have hrev : ∀ n, (List.range n).reverse.Pairwise (fun x y => y < x) := fun n => List.pairwise_reverse.2 List.pairwise_lt_range
    refine List.pairwise_cons.2 ⟨fun y hy => ?_, List.pairwise_append.2 ⟨List.pairwise_map.2 ((hrev _).imp fun h => by omega), hrev r, fun x hx y hy => ?_⟩⟩
    · rcases List.mem_append.1 hy with hy | hy
      · obtain ⟨n, hn, rfl⟩ := List.mem_map.1 hy
        have : n < m - r - 1 := by simpa using hn
        omega
      · have : y < r := by simpa using hy
        omega
    · obtain ⟨n, hn, rfl⟩ := List.mem_map.1 hx
      have : y < r := by simpa using hy
      omega
  have hmem : ∀ j, j ≤ m → j ≠ r → j ∈ m :: ((List.range (m - r - 1)).reverse.map (fun n => r + 1 + n) ++ (List.range r).reverse) := fun j hj hjr => by
    by_cases h1 : j = m
    · subst h1; exact List.mem_cons_self
    refine List.mem_cons_of_mem _ (List.mem_append.2 ?_)
    by_cases h2 : j < r
    · exact .inr (by simpa using h2)
    · exact .inl (List.mem_map.2 ⟨j - r - 1, by simp; omega, by omega⟩)
  have hmem' : ∀ j, j < m → j ≠ r → j ∈ ((List.range (m - r - 1)).reverse.map (fun n => r + 1 + n) ++ (List.range r).reverse) := fun j hj hjr => by
    rcases List.mem_cons.1 (hmem j (by omega) hjr) with h | h
    · omega
    · exact h
  have hpw := List.pairwise_map.1 (show ((m :: ((List.range (m - r - 1)).reverse.map (fun n => r + 1 + n) ++ (List.range r).reverse)).map F).Pairwise _ from indep_pw k7)
  have past := pastOk_spec k8
  have tail : ∀ i, m < i → i < ops.size → ∀ j, j < i → Nat.testBit ((waits ops.toList []).getD i 0) j = true := fun i hi his j hj => by
    have := List.all_eq_true.1 k22 i (List.mem_range.2 (by omega))
    rw [Bool.or_eq_true] at this
    rcases this with h | h
    · have := Nat.le_of_ble_eq_true h; omega
    · exact List.all_eq_true.1 h j (List.mem_range.2 hj)
  have hmgd := Option.isNone_iff_eq_none.1 k3
  have hmdst := Option.isNone_iff_eq_none.1 k6
  have X : Late E ops U s r m d ro mo xr V0 V1 l1 p1 v0 v1 X0 := by
    refine { rm := hrm, hr := by rw [← Array.getElem?_toList]; exact hro, hm := by rw [← Array.getElem?_toList]; exact hmo, rop := ⟨tr, hop⟩, rd := hrd, rgd := Option.isNone_iff_eq_none.1 k2, mop := ?_, mgd := hmgd, mev := fun σ => ?_, ev := fun n o hn hnr ho => ?_, ur := ur, ind := fun i j oi oj hij hj hir hjr hi hj' => ?_, past := past, le0 := by rw [s4]; exact hle0, le1 := by rw [s5]; exact hle1, vt := of_decide_eq_true k12, um := umm, uh := by rw [s4]; exact beq_eq.1 k13, ls := ?_, dn := fun j oj hj hjr ho => ?_, rin := fun j oj hj hjr ho => ?_, ne := ne_of_nbeq k14, nl := fun e he => ?_, nl1 := fun e he => ?_, xs0 := by rw [s4]; exact any_not k17, xs1 := by rw [s5]; exact any_not k18, tail := tail }
    · split at k4
      · rename_i t x y hop'
        exact ⟨t, x, y, hop'⟩
      · cases k4
    · unfold evG
      simp only [hmgd, hmdst, k5, isPick, Bool.or_self, Bool.false_eq_true, if_false]
    · have hL : ops.toList[n]? = some o := by rw [Array.getElem?_toList]; exact ho
      rcases Nat.lt_or_ge n r with h1 | h1
      · have := e1 n o (by rw [List.getElem?_take, if_pos h1]; exact hL)
        rw [Nat.zero_add] at this
        rw [s1 n (by omega), u1 n h1]; exact this
      · by_cases h2 : n = m
        · subst h2
          rw [hmo] at hL
          cases hL
          rw [s4, umm]; exact hum
        · have h3 : n = r + 1 + (n - r - 1) := by omega
          have h4 : n - r - 1 < m - r - 1 := by omega
          have := e2 (n - r - 1) o (by rw [List.getElem?_take, if_pos h4, List.getElem?_drop, ← h3]; exact hL)
          rw [← h3] at this
          have h5 := s3 (n - r - 1) (by omega)
          have h6 := u2 (n - r - 1) h4
          rw [← h3] at h5 h6
          rw [h5, h6]; exact this
    · have := pw_get hpw hidx j (hmem j hj hjr) i (hmem i (by omega) hir) hij
      refine this.imp (fun h => h) (fun h => ?_)
      have := apart_spec h
      simp only [F, hget hi, hget hj'] at this
      exact this
    · rw [s4]
      obtain ⟨x, hx, hb⟩ := List.any_eq_true.1 k19
      rw [beq_eq.1 hb]; exact hx
    · have := List.all_eq_true.1 k20 (F j) (List.mem_map.2 ⟨j, hmem j hj hjr, rfl⟩ |> fun h => by rw [List.map_cons] at h; exact h)
      simp only [Bool.and_eq_true, Bool.not_eq_true', F, hget ho] at this
      exact ⟨any_not this.1, any_not this.2⟩
    · have := List.all_eq_true.1 k21 (F j) (List.mem_map.2 ⟨j, hmem' j hj hjr, rfl⟩)
      rw [Bool.or_eq_true] at this
      refine this.imp (fun h => h) (fun h l hl => ?_)
      have := List.all_eq_true.1 h l hl
      simp only [Bool.and_eq_true, Bool.not_eq_true'] at this
      rw [s4, s5]
      exact ⟨any_not this.1, any_not this.2⟩
    · have := List.all_eq_true.1 k15 e he
      exact ne_of_nbeq (by simpa using this)
    · have := List.all_eq_true.1 k16 e he
      exact ne_of_nbeq (by simpa using this)
  rw [← s5] at h
  have hfalse : ∀ j, (Array.replicate ops.size false).getD j false = false := fun j => by
    by_cases hj : j < ops.size
    · simp [Array.getD_eq_getD_getElem?, hj]
    · simp [Array.getD_eq_getD_getElem?, hj]
  refine wpAny_late he hN X (fun {fuel listed a' w'} hsz hl hc r' => wpAny_seq he hN past tail hQ (ops.size - (m + 1)) (m + 1) (by omega) (by omega) hsz (fun j hj => ?_) hc r' h) (by simp) (fun j o _ hd => ?_) (fun j _ => hfalse j) ?_ ?_
  · rw [hl j hj]
    by_cases h : j ≤ m
    · rw [decide_eq_true h, decide_eq_true (by omega)]
    · rw [decide_eq_false h, decide_eq_false (by omega)]
  · rw [hfalse j] at hd; cases hd
  · exact Nat.le_trans (List.countP_le_length) (by rw [List.length_range]; exact Nat.le_refl _)
  · have : tau U s r m d (.val V0 (some (l1, p1, v0))) (.val V1 (some (l1, p1, v1))) (fun j => (Array.replicate ops.size false).getD j false) = s := by
      unfold tau
      rw [if_neg (show ¬ (Array.replicate ops.size false).getD r false = true by rw [hfalse]; decide)]
      funext l
      rw [stD_off (i := 0) (by omega) (fun j _ hj hd => ?_)]
      · rfl
      · rw [hfalse j] at hd; cases hd
    rw [this]; exact rl
end
end Go.OM

