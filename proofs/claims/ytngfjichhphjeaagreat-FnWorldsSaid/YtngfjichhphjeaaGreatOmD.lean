/- OM: code, a function begun and ended, laws. Conditions: none. -/
import Derived.Test.YtngfjichhphjeaaGreatOmC
import Derived.ChangeSlices
import Derived.WideShapes
import Derived.WalkKit
import Derived.ProofKit
import Derived.OpenShut
import Derived.ShutString
import Derived.ChangeOld
import Derived.Below
import Derived.SizedLaws
import Derived.Carry
import Derived.Shelf.SlicesE.DeleteFunc
import Derived.Shelf.SlicesE.Index
set_option linter.unusedVariables false
set_option linter.unusedSimpArgs false
namespace Go.OM
open Go
section
variable {c : Ctx} {s : St} {a : Act} {w : World} {P : Program} {E : Env}
theorem evRegion_any (he : EnvOk2 P E) (hm : P.follows .mixedOrders = true) {R : Type} {id : Nat} {ops : Array Oper} {Q : Exit → Act → World → Prop} {k : St → Option R} {res : R} (hN : ∀ (i : Nat) (o : Oper) (d : Nat), ops[i]? = some o → o.dst = some d → d < c.N)
    (r : Rel c s a w) (h : evRegion E ops true s k = some res) (hQ : ∀ s' a' w', Rel c s' a' w' → k s' = some res → Q .normal a' w') : (Code.region id ops true).wp P Q a w := by
  refine wp_region_any hm ?_
  unfold evRegion at h
  simp only [tif_eq] at h
  split at h
  case isTrue => exact evLate_wp he hN (r.same ⟨rfl, rfl, rfl, rfl⟩) h hQ
  obtain ⟨U, h1, h2⟩ := evOps_run h
  rw [if_pos trivial] at h2
  split at h2
  case isFalse => cases h2
  rename_i hc
  rw [Bool.and_eq_true] at hc
  have hlen : ops.toList.length = ops.size := Array.length_toList
  have X : Drawn E ops U s := by
    refine ⟨fun n o hn => ?_, fun i j oi oj hij hi hj => ?_, fun j o ho e hx hb => ?_⟩
    · have := h1 n o (by rw [Array.getElem?_toList]; exact hn)
      rwa [Nat.zero_add] at this
    · have hjl : j < ops.toList.length := by rw [hlen]; exact (Array.getElem?_eq_some_iff.1 hj).1
      have at_ : ∀ m, m < ops.toList.length → ((List.range ops.toList.length).reverse.map (fun n => (⟨0 + n, sees ops.toList (ops.toList.getD n default) (stD U (fun _ => true) s n), (U n).map (·.1)⟩ : Log)) ++ [])[ops.toList.length - 1 - m]? = some (⟨0 + m, sees ops.toList (ops.toList.getD m default) (stD U (fun _ => true) s m), (U m).map (·.1)⟩ : Log) := fun m hm => by
        rw [List.append_nil, List.getElem?_map, List.getElem?_reverse (by rw [List.length_range]; omega), List.length_range, List.getElem?_range (by omega), Option.map_some]
        rw [show ops.toList.length - 1 - (ops.toList.length - 1 - m) = m by omega]
      have := indep_spec hc.1 (m := ops.toList.length - 1 - j) (n := ops.toList.length - 1 - i) (by omega) (at_ j hjl) (at_ i (by omega))
      simp only [Nat.zero_add] at this
      have gi : ops.toList.getD i default = oi := by rw [List.getD_eq_getElem?_getD, Array.getElem?_toList, hi]; rfl
      have gj : ops.toList.getD j default = oj := by rw [List.getD_eq_getElem?_getD, Array.getElem?_toList, hj]; rfl
      refine this.imp (fun h => h) (fun h => ?_)
      have := apart_spec h
      simp only [gi, gj] at this
      exact this
    · have h2 := hc.2
      unfold pastOk at h2
      rw [List.all_eq_true] at h2
      have en : ∀ {l : List Oper} {i0 n : Nat} {o : Oper}, l[n]? = some o → (i0 + n, o) ∈ enum i0 l := by
        intro l
        induction l with
        | nil => intro i0 n o h; simp at h
        | cons x l ih =>
          intro i0 n o h
          cases n with
          | zero => simp only [List.getElem?_cons_zero, Option.some.injEq] at h; subst h; exact List.mem_cons_self
          | succ n =>
            rw [List.getElem?_cons_succ] at h
            have := ih (i0 := i0 + 1) h
            rw [show i0 + 1 + n = i0 + (n + 1) by omega] at this
            exact List.mem_cons_of_mem _ this
      have := h2 (0 + j, o) (en (by rw [Array.getElem?_toList]; exact ho))
      rw [List.all_eq_true] at this
      have := this e hx
      rw [hb] at this
      simp only [Bool.not_true, Bool.false_or, Nat.zero_add] at this
      exact Nat.le_of_ble_eq_true this
  have hst : stD U (fun j => (Array.replicate ops.size false).getD j false) s ops.size = s := by
    funext l
    rw [stD_off (i := 0) (by omega) (fun j _ hj hd => ?_)]
    · rfl
    · simp [Array.getD_eq_getD_getElem?, hj] at hd
  refine wpAny_draw he hN X (fun a' w' hr => hQ _ a' w' hr (by rw [← hlen]; exact h2)) (by simp) (fun j o hj hd => ?_) ?_ ?_
  · have : j < ops.size := by rw [← hlen]; exact (List.getElem?_eq_some_iff.1 hj).1
    simp [Array.getD_eq_getD_getElem?, this] at hd
  · exact Nat.le_trans (List.countP_le_length) (by rw [List.length_range]; exact Nat.le_refl _)
  · rw [hst]
    exact r.same ⟨rfl, rfl, rfl, rfl⟩

/-- What is left of a loop, at its round's end. -/
def loopIn (P : Program) (x : Code) (Q : Exit → Act → World → Prop) (a : Act) (w : World) : Prop :=
  ∀ (b : Frame) (k : List Item) (cs : List Frame), ∃ e a' w', Q e a' w' ∧ Arrives P (lone (b.at a (.inLoop x :: k)) cs w) b k cs e a' w'
theorem loop_body {x : Code} {Q : Exit → Act → World → Prop} (h : x.wp P (Exit.then (loopIn P x Q) Q) a w) (b : Frame) (k : List Item) (cs : List Frame) :
    ∃ e a' w', Q e a' w' ∧ Arrives P (lone (b.at a (.code x :: .inLoop x :: k)) cs w) b k cs e a' w' := by
  obtain ⟨e, a₁, w₁, hq, harr⟩ := h b (.inLoop x :: k) cs
  cases e with
  | normal =>
    obtain ⟨e2, a2, w2, hq2, harr2⟩ := hq b k cs
    exact ⟨e2, a2, w2, hq2, .of_steps harr harr2⟩
  | exit id => exact ⟨_, a₁, w₁, hq, .pass (x := .inLoop x) rfl (fun _ _ => .inl (by simp)) harr⟩
  | goto l => exact ⟨_, a₁, w₁, hq, .pass (x := .inLoop x) rfl (fun _ _ => .inl (by simp)) harr⟩
  | ret => exact ⟨_, a₁, w₁, hq, .pass (x := .inLoop x) rfl (fun _ _ => .inl (by simp)) harr⟩
  | panic ch => exact ⟨_, a₁, w₁, hq, .pass (x := .inLoop x) rfl (fun _ _ => .inl (by simp)) harr⟩
  | outgrown => exact ⟨_, a₁, w₁, hq, .pass (x := .inLoop x) rfl (fun _ _ => .inl (by simp)) harr⟩
theorem wp_loopB {x : Code} {Q : Exit → Act → World → Prop} (h : x.wp P (Exit.then (loopIn P x Q) Q) a w) : (Code.loop x).wp P Q a w := by
  intro b k cs
  obtain ⟨e, a', w', hq, harr⟩ := loop_body h b k cs
  exact ⟨e, a', w', hq, .of_steps (.one step_loop) harr⟩
theorem loopIn_body {x : Code} {Q : Exit → Act → World → Prop} (h : x.wp P (Exit.then (loopIn P x Q) Q) a w) : loopIn P x Q a w := by
  intro b k cs
  obtain ⟨e, a', w', hq, harr⟩ := loop_body h b k cs
  exact ⟨e, a', w', hq, .of_steps (.one step_inLoop) harr⟩

/-- The points of a piece of code. -/
def joinJ (J : List Nat) (b : Code) : Bool := J.any (Nat.beq (hid b))
def ptsOf (J : List Nat) : Code → List Nat
  | .seq a b => if joinJ J b then 2 * hid b :: (ptsOf J a ++ ptsOf J b) else ptsOf J a ++ ptsOf J b
  | .cond _ a b => ptsOf J a ++ ptsOf J b
  | .block _ a => ptsOf J a
  | .loop a => (2 * hid a + 1) :: ptsOf J a
  | _ => []
theorem hasPt_iff {κ : Nat} : ∀ {C : Code}, hasPt E κ C = true ↔ κ ∈ ptsOf E.joins C := by
  intro C
  induction C with
  | seq a b iha ihb =>
    have e1 : joinAt E b = joinJ E.joins b := rfl
    simp only [hasPt, ptsOf, Bool.or_eq_true, Bool.and_eq_true, beq_eq, iha, ihb, e1]
    by_cases h : joinJ E.joins b = true
    · rw [if_pos h]
      simp only [h, true_and, List.mem_cons, List.mem_append, or_assoc]
    · rw [if_neg h]
      simp [h]
  | cond _ a b iha ihb => simp only [hasPt, ptsOf, Bool.or_eq_true, iha, ihb, List.mem_append]
  | block _ a ih => exact ih
  | loop a ih => simp only [hasPt, ptsOf, Bool.or_eq_true, beq_eq, ih, List.mem_cons]
  | _ => simp [hasPt, ptsOf]
/-- What is left of the code from a point on comes to Q. -/
def wpAt (P : Program) (J : List Nat) (κ : Nat) : Code → (Exit → Act → World → Prop) → Act → World → Prop
  | .seq a b, Q => if joinJ J b && Nat.beq κ (2 * hid b) then b.wp P Q else if (ptsOf J a).any (Nat.beq κ) then wpAt P J κ a (Exit.then (b.wp P Q) Q) else wpAt P J κ b Q
  | .cond _ a b, Q => if (ptsOf J a).any (Nat.beq κ) then wpAt P J κ a Q else wpAt P J κ b Q
  | .block id a, Q => wpAt P J κ a (Exit.inBlock id Q)
  | .loop a, Q => if Nat.beq κ (2 * hid a + 1) then a.wp P (Exit.then (loopIn P a Q) Q) else wpAt P J κ a (Exit.then (loopIn P a Q) Q)
  | _, _ => fun _ _ => False
theorem any_beq {κ : Nat} {l : List Nat} : l.any (Nat.beq κ) = true ↔ κ ∈ l := by
  rw [List.any_eq_true]
  exact ⟨fun ⟨x, h1, h2⟩ => by rw [beq_eq.1 h2]; exact h1, fun h => ⟨κ, h, Nat.beq_refl κ⟩⟩
/-- Every destination is one of the frame's. -/
def dstsOk (n : Nat) : Code → Bool
  | .region _ ops _ => ops.toList.all fun o => match o.dst with | some d => Nat.blt d n | none => true
  | .seq a b => dstsOk n a && dstsOk n b
  | .cond _ a b => dstsOk n a && dstsOk n b
  | .block _ a => dstsOk n a
  | .loop a => dstsOk n a
  | _ => true
theorem dstsOk_region {n id : Nat} {ops : Array Oper} {draw : Bool} (h : dstsOk n (.region id ops draw) = true) (i : Nat) (o : Oper) (d : Nat) (ho : ops[i]? = some o) (hd : o.dst = some d) : d < n := by
  simp only [dstsOk, List.all_eq_true] at h
  have := h o (by rw [← Array.getElem?_toList] at ho; exact List.mem_of_getElem? ho)
  rw [hd] at this
  exact Nat.le_of_ble_eq_true this
theorem cond_eval (r : Rel c s a w) {x : Operand} {b : Bool} (h : (∃ pos p d, peek s none x = some (.prp pos p d) ∧ b = boolOf pos p d) ∨ ∃ o ln tg org, peek s none x = some (.val ⟨.bool, o, b, ln, tg⟩ org)) : a.eval x = .bool b := by
  obtain ⟨g, r⟩ := r
  rcases h with ⟨pos, p, d, h, rfl⟩ | ⟨o, ln, tg, org, h⟩
  · exact (peek_new r h).1
  · obtain ⟨h1, _, _, h4, _⟩ := peek_new r h
    obtain ⟨cs, e, k, _⟩ := h1.2 (h4 _ _ rfl).1
    rw [e]
    exact Rp.bool k (h4 _ _ rfl).2.1
variable {R : Type} {res : R} {lh : Nat → St → Option R}
theorem evC_sound (he : EnvOk2 P E) (hm : P.follows .mixedOrders = true) : ∀ {C : Code} {Q : Exit → Act → World → Prop} {k : Exit → St → Option R} {s : St} {a : Act} {w : World},
    dstsOk c.N C = true → (ptsOf E.joins C).Nodup → (∀ κ, κ ∈ ptsOf E.joins C → ∀ s a w, Rel c s a w → lh κ s = some res → wpAt P E.joins κ C Q a w) →
    (∀ e s a w, Rel c s a w → k e s = some res → Q e a w) → Rel c s a w → evC E lh C s k = some res → C.wp P Q a w := by
  intro C
  induction C with
  | skip => intro Q k s a w _ _ _ hk r h; exact _root_.Go.wp_skip (hk _ _ _ _ r h)
  | region id ops draw =>
    intro Q k s a w hd _ _ hk r h
    cases draw with
    | false => exact evRegion_wp he (dstsOk_region hd) r h (fun s' a' w' hr hk' => hk _ _ _ _ hr hk')
    | true => exact evRegion_any he hm (dstsOk_region hd) r h (fun s' a' w' hr hk' => hk _ _ _ _ hr hk')
  | seq x y ihx ihy =>
    intro Q k s a w hd hn hl hk r h
    simp only [dstsOk, Bool.and_eq_true] at hd
    refine wp_seq ?_
    simp only [evC, tif_eq] at h
    have hnx : (ptsOf E.joins x ++ ptsOf E.joins y).Nodup ∧ (joinJ E.joins y = true → 2 * hid y ∉ ptsOf E.joins x ++ ptsOf E.joins y) := by
      simp only [ptsOf] at hn
      split at hn
      · have := List.nodup_cons.1 hn; exact ⟨this.2, fun _ => this.1⟩
      · rename_i hj; exact ⟨hn, fun h => (hj h).elim⟩
    have hmem : ∀ κ, κ ∈ ptsOf E.joins x ∨ κ ∈ ptsOf E.joins y → κ ∈ ptsOf E.joins (x.seq y) := fun κ hκ => by
      simp only [ptsOf]
      split
      · exact List.mem_cons_of_mem _ (List.mem_append.2 hκ)
      · exact List.mem_append.2 hκ
    have hne : ∀ κ, κ ∈ ptsOf E.joins x ∨ κ ∈ ptsOf E.joins y → (joinJ E.joins y && Nat.beq κ (2 * hid y)) = false := fun κ hκ => by
      cases hb : (joinJ E.joins y && Nat.beq κ (2 * hid y)) with
      | false => rfl
      | true =>
        rw [Bool.and_eq_true] at hb
        have := beq_eq.1 hb.2
        subst this
        exact (hnx.2 hb.1 (List.mem_append.2 hκ)).elim
    have hdj := (List.nodup_append.1 hnx.1)
    refine ihx hd.1 hdj.1 (fun κ hκ s a w r hs => ?_) (fun e s' a' w' hr he' => ?_) r h
    · have := hl κ (hmem κ (.inl hκ)) s a w r hs
      rw [wpAt, hne κ (.inl hκ)] at this
      simp only [Bool.false_eq_true, if_false] at this
      rwa [if_pos (any_beq.2 hκ)] at this
    · cases e with
      | normal =>
        simp only [tif_eq] at he'
        show y.wp P Q a' w'
        split at he'
        · rename_i hj
          have hj : joinJ E.joins y = true := hj
          have := hl (2 * hid y) (by simp only [ptsOf, if_pos hj]; exact List.mem_cons_self) s' a' w' hr he'
          rw [wpAt, hj, Nat.beq_refl] at this
          exact this
        · refine ihy hd.2 hdj.2.1 (fun κ hκ s a w r hs => ?_) hk hr he'
          have := hl κ (hmem κ (.inr hκ)) s a w r hs
          rw [wpAt, hne κ (.inr hκ)] at this
          simp only [Bool.false_eq_true, if_false] at this
          rwa [if_neg (fun h => hdj.2.2 κ (any_beq.1 h) κ hκ rfl)] at this
      | _ => exact hk _ _ _ _ hr he'
  | cond x y z ihy ihz =>
    intro Q k s a w hd hn hl hk r h
    simp only [dstsOk, Bool.and_eq_true] at hd
    simp only [ptsOf] at hn
    have hdj := (List.nodup_append.1 hn)
    have hy : ∀ {s a w}, Rel c s a w → evC E lh y s k = some res → y.wp P Q a w := fun {s a w} r h => ihy hd.1 hdj.1 (fun κ hκ s a w r hs => by
      have := hl κ (by simp only [ptsOf]; exact List.mem_append.2 (.inl hκ)) s a w r hs
      rw [wpAt, if_pos (any_beq.2 hκ)] at this
      exact this) hk r h
    have hz : ∀ {s a w}, Rel c s a w → evC E lh z s k = some res → z.wp P Q a w := fun {s a w} r h => ihz hd.2 hdj.2.1 (fun κ hκ s a w r hs => by
      have := hl κ (by simp only [ptsOf]; exact List.mem_append.2 (.inr hκ)) s a w r hs
      rw [wpAt, if_neg (fun h => hdj.2.2 κ (any_beq.1 h) κ hκ rfl)] at this
      exact this) hk r h
    simp only [evC, tif_eq] at h
    split at h
    · rename_i pos p d hp
      have hc := cond_eval r (.inl ⟨pos, p, d, hp, rfl⟩)
      by_cases hpp : p
      · cases pos with
        | true =>
          simp only [if_pos hpp, if_true] at h
          exact wp_cond_true (by rw [hc]; simp [boolOf, hpp]) (hy r h)
        | false =>
          simp only [if_pos hpp, Bool.false_eq_true, if_false] at h
          exact wp_cond_false (by rw [hc]; simp [boolOf, hpp]) (hz r h)
      · cases pos with
        | true =>
          simp only [if_neg hpp, if_true] at h
          exact wp_cond_false (by rw [hc]; simp [boolOf, hpp]) (hz r h)
        | false =>
          simp only [if_neg hpp, Bool.false_eq_true, if_false] at h
          exact wp_cond_true (by rw [hc]; simp [boolOf, hpp]) (hy r h)
    · rename_i o b ln tg org hp
      have hc := cond_eval r (.inr ⟨o, ln, tg, org, hp⟩)
      cases b with
      | true => exact wp_cond_true hc (hy r (by simpa using h))
      | false => exact wp_cond_false hc (hz r (by simpa using h))
    · cases h
  | block id x ih =>
    intro Q k s a w hd hn hl hk r h
    refine wp_block ?_
    simp only [evC, tif_eq] at h
    refine ih hd hn (fun κ hκ s a w r hs => hl κ hκ s a w r hs) (fun e s' a' w' hr he' => ?_) r h
    cases e with
    | exit j =>
      simp only [tif_eq] at he'
      show if j = id then _ else _
      split at he'
      · rename_i hj
        rw [if_pos (beq_eq.1 hj)]
        exact hk _ _ _ _ hr he'
      · rename_i hj
        rw [if_neg (fun h => hj (beq_eq.2 h))]
        exact hk _ _ _ _ hr he'
    | _ => exact hk _ _ _ _ hr he'
  | loop x ih =>
    intro Q k s a w hd hn hl hk r h
    simp only [evC, tif_eq] at h
    have := hl (2 * hid x + 1) (by simp only [ptsOf]; exact List.mem_cons_self) s a w r h
    rw [wpAt, Nat.beq_refl] at this
    exact wp_loopB this
  | exit i => intro Q k s a w _ _ _ hk r h; exact wp_exit (hk _ _ _ _ r h)
  | ret => intro Q k s a w _ _ _ hk r h; exact wp_ret (hk _ _ _ _ r h)
  | _ => intro Q k s a w _ _ _ hk r h; cases h
theorem evAt_sound (he : EnvOk2 P E) (hm : P.follows .mixedOrders = true) {κ : Nat} : ∀ {C : Code} {Q : Exit → Act → World → Prop} {k : Exit → St → Option R} {s : St} {a : Act} {w : World},
    dstsOk c.N C = true → (ptsOf E.joins C).Nodup → (∀ κ, κ ∈ ptsOf E.joins C → ∀ s a w, Rel c s a w → lh κ s = some res → wpAt P E.joins κ C Q a w) →
    (∀ e s a w, Rel c s a w → k e s = some res → Q e a w) → Rel c s a w → evAt E lh κ C s k = some res → wpAt P E.joins κ C Q a w := by
  intro C
  induction C with
  | seq x y ihx ihy =>
    intro Q k s a w hd hn hl hk r h
    simp only [dstsOk, Bool.and_eq_true] at hd
    have hnx : (ptsOf E.joins x ++ ptsOf E.joins y).Nodup ∧ (joinJ E.joins y = true → 2 * hid y ∉ ptsOf E.joins x ++ ptsOf E.joins y) := by
      simp only [ptsOf] at hn
      split at hn
      · have := List.nodup_cons.1 hn; exact ⟨this.2, fun _ => this.1⟩
      · rename_i hj; exact ⟨hn, fun h => (hj h).elim⟩
    have hmem : ∀ κ, κ ∈ ptsOf E.joins x ∨ κ ∈ ptsOf E.joins y → κ ∈ ptsOf E.joins (x.seq y) := fun κ hκ => by
      simp only [ptsOf]
      split
      · exact List.mem_cons_of_mem _ (List.mem_append.2 hκ)
      · exact List.mem_append.2 hκ
    have hne : ∀ κ, κ ∈ ptsOf E.joins x ∨ κ ∈ ptsOf E.joins y → (joinJ E.joins y && Nat.beq κ (2 * hid y)) = false := fun κ hκ => by
      cases hb : (joinJ E.joins y && Nat.beq κ (2 * hid y)) with
      | false => rfl
      | true =>
        rw [Bool.and_eq_true] at hb
        have := beq_eq.1 hb.2
        subst this
        exact (hnx.2 hb.1 (List.mem_append.2 hκ)).elim
    have hdj := (List.nodup_append.1 hnx.1)
    have hly : ∀ κ, κ ∈ ptsOf E.joins y → ∀ s a w, Rel c s a w → lh κ s = some res → wpAt P E.joins κ y Q a w := fun κ hκ s a w r hs => by
      have := hl κ (hmem κ (.inr hκ)) s a w r hs
      rw [wpAt, hne κ (.inr hκ)] at this
      simp only [Bool.false_eq_true, if_false] at this
      rwa [if_neg (fun h => hdj.2.2 κ (any_beq.1 h) κ hκ rfl)] at this
    have hlx : ∀ κ, κ ∈ ptsOf E.joins x → ∀ s a w, Rel c s a w → lh κ s = some res → wpAt P E.joins κ x (Exit.then (y.wp P Q) Q) a w := fun κ hκ s a w r hs => by
      have := hl κ (hmem κ (.inl hκ)) s a w r hs
      rw [wpAt, hne κ (.inl hκ)] at this
      simp only [Bool.false_eq_true, if_false] at this
      rwa [if_pos (any_beq.2 hκ)] at this
    rw [evAt] at h
    simp only [tif_eq] at h
    rw [wpAt]
    have e1 : joinAt E y = joinJ E.joins y := rfl
    rw [e1] at h
    split at h
    · rename_i hc
      rw [if_pos hc]
      exact evC_sound he hm hd.2 hdj.2.1 hly hk r h
    · rename_i hc
      rw [if_neg hc]
      split at h
      · rename_i hx
        rw [if_pos (any_beq.2 (hasPt_iff.1 hx))]
        refine ihx hd.1 hdj.1 hlx (fun e s' a' w' hr he' => ?_) r h
        cases e with
        | normal =>
          simp only [tif_eq] at he'
          show y.wp P Q a' w'
          split at he'
          · rename_i hj
            have := hl (2 * hid y) (by simp only [ptsOf, if_pos hj]; exact List.mem_cons_self) s' a' w' hr he'
            rw [wpAt, hj, Nat.beq_refl] at this
            exact this
          · exact evC_sound he hm hd.2 hdj.2.1 hly hk hr he'
        | _ => exact hk _ _ _ _ hr he'
      · rename_i hx
        rw [if_neg (fun h => hx (hasPt_iff.2 (any_beq.1 h)))]
        exact ihy hd.2 hdj.2.1 hly hk r h
  | cond x y z ihy ihz =>
    intro Q k s a w hd hn hl hk r h
    simp only [dstsOk, Bool.and_eq_true] at hd
    simp only [ptsOf] at hn
    have hdj := (List.nodup_append.1 hn)
    rw [evAt] at h
    simp only [tif_eq] at h
    rw [wpAt]
    split at h
    · rename_i hx
      rw [if_pos (any_beq.2 (hasPt_iff.1 hx))]
      exact ihy hd.1 hdj.1 (fun κ hκ s a w r hs => by
        have := hl κ (by simp only [ptsOf]; exact List.mem_append.2 (.inl hκ)) s a w r hs
        rw [wpAt, if_pos (any_beq.2 hκ)] at this
        exact this) hk r h
    · rename_i hx
      rw [if_neg (fun h => hx (hasPt_iff.2 (any_beq.1 h)))]
      exact ihz hd.2 hdj.2.1 (fun κ hκ s a w r hs => by
        have := hl κ (by simp only [ptsOf]; exact List.mem_append.2 (.inr hκ)) s a w r hs
        rw [wpAt, if_neg (fun h => hdj.2.2 κ (any_beq.1 h) κ hκ rfl)] at this
        exact this) hk r h
  | block id x ih =>
    intro Q k s a w hd hn hl hk r h
    rw [evAt] at h
    simp only [tif_eq] at h
    rw [wpAt]
    refine ih hd hn (fun κ hκ s a w r hs => hl κ hκ s a w r hs) (fun e s' a' w' hr he' => ?_) r h
    cases e with
    | exit j =>
      simp only [tif_eq] at he'
      show if j = id then _ else _
      split at he'
      · rename_i hj
        rw [if_pos (beq_eq.1 hj)]
        exact hk _ _ _ _ hr he'
      · rename_i hj
        rw [if_neg (fun h => hj (beq_eq.2 h))]
        exact hk _ _ _ _ hr he'
    | _ => exact hk _ _ _ _ hr he'
  | loop x ih =>
    intro Q k s a w hd hn hl hk r h
    have hn' := hn
    simp only [ptsOf, List.nodup_cons] at hn'
    have hlx : ∀ κ, κ ∈ ptsOf E.joins x → ∀ s a w, Rel c s a w → lh κ s = some res → wpAt P E.joins κ x (Exit.then (loopIn P x Q) Q) a w := fun κ hκ s a w r hs => by
      have := hl κ (by simp only [ptsOf]; exact List.mem_cons_of_mem _ hκ) s a w r hs
      rw [wpAt, if_neg (fun h => by have := beq_eq.1 h; subst this; exact hn'.1 hκ)] at this
      exact this
    have hin : ∀ {s a w}, Rel c s a w → lh (2 * hid x + 1) s = some res → loopIn P x Q a w := fun {s a w} r hs => by
      have := hl _ (by simp only [ptsOf]; exact List.mem_cons_self) s a w r hs
      rw [wpAt, Nat.beq_refl] at this
      exact loopIn_body this
    rw [evAt] at h
    simp only [tif_eq] at h
    rw [wpAt]
    split at h
    · rename_i hκ
      rw [if_pos hκ]
      have hκ' := beq_eq.1 hκ
      refine evC_sound he hm hd hn'.2 hlx (fun e s' a' w' hr he' => ?_) r h
      cases e with
      | normal => simp only at he'; rw [hκ'] at he'; exact hin hr he'
      | _ => exact hk _ _ _ _ hr he'
    · rename_i hκ
      rw [if_neg hκ]
      refine ih hd hn'.2 hlx (fun e s' a' w' hr he' => ?_) r h
      cases e with
      | normal => simp only at he'; exact hin hr he'
      | _ => exact hk _ _ _ _ hr he'
  | _ => intro Q k s a w _ _ _ hk r h; cases h
end
end Go.OM

namespace Go.OM
open Go
section
variable {c : Ctx} {g : Ghost} {s : St} {a : Act} {w : World} {P : Program} {E : Env}
/-- Nothing is lent from a place to itself; an address leads to a place that is known too. -/
def slotsOk (all : List Loc) : List Slot → Bool
  | [] => true
  | .v l _ _ lend _ :: r => !lend.any (Nat.beq l) && slotsOk all r
  | .r _ l' p _ :: r => all.any (Nat.beq l') && p.flat && slotsOk all r
def SlotV (s : St) (all : List Loc) (l : Loc) (X : Cell) : Prop := ∃ (t : Ty) (o : Ow) (x : t.den) (lend : List Loc) (tag : Nat) (W : V), X = ⟨.val ⟨t, o, x, lend.map fun e => (e, 0), tag⟩ none, 0, 0⟩ ∧ l ∉ lend ∧
  T.val? (s l).t = some W ∧ (∃ e : W.t = t, x = e ▸ W.x) ∧ W.o.le o = true ∧ validL s W.lend = true ∧ (∀ e ∈ W.lend, e.1 ∈ lend ∨ e.1 ∉ all) ∧ (tag = 0 ∨ tag = W.tag)
def SlotR (s : St) (all : List Loc) (l : Loc) (X : Cell) : Prop := ∃ (l' : Loc) (p : Path) (t : Ty) (v hv iv : Nat), X = ⟨.ref l' p 0 0 0 t, 0, 0⟩ ∧ l' ∈ all ∧ p.flat = true ∧ (s l).t = .ref l' p v hv iv t ∧ validR s l' p v hv iv = true
theorem unproj_spec {all : List Loc} : ∀ {sl : List Slot} {x : denS sl}, slotsOk all sl = true → proj all sl s = some x → ∀ l, (unproj sl x l = noCell ∧ l ∉ slotLocs sl) ∨ (SlotV s all l (unproj sl x l) ∧ l ∈ slotLocs sl) ∨ (SlotR s all l (unproj sl x l)) := by
  intro sl
  induction sl with
  | nil => intro x _ h l; exact .inl ⟨rfl, by simp [slotLocs]⟩
  | cons e sl ih =>
    intro x hok h l
    cases e with
    | v m t o lend tag =>
      simp only [slotsOk, Bool.and_eq_true, Bool.not_eq_true'] at hok
      simp only [proj] at h
      split at h
      case h_2 => cases h
      rename_i W hW
      split at h
      case isFalse => cases h
      rename_i hc
      split at h
      case h_2 => cases h
      rename_i y z hy hz
      cases h
      simp only [Bool.and_eq_true, Bool.or_eq_true, List.all_eq_true, beq_eq, Bool.not_eq_true'] at hc
      by_cases hl : l = m
      · subst hl
        refine .inr (.inl ⟨?_, by simp [slotLocs]⟩)
        refine ⟨t, o, y, lend, tag, W, by simp only [unproj, upd_self], fun hm => ?_, hW, ?_, hc.1.1.1, hc.1.1.2, fun e he => ?_, hc.2⟩
        · have := any_beq.2 hm; rw [hok.1] at this; cases this
        · obtain ⟨e, he⟩ := castT_some hy
          exact ⟨e, he⟩
        · refine (hc.1.2 e he).imp any_beq.1 (fun h hm => ?_)
          have := any_beq.2 hm; rw [h] at this; cases this
      · rcases ih hok.2 hz l with ⟨h1, h2⟩ | ⟨h1, h2⟩ | h1
        · exact .inl ⟨by simp only [unproj, upd_ne hl]; exact h1, by simp only [slotLocs, List.mem_cons, not_or]; exact ⟨hl, h2⟩⟩
        · exact .inr (.inl ⟨by simp only [unproj, upd_ne hl]; exact h1, by simp only [slotLocs, List.mem_cons]; exact .inr h2⟩)
        · exact .inr (.inr (by simp only [unproj, upd_ne hl]; exact h1))
    | r m l' p t =>
      simp only [slotsOk, Bool.and_eq_true] at hok
      simp only [proj] at h
      split at h
      case h_2 => cases h
      rename_i m' q v hv iv t' ht
      split at h
      case isFalse => cases h
      rename_i hc
      simp only [Bool.and_eq_true, beq_eq, decide_eq_true_eq] at hc
      obtain ⟨⟨⟨rfl, hc2⟩, rfl⟩, rfl⟩ := hc
      by_cases hl : l = m
      · subst hl
        refine .inr (.inr ⟨m', q, t', v, hv, iv, by simp only [unproj, upd_self], any_beq.1 hok.1.1, hok.1.2, ht, hc2⟩)
      · rcases ih hok.2 h l with ⟨h1, h2⟩ | ⟨h1, h2⟩ | h1
        · exact .inl ⟨by simp only [unproj, upd_ne hl]; exact h1, h2⟩
        · exact .inr (.inl ⟨by simp only [unproj, upd_ne hl]; exact h1, h2⟩)
        · exact .inr (.inr (by simp only [unproj, upd_ne hl]; exact h1))
/-- What a place that reads as a value holds. -/
theorem held_val (r : RelG c g s a w) {l : Loc} {W : V} (hW : T.val? (s l).t = some W) (hv : validL s W.lend = true) :
    ∃ cs Oc, Cells g a w l cs ∧ (l % 4 ≠ 1 → valAt g a l = some (mkV W.t cs)) ∧ Rp w (Sof g W.lend) W.t W.o W.x cs Oc ∧ (W.tag ≠ 0 → cs = c.tags W.tag) ∧ (∀ b, Oc b → g.O l b ∧ (l % 4 = 1 → b ≠ g.Bk l)) ∧ (l % 4 = 1 → ∃ org, (s l).t = .val W org) := by
  have t := r.toks l
  cases ht : (s l).t with
  | val V org =>
    rw [ht] at t hW
    cases hW
    obtain ⟨cs, Oc, k1, k2, ⟨k3, k4, _⟩, k5⟩ := t hv
    exact ⟨cs, Oc, k1, k2, k3, k4, k5, fun _ => ⟨org, rfl⟩⟩
  | prp pos p d =>
    rw [ht] at t hW
    cases hW
    have t : valAt g a l = some (.bool (boolOf pos p d)) := t
    have h4 : l % 4 ≠ 1 := fun h4 => by
      unfold valAt at t
      rw [if_neg (by rw [h4]; decide), if_neg (by rw [h4]; decide)] at t
      cases t
    exact ⟨[.bool (boolOf pos p d)], fun _ => False, by unfold Cells; rw [if_neg h4]; exact ⟨_, t, rfl⟩, fun _ => t, rfl, fun h => (h rfl).elim, fun _ h => h.elim, fun h => (h4 h).elim⟩
  | _ => rw [ht] at hW; cases hW
theorem unproj_rel {sl : List Slot} {x : denS sl} (hok : slotsOk (slotLocs sl) sl = true) (h : proj (slotLocs sl) sl s = some x) (r : Rel c s a w) : Rel c (unproj sl x) a w := by
  obtain ⟨g, r⟩ := r
  have sp := unproj_spec hok h
  -- what each place keeps, what it gives up
  have pick : ∀ l, ∃ F : Nat → Prop, (∀ b, F b → g.O l b ∧ l ∈ slotLocs sl) ∧ ∀ (t : Ty) (o : Ow) (y : t.den) (lend : List Loc) (tag : Nat) (W : V), unproj sl x l = ⟨.val ⟨t, o, y, lend.map fun e => (e, 0), tag⟩ none, 0, 0⟩ → T.val? (s l).t = some W → (∃ e : W.t = t, y = e ▸ W.x) → W.o.le o = true → validL s W.lend = true → (tag = 0 ∨ tag = W.tag) →
      ∃ cs Oc', Cells g a w l cs ∧ (l % 4 ≠ 1 → valAt g a l = some (mkV t cs)) ∧ (∀ b, Oc' b → F b ∧ (l % 4 = 1 → b ≠ g.Bk l)) ∧ (l % 4 = 1 → F (g.Bk l) ∧ ∃ org, (s l).t = .val W org) ∧ (tag ≠ 0 → cs = c.tags tag) ∧
        Rp w (fun b => Sof g W.lend b ∨ (g.O l b ∧ ¬ F b)) t o y cs Oc' := by
    intro l
    by_cases hsv : SlotV s (slotLocs sl) l (unproj sl x l)
    · obtain ⟨t, o, y, lend, tag, W, e1, e2, e3, ⟨rfl, rfl⟩, e5, e6, e7, e8⟩ := hsv
      obtain ⟨cs, Oc, k1, k2, k3, k4, k5, k6⟩ := held_val r e3 e6
      obtain ⟨O', F0, m1, m2, m3, m4⟩ := k3.le e5
      have hl : l ∈ slotLocs sl := by
        rcases sp l with ⟨h1, _⟩ | ⟨_, h2⟩ | ⟨l', p, t, v, hv, iv, h1, _⟩
        · rw [e1] at h1; cases h1
        · exact h2
        · rw [e1] at h1; cases h1
      refine ⟨fun b => O' b ∨ (l % 4 = 1 ∧ b = g.Bk l), ?_, ?_⟩
      · rintro b (hb | ⟨h4, rfl⟩)
        · exact ⟨(k5 b (m1 b hb)).1, hl⟩
        · obtain ⟨org, ht⟩ := k6 h4
          exact ⟨(r.boxes l W org h4 ht).1, hl⟩
      · intro t' o' y' lend' tag' W' f1 f2 f3 f4 f5 f6
        rw [e1] at f1
        rw [e3] at f2
        cases f2
        simp only [Cell.mk.injEq, T.val.injEq, V.mk.injEq] at f1
        obtain ⟨⟨⟨rfl, rfl, f1, _, rfl⟩, _⟩, _⟩ := f1
        have f1 := eq_of_heq f1
        subst f1
        refine ⟨cs, O', k1, k2, fun b hb => ⟨.inl hb, (k5 b (m1 b hb)).2⟩, fun h4 => ⟨.inr ⟨h4, rfl⟩, k6 h4⟩, fun ht => ?_, m4.mono (fun b hb => hb.imp (fun h => h) (fun hb => ?_)) (fun _ h => h)⟩
        · rcases e8 with e8 | e8
          · exact (ht e8).elim
          · rw [e8] at ht ⊢; exact k4 ht
        · have := k5 b (m2 b hb)
          refine ⟨this.1, ?_⟩
          rintro (h1 | ⟨h4, h1⟩)
          · exact m3 b h1 hb
          · exact this.2 h4 h1
    · refine ⟨fun _ => False, fun _ h => h.elim, ?_⟩
      intro t o y lend tag W f1 f2 f3 f4 f5 f6
      exfalso
      rcases sp l with ⟨h1, _⟩ | ⟨h1, _⟩ | ⟨l', p, t, v, hv, iv, h1, _⟩
      · rw [f1] at h1; cases h1
      · exact hsv h1
      · rw [f1] at h1; cases h1
  obtain ⟨F, hF⟩ := Classical.axiomOfChoice pick
  let g' : Ghost := { g with G := fun b => g.G b ∨ ∃ l, g.O l b ∧ ¬ F l b, O := F }
  have hcells : ∀ {l cs}, Cells g a w l cs → Cells g' a w l cs := fun {l cs} h => h
  have sof : ∀ {l : Loc} {t : Ty} {o : Ow} {y : t.den} {lend : List Loc} {tag : Nat} {W : V}, unproj sl x l = ⟨.val ⟨t, o, y, lend.map fun e => (e, 0), tag⟩ none, 0, 0⟩ → (∀ e ∈ W.lend, e.1 ∈ lend ∨ e.1 ∉ slotLocs sl) → ∀ b, (Sof g W.lend b ∨ (g.O l b ∧ ¬ F l b)) → Sof g' (lend.map fun e => (e, 0)) b := by
    intro l t o y lend tag W h1 h2 b hb
    rcases hb with (hb | ⟨e, he, hb⟩) | hb
    · exact .inl (.inl hb)
    · by_cases hf : F e.1 b
      · rcases h2 e he with h | h
        · exact .inr ⟨(e.1, 0), List.mem_map.2 ⟨e.1, h, rfl⟩, hf⟩
        · exact (h ((hF e.1).1 b hf).2).elim
      · exact .inl (.inr ⟨e.1, hb, hf⟩)
    · exact .inl (.inr ⟨l, hb⟩)
  have ver : ∀ l, (unproj sl x l).v = 0 ∧ (unproj sl x l).hv = 0 := fun l => by
    rcases sp l with ⟨h1, _⟩ | ⟨⟨_, _, _, _, _, _, h1, _⟩, _⟩ | ⟨_, _, _, _, _, _, h1, _⟩ <;> rw [h1] <;> exact ⟨rfl, rfl⟩
  refine ⟨g', ?_, ?_, ?_, ?_, ?_, r.fr, r.defs, r.size, ?_, ?_, ?_, fun b hb => hb.elim (r.gin b) (fun ⟨l, h, _⟩ => (r.own l b h).2.elim .inl (fun h => .inr (.inl h))), r.bks⟩
  · exact fun l m b h1 h2 => r.disj l m b ((hF l).1 b h1).1 ((hF m).1 b h2).1
  · rintro l b h1 (h2 | ⟨m, h2, h3⟩)
    · exact r.ownG l b ((hF l).1 b h1).1 h2
    · have := r.disj l m b ((hF l).1 b h1).1 h2
      subst this; exact h3 h1
  · exact fun l b h => r.own l b ((hF l).1 b h).1
  · rintro b (h | ⟨m, h, _⟩)
    · exact r.gsz b h
    · exact (r.own m b h).1
  · intro l V org h4 ht
    rcases sp l with ⟨h1, _⟩ | ⟨⟨t, o, y, lend, tag, W, e1, e2, e3, e4, e5, e6, e7, e8⟩, _⟩ | ⟨_, _, _, _, _, _, h1, _⟩
    · rw [h1] at ht; cases ht
    · rw [e1] at ht
      cases ht
      obtain ⟨cs, Oc', k1, k2, k3, k4, k5, k6⟩ := (hF l).2 t o y lend tag W e1 e3 e4 e5 e6 e8
      obtain ⟨q1, org, q2⟩ := k4 h4
      refine ⟨q1, ?_⟩
      have := (r.boxes l W org h4 q2).2
      rw [e4.1] at this
      exact this
    · rw [h1] at ht; cases ht
  · intro l
    rcases sp l with ⟨h1, _⟩ | ⟨⟨t, o, y, lend, tag, W, e1, _⟩, _⟩ | ⟨_, _, _, _, _, _, h1, _⟩
    · rw [h1]; trivial
    · rw [e1]
      refine ⟨fun e he => ?_, trivial⟩
      obtain ⟨m, _, rfl⟩ := List.mem_map.1 he
      exact Nat.zero_le _
    · rw [h1]; exact ⟨Nat.zero_le _, Nat.zero_le _, Nat.zero_le _⟩
  · intro l
    rcases sp l with ⟨h1, _⟩ | ⟨⟨t, o, y, lend, tag, W, e1, e2, _⟩, _⟩ | ⟨_, _, _, _, _, _, h1, _⟩
    · rw [h1]; trivial
    · rw [e1]
      intro e he hel
      obtain ⟨m, hm, rfl⟩ := List.mem_map.1 he
      subst hel
      exact (e2 hm).elim
    · rw [h1]; trivial
  · intro l
    rcases sp l with ⟨h1, _⟩ | ⟨⟨t, o, y, lend, tag, W, e1, e2, e3, e4, e5, e6, e7, e8⟩, _⟩ | ⟨l', p, t, v, hv, iv, h1, h2, h3, h4, h5⟩
    · rw [h1]; trivial
    · rw [e1]
      intro _
      obtain ⟨cs, Oc', k1, k2, k3, k4, k5, k6⟩ := (hF l).2 t o y lend tag W e1 e3 e4 e5 e6 e8
      exact ⟨cs, Oc', k1, k2, ⟨k6.mono (sof e1 e7) (fun _ h => h), k5, trivial⟩, k3⟩
    · rw [h1]
      intro _
      have t := r.toks l
      rw [h4] at t
      obtain ⟨b, off, cs, V', org', ⟨m1, m6⟩, m2, m3, m4, m5⟩ := t h5
      rcases sp l' with ⟨_, q2⟩ | ⟨⟨t2, o, y, lend, tag, W, e1, e2, e3, ⟨e4, _⟩, e5, e6, e7, e8⟩, _⟩ | ⟨l2, p2, t2, _, _, _, _, _, _, q4, _⟩
      · exact (q2 h2).elim
      · rw [m1] at e3
        cases e3
        refine ⟨b, off, cs, _, none, ⟨by rw [e1], ?_⟩, m2, ?_, ?_, m5⟩
        · show getT t2 p = some _
          rw [← e4]; exact m6
        · show cs.length = t2.size
          rw [← e4]; exact m3
        · show NavA w (g'.O l') t2 _ _ _ _ _
          rw [← e4]; exact NavA.flat_any h3 m4
      · rw [m1] at q4; cases q4
end
end Go.OM

namespace Go.OM
open Go
section
variable {c : Ctx} {g : Ghost} {s : St} {a : Act} {w : World} {P : Program} {E : Env}
def cellT : (p : PM) → p.ty.den → Nat → Cell
  | .fz t, y, _ => ⟨.val ⟨t, .z, y, [], 0⟩ none, 0, 0⟩
  | .own t o, y, _ => ⟨.val ⟨t, o, y, [], 0⟩ none, 0, 0⟩
  | .mut t o, y, i => ⟨.val ⟨t, o, y, [], i + 1⟩ none, 0, 0⟩
  | .ptr t _ _, _, i => ⟨.ref (pb i) [] 0 0 0 t, 0, 0⟩
def cellB : (p : PM) → p.ty.den → Cell
  | .ptr t o _, y => ⟨.val ⟨t, o, y, [], 0⟩ none, 0, 0⟩
  | _, _ => noCell
def PM.isPtr : PM → Bool
  | .ptr .. => true | _ => false
theorem tm_inj {i j : Nat} (h : tm i = tm j) : i = j := by have h : (4 * i : Nat) = 4 * j := h; omega
theorem pb_inj {i j : Nat} (h : pb i = pb j) : i = j := by have h : (4 * (9000 + i) + 1 : Nat) = 4 * (9000 + j) + 1 := h; omega
theorem tm_pb {i j : Nat} : tm i ≠ pb j := by intro h; have h : (4 * i : Nat) = 4 * (9000 + j) + 1 := h; omega
theorem start_get {S : Nat → Prop} : ∀ {pms : List PM} {i0 : Nat} {x : denI pms} {args : List Value} {Os : Nat → Nat → Prop} {j : Nat} {p : PM}, ArgsOk w S pms x args Os → pms[j]? = some p →
    ∃ y v, args[j]? = some v ∧ ArgOk w S p y v (Os j) ∧ start pms i0 x (tm (i0 + j)) = cellT p y (i0 + j) ∧ start pms i0 x (pb (i0 + j)) = cellB p y := by
  intro pms
  induction pms with
  | nil => intro i0 x args Os j p _ h; simp at h
  | cons q pms ih =>
    intro i0 x args Os j p h hj
    cases args with
    | nil => exact h.elim
    | cons v args =>
      obtain ⟨h1, h2⟩ := h
      cases j with
      | zero =>
        simp only [List.getElem?_cons_zero, Option.some.injEq] at hj
        subst hj
        refine ⟨x.1, v, rfl, h1, ?_, ?_⟩
        · cases q <;> simp only [start, Nat.add_zero, cellT]
          · exact upd_self
          · exact upd_self
          · exact upd_self
          · rw [upd_ne tm_pb]; exact upd_self
        · have hb : ∀ {r : List PM} {i : Nat} {x : denI r} {k : Nat}, k < i → start r i x (pb k) = noCell := by
            intro r
            induction r with
            | nil => intros; rfl
            | cons q r ihr =>
              intro i x k hk
              cases q <;> simp only [start]
              · rw [upd_ne (fun h => tm_pb h.symm)]; exact ihr (by omega)
              · rw [upd_ne (fun h => tm_pb h.symm)]; exact ihr (by omega)
              · rw [upd_ne (fun h => tm_pb h.symm)]; exact ihr (by omega)
              · rw [upd_ne (fun h => by have := pb_inj h; omega), upd_ne (fun h => tm_pb h.symm)]; exact ihr (by omega)
          cases q <;> simp only [start, Nat.add_zero, cellB]
          · rw [upd_ne (fun h => tm_pb h.symm)]; exact hb (by omega)
          · rw [upd_ne (fun h => tm_pb h.symm)]; exact hb (by omega)
          · rw [upd_ne (fun h => tm_pb h.symm)]; exact hb (by omega)
          · exact upd_self
      | succ j =>
        rw [List.getElem?_cons_succ] at hj
        obtain ⟨y, v', k1, k2, k3, k4⟩ := ih (i0 := i0 + 1) h2 hj
        rw [show i0 + 1 + j = i0 + (j + 1) by omega] at k3 k4
        refine ⟨y, v', by simpa using k1, k2, ?_, ?_⟩
        · rw [← k3]
          have ht : tm (i0 + (j + 1)) ≠ tm i0 := fun h => by have := tm_inj h; omega
          cases q <;> simp only [start]
          · exact upd_ne ht
          · exact upd_ne ht
          · exact upd_ne ht
          · rw [upd_ne tm_pb, upd_ne ht]
        · rw [← k4]
          have ht : pb (i0 + (j + 1)) ≠ pb i0 := fun h => by have := pb_inj h; omega
          cases q <;> simp only [start]
          · exact upd_ne (fun h => tm_pb h.symm)
          · exact upd_ne (fun h => tm_pb h.symm)
          · exact upd_ne (fun h => tm_pb h.symm)
          · rw [upd_ne ht, upd_ne (fun h => tm_pb h.symm)]
theorem start_off {l : Loc} : ∀ {pms : List PM} {i0 : Nat} {x : denI pms}, (∀ j, j < pms.length → l ≠ tm (i0 + j) ∧ l ≠ pb (i0 + j)) → start pms i0 x l = noCell := by
  intro pms
  induction pms with
  | nil => intros; rfl
  | cons q pms ih =>
    intro i0 x h
    have h0 := h 0 (by simp)
    rw [Nat.add_zero] at h0
    have := ih (i0 := i0 + 1) (x := x.2) (fun j hj => by
      have := h (j + 1) (by simpa using hj)
      rwa [show i0 + (j + 1) = i0 + 1 + j by omega] at this)
    cases q <;> simp only [start]
    · rw [upd_ne h0.1]; exact this
    · rw [upd_ne h0.1]; exact this
    · rw [upd_ne h0.1]; exact this
    · rw [upd_ne h0.2, upd_ne h0.1]; exact this
theorem ArgsOk.length {S : Nat → Prop} : ∀ {pms : List PM} {x : denI pms} {args : List Value} {Os : Nat → Nat → Prop}, ArgsOk w S pms x args Os → args.length = pms.length := by
  intro pms
  induction pms with
  | nil => intro x args Os h; cases args with
    | nil => rfl
    | cons _ _ => exact h.elim
  | cons p pms ih => intro x args Os h; cases args with
    | nil => exact h.elim
    | cons v args => simp [ih h.2]
/-- The frame's begin. -/
def beginAct (n : Nat) (args : List Value) : Act := { tmps := args.toArray ++ Array.replicate (n - args.toArray.size) undef, defers := [] }
def ptrBk (args : List Value) (i : Nat) : Nat := match args[i]? with | some (.pointer (some ⟨b, _, _⟩)) => b | _ => 0
def beginCtx (n : Nat) (args : List Value) (w : World) (S : Nat → Prop) (Os : Nat → Nat → Prop) : Ctx where
  base := w.heap.size
  M := fun b => ∃ i, Os i b
  w0 := w
  tags := fun t => ((args[t - 1]?).map fun v => v.cells.toList).getD []
  N := n
  S := S
  bk := fun l => if l % 4 = 1 ∧ n ≤ l / 4 ∧ 9000 ≤ l / 4 ∧ l / 4 < 10000 then some (ptrBk args (l / 4 - 9000)) else none
  bkN := fun d hd => by
    refine if_neg (fun h => ?_)
    have e : bx d / 4 = d := by show (4 * d + 1 : Nat) / 4 = d; omega
    rw [e] at h
    obtain ⟨_, h1, _, h3⟩ := h
    have h1 : (n : Nat) ≤ d := h1
    have h3 : (d : Nat) < 10000 := h3
    omega
def argPtr (pms : List PM) (i : Nat) : Bool := ((pms[i]?).map PM.isPtr).getD false
def argIx (l : Loc) : Nat := if l % 4 = 1 then l / 4 - 9000 else l / 4
def beginG (pms : List PM) (args : List Value) (S : Nat → Prop) (Os : Nat → Nat → Prop) : Ghost :=
  ⟨S, fun l b => ((l % 4 = 0 ∧ argPtr pms (argIx l) = false) ∨ (l % 4 = 1 ∧ 9000 ≤ l / 4 ∧ argPtr pms (argIx l) = true)) ∧ Os (argIx l) b, fun l => ptrBk args (l / 4 - 9000), fun _ => undef⟩
theorem start_rel {S : Nat → Prop} {pms : List PM} {x : denI pms} {args : List Value} {Os : Nat → Nat → Prop} {n : Nat} (hn : pms.length ≤ n) (h : ArgsOk w S pms x args Os) (ha : Apart S w.heap.size Os) :
    RelG (beginCtx n args w S Os) (beginG pms args S Os) (start pms 0 x) (beginAct n args) w := by
  have hlen := h.length
  have sp : ∀ l, (start pms 0 x l = noCell) ∨ (∃ j p y v, l = tm j ∧ pms[j]? = some p ∧ args[j]? = some v ∧ ArgOk w S p y v (Os j) ∧ start pms 0 x l = cellT p y j ∧ start pms 0 x (pb j) = cellB p y) ∨
      (∃ j p y v, l = pb j ∧ pms[j]? = some p ∧ args[j]? = some v ∧ ArgOk w S p y v (Os j) ∧ start pms 0 x l = cellB p y) := by
    intro l
    by_cases hl : ∃ j, j < pms.length ∧ (l = tm j ∨ l = pb j)
    · obtain ⟨j, hj, hl⟩ := hl
      have hp : pms[j]? = some pms[j] := List.getElem?_eq_getElem hj
      obtain ⟨y, v, k1, k2, k3, k4⟩ := start_get (i0 := 0) h hp
      rw [Nat.zero_add] at k3 k4
      rcases hl with rfl | rfl
      · exact .inr (.inl ⟨j, _, y, v, rfl, hp, k1, k2, k3, k4⟩)
      · exact .inr (.inr ⟨j, _, y, v, rfl, hp, k1, k2, k4⟩)
    · refine .inl (start_off (fun j hj => ⟨fun e => hl ⟨j, hj, .inl (by rw [e, Nat.zero_add])⟩, fun e => hl ⟨j, hj, .inr (by rw [e, Nat.zero_add])⟩⟩))
  have hvalT : ∀ {j v}, args[j]? = some v → valAt (beginG pms args S Os) (beginAct n args) (tm j) = some v := fun {j v} hj => by
    rw [valAt_tm]
    show (args.toArray ++ _)[j]? = some v
    have : j < args.length := (List.getElem?_eq_some_iff.1 hj).1
    rw [Array.getElem?_append_left (by simpa using this)]
    simpa using hj
  have hO : ∀ l b, (beginG pms args S Os).O l b → Os (argIx l) b := fun l b h => h.2
  have hb4 : ∀ j, pb j % 4 = 1 := fun j => Nat.mul_add_mod 4 (9000 + j) 1
  have hbd : ∀ j, pb j / 4 - 9000 = j := fun j => by show (4 * (9000 + j) + 1 : Nat) / 4 - 9000 = j; omega
  have ht4 : ∀ j, tm j % 4 = 0 := tm_mod
  have htd : ∀ j, argIx (tm j) = j := fun j => by unfold argIx; rw [if_neg (tm_ne j)]; exact tm_div j
  have hbi : ∀ j, argIx (pb j) = j := fun j => by unfold argIx; rw [if_pos (hb4 j)]; exact hbd j
  have hb9 : ∀ j, 9000 ≤ pb j / 4 := fun j => by show 9000 ≤ (4 * (9000 + j) + 1 : Nat) / 4; omega
  refine ⟨?_, ?_, ?_, ?_, ?_, ⟨Grow.refl w, Nat.le_refl _, fun _ _ _ => rfl⟩, rfl, ?_, ?_, ?_, ?_, fun b hb => .inr (.inr hb), fun l b h => ?_⟩
  · intro l l' b h1 h2
    have dm : ∀ m n : Nat, m / 4 = n / 4 → m % 4 = n % 4 → m = n := fun m n h k => by omega
    have e : argIx l = argIx l' := by
      by_cases he : argIx l = argIx l'
      · exact he
      · exact (ha.disj _ _ b he h1.2 h2.2).elim
    rcases h1.1 with ⟨m1, q1⟩ | ⟨m1, m1', q1⟩ <;> rcases h2.1 with ⟨m2, q2⟩ | ⟨m2, m2', q2⟩
    · simp only [argIx, m1, m2, Nat.zero_ne_one, if_false] at e
      exact dm l l' e (m1.trans m2.symm)
    · rw [e, q2] at q1; cases q1
    · rw [e, q2] at q1; cases q1
    · simp only [argIx, m1, m2, if_true] at e
      have h1 : (9000 : Nat) ≤ l / 4 := m1'
      have h2 : (9000 : Nat) ≤ l' / 4 := m2'
      have h3 : (l / 4 - 9000 : Nat) = l' / 4 - 9000 := e
      exact dm l l' (by omega) (m1.trans m2.symm)
  · exact fun l b h1 h2 => ha.noS _ b h1.2 h2
  · exact fun l b h1 => ⟨ha.lt _ b h1.2, .inr ⟨_, h1.2⟩⟩
  · exact fun b hb => ha.ltS b hb
  · intro l V org h4 ht
    rcases sp l with h1 | ⟨j, p, y, v, rfl, _⟩ | ⟨j, p, y, v, rfl, h2, h3, h5, h6⟩
    · rw [h1] at ht; cases ht
    · rw [ht4] at h4; cases h4
    · rw [h6] at ht
      cases p with
      | ptr t o o' =>
        simp only [cellB, T.val.injEq] at ht
        obtain ⟨b, cs, Oc, q1, q2, q3, q4, q5, q6⟩ := h5
        obtain ⟨rfl, _⟩ := ht
        subst q1
        have hBk : (beginG pms args S Os).Bk (pb j) = b := by
          show ptrBk args (pb j / 4 - 9000) = b
          rw [hbd, ptrBk, h3]
        rw [hBk]
        refine ⟨⟨.inr ⟨h4, hb9 j, ?_⟩, ?_⟩, q2⟩
        · rw [hbi, argPtr, h2]; rfl
        · rw [hbi]; exact q5
      | _ => cases ht
  · show (args.toArray ++ Array.replicate (n - args.toArray.size) undef).size = n
    simp; omega
  · intro l
    rcases sp l with h1 | ⟨j, p, y, v, rfl, h2, h3, h5, h6, _⟩ | ⟨j, p, y, v, rfl, h2, h3, h5, h6⟩
    · rw [h1]; trivial
    · rw [h6]
      cases p with
      | ptr t o o' => exact ⟨Nat.zero_le _, Nat.zero_le _, Nat.zero_le _⟩
      | _ => exact ⟨fun e he => (by cases he), trivial⟩
    · rw [h6]
      cases p with
      | ptr t o o' => exact ⟨fun e he => (by cases he), trivial⟩
      | _ => trivial
  · intro l
    rcases sp l with h1 | ⟨j, p, y, v, rfl, h2, h3, h5, h6, _⟩ | ⟨j, p, y, v, rfl, h2, h3, h5, h6⟩
    · rw [h1]; trivial
    · rw [h6]
      cases p with
      | ptr t o o' => trivial
      | _ => exact fun e he => by cases he
    · rw [h6]
      cases p with
      | ptr t o o' => exact fun e he => by cases he
      | _ => trivial
  · have val : ∀ {j p v t o} {y : t.den} {tag : Nat} {Oc : Nat → Prop}, pms[j]? = some p → p.isPtr = false → args[j]? = some v → (∃ cs, v = mkV t cs ∧ Rp w S t o y cs Oc) → (∀ b, Oc b → Os j b) → (tag = 0 ∨ tag = j + 1) →
        TOk (beginCtx n args w S Os) (beginG pms args S Os) (start pms 0 x) (beginAct n args) w (tm j) (.val ⟨t, o, y, [], tag⟩ none) := by
      rintro j p v t o y tag Oc hp hip hv ⟨cs, rfl, hr⟩ hsub htag _
      have hc := hr.cells
      refine ⟨cs, Oc, ?_, fun _ => hvalT hv, ⟨hr.mono (fun b hb => .inl hb) (fun _ h => h), fun hne => ?_, trivial⟩, fun b hb => ⟨⟨.inl ⟨ht4 j, ?_⟩, ?_⟩, fun h => by rw [ht4] at h; cases h⟩⟩
      · unfold Cells; rw [if_neg (tm_ne j)]; exact ⟨_, hvalT hv, hc⟩
      · rcases htag with rfl | rfl
        · exact (hne rfl).elim
        · show cs = ((args[j + 1 - 1]?).map fun v => v.cells.toList).getD []
          rw [Nat.add_sub_cancel, hv]
          exact hc.symm
      · rw [htd, argPtr, hp]; exact hip
      · rw [htd]; exact hsub b hb
    intro l
    rcases sp l with h1 | ⟨j, p, y, v, rfl, h2, h3, h5, h6, h7⟩ | ⟨j, p, y, v, rfl, h2, h3, h5, h6⟩
    · rw [h1]; trivial
    · rw [h6]
      cases p with
      | fz t => exact val h2 rfl h3 h5 (fun _ h => h.elim) (.inl rfl)
      | own t o => exact val h2 rfl h3 h5 (fun _ h => h) (.inl rfl)
      | «mut» t o => exact val h2 rfl h3 h5 (fun _ h => h) (.inr rfl)
      | ptr t o o' =>
        intro _
        obtain ⟨b, cs, Oc, q1, q2, ⟨ca, e, f, q3, q4⟩, q5, q6, q7⟩ := h5
        subst q1
        have hBk : (beginG pms args S Os).Bk (pb j) = b := by
          show ptrBk args (pb j / 4 - 9000) = b
          rw [hbd, ptrBk, h3]
        refine ⟨b, 0, cs, _, none, ⟨by rw [h7]; rfl, by simp [getT]⟩, ?_, q5.len, ?_, hvalT h3⟩
        · unfold Cells
          rw [if_pos (hb4 j), hBk]
          exact ⟨ca, e, f, q3, q4⟩
        · have : baseOf (beginG pms args S Os) (pb j) = some (b, 0) := by
            unfold baseOf; rw [if_pos (hb4 j), hBk]
          rw [this]
          show NavA w _ t _ _ [] _ _
          cases t <;> exact rfl
    · rw [h6]
      cases p with
      | ptr t o o' =>
        intro _
        obtain ⟨b, cs, Oc, q1, q2, ⟨ca, e, f, q3, q4⟩, q5, q6, q7⟩ := h5
        subst q1
        have hBk : (beginG pms args S Os).Bk (pb j) = b := by
          show ptrBk args (pb j / 4 - 9000) = b
          rw [hbd, ptrBk, h3]
        refine ⟨cs, Oc, ?_, fun h => (h (hb4 j)).elim, ⟨q5.mono (fun b hb => .inl hb) (fun _ h => h), fun h => (h rfl).elim, trivial⟩, fun k hk => ⟨⟨.inr ⟨hb4 j, hb9 j, ?_⟩, ?_⟩, fun _ => ?_⟩⟩
        · unfold Cells
          rw [if_pos (hb4 j), hBk]
          exact ⟨ca, e, f, q3, q4⟩
        · rw [hbi, argPtr, h2]; rfl
        · rw [hbi]; exact (q7 k hk).1
        · rw [hBk]; exact (q7 k hk).2
      | _ => trivial
  · simp only [beginCtx] at h
    split at h
    · exact Option.some.inj h
    · cases h
end
end Go.OM

namespace Go.OM
open Go
section
variable {c : Ctx} {g : Ghost} {s : St} {a : Act} {w : World} {P : Program} {E : Env}
theorem end_val (r : RelG c g s a w) {l : Loc} {t : Ty} {o : Ow} {tag : Nat} {x : t.den} {ln : Lend} (h : endV s l t o tag = some (x, ln)) :
    ∃ (cs : List Value) (Oc F : Nat → Prop), Cells g a w l cs ∧ (l % 4 ≠ 1 → valAt g a l = some (mkV t cs)) ∧ Rp w (fun b => Sof g ln b ∨ F b) t o x cs Oc ∧ (∀ b, Oc b ∨ F b → g.O l b ∧ (l % 4 = 1 → b ≠ g.Bk l)) ∧ (∀ b, Oc b → ¬ F b) ∧
      (tag ≠ 0 → cs = c.tags tag) ∧ (l % 4 = 1 → ∃ V org, (s l).t = .val V org ∧ V.t = t) := by
  unfold endV at h
  split at h
  case h_2 => cases h
  rename_i W hW
  split at h
  case isFalse => cases h
  rename_i hc
  simp only [Bool.and_eq_true, Bool.or_eq_true, beq_eq] at hc
  split at h
  case h_2 => cases h
  rename_i y hy
  cases h
  obtain ⟨e, rfl⟩ := castT_some hy
  subst e
  obtain ⟨cs, Oc, k1, k2, k3, k4, k5, k6⟩ := held_val r hW hc.1.2
  obtain ⟨O', F, m1, m2, m3, m4⟩ := k3.le hc.1.1
  refine ⟨cs, O', F, k1, k2, m4, fun b hb => k5 b (hb.elim (m1 b) (m2 b)), m3, fun ht => ?_, fun h4 => ?_⟩
  · rcases hc.2 with h | h
    · exact (ht h).elim
    · rw [h] at ht ⊢; exact k4 ht
  · obtain ⟨org, h⟩ := k6 h4; exact ⟨_, org, h, rfl⟩
theorem end_org (r : RelG c g s a w) {l l' : Loc} {t : Ty} {o : Ow} {x : t.den} {ln : Lend} (h : endOrg s l t o = some (x, ln, l')) :
    ∃ (cs : List Value) (Oc F : Nat → Prop), Cells g a w l cs ∧ (l % 4 ≠ 1 → valAt g a l = some (mkV t cs)) ∧ Rp w (fun b => Sof g ln b ∨ F b) t o x cs Oc ∧ (∀ b, Oc b ∨ F b → g.O l' b) ∧ (∀ b, Oc b → ¬ F b) := by
  unfold endOrg at h
  split at h
  · rename_i y ln0 hv
    cases h
    obtain ⟨cs, Oc, F, k1, k2, k3, k4, k5, _⟩ := end_val r hv
    exact ⟨cs, Oc, F, k1, k2, k3, fun b hb => (k4 b hb).1, k5⟩
  · split at h
    case h_2 => cases h
    rename_i W org ht
    split at h
    case h_2 => cases h
    rename_i l2 p ver ho
    split at h
    case isFalse => cases h
    rename_i hc
    simp only [Bool.and_eq_true, decide_eq_true_eq] at hc
    obtain ⟨⟨⟨⟨hc1, _⟩, _⟩, hc4⟩, rfl⟩ := hc
    split at h
    case h_2 => cases h
    rename_i v t2 y o' hat
    split at h
    case isFalse => cases h
    rename_i hle
    split at h
    case h_2 => cases h
    rename_i z hz
    cases h
    obtain ⟨e, rfl⟩ := castT_some hz
    subst e
    obtain ⟨rfl, hver⟩ := validO_some ho
    have tk := r.toks l
    rw [ht] at tk
    obtain ⟨cs, Oc, k1, k2, ⟨k3, k4, k5⟩, k6⟩ := tk hc1
    obtain ⟨cs', V', org', m1, m2, m3, m4⟩ := k5 hver
    obtain ⟨hct, _, _⟩ := at_some hat
    obtain ⟨⟨org2, hv2⟩, _⟩ := content_some hct
    rw [m1] at hv2
    cases hv2
    obtain ⟨Oi, Os, F, j1, j2, j3, j4, j5, j6, _⟩ := handOn r hat hle m2 m4
    exact ⟨cs, Os, F, k1, k2, j6, fun b hb => j4 b (hb.elim (j1 b) (j2 b)), j3⟩
theorem Boxed.mono {S S' : Nat → Prop} {t : Ty} {o : Ow} {x : t.den} {v : Value} {O : Nat → Prop} (h : Boxed w S t o x v O) (hS : ∀ b, S b → S' b) : Boxed w S' t o x v O := by
  obtain ⟨b, cs, Oc, h1, h2, h3, h4, h5⟩ := h
  exact ⟨b, cs, Oc, h1, h2, h3, h4.mono hS (fun _ h => h), h5⟩
theorem RessOk.mono {S S' : Nat → Prop} (hS : ∀ b, S b → S' b) : ∀ {rts : List RT} {x : denR (rts.map RT.ty)} {vs : List Value} {Or : Nat → Nat → Prop}, RessOk w S rts x vs Or → RessOk w S' rts x vs Or := by
  intro rts
  induction rts with
  | nil => intro x vs Or h; cases vs with
    | nil => trivial
    | cons _ _ => exact h.elim
  | cons r rs ih => intro x vs Or h; cases vs with
    | nil => exact h.elim
    | cons v vs =>
      obtain ⟨h1, h2⟩ := h
      refine ⟨?_, ih h2⟩
      unfold ResOk at h1 ⊢
      split
      · rename_i hp; rw [if_pos hp] at h1; exact h1.mono hS
      · rename_i hp; rw [if_neg hp] at h1
        obtain ⟨cs, e, h⟩ := h1
        exact ⟨cs, e, h.mono hS (fun _ h => h)⟩
theorem OutsOk.mono {S S' : Nat → Prop} (hS : ∀ b, S b → S' b) : ∀ {pms : List PM} {y : denR (pms.flatMap PM.outs)} {vs : List Value} {Oo : Nat → Nat → Prop}, OutsOk w S pms y vs Oo → OutsOk w S' pms y vs Oo := by
  intro pms
  induction pms with
  | nil => intro x vs Or h; cases vs with
    | nil => trivial
    | cons _ _ => exact h.elim
  | cons p ps ih => intro x vs Or h; cases vs with
    | nil => cases p <;> exact h.elim
    | cons v vs =>
      cases p with
      | fz t => exact ih (y := x) h
      | own t o => exact ih (y := x) h
      | «mut» t o => exact ⟨h.1.mono hS (fun _ h => h), ih h.2⟩
      | ptr t o o' => exact ⟨h.1.mono hS, ih h.2⟩
/-- Each result's own type, where it lies in a box. -/
def ressOk (E : Env) : List RT → List ResultVar → Bool
  | r :: rs, .cell _ t :: vs => decide (tyOf E t = some r.ty) && ressOk E rs vs
  | _ :: rs, .tmp _ :: vs => ressOk E rs vs
  | [], [] => true
  | _, _ => false
def resRun (tmps : Array Value) : ResultVar → Sem Value
  | .tmp t => pure (tmps.getD t undef)
  | .cell a t => do loadVar t (← asAddr (tmps.getD a undef))
theorem semLawful : LawfulMonad Sem := by
  have b0 : ∀ {α : Type} (x : Sem α), Sem.bind x Sem.pure = x := by
    intro α x
    induction x <;> simp only [Sem.bind] <;> first | rfl | (congr 1; done) | (congr 1; funext y; rename_i ih; exact ih y)
  have b1 : ∀ {α β γ : Type} (x : Sem α) (f : α → Sem β) (k : β → Sem γ), Sem.bind (Sem.bind x f) k = Sem.bind x (fun y => Sem.bind (f y) k) := by
    intro α β γ x f k
    induction x <;> simp only [Sem.bind] <;> first | rfl | (congr 1; done) | (congr 1; funext y; rename_i ih; exact ih y)
  exact LawfulMonad.mk' Sem (id_map := fun x => b0 x) (pure_bind := fun _ _ => rfl) (bind_assoc := fun x f k => b1 x f k)
theorem mapM_run {f : ResultVar → Sem Value} : ∀ {l : List ResultVar} {vs : List Value}, vs.length = l.length → (∀ (i : Nat) (q : ResultVar) (v : Value), l[i]? = some q → vs[i]? = some v → (f q).run P w = .ok v w) → (l.mapM f).run P w = .ok vs w := by
  have := semLawful
  intro l
  induction l with
  | nil => intro vs h _; rw [List.length_eq_zero_iff.1 h, List.mapM_nil]; rfl
  | cons q l ih =>
    intro vs h hf
    cases vs with
    | nil => cases h
    | cons v vs =>
      rw [List.mapM_cons]
      simp only [Sem.run_bind, hf 0 q v rfl rfl, Result.andThen_ok]
      rw [ih (by simpa using h) (fun i q' v' h1 h2 => hf (i + 1) q' v' (by simpa using h1) (by simpa using h2))]
      rfl
theorem results_run {fn : Func} {tmps : Array Value} {vs : List Value} (hl : vs.length = fn.results.size) (h : ∀ (i : Nat) (q : ResultVar) (v : Value), fn.results[i]? = some q → vs[i]? = some v → (resRun tmps q).run P w = .ok v w) :
    (_root_.Go.results fn tmps).run P w = .ok (retV vs) w := by
  have hm : (fn.results.mapM (resRun tmps)).run P w = .ok vs.toArray w := by
    have := semLawful
    rw [Array.mapM_eq_mapM_toList, ← bind_pure_comp]
    simp only [Sem.run_bind]
    rw [mapM_run (vs := vs) (by rw [hl]; simp) (fun i q v h1 h2 => h i q v (by rwa [Array.getElem?_toList] at h1) h2)]
    rfl
  have e : _root_.Go.results fn tmps = (do let vs ← fn.results.mapM (resRun tmps); pure (if h : vs.size = 1 then vs[0] else .tuple vs)) := by
    unfold _root_.Go.results
    congr 1
  rw [e]
  simp only [Sem.run_bind, hm, Result.andThen_ok, Sem.run_pure]
  congr 1
  match vs with
  | [] => rfl
  | [v] => rfl
  | v :: u :: r => simp [retV]
end
end Go.OM

namespace Go.OM
open Go
section
variable {c : Ctx} {g : Ghost} {s : St} {a : Act} {w : World} {P : Program} {E : Env}
theorem consR_eta {t : Ty} : ∀ {r : List Ty} {x : denR (t :: r)}, consR t r (headR t r x) (tailR t r x) = x := by
  intro r x; cases r <;> rfl
theorem splitR_joinR : ∀ {p q : List Ty} {x : denR p} {y : denR q}, splitR p q (joinR p q x y) = (x, y) := by
  intro p
  induction p with
  | nil => intro q x y; rfl
  | cons t p ih =>
    intro q x y
    have e1 : headR t (p ++ q) (joinR (t :: p) q x y) = headR t p x := headR_consR
    have e2 : tailR t (p ++ q) (joinR (t :: p) q x y) = joinR p q (tailR t p x) y := tailR_consR
    show (consR t p (headR t (p ++ q) (joinR (t :: p) q x y)) (splitR p q (tailR t (p ++ q) (joinR (t :: p) q x y))).1, (splitR p q (tailR t (p ++ q) (joinR (t :: p) q x y))).2) = (x, y)
    rw [e1, e2, ih]
    exact Prod.ext consR_eta rfl
def consF (A : Nat → Prop) (B : Nat → Nat → Prop) : Nat → Nat → Prop
  | 0 => A | i + 1 => B i
/-- Families of blocks, each out of places of its own. -/
structure Fams (g : Ghost) (ls : List Loc) (Or F : Nat → Nat → Prop) : Prop where
  at_ : ∀ i b, Or i b ∨ F i b → ∃ l ∈ ls, g.O l b
  dj : ∀ i j b, i ≠ j → Or i b ∨ F i b → ¬ (Or j b ∨ F j b)
  no : ∀ i b, Or i b → ¬ F i b
theorem Fams.nil : Fams g [] (fun _ _ => False) (fun _ _ => False) := ⟨fun _ _ h => (h.elim id id).elim, fun _ _ _ _ h => (h.elim id id).elim, fun _ _ h => h.elim⟩
theorem Fams.skip {ls : List Loc} {Or F : Nat → Nat → Prop} (h : Fams g ls Or F) : Fams g ls (consF (fun _ => False) Or) (consF (fun _ => False) F) := by
  refine ⟨fun i b hb => ?_, fun i j b hij hb => ?_, fun i b hb => ?_⟩
  · cases i with
    | zero => exact (hb.elim id id).elim
    | succ i => exact h.at_ i b hb
  · cases i with
    | zero => exact (hb.elim id id).elim
    | succ i => cases j with
      | zero => exact fun h => h.elim id id
      | succ j => exact h.dj i j b (by omega) hb
  · cases i with
    | zero => exact hb.elim
    | succ i => exact h.no i b hb
theorem Fams.cons (r : RelG c g s a w) {l : Loc} {ls : List Loc} {Or F : Nat → Nat → Prop} {A B : Nat → Prop} (h : Fams g ls Or F) (hl : l ∉ ls) (hA : ∀ b, A b ∨ B b → g.O l b) (hn : ∀ b, A b → ¬ B b) : Fams g (l :: ls) (consF A Or) (consF B F) := by
  have key : ∀ {b i}, (A b ∨ B b) → ¬ (Or i b ∨ F i b) := fun {b i} h1 h2 => by
    obtain ⟨m, hm, ho⟩ := h.at_ i b h2
    have := r.disj _ _ b (hA b h1) ho
    subst this; exact hl hm
  refine ⟨fun i b hb => ?_, fun i j b hij hb => ?_, fun i b hb => ?_⟩
  · cases i with
    | zero => exact ⟨l, List.mem_cons_self, hA b hb⟩
    | succ i => obtain ⟨m, hm, ho⟩ := h.at_ i b hb; exact ⟨m, List.mem_cons_of_mem _ hm, ho⟩
  · cases i with
    | zero => cases j with
      | zero => exact (hij rfl).elim
      | succ j => exact key hb
    | succ i => cases j with
      | zero => exact fun h2 => key h2 hb
      | succ j => exact h.dj i j b (by omega) hb
  · cases i with
    | zero => exact hn b hb
    | succ i => exact h.no i b hb
theorem ref_val (r : RelG c g s a w) {x : Operand} {l : Loc} {v hv iv : Nat} {t : Ty} (h : peek s none x = some (.ref l [] v hv iv t)) : l % 4 = 1 ∧ a.eval x = .pointer (some ⟨g.Bk l, 0, none⟩) := by
  obtain ⟨h1, _, _, _, h5, _⟩ := peek_new r h
  obtain ⟨b, off, cs, V', org', m1, m2, m3, m4, m5⟩ := h1.2 (h5 _ _ _ _ _ _ rfl)
  have m4 : baseOf g l = some (b, off) := by
    revert m4
    cases V'.t <;> exact fun h => h
  unfold baseOf at m4
  split at m4
  · rename_i h4
    cases m4
    exact ⟨h4, m5⟩
  · cases m4
theorem getD_eval {a : Act} {t : Tmp} : a.tmps.getD t undef = a.eval (.tmp t) := rfl
theorem box_cells {l : Loc} {cs : List Value} (h4 : l % 4 = 1) (h : Cells g a w l cs) : ∃ c e f, w.heap[g.Bk l]? = some (.cells c e f) ∧ c.toList = cs := by
  unfold Cells at h; rwa [if_pos h4] at h
theorem ends_res (he : EnvOk P E) (r : RelG c g s a w) : ∀ {rts : List RT} {rvs : List ResultVar} {x : denR (rts.map RT.ty)} {ls : List Loc} {ln : Lend}, endRes s rts rvs = some (x, ls, ln) → ressOk E rts rvs = true → ls.Nodup →
    ∃ (vs : List Value) (Or F : Nat → Nat → Prop), vs.length = rvs.length ∧ (∀ (i : Nat) (q : ResultVar) (v : Value), rvs[i]? = some q → vs[i]? = some v → (resRun a.tmps q).run P w = .ok v w) ∧
      RessOk w (fun b => Sof g ln b ∨ ∃ i, F i b) rts x vs Or ∧ Fams g ls Or F := by
  intro rts
  induction rts with
  | nil =>
    intro rvs x ls ln h _ _
    cases rvs with
    | nil => cases h; exact ⟨[], _, _, rfl, fun i q v h => by simp at h, trivial, Fams.nil⟩
    | cons _ _ => cases h
  | cons rt rts ih =>
    intro rvs x ls ln h hok hnd
    cases rvs with
    | nil => cases h
    | cons q rvs =>
      simp only [endRes] at h
      split at h
      case h_2 => cases h
      rename_i l hl
      split at h
      case h_2 => cases h
      rename_i x1 ln1 l1 y ls' ln' hx hy
      cases h
      have hok' : ressOk E rts rvs = true := by
        cases q with
        | tmp _ => exact hok
        | cell _ _ => simp only [ressOk, Bool.and_eq_true] at hok; exact hok.2
      have hnd' : ls'.Nodup ∧ (rt.o.has = true ∨ rt.ptr = true → l1 ∉ ls') := by
        split at hnd
        · have := List.nodup_cons.1 hnd; exact ⟨this.2, fun _ => this.1⟩
        · rename_i hc
          refine ⟨hnd, fun h => (hc ?_).elim⟩
          rw [Bool.or_eq_true]; exact h
      obtain ⟨vs, Or, F, k1, k2, k3, k4⟩ := ih hy hok' hnd'.1
      have fin : ∀ {v : Value} {A B : Nat → Prop}, (resRun a.tmps q).run P w = .ok v w → ResOk w (fun b => Sof g (if (rt.o.has || rt.ptr) = true then ln1 else (l1, 0) :: ln1) b ∨ B b) rt x1 v A →
          (rt.o.has = true ∨ rt.ptr = true → (∀ b, A b ∨ B b → g.O l1 b) ∧ ∀ b, A b → ¬ B b) → (¬ (rt.o.has = true ∨ rt.ptr = true) → (∀ b, ¬ A b) ∧ ∀ b, ¬ B b) →
          ∃ (vs : List Value) (Or F : Nat → Nat → Prop), vs.length = (q :: rvs).length ∧ (∀ (i : Nat) (q' : ResultVar) (v : Value), (q :: rvs)[i]? = some q' → vs[i]? = some v → (resRun a.tmps q').run P w = .ok v w) ∧
            RessOk w (fun b => Sof g ((if (rt.o.has || rt.ptr) = true then ln1 else (l1, 0) :: ln1) ++ ln') b ∨ ∃ i, F i b) (rt :: rts) (consR rt.ty (rts.map RT.ty) x1 y) vs Or ∧ Fams g (if (rt.o.has || rt.ptr) = true then l1 :: ls' else ls') Or F := by
        intro v A B h1 h2 h3 h4
        refine ⟨v :: vs, consF A Or, consF B F, by simp [k1], fun i q' v' hq hv => ?_, ⟨?_, ?_⟩, ?_⟩
        · cases i with
          | zero => simp at hq hv; subst hq hv; exact h1
          | succ i => exact k2 i q' v' (by simpa using hq) (by simpa using hv)
        · have e : headR rt.ty (rts.map RT.ty) (consR rt.ty (rts.map RT.ty) x1 y) = x1 := headR_consR
          rw [e]
          have hm : ∀ b, (Sof g (if (rt.o.has || rt.ptr) = true then ln1 else (l1, 0) :: ln1) b ∨ B b) → (Sof g ((if (rt.o.has || rt.ptr) = true then ln1 else (l1, 0) :: ln1) ++ ln') b ∨ ∃ i, consF B F i b) := fun b hb => by
            rcases hb with (hb | ⟨e, he, hb⟩) | hb
            · exact .inl (.inl hb)
            · exact .inl (.inr ⟨e, List.mem_append.2 (.inl he), hb⟩)
            · exact .inr ⟨0, hb⟩
          unfold ResOk at h2 ⊢
          split
          · rename_i hp; rw [if_pos hp] at h2; exact h2.mono hm
          · rename_i hp; rw [if_neg hp] at h2
            obtain ⟨cs, e, h⟩ := h2
            exact ⟨cs, e, h.mono hm (fun _ h => h)⟩
        · have e : tailR rt.ty (rts.map RT.ty) (consR rt.ty (rts.map RT.ty) x1 y) = y := tailR_consR
          rw [e]
          refine k3.mono (fun b hb => ?_)
          rcases hb with (hb | ⟨e, he, hb⟩) | ⟨i, hb⟩
          · exact .inl (.inl hb)
          · exact .inl (.inr ⟨e, List.mem_append.2 (.inr he), hb⟩)
          · exact .inr ⟨i + 1, hb⟩
        · by_cases hc : rt.o.has = true ∨ rt.ptr = true
          · rw [if_pos (by rw [Bool.or_eq_true]; exact hc)]
            exact k4.cons r (hnd'.2 hc) (h3 hc).1 (h3 hc).2
          · rw [if_neg (by rw [Bool.or_eq_true]; exact hc)]
            have e1 : A = fun _ => False := funext fun b => propext ⟨fun h => ((h4 hc).1 b h).elim, fun h => h.elim⟩
            have e2 : B = fun _ => False := funext fun b => propext ⟨fun h => ((h4 hc).2 b h).elim, fun h => h.elim⟩
            rw [e1, e2]
            exact k4.skip
      -- a value that is not an address
      have plain : ∀ {v : Value}, rt.ptr = false → (resRun a.tmps q).run P w = .ok v w → endOrg s l rt.ty rt.o = some (x1, ln1, l1) → (∀ cs, Cells g a w l cs → cs.length = rt.ty.size → (l % 4 ≠ 1 → valAt g a l = some (mkV rt.ty cs)) → v = mkV rt.ty cs) →
          ∃ (vs : List Value) (Or F : Nat → Nat → Prop), vs.length = (q :: rvs).length ∧ (∀ (i : Nat) (q' : ResultVar) (v : Value), (q :: rvs)[i]? = some q' → vs[i]? = some v → (resRun a.tmps q').run P w = .ok v w) ∧
            RessOk w (fun b => Sof g ((if (rt.o.has || rt.ptr) = true then ln1 else (l1, 0) :: ln1) ++ ln') b ∨ ∃ i, F i b) (rt :: rts) (consR rt.ty (rts.map RT.ty) x1 y) vs Or ∧ Fams g (if (rt.o.has || rt.ptr) = true then l1 :: ls' else ls') Or F := by
        intro v hp hrun hx hv
        obtain ⟨cs, Oc, F0, m1, m2, m3, m4, m5⟩ := end_org r hx
        have hv := hv cs m1 m3.len m2
        cases hh : rt.o.has with
        | true =>
          have hc : (rt.o.has || rt.ptr) = true := by rw [hh]; rfl
          rw [hh] at fin
          refine fin (A := Oc) (B := F0) hrun ?_ (fun _ => ⟨m4, m5⟩) (fun h => (h (.inl rfl)).elim)
          unfold ResOk
          rw [hp]
          exact ⟨cs, hv, m3⟩
        | false =>
          rw [hh] at fin
          refine fin (A := fun _ => False) (B := fun _ => False) hrun ?_ (fun h => ?_) (fun _ => ⟨fun _ h => h, fun _ h => h⟩)
          · unfold ResOk
            rw [hp]
            refine ⟨cs, hv, (m3.noOwn hh).mono (fun b hb => .inl ?_) (fun _ h => h)⟩
            rcases hb with (hb | ⟨e, he, hb⟩) | hb
            · exact .inl hb
            · exact .inr ⟨e, List.mem_cons_of_mem _ he, hb⟩
            · exact .inr ⟨(l1, 0), List.mem_cons_self, m4 b (.inr hb)⟩
          · rw [hp] at h; rcases h with h | h <;> cases h
      cases hp : rt.ptr with
      | true =>
        rw [hp] at hl hx
        rw [hp] at fin
        cases q with
        | cell _ _ => simp [resLoc] at hl
        | tmp t =>
          simp only [resLoc, if_true] at hl
          split at hl
          case h_2 => cases hl
          rename_i l0 v hv iv tr hpk
          cases hl
          obtain ⟨h4, hev⟩ := ref_val r hpk
          simp only [if_true, Option.map_eq_some_iff] at hx
          obtain ⟨⟨x2, ln2⟩, hx, e⟩ := hx
          simp only [Prod.mk.injEq] at e
          obtain ⟨rfl, rfl, rfl⟩ := e
          obtain ⟨cs, Oc, F0, m1, m2, m3, m4, m5, m6, m7⟩ := end_val r hx
          obtain ⟨V, org, hV, hVt⟩ := m7 h4
          obtain ⟨b1, b2⟩ := r.boxes _ V org h4 hV
          refine fin (v := .pointer (some ⟨g.Bk l, 0, none⟩)) (A := fun b => Oc b ∨ b = g.Bk l) (B := F0) ?_ ?_ (fun _ => ⟨fun b hb => ?_, fun b hb => ?_⟩) (fun h => (h (.inr rfl)).elim)
          · show (Sem.run P (pure (a.tmps.getD t undef)) w) = _
            rw [getD_eval, hev]; rfl
          · unfold ResOk
            rw [hp]
            refine ⟨g.Bk l, cs, Oc, rfl, by rw [← hVt]; exact b2, box_cells h4 m1, ?_, .inr rfl, fun k hk => ⟨.inl hk, (m4 k (.inl hk)).2 h4⟩⟩
            simpa using m3
          · rcases hb with (hb | rfl) | hb
            · exact (m4 b (.inl hb)).1
            · exact b1
            · exact (m4 b (.inr hb)).1
          · rcases hb with hb | rfl
            · exact m5 b hb
            · exact fun h => (m4 _ (.inr h)).2 h4 rfl
      | false =>
        rw [hp] at hl hx plain
        simp only [Bool.false_eq_true, if_false] at hx
        cases q with
        | tmp t =>
          simp only [resLoc, Bool.false_eq_true, if_false, Option.some.injEq] at hl
          subst hl
          obtain ⟨cs, Oc, F0, m1, m2, m3, m4, m5⟩ := end_org r hx
          have hval := m2 (tm_ne t)
          rw [valAt_tm] at hval
          refine plain (v := mkV rt.ty cs) rfl ?_ hx (fun cs' h1 _ _ => by rw [h1.uniq m1])
          show (Sem.run P (pure (a.tmps.getD t undef)) w) = _
          rw [getD_eval, eval_tmp hval]; rfl
        | cell t i =>
          simp only [resLoc, Bool.false_eq_true, if_false] at hl
          split at hl
          case h_2 => cases hl
          rename_i l v hv iv tr hpk
          cases hl
          obtain ⟨h4, hev⟩ := ref_val r hpk
          obtain ⟨cs, Oc, F0, m1, m2, m3, m4, m5⟩ := end_org r hx
          simp only [ressOk, Bool.and_eq_true, decide_eq_true_eq] at hok
          refine plain (v := mkV rt.ty cs) rfl ?_ hx (fun cs' h1 _ _ => by rw [h1.uniq m1])
          show (Sem.run P (asAddr (a.tmps.getD t undef) >>= fun ad => loadVar i ad) w) = _
          rw [getD_eval, hev, Sem.run_bind]
          show (Result.ok _ w).andThen _ = _
          rw [Result.andThen_ok]
          refine run_loadVar (he.fact hok.1) ?_ m3.len
          exact m1.at (g.Bk l, 0) (by unfold baseOf; rw [if_pos h4])
end
end Go.OM

namespace Go.OM
open Go
section
variable {c : Ctx} {g : Ghost} {s : St} {a : Act} {w : World} {P : Program} {E : Env}
theorem ends_outs (r : RelG c g s a w) : ∀ {pms : List PM} {i : Nat} {hs : List Loc} {args : List Value} {y : denR (pms.flatMap PM.outs)} {ms : List Loc} {ln : Lend}, args.length = pms.length →
    (∀ (j : Nat) (p : PM) (v : Value), pms[j]? = some p → args[j]? = some v → c.tags (i + j + 1) = v.cells.toList ∧ (p.isPtr = true → ∃ b, v = .pointer (some ⟨b, 0, none⟩) ∧ c.bk (pb (i + j)) = some b)) →
    endOuts s pms i hs = some (y, ms, ln) → ms.Nodup → ∃ (Oo F : Nat → Nat → Prop), OutsOk w (fun b => Sof g ln b ∨ ∃ i, F i b) pms y args Oo ∧ Fams g ms Oo F := by
  intro pms
  induction pms with
  | nil =>
    intro i hs args y ms ln hl hA h _
    cases args with
    | cons _ _ => cases hl
    | nil => cases hs with
      | nil => cases h; exact ⟨_, _, trivial, Fams.nil⟩
      | cons _ _ => cases h
  | cons p pms ih =>
    intro i hs args y ms ln hl hA h hnd
    cases args with
    | nil => cases hl
    | cons v args =>
      have hA0 := hA 0 p v rfl rfl
      have hA1 : ∀ (j : Nat) (p : PM) (v : Value), pms[j]? = some p → args[j]? = some v → c.tags (i + 1 + j + 1) = v.cells.toList ∧ (p.isPtr = true → ∃ b, v = .pointer (some ⟨b, 0, none⟩) ∧ c.bk (pb (i + 1 + j)) = some b) := fun j p v h1 h2 => by
        have := hA (j + 1) p v (by simpa using h1) (by simpa using h2)
        rwa [show i + (j + 1) = i + 1 + j by omega] at this
      have hl1 : args.length = pms.length := by simpa using hl
      cases p with
      | fz t =>
        obtain ⟨Oo, F, k1, k2⟩ := ih (i := i + 1) hl1 hA1 h hnd
        refine ⟨_, _, ?_, k2.skip⟩
        exact OutsOk.mono (pms := pms) (fun b hb => hb.imp (fun h => h) (fun ⟨j, hj⟩ => ⟨j + 1, hj⟩)) k1
      | own t o =>
        obtain ⟨Oo, F, k1, k2⟩ := ih (i := i + 1) hl1 hA1 h hnd
        refine ⟨_, _, ?_, k2.skip⟩
        exact OutsOk.mono (pms := pms) (fun b hb => hb.imp (fun h => h) (fun ⟨j, hj⟩ => ⟨j + 1, hj⟩)) k1
      | «mut» t o =>
        cases hs with
        | nil => cases h
        | cons hm hs =>
          simp only [endOuts] at h
          split at h
          case h_2 => cases h
          rename_i x ln1 y' ms' ln' hx hy
          cases h
          have hnd' := List.nodup_cons.1 hnd
          obtain ⟨Oo, F, k1, k2⟩ := ih (i := i + 1) hl1 hA1 hy hnd'.2
          obtain ⟨cs, Oc, F0, m1, m2, m3, m4, m5, m6, m7⟩ := end_val r hx
          refine ⟨_, _, ⟨?_, ?_⟩, k2.cons r hnd'.1 (fun b hb => (m4 b hb).1) m5⟩
          · have e : headR t (pms.flatMap PM.outs) (consR t (pms.flatMap PM.outs) x y') = x := headR_consR
            rw [e]
            have hcs : cs = v.cells.toList := by
              rw [m6 (by omega)]; exact hA0.1
            rw [← hcs]
            refine m3.mono (fun b hb => ?_) (fun _ h => h)
            rcases hb with (hb | ⟨e, he, hb⟩) | hb
            · exact .inl (.inl hb)
            · exact .inl (.inr ⟨e, List.mem_append.2 (.inl he), hb⟩)
            · exact .inr ⟨0, hb⟩
          · have e : tailR t (pms.flatMap PM.outs) (consR t (pms.flatMap PM.outs) x y') = y' := tailR_consR
            rw [e]
            refine OutsOk.mono (fun b hb => ?_) k1
            rcases hb with (hb | ⟨e, he, hb⟩) | ⟨j, hb⟩
            · exact .inl (.inl hb)
            · exact .inl (.inr ⟨e, List.mem_append.2 (.inr he), hb⟩)
            · exact .inr ⟨j + 1, hb⟩
      | ptr t o o' =>
        simp only [endOuts] at h
        split at h
        case h_2 => cases h
        rename_i x ln1 y' ms' ln' hx hy
        cases h
        have hnd' := List.nodup_cons.1 hnd
        obtain ⟨Oo, F, k1, k2⟩ := ih (i := i + 1) hl1 hA1 hy hnd'.2
        obtain ⟨cs, Oc, F0, m1, m2, m3, m4, m5, m6, m7⟩ := end_val r hx
        have h4 : pb i % 4 = 1 := Nat.mul_add_mod 4 (9000 + i) 1
        obtain ⟨V, org, hV, hVt⟩ := m7 h4
        obtain ⟨b1, b2⟩ := r.boxes _ V org h4 hV
        obtain ⟨b, rfl, hb⟩ := hA0.2 rfl
        have hbk := r.bks _ _ hb
        rw [Nat.add_zero] at hbk
        subst hbk
        refine ⟨_, _, ⟨?_, ?_⟩, k2.cons (A := fun b => Oc b ∨ b = g.Bk (pb i)) (B := F0) r hnd'.1 (fun b hb => ?_) (fun b hb => ?_)⟩
        · have e : headR t (pms.flatMap PM.outs) (consR t (pms.flatMap PM.outs) x y') = x := headR_consR
          rw [e]
          refine ⟨g.Bk (pb i), cs, Oc, rfl, by rw [← hVt]; exact b2, box_cells h4 m1, ?_, .inr rfl, fun k hk => ⟨.inl hk, (m4 k (.inl hk)).2 h4⟩⟩
          refine m3.mono (fun b hb => ?_) (fun _ h => h)
          rcases hb with (hb | ⟨e, he, hb⟩) | hb
          · exact .inl (.inl hb)
          · exact .inl (.inr ⟨e, List.mem_append.2 (.inl he), hb⟩)
          · exact .inr ⟨0, hb⟩
        · have e : tailR t (pms.flatMap PM.outs) (consR t (pms.flatMap PM.outs) x y') = y' := tailR_consR
          rw [e]
          refine OutsOk.mono (fun b hb => ?_) k1
          rcases hb with (hb | ⟨e, he, hb⟩) | ⟨j, hb⟩
          · exact .inl (.inl hb)
          · exact .inl (.inr ⟨e, List.mem_append.2 (.inr he), hb⟩)
          · exact .inr ⟨j + 1, hb⟩
        · rcases hb with (hb | rfl) | hb
          · exact (m4 b (.inl hb)).1
          · exact b1
          · exact (m4 b (.inr hb)).1
        · rcases hb with hb | rfl
          · exact m5 b hb
          · exact fun h => (m4 _ (.inr h)).2 h4 rfl

/-- A point: what is known there; the function from there on. -/
structure Pt (R : Type) where
  κ : Nat
  sl : List Slot
  f : Nat → denS sl → Option R
def lhOf {R : Type} (k κ : Nat) (s : St) : List (Pt R) → Option R
  | [] => none
  | p :: r => tif (Nat.beq κ p.κ) (match proj (slotLocs p.sl) p.sl s with | some x => p.f k x | none => none) (lhOf k κ s r)
theorem lhOf_some {R : Type} {k κ : Nat} {s : St} {res : R} : ∀ {l : List (Pt R)}, lhOf k κ s l = some res → ∃ p ∈ l, p.κ = κ ∧ ∃ x, proj (slotLocs p.sl) p.sl s = some x ∧ p.f k x = some res := by
  intro l
  induction l with
  | nil => intro h; cases h
  | cons p l ih =>
    intro h
    simp only [lhOf, tif_eq] at h
    split at h
    · rename_i hk
      obtain ⟨x, h1, h2⟩ : ∃ x, proj (slotLocs p.sl) p.sl s = some x ∧ p.f k x = some res := by
        split at h
        · rename_i x hx; exact ⟨x, hx, h⟩
        · cases h
      exact ⟨p, List.mem_cons_self, (beq_eq.1 hk).symm, x, h1, h2⟩
    · obtain ⟨q, h1, h2⟩ := ih h
      exact ⟨q, List.mem_cons_of_mem _ h1, h2⟩
/-- What is to be looked at once for a function: its destinations, points, slots, results, parameters. -/
structure FnOk (P : Program) (f : Nat) (fn : Func) (body : Code) (g : Sig) (E : Env) (sls : List (List Slot)) : Prop where
  hfn : P.funcs[f]? = some fn
  hbody : fn.body = some body
  size : (Nat.ble g.pms.length 900 && Nat.ble g.pms.length fn.ntmps && Nat.ble fn.ntmps 9000) = true
  dsts : dstsOk fn.ntmps body = true
  pts : noDup (ptsOf E.joins body) = true
  slots : sls.all (fun sl => slotsOk (slotLocs sl) sl) = true
  ress : ressOk E g.rts fn.results.toList = true
/-- What a call leaves. -/
def Post (sg : Sig) (w0 : World) (S : Nat → Prop) (Os : Nat → Nat → Prop) (args : List Value) (y : denR (outTys sg.rts sg.pms)) : Ending → World → Prop :=
  fun e w' => ∃ vs S' Or Oo, e = .returned (retV vs) ∧
      RessOk w' S' sg.rts (splitR (sg.rts.map RT.ty) (sg.pms.flatMap PM.outs) y).1 vs Or ∧ OutsOk w' S' sg.pms (splitR (sg.rts.map RT.ty) (sg.pms.flatMap PM.outs) y).2 args Oo ∧
      Grow w0 w' ∧ (∀ b, b < w0.heap.size → ¬ (∃ i, Os i b) → w'.heap[b]? = w0.heap[b]?) ∧
      (∀ b, S b → S' b) ∧ (∀ b, S' b → S b ∨ (∃ i, Os i b) ∨ w0.heap.size ≤ b) ∧ (∀ i b, Or i b ∨ Oo i b → (∃ j, Os j b) ∨ w0.heap.size ≤ b) ∧
      Apart S' w'.heap.size Or ∧ Apart S' w'.heap.size Oo ∧ ∀ i j b, Or i b → ¬ Oo j b
theorem fin_ok (he : EnvOk P E) {f : Nat} {fn : Func} {body : Code} {sg : Sig} {sls : List (List Slot)} (F : FnOk P f fn body sg E sls) {args : List Value} {w0 : World} {S : Nat → Prop} {Os : Nat → Nat → Prop} {x : denI sg.pms} {y : denR (outTys sg.rts sg.pms)}
    (hargs : ArgsOk w0 S sg.pms x args Os) (hap : Apart S w0.heap.size Os) {e : Exit} (r : Rel (beginCtx fn.ntmps args w0 S Os) s a w) (h : fin sg fn.results.toList e s = some y) :
    bodyPost P fn (Post sg w0 S Os args y) e a w := by
  obtain ⟨g, r⟩ := r
  have hlen := hargs.length
  have hsz := F.size
  simp only [Bool.and_eq_true] at hsz
  have hs1 : sg.pms.length ≤ 900 := Nat.le_of_ble_eq_true hsz.1.1
  have hs3 : fn.ntmps ≤ 9000 := Nat.le_of_ble_eq_true hsz.2
  have hfin : ∃ x1 ls ln y1 ms ln', endRes s sg.rts fn.results.toList = some (x1, ls, ln) ∧ endOuts s sg.pms 0 sg.homes = some (y1, ms, ln') ∧ (noDup (ls ++ ms) && (ln ++ ln').all (fun e => !(ls ++ ms).any (Nat.beq e.1))) = true ∧ y = joinR (sg.rts.map RT.ty) (sg.pms.flatMap PM.outs) x1 y1 ∧ (e = .ret ∨ e = .normal) := by
    cases e with
    | normal =>
      simp only [fin] at h
      split at h
      · rename_i x1 ls ln y1 ms ln' h1 h2
        split at h
        · rename_i hc
          exact ⟨x1, ls, ln, y1, ms, ln', h1, h2, hc, (Option.some.inj h).symm, .inr rfl⟩
        · cases h
      · cases h
    | ret =>
      simp only [fin] at h
      split at h
      · rename_i x1 ls ln y1 ms ln' h1 h2
        split at h
        · rename_i hc
          exact ⟨x1, ls, ln, y1, ms, ln', h1, h2, hc, (Option.some.inj h).symm, .inl rfl⟩
        · cases h
      · cases h
    | _ => cases h
  obtain ⟨x1, ls, ln, y1, ms, ln', h1, h2, hc, rfl, hex⟩ := hfin
  rw [Bool.and_eq_true] at hc
  have hnd := List.nodup_append.1 (noDup_nodup.1 hc.1)
  have hln : ∀ q ∈ ln ++ ln', q.1 ∉ ls ++ ms := fun q hq hm => by
    have := List.all_eq_true.1 hc.2 q hq
    rw [any_beq.2 hm] at this
    cases this
  obtain ⟨vs, Or, Fr, k1, k2, k3, k4⟩ := ends_res he r h1 F.ress hnd.1
  have hA : ∀ (j : Nat) (p : PM) (v : Value), sg.pms[j]? = some p → args[j]? = some v → (beginCtx fn.ntmps args w0 S Os).tags (0 + j + 1) = v.cells.toList ∧ (p.isPtr = true → ∃ b, v = .pointer (some ⟨b, 0, none⟩) ∧ (beginCtx fn.ntmps args w0 S Os).bk (pb (0 + j)) = some b) := by
    intro j p v hp hv
    have hj : j < sg.pms.length := (List.getElem?_eq_some_iff.1 hp).1
    refine ⟨?_, fun hip => ?_⟩
    · show ((args[0 + j + 1 - 1]?).map fun v => v.cells.toList).getD [] = _
      rw [show 0 + j + 1 - 1 = j by omega, hv]; rfl
    · obtain ⟨y, v', q1, q2, _⟩ := start_get (i0 := 0) hargs hp
      rw [hv] at q1
      cases q1
      cases p with
      | ptr t o o' =>
        obtain ⟨b, cs, Oc, e1, _⟩ := q2
        refine ⟨b, e1, ?_⟩
        have e4 : pb (0 + j) % 4 = 1 := Nat.mul_add_mod 4 (9000 + (0 + j)) 1
        have ed : pb (0 + j) / 4 = 9000 + j := by show (4 * (9000 + (0 + j)) + 1 : Nat) / 4 = _; omega
        simp only [beginCtx]
        rw [ed, if_pos ⟨e4, Nat.le_trans hs3 (Nat.le_add_right _ _), Nat.le_add_right 9000 j, (by omega : (9000 + j : Nat) < 10000)⟩, show 9000 + j - 9000 = j by omega, ptrBk, hv, e1]
      | _ => cases hip
  obtain ⟨Oo, Fo, m1, m2⟩ := ends_outs r (args := args) hlen hA h2 hnd.2.1
  · let K : Nat → Prop := fun b => ∃ i, Or i b ∨ Oo i b
    have hKO : ∀ b, K b → ∃ l, l ∈ ls ++ ms ∧ g.O l b := by
      rintro b ⟨i, hb | hb⟩
      · obtain ⟨l, hl, ho⟩ := k4.at_ i b (.inl hb); exact ⟨l, List.mem_append.2 (.inl hl), ho⟩
      · obtain ⟨l, hl, ho⟩ := m2.at_ i b (.inl hb); exact ⟨l, List.mem_append.2 (.inr hl), ho⟩
    have hnew : ∀ l b, g.O l b → w0.heap.size ≤ b ∨ ∃ i, Os i b := fun l b h => (r.own l b h).2
    have hcross : ∀ i j b, (Or i b ∨ Fr i b) → ¬ (Oo j b ∨ Fo j b) := fun i j b h1 h2 => by
      obtain ⟨l, hl, ho⟩ := k4.at_ i b h1
      obtain ⟨m, hm, ho'⟩ := m2.at_ j b h2
      have := r.disj l m b ho ho'
      exact hnd.2.2 l hl m hm this
    let S' : Nat → Prop := fun b => (S b ∨ g.G b ∨ ∃ l, g.O l b) ∧ ¬ K b
    have hSK : ∀ b, S b → ¬ K b := fun b hb hk => by
      obtain ⟨l, _, ho⟩ := hKO b hk
      rcases hnew l b ho with h | ⟨i, h⟩
      · have := hap.ltS b hb; omega
      · exact hap.noS i b h hb
    have hGK : ∀ b, g.G b → ¬ K b := fun b hb hk => by
      obtain ⟨l, _, ho⟩ := hKO b hk
      exact r.ownG l b ho hb
    have sofS : ∀ q ∈ ln ++ ln', ∀ b, g.O q.1 b → S' b := fun q hq b hb => by
      refine ⟨.inr (.inr ⟨_, hb⟩), fun hk => ?_⟩
      obtain ⟨l, hl, ho⟩ := hKO b hk
      have := r.disj _ _ b hb ho
      exact hln q hq (this ▸ hl)
    have S1 : ∀ b, (Sof g ln b ∨ ∃ i, Fr i b) → S' b := fun b hb => by
      rcases hb with (hb | ⟨q, hq, hb⟩) | ⟨i, hb⟩
      · exact ⟨.inr (.inl hb), hGK b hb⟩
      · exact sofS q (List.mem_append.2 (.inl hq)) b hb
      · obtain ⟨l, _, ho⟩ := k4.at_ i b (.inr hb)
        refine ⟨.inr (.inr ⟨l, ho⟩), ?_⟩
        rintro ⟨j, hj | hj⟩
        · by_cases hij : j = i
          · subst hij; exact k4.no j b hj hb
          · exact k4.dj j i b hij (.inl hj) (.inr hb)
        · exact hcross i j b (.inr hb) (.inl hj)
    have S2 : ∀ b, (Sof g ln' b ∨ ∃ i, Fo i b) → S' b := fun b hb => by
      rcases hb with (hb | ⟨q, hq, hb⟩) | ⟨i, hb⟩
      · exact ⟨.inr (.inl hb), hGK b hb⟩
      · exact sofS q (List.mem_append.2 (.inr hq)) b hb
      · obtain ⟨l, _, ho⟩ := m2.at_ i b (.inr hb)
        refine ⟨.inr (.inr ⟨l, ho⟩), ?_⟩
        rintro ⟨j, hj | hj⟩
        · exact hcross j i b (.inl hj) (.inr hb)
        · by_cases hij : j = i
          · subst hij; exact m2.no j b hj hb
          · exact m2.dj j i b hij (.inl hj) (.inr hb)
    have hSlt : ∀ b, S' b → b < w.heap.size := fun b hb => by
      rcases hb.1 with h | h | ⟨l, h⟩
      · exact Nat.lt_of_lt_of_le (hap.ltS b h) r.fr.grow.size
      · exact r.gsz b h
      · exact (r.own l b h).1
    have hrun := results_run (P := P) (w := w) (fn := fn) (tmps := a.tmps) (vs := vs) (by rw [k1]; simp) (fun i q v h1 h2 => k2 i q v (by rwa [Array.getElem?_toList]) h2)
    have main : a.defers = [] ∧ ∃ v, (_root_.Go.results fn a.tmps).run P w = .ok v w ∧ ∃ vs S' Or Oo, Ending.returned v = .returned (retV vs) ∧
      RessOk w S' sg.rts (splitR (sg.rts.map RT.ty) (sg.pms.flatMap PM.outs) (joinR (sg.rts.map RT.ty) (sg.pms.flatMap PM.outs) x1 y1)).1 vs Or ∧ OutsOk w S' sg.pms (splitR (sg.rts.map RT.ty) (sg.pms.flatMap PM.outs) (joinR (sg.rts.map RT.ty) (sg.pms.flatMap PM.outs) x1 y1)).2 args Oo ∧
      Grow w0 w ∧ (∀ b, b < w0.heap.size → ¬ (∃ i, Os i b) → w.heap[b]? = w0.heap[b]?) ∧
      (∀ b, S b → S' b) ∧ (∀ b, S' b → S b ∨ (∃ i, Os i b) ∨ w0.heap.size ≤ b) ∧ (∀ i b, Or i b ∨ Oo i b → (∃ j, Os j b) ∨ w0.heap.size ≤ b) ∧
      Apart S' w.heap.size Or ∧ Apart S' w.heap.size Oo ∧ ∀ i j b, Or i b → ¬ Oo j b := by
      rw [splitR_joinR]
      refine ⟨r.defs, _, hrun, vs, S', Or, Oo, rfl, k3.mono S1, m1.mono S2, r.fr.grow, fun b h1 h2 => r.fr.old b h1 h2, fun b hb => ⟨.inl hb, hSK b hb⟩, fun b hb => ?_, fun i b hb => ?_, ⟨fun i j b hij h1 h2 => k4.dj i j b hij (.inl h1) (.inl h2), fun i b h1 h2 => h2.2 ⟨i, .inl h1⟩, fun i b h1 => ?_, hSlt⟩, ⟨fun i j b hij h1 h2 => m2.dj i j b hij (.inl h1) (.inl h2), fun i b h1 h2 => h2.2 ⟨i, .inr h1⟩, fun i b h1 => ?_, hSlt⟩, fun i j b h1 h2 => hcross i j b (.inl h1) (.inl h2)⟩
      · rcases hb.1 with h | h | ⟨l, h⟩
        · exact .inl h
        · rcases r.gin b h with h | h | h
          · exact .inr (.inr h)
          · exact .inr (.inl h)
          · exact .inl h
        · exact (hnew l b h).elim (fun h => .inr (.inr h)) (fun h => .inr (.inl h))
      · obtain ⟨l, _, ho⟩ := hKO b ⟨i, hb⟩
        exact (hnew l b ho).elim .inr .inl
      · obtain ⟨l, _, ho⟩ := k4.at_ i b (.inl h1); exact (r.own l b ho).1
      · obtain ⟨l, _, ho⟩ := m2.at_ i b (.inl h1); exact (r.own l b ho).1
    rcases hex with rfl | rfl <;> exact main
/-- A summary is true if its function's run is the interpreter's. -/
theorem sm_ok (hm : P.follows .mixedOrders = true) {f : Nat} {fn : Func} {body : Code} {g : Sig} {E : Nat → Env} (he : ∀ k, EnvOk2 P (E k)) (hj : ∀ k, (E k).joins = (E 0).joins) (ht : ∀ k, (E k).tys = (E 0).tys) {pts : List (Pt (denR (outTys g.rts g.pms)))}
    (F : FnOk P f fn body g (E 0) (pts.map Pt.sl)) (hp : ∀ p ∈ pts, ∀ x, p.f 0 x = none ∧ ∀ k, p.f (k + 1) x = evAt (E k) (fun κ s => lhOf k κ s pts) p.κ body (unproj p.sl x) (fin g fn.results.toList))
    {fk : Nat → denI g.pms → Option (denR (outTys g.rts g.pms))} (hf : ∀ k x, fk k x = evC (E k) (fun κ s => lhOf k κ s pts) body (start g.pms 0 x) (fin g fn.results.toList)) (k : Nat) : SmOk P ⟨f, g.pms, g.rts, fk k⟩ := by
  intro args w S Os x y hy hargs hap
  have hsz := F.size
  simp only [Bool.and_eq_true] at hsz
  have hs2 : g.pms.length ≤ fn.ntmps := Nat.le_of_ble_eq_true hsz.1.2
  refine calls_of_wp F.hfn F.hbody ?_
  have hy : fk k x = some y := hy
  rw [hf] at hy
  have hpts : (ptsOf (E 0).joins body).Nodup := noDup_nodup.1 F.pts
  have hfin : ∀ e s a w', Rel (beginCtx fn.ntmps args w S Os) s a w' → fin g fn.results.toList e s = some y → bodyPost P fn (Post g w S Os args y) e a w' := fun e s a w' hr hq => fin_ok (he 0).toEnvOk F hargs hap hr hq
  have lh : ∀ k κ s a w', Rel (beginCtx fn.ntmps args w S Os) s a w' → lhOf k κ s pts = some y → wpAt P (E 0).joins κ body (bodyPost P fn (Post g w S Os args y)) a w' := by
    intro k
    induction k with
    | zero =>
      intro κ s a w' hr h
      obtain ⟨p, hpm, _, x', _, h2⟩ := lhOf_some h
      rw [(hp p hpm x').1] at h2; cases h2
    | succ k ih =>
      intro κ s a w' hr h
      obtain ⟨p, hpm, rfl, x', h1, h2⟩ := lhOf_some h
      rw [(hp p hpm x').2 k] at h2
      have hok := List.all_eq_true.1 F.slots p.sl (List.mem_map.2 ⟨p, hpm, rfl⟩)
      have := evAt_sound (he k) hm (c := beginCtx fn.ntmps args w S Os) (lh := fun κ s => lhOf k κ s pts) (res := y) F.dsts (by rw [hj k]; exact hpts) (fun κ _ s a w' hr hl => by rw [hj k]; exact ih κ s a w' hr hl) hfin (unproj_rel hok h1 hr) h2
      rwa [hj k] at this
  exact evC_sound (he k) hm (c := beginCtx fn.ntmps args w S Os) (lh := fun κ s => lhOf k κ s pts) (res := y) F.dsts (by rw [hj k]; exact hpts) (fun κ _ s a w' hr hl => by rw [hj k]; exact lh k κ s a w' hr hl) hfin ⟨_, start_rel hs2 hargs hap⟩ hy
end
end Go.OM

namespace Go.OM
open Go
/-- What is known of a value that came in. -/
def Gd : (t : Ty) → t.den → Prop
  | .int k, x => (Lit.int k x).wf = true
  | .str, s => s.size ≤ 9223372036854775807
  | .sl t, xs => List.length xs ≤ 9223372036854775807 ∧ ∀ x ∈ xs, Gd t x
  | .pair a b, x => Gd a x.1 ∧ Gd b x.2
  | _, _ => True
theorem choose_list {α : Type} (Q : Nat → α → Prop) : ∀ n : Nat, (∀ i, i < n → ∃ x, Q i x) → ∃ xs : List α, xs.length = n ∧ ∀ (i : Nat) (x : α), xs[i]? = some x → Q i x
  | 0, _ => ⟨[], rfl, fun i x h => by simp at h⟩
  | n + 1, h => by
    obtain ⟨xs, hl, hq⟩ := choose_list Q n (fun i hi => h i (by omega))
    obtain ⟨y, hy⟩ := h n (by omega)
    refine ⟨xs ++ [y], by simp [hl], fun i x hx => ?_⟩
    rcases Nat.lt_trichotomy i xs.length with hi | hi | hi
    · rw [List.getElem?_append_left hi] at hx
      exact hq i x hx
    · subst hi
      simp at hx
      subst hx
      rw [hl]
      exact hy
    · rw [List.getElem?_eq_none (by simp; omega)] at hx
      cases hx
theorem mapM_some {α β : Type} (f : α → Option β) : ∀ (l : List α) (r : List β), l.mapM f = some r → r.length = l.length ∧ ∀ (i : Nat) (x : α), l[i]? = some x → ∃ y, r[i]? = some y ∧ f x = some y
  | [], r, h => by
    simp at h
    subst h
    exact ⟨rfl, fun i x hx => by simp at hx⟩
  | a :: l, r, h => by
    rw [List.mapM_cons] at h
    cases ha : f a with
    | none => simp [ha] at h
    | some y =>
      cases hl : l.mapM f with
      | none => simp [ha, hl] at h
      | some r' =>
        simp [ha, hl] at h
        subst h
        obtain ⟨h1, h2⟩ := mapM_some f l r' hl
        refine ⟨by simp [h1], fun i x hx => ?_⟩
        cases i with
        | zero =>
          simp at hx
          subst hx
          exact ⟨y, rfl, ha⟩
        | succ i =>
          simp at hx
          obtain ⟨z, hz, hf⟩ := h2 i x hx
          exact ⟨z, by simpa using hz, hf⟩
theorem cells_some {W : World} {base : Nat} {a : Addr} {n : Nat} {cs : List Value} (h : W.cells? base a n = some cs) : cs.length = n ∧ ∀ (i : Nat) (u : Value), cs[i]? = some u → W.cell? (a.add i) = some u := by
  unfold World.cells? at h
  split at h
  · obtain ⟨h1, h2⟩ := mapM_some _ _ _ h
    rw [List.length_range] at h1
    refine ⟨h1, fun i u hu => ?_⟩
    have hi : i < n := by rw [← h1]; exact (List.getElem?_eq_some_iff.1 hu).1
    obtain ⟨y, hy, hf⟩ := h2 i i (by rw [List.getElem?_range hi])
    rw [hy] at hu
    cases hu
    exact hf
  · cases h
theorem TyFact.cells {P : Program} {tys : List (Option Ty)} {i : Nat} {t : Ty} (h : TyFact P tys i t) : P.cellsOf i = t.size := by
  obtain ⟨n, h1, h2, _⟩ := h.info
  simp [Program.cellsOf, h1, h2]
theorem cell_spot {W : World} {a : Addr} {u : Value} (h : W.cell? a = some u) : a.spot = none ∧ a.block < W.heap.size := by
  unfold World.cell? at h
  split at h
  · rename_i c e f hc
    split at h
    · cases h
    · rename_i hs
      refine ⟨by cases hq : a.spot <;> simp_all, (Array.getElem?_eq_some_iff.1 hc).1⟩
  · cases h
theorem opens {P : Program} {tys : List (Option Ty)} (hT : ∀ i t, tys[i]? = some (some t) → TyFact P tys i t) {H : Type} (enc : TypeId × Value → H) (W : World) (base : Nat) (spare : Nat → Bool) (held : Bool) : ∀ {t : Ty},
    (∀ {ty : TypeId} {fuel : Nat} {cs : List Value} {dd : DataW H} {ps : List MemPlace}, TyFact P tys ty t → DataW.trod enc P W base spare held fuel ty cs = some (dd, ps) → ∃ x : t.den, Rp W (fun b => b < W.heap.size) t .z x cs (fun _ => False) ∧ Gd t x) ∧
    (∀ {fs : List Field} {off fuel : Nat} {cs : List Value} {xs : List (DataW H × List MemPlace)}, fieldsOk tys fs t off = true → cs.length = off + t.size → fs.mapM (fun f => DataW.trod enc P W base spare held fuel f.type ((cs.drop f.offset).take (P.cellsOf f.type))) = some xs →
      ∃ x : t.den, Rp W (fun b => b < W.heap.size) t .z x (cs.drop off) (fun _ => False) ∧ Gd t x) := by
  intro t
  induction t with
  | int k =>
    refine ⟨fun {ty fuel cs dd ps} hf h => ?_, fun {fs off fuel cs xs} h => by cases fs <;> cases h⟩
    have hu := hf.und
    cases fuel with
    | zero => simp [DataW.trod] at h
    | succ n =>
      unfold DataW.trod at h
      rw [hu] at h
      rcases cs with _ | ⟨v, _ | ⟨v2, r⟩⟩ <;> (try (simp at h; done))
      cases v <;> simp at h
      rename_i k' m
      obtain ⟨⟨rfl, hw⟩, _⟩ := h
      exact ⟨m, rfl, hw⟩
  | bool =>
    refine ⟨fun {ty fuel cs dd ps} hf h => ?_, fun {fs off fuel cs xs} h => by cases fs <;> cases h⟩
    have hu := hf.und
    cases fuel with
    | zero => simp [DataW.trod] at h
    | succ n =>
      unfold DataW.trod at h
      rw [hu] at h
      rcases cs with _ | ⟨v, _ | ⟨v2, r⟩⟩ <;> (try (simp at h; done))
      cases v <;> simp at h
      rename_i b
      exact ⟨b, rfl, trivial⟩
  | str =>
    refine ⟨fun {ty fuel cs dd ps} hf h => ?_, fun {fs off fuel cs xs} h => by cases fs <;> cases h⟩
    have hu := hf.und
    cases fuel with
    | zero => simp [DataW.trod] at h
    | succ n =>
      unfold DataW.trod at h
      rw [hu] at h
      rcases cs with _ | ⟨v, _ | ⟨v2, r⟩⟩ <;> (try (simp at h; done))
      cases v <;> simp at h
      rename_i s
      exact ⟨s, rfl, by have := h.1; unfold maxLen at this; show s.size ≤ _; omega⟩
  | sl t ih =>
    refine ⟨fun {ty fuel cs dd ps} hf h => ?_, fun {fs off fuel cs xs} h => by cases fs <;> cases h⟩
    obtain ⟨e, hu, he, hsz⟩ := hf.und
    have hfe := hT _ _ he
    cases fuel with
    | zero => simp [DataW.trod] at h
    | succ n =>
      unfold DataW.trod at h
      rw [hu] at h
      rcases cs with _ | ⟨v, _ | ⟨v2, r⟩⟩ <;> (try (simp at h; done))
      cases v <;> (try (simp at h; done))
      rename_i A len cap
      cases A with
      | none =>
        split at h <;> rename_i he1 he2 <;> (try (cases he1; done)) <;> (try (cases he2; done)) <;> (try (cases h; done))
        cases he2
        exact ⟨([] : List t.den), ⟨none, 0, rfl, Nat.le_refl _, rfl⟩, by simp [Gd]⟩
      | some a =>
        simp only at h
        split at h
        · rename_i hb
          cases hm : (List.range len).mapM (fun i => (W.cells? base (a.add (i * P.cellsOf e)) (P.cellsOf e)).bind (DataW.trod enc P W base spare held n e)) with
          | none => simp [hm] at h
          | some el =>
            obtain ⟨h1, h2⟩ := mapM_some _ _ _ hm
            have hsp : 0 < len → a.spot = none := by
              intro hi
              obtain ⟨y, _, hf⟩ := h2 0 0 (by rw [List.getElem?_range hi])
              cases hcs : W.cells? base (a.add (0 * P.cellsOf e)) (P.cellsOf e) with
              | none => rw [hcs] at hf; cases hf
              | some cs =>
                obtain ⟨hl, hcell⟩ := cells_some hcs
                rw [hfe.cells] at hl hcell
                have h0 : 0 < cs.length := by omega
                have hc0 := hcell 0 _ (List.getElem?_eq_getElem h0)
                have := (cell_spot hc0).1
                simpa [Addr.add] using this
            have hq : ∀ i, i < len → ∃ x, (a.spot = none ∧ a.block < W.heap.size ∧ ∃ ci, AtC W a.block (a.off + i * t.size) ci ∧ Rp W (fun b => b < W.heap.size) t .z x ci (fun _ => False)) ∧ Gd t x := by
              intro i hi
              obtain ⟨y, _, hf⟩ := h2 i i (by rw [List.getElem?_range hi])
              cases hcs : W.cells? base (a.add (i * P.cellsOf e)) (P.cellsOf e) with
              | none => simp [hcs] at hf
              | some cs =>
                rw [hcs] at hf
                obtain ⟨x, hK, hG⟩ := ih.1 (fuel := n) (cs := cs) (dd := y.1) (ps := y.2) hfe hf
                obtain ⟨hl, hcell⟩ := cells_some hcs
                rw [hfe.cells] at hl hcell
                have h0 : 0 < cs.length := by omega
                have hc0 := hcell 0 _ (List.getElem?_eq_getElem h0)
                obtain ⟨b, off, sp⟩ := a
                obtain ⟨k1, k2⟩ := cell_spot hc0
                have k1 : sp = none := hsp (by omega)
                subst k1
                refine ⟨x, ⟨rfl, ?_, cs, fun j u hj => ?_, hK⟩, hG⟩
                · simpa [add_none] using k2
                · have := hcell j u hj
                  rwa [add_none, add_none] at this
            obtain ⟨xs, hl, hx⟩ := choose_list _ len hq
            have hlen : len ≤ 9223372036854775807 := by have := hb.2.1; have := hb.2.2; unfold maxLen at this; omega
            subst hl
            refine ⟨xs, ⟨some a, cap, rfl, hb.2.1, fun i x hi => (hx i x hi).1⟩, hlen, fun x hxm => ?_⟩
            obtain ⟨i, hi, rfl⟩ := List.getElem_of_mem hxm
            exact (hx i _ (List.getElem?_eq_getElem hi)).2
        · cases h
  | unit =>
    have B : ∀ {fs : List Field} {off fuel : Nat} {cs : List Value} {xs : List (DataW H × List MemPlace)}, fieldsOk tys fs .unit off = true → cs.length = off + Ty.unit.size → fs.mapM (fun f => DataW.trod enc P W base spare held fuel f.type ((cs.drop f.offset).take (P.cellsOf f.type))) = some xs →
      ∃ x : Ty.unit.den, Rp W (fun b => b < W.heap.size) .unit .z x (cs.drop off) (fun _ => False) ∧ Gd .unit x := fun {fs off fuel cs xs} h hl _ => ⟨(), by
        show cs.drop off = []
        exact List.drop_eq_nil_of_le (by rw [hl]; exact Nat.le_refl _), trivial⟩
    refine ⟨fun {ty fuel cs dd ps} hf h => ?_, B⟩
    obtain ⟨fs, hu, he⟩ := hf.und
    cases fuel with
    | zero => simp [DataW.trod] at h
    | succ n =>
      unfold DataW.trod at h
      rw [hu] at h
      simp only at h
      split at h
      · rename_i hl
        cases hm : fs.toList.mapM (fun f => DataW.trod enc P W base spare held n f.type ((cs.drop f.offset).take (P.cellsOf f.type))) with
        | none => simp [hm] at h
        | some xs =>
          have := B he (by rw [hl, hf.cells]; omega) hm
          simpa using this
      · cases h
  | pair a b iha ihb =>
    have B : ∀ {fs : List Field} {off fuel : Nat} {cs : List Value} {xs : List (DataW H × List MemPlace)}, fieldsOk tys fs (.pair a b) off = true → cs.length = off + (Ty.pair a b).size → fs.mapM (fun f => DataW.trod enc P W base spare held fuel f.type ((cs.drop f.offset).take (P.cellsOf f.type))) = some xs →
      ∃ x : (Ty.pair a b).den, Rp W (fun b => b < W.heap.size) (.pair a b) .z x (cs.drop off) (fun _ => False) ∧ Gd (.pair a b) x := by
      intro fs off fuel cs xs h hl hm
      cases fs with
      | nil => cases h
      | cons f fs =>
        simp only [fieldsOk, Bool.and_eq_true, decide_eq_true_eq, beq_eq] at h
        obtain ⟨⟨⟨h1, h2⟩, _⟩, h4⟩ := h
        have hfa := hT _ _ h1
        rw [List.mapM_cons] at hm
        cases ha : DataW.trod enc P W base spare held fuel f.type ((cs.drop f.offset).take (P.cellsOf f.type)) with
        | none => simp [ha] at hm
        | some y =>
          cases hr : fs.mapM (fun f => DataW.trod enc P W base spare held fuel f.type ((cs.drop f.offset).take (P.cellsOf f.type))) with
          | none => simp [ha, hr] at hm
          | some r =>
            obtain ⟨x, hK, hG⟩ := iha.1 (dd := y.1) (ps := y.2) hfa ha
            obtain ⟨x', hK', hG'⟩ := ihb.2 h4 (by rw [hl]; simp only [Ty.size]; omega) hr
            rw [h2, hfa.cells] at hK
            refine ⟨(x, x'), ?_, hG, hG'⟩
            refine ⟨.z, .z, (cs.drop off).take a.size, cs.drop (off + a.size), fun _ => False, fun _ => False, rfl, rfl, ?_, hK, hK', fun _ h => h, fun _ h => h, fun _ h => h.elim⟩
            rw [← List.drop_drop, List.take_append_drop]
    refine ⟨fun {ty fuel cs dd ps} hf h => ?_, B⟩
    obtain ⟨fs, hu, he⟩ := hf.und
    cases fuel with
    | zero => simp [DataW.trod] at h
    | succ n =>
      unfold DataW.trod at h
      rw [hu] at h
      simp only at h
      split at h
      · rename_i hl
        cases hm : fs.toList.mapM (fun f => DataW.trod enc P W base spare held n f.type ((cs.drop f.offset).take (P.cellsOf f.type))) with
        | none => simp [hm] at h
        | some xs =>
          have := B he (by rw [hl, hf.cells]; omega) hm
          simpa using this
      · cases h
  | fp t _ => exact ⟨fun {ty fuel cs dd ps} hf h => hf.und.elim, fun {fs off fuel cs xs} h => by cases fs <;> cases h⟩
  | fn g t _ => exact ⟨fun {ty fuel cs dd ps} hf h => hf.und.elim, fun {fs off fuel cs xs} h => by cases fs <;> cases h⟩
end Go.OM

namespace Go.OM
open Go Go.RowKit
theorem forall_nil.{u} {α : Type u} {p : α → Prop} : ∀ x ∈ ([] : List α), p x := fun _ h => by cases h
theorem forall_cons.{u} {α : Type u} {p : α → Prop} {a : α} {l : List α} (h : p a) (k : ∀ x ∈ l, p x) : ∀ x ∈ a :: l, p x := List.forall_mem_cons.2 ⟨h, k⟩
def GdI : (pms : List PM) → denI pms → Prop
  | [], _ => True
  | p :: r, x => Gd p.ty x.1 ∧ GdI r x.2
def lawTys (tys : List (Option Ty)) : List TypeId → List PM → Bool
  | [], [] => true
  | i :: is, .fz t :: r => decide (tys[i]? = some (some t)) && lawTys tys is r
  | _, _ => false
theorem okWide_mkV {P : Program} {tys : List (Option Ty)} {W : World} {base ty : Nat} {t : Ty} {v : Value} (hf : TyFact P tys ty t) (h : Value.okWide P W .any base ty v) : v = mkV t v.cells.toList := by
  have hu := hf.und
  unfold Value.okWide at h
  cases t with
  | int k =>
    rw [hu] at h
    simp only [Cell.okWide, hu, Cell.ok] at h
    cases v <;> simp at h
    simp [mkV, Ty.agg, Value.cells]
  | bool =>
    rw [hu] at h
    simp only [Cell.okWide, hu, Cell.ok] at h
    cases v <;> simp at h
    simp [mkV, Ty.agg, Value.cells]
  | str =>
    rw [hu] at h
    simp only [Cell.okWide, hu, Cell.ok] at h
    cases v <;> simp at h
    simp [mkV, Ty.agg, Value.cells]
  | sl te =>
    obtain ⟨e, hu, _⟩ := hu
    rw [hu] at h
    simp only [Cell.okWide, hu, Cell.ok] at h
    cases v <;> simp at h
    simp [mkV, Ty.agg, Value.cells]
  | unit =>
    obtain ⟨fs, hu, _⟩ := hu
    rw [hu] at h
    obtain ⟨cs, rfl, _⟩ := h
    simp [mkV, Ty.agg, Value.cells]
  | pair a b =>
    obtain ⟨fs, hu, _⟩ := hu
    rw [hu] at h
    obtain ⟨cs, rfl, _⟩ := h
    simp [mkV, Ty.agg, Value.cells]
  | _ => exact hu.elim
theorem argsOk_of {P : Program} {tys : List (Option Ty)} (hT : ∀ i t, tys[i]? = some (some t) → TyFact P tys i t) {H : Type} (enc : TypeId × Value → H) (W : World) (base b0 : Nat) (spare : Nat → Bool) (held : Bool) : ∀ {ids : List TypeId} {pms : List PM} {args : List Value} {ds : List (DataW H)} {ps : List MemPlace},
    lawTys tys ids pms = true → DataW.TrodAll enc P W base spare held ids args ds ps → (∀ (j : Nat) t v, ids[j]? = some t → args[j]? = some v → Value.okWide P W .any b0 t v) →
    ∃ x : denI pms, ArgsOk W (fun b => b < W.heap.size) pms x args (fun _ _ => False) ∧ GdI pms x := by
  intro ids
  induction ids with
  | nil =>
    intro pms args ds ps hl hA _
    cases pms with
    | cons p r => cases p <;> cases hl
    | nil =>
      cases args with
      | nil => exact ⟨(), trivial, trivial⟩
      | cons v vs => cases ds <;> exact hA.elim
  | cons i is ih =>
    intro pms args ds ps hl hA hval
    cases pms with
    | nil => cases hl
    | cons p r =>
      cases p with
      | fz t =>
        simp only [lawTys, Bool.and_eq_true, decide_eq_true_eq] at hl
        cases args with
        | nil => cases ds <;> exact hA.elim
        | cons v vs =>
          cases ds with
          | nil => exact hA.elim
          | cons d ds =>
            obtain ⟨p, q, ⟨fuel, h1⟩, h2, _⟩ := hA
            obtain ⟨y, k1, k2⟩ := ih hl.2 h2 (fun j t v hj hv => hval (j + 1) t v (by simpa using hj) (by simpa using hv))
            have hf := hT _ _ hl.1
            obtain ⟨x, m1, m2⟩ := (opens hT enc W base spare held).1 hf h1
            exact ⟨(x, y), ⟨⟨_, okWide_mkV hf (hval 0 i v rfl rfl), m1⟩, k1⟩, m2, k2⟩
      | _ => cases hl
theorem law_calls {P : Program} {tys : List (Option Ty)} (hT : okTys P tys 0 tys = true) {f : Nat} {pms : List PM} {fk : Nat → denI pms → Option (denR (outTys [.v .bool .z] pms))} (hsm : ∀ k, SmOk P ⟨f, pms, [.v .bool .z], fk k⟩)
    (pure : ∀ x : denI pms, GdI pms x → ∃ k y, fk k x = some y ∧ headR .bool (pms.flatMap PM.outs) y = true) {H : Type} {enc : TypeId × Value → H} {W : World} {base b0 : Nat} {spare : Nat → Bool} {held : Bool} {ids : List TypeId} {args : List Value} {ds : List (DataW H)} {ps : List MemPlace}
    (hl : lawTys tys ids pms = true) (hA : DataW.TrodAll enc P W base spare held ids args ds ps) (hval : ∀ (j : Nat) t v, ids[j]? = some t → args[j]? = some v → Value.okWide P W .any b0 t v) :
    Calls P f args.toArray W fun e W' => e = .returned (.bool true) ∧ Below W.heap.size W W' := by
  have hT' : ∀ i t, tys[i]? = some (some t) → TyFact P tys i t := fun i t h => by
    have := okTys_get hT h
    rw [Nat.zero_add] at this
    exact okTy_fact this
  obtain ⟨x, h1, h2⟩ := argsOk_of hT' enc W base b0 spare held hl hA hval
  obtain ⟨k, y, h3, h4⟩ := pure x h2
  refine (hsm k args W _ _ x y h3 h1 ⟨fun _ _ _ _ h => h.elim, fun _ _ h => h.elim, fun _ _ h => h.elim, fun _ h => h⟩).mono fun e W' h => ?_
  obtain ⟨vs, S', Or, Oo, rfl, hr, _, hg, hsame, _⟩ := h
  refine ⟨?_, hg.os, hg.tape, hg.output, hg.size, fun b hb => hsame b hb (fun ⟨_, h⟩ => h)⟩
  cases vs with
  | nil => exact hr.elim
  | cons v vs =>
    obtain ⟨r1, r2⟩ := hr
    cases vs with
    | cons _ _ => exact r2.elim
    | nil =>
      obtain ⟨cs, rfl, r3⟩ := r1
      have r3 : cs = [.bool (headR .bool (pms.flatMap PM.outs) y)] := r3
      rw [r3, h4]
      rfl
/-- What was read of the arguments reads so behind the call. -/
theorem trodAll_stays {H : Type} {enc : TypeId × Value → H} {P : Program} (hl : laidOutB P = true) {W W' : World} (hb : Below W.heap.size W W') : ∀ {ts : List TypeId} {vs : List Value} {ds : List (DataW H)} {ps : List MemPlace},
    (ts.all fun t => P.readableRec t && Nat.blt t P.types.size) = true → DataW.TrodAll enc P W 0 (fun _ => true) true ts vs ds ps → DataW.TrodAll enc P W' 0 (fun b => decide (b < W.heap.size)) true ts vs ds ps := by
  intro ts
  induction ts with
  | nil => intro vs ds ps _ h; cases vs <;> cases ds <;> first | exact h | exact h.elim
  | cons t ts ih =>
    intro vs ds ps ht h
    simp only [List.all_cons, Bool.and_eq_true] at ht
    cases vs with
    | nil => cases ds <;> exact h.elim
    | cons v vs =>
      cases ds with
      | nil => exact h.elim
      | cons d ds =>
        obtain ⟨p, q, h1, h2, e⟩ := h
        refine ⟨p, q, Below.trod hl ht.1.1 (Nat.le_of_ble_eq_true ht.1.2) h1 hb (fun x hx => ?_), ih ht.2 h2, e⟩
        obtain ⟨m, hm⟩ := h1
        exact DataW.trod_lt m _ _ _ hm x hx
end Go.OM

namespace Go.OM
open Go
/-- From some fuel on the answer is v. -/
def Ev {α : Type} (f : Nat → Option α) (v : α) : Prop := ∃ K, ∀ k, K ≤ k → f k = some v
section
variable {α β : Type}
theorem Ev.ret {v : α} : Ev (fun _ => some v) v := ⟨0, fun _ _ => rfl⟩
theorem Ev.of {a : Option α} {v : α} (h : a = some v) : Ev (fun _ => a) v := ⟨0, fun _ _ => h⟩
theorem Ev.bind {f : Nat → Option α} {g : Nat → α → Option β} {a : α} {b : β} (h : Ev f a) (hg : Ev (fun k => g k a) b) : Ev (fun k => (f k).bind (g k)) b := by
  obtain ⟨K, h⟩ := h
  obtain ⟨L, hg⟩ := hg
  exact ⟨max K L, fun k hk => by show (f k).bind (g k) = some b; rw [h k (by omega), Option.bind_some]; exact hg k (by omega)⟩
theorem Ev.bindc {f : Option α} {g : Nat → α → Option β} {a : α} {b : β} (h : f = some a) (hg : Ev (fun k => g k a) b) : Ev (fun k => f.bind (g k)) b := by
  obtain ⟨L, hg⟩ := hg
  exact ⟨L, fun k hk => by show f.bind (g k) = some b; rw [h, Option.bind_some]; exact hg k hk⟩
theorem Ev.succ {f : Nat → Option α} {v : α} (h : Ev (fun k => f (k + 1)) v) : Ev f v := by
  obtain ⟨K, h⟩ := h
  exact ⟨K + 1, fun k hk => by obtain ⟨m, rfl⟩ : ∃ m, k = m + 1 := ⟨k - 1, by omega⟩; exact h m (by omega)⟩
theorem Ev.cg {f g : Nat → Option α} {v : α} (h : Ev g v) (e : ∀ k, f k = g k) : Ev f v := by
  obtain ⟨K, h⟩ := h
  exact ⟨K, fun k hk => by rw [e]; exact h k hk⟩
theorem Ev.eq {f : Nat → Option α} {v u : α} (h : Ev f v) (e : v = u) : Ev f u := e ▸ h
theorem Ev.pos {c : Prop} [Decidable c] {f g : Nat → Option α} {v : α} (hc : c) (h : Ev f v) : Ev (fun k => if c then f k else g k) v := h.cg fun k => if_pos hc
theorem Ev.neg {c : Prop} [Decidable c] {f g : Nat → Option α} {v : α} (hc : ¬ c) (h : Ev g v) : Ev (fun k => if c then f k else g k) v := h.cg fun k => if_neg hc
theorem Ev.get {f : Nat → Option α} {v : α} (h : Ev f v) : ∃ k, f k = some v := by
  obtain ⟨K, h⟩ := h; exact ⟨K, h K (Nat.le_refl K)⟩
end
theorem wrap64_id {x : Int} (h1 : -9223372036854775808 ≤ x) (h2 : x ≤ 9223372036854775807) : wrap64 x = x := by
  show (if (true && decide (x % 2 ^ 64 ≥ 2 ^ (64 - 1))) = true then x % 2 ^ 64 - 2 ^ 64 else x % 2 ^ 64) = x
  split
  · rename_i h
    simp at h
    omega
  · rename_i h
    simp at h
    omega
theorem getD_mem {α : Type} {l : List α} {i : Nat} {d : α} (h : i < l.length) : l.getD i d ∈ l := by
  rw [List.getD_eq_getElem?_getD, List.getElem?_eq_getElem h]
  exact List.getElem_mem h
theorem drop_get {α : Type} {l : List α} {i : Nat} {d : α} (h : i < l.length) : l.drop i = l.getD i d :: l.drop (i + 1) := by
  rw [List.drop_eq_getElem_cons h, List.getD_eq_getElem?_getD, List.getElem?_eq_getElem h]; rfl

/-! mark and held: numbers are written into a value's cells, and found there. W: how many numbers a value takes at most. -/
def MkOk (t : Ty) (W : t.den → Nat) (f : Nat → t.den → Int → Option (Int × t.den)) (h : Nat → t.den → Int → Option Int) : Prop :=
  ∀ x n, 1 ≤ n → n + (W x : Int) ≤ 4611686018427387904 → ∃ n' x', Ev (fun k => f k x n) (n', x') ∧ n ≤ n' ∧ n' ≤ n + (W x : Int) ∧ Ev (fun k => h k x' n) n'
/-- An element's numbers: written, and found or not. -/
def MkE (t : Ty) (W : t.den → Nat) (f : Nat → t.den → Int → Option (Int × t.den)) (h : Nat → t.den → Int → Option (Option Int)) : Prop :=
  ∀ x n, 1 ≤ n → n + (W x : Int) ≤ 4611686018427387904 → ∃ n' x', Ev (fun k => f k x n) (n', x') ∧ n ≤ n' ∧ n' ≤ n + (W x : Int) ∧ Ev (fun k => h k x' n) (some n')
/-- Written alone. -/
def Mk1 (t : Ty) (W : t.den → Nat) (f : Nat → t.den → Int → Option (Int × t.den)) : Prop :=
  ∀ x n, 1 ≤ n → n + (W x : Int) ≤ 4611686018427387904 → ∃ n' x', Ev (fun k => f k x n) (n', x') ∧ n ≤ n' ∧ n' ≤ n + (W x : Int)
theorem MkOk.one {t : Ty} {W : t.den → Nat} {f : Nat → t.den → Int → Option (Int × t.den)} {h : Nat → t.den → Int → Option Int} (H : MkOk t W f h) : Mk1 t W f := fun x n h1 h2 => by
  obtain ⟨n', x', k1, k2, k3, _⟩ := H x n h1 h2
  exact ⟨n', x', k1, k2, k3⟩
theorem MkE.one {t : Ty} {W : t.den → Nat} {f : Nat → t.den → Int → Option (Int × t.den)} {h : Nat → t.den → Int → Option (Option Int)} (H : MkE t W f h) : Mk1 t W f := fun x n h1 h2 => by
  obtain ⟨n', x', k1, k2, k3, _⟩ := H x n h1 h2
  exact ⟨n', x', k1, k2, k3⟩
theorem MkOk.up {t : Ty} {W W' : t.den → Nat} {f : Nat → t.den → Int → Option (Int × t.den)} {h : Nat → t.den → Int → Option Int} (H : MkOk t W f h) (hw : ∀ x, W x ≤ W' x) : MkOk t W' f h := fun x n h1 h2 => by
  have := hw x
  obtain ⟨n', x', k1, k2, k3, k4⟩ := H x n h1 (by omega)
  exact ⟨n', x', k1, k2, by omega, k4⟩
theorem getD_set_self {α : Type} {l : List α} {i : Nat} {a d : α} (h : i < l.length) : (l.set i a).getD i d = a := by
  rw [List.getD_eq_getElem?_getD, List.getElem?_set_self h]; rfl
end Go.OM

set_option linter.unusedVariables false
set_option linter.unusedSimpArgs false
namespace Go.OM
open Go Go.Proofs Go.Shelf Go.RowKit Go.Lib Go.Sort
section
variable {P : Program} {ρ : Ren}
theorem del_empty (L : SlLaysH.n10 P ρ) (a : Option Addr) (c : Nat) (fv : Value) (w : World) : Calls P (ρ.f 10) #[.slice a 0 c, fv] w fun e w' => e = .returned (.slice a 0 c) ∧ w' = w := by
  have mixed := L.mixed; have t0 := L.t0; have a0 := L.a0; have z0 := L.z0; have v0 := L.v0; have t3 := L.t3; have a3 := L.a3; have z3 := L.z3; have v3 := L.v3; have t4 := L.t4; have a4 := L.a4; have z4 := L.z4; have v4 := L.v4; have t22 := L.t22; have a22 := L.a22; have z22 := L.z22; have v22 := L.v22; have a23 := L.a23; have z23 := L.z23; have t25 := L.t25; have a25 := L.a25; have z25 := L.z25; have v25 := L.v25
  have e6 : ∀ args w, (callFunc (ρ.f 6) args).run P w = .ok (.enter (ρ.f 6) args) w := L.f6.enters rfl
  have hIF := AnyE.slices_IndexFunc_empty (P := P) (ρ := ρ) { L with } a c fv w
  obtain ⟨_, _, FG⟩ := L.f10
  go_enter FG, SlBodyH.n10_ntmps ρ
  go_wp2_with (go_at_fn (ρ.f 6); refine hIF.mono ?_; rintro e w' ⟨rfl, rfl⟩)
  go_ret
  exact ⟨rfl, rfl⟩
theorem getElem?_modify_other {α : Type} (a : Array α) (f : α → α) {i j : Nat} (h : j ≠ i) : (a.modify i f)[j]? = a[j]? := by
  rw [Array.getElem?_modify, if_neg (by omega)]
theorem heap_putRow_other {α : Type} [Inhabited α] (enc : α → Value) (w : World) (blk off : Nat) (d : Array α) {b : Nat} (h : b ≠ blk) : (putRow enc w blk off d).heap[b]? = w.heap[b]? :=
  getElem?_modify_other _ _ h
theorem heap_putRow_at {α : Type} [Inhabited α] (enc : α → Value) (w : World) (blk off : Nat) (d : Array α) {c : Array Value} {e : TypeId} {f : Nat × Nat} (h : w.heap[blk]? = some (.cells c e f)) :
    (putRow enc w blk off d).heap[blk]? = some (.cells (putCells enc off d c) e f) := by
  show (w.heap.modify blk (onCells (putCells enc off d)))[blk]? = _
  rw [Array.getElem?_modify, if_pos rfl, h]; rfl
theorem size_putCells {α : Type} [Inhabited α] (enc : α → Value) (off : Nat) (d : Array α) (c : Array Value) : (putCells enc off d c).size = c.size := by simp [putCells]
theorem grow_putRow {α : Type} [Inhabited α] (enc : α → Value) (w : World) (q blk off : Nat) (d : Array α) : Grow w (putRow enc (Sort.ahead w q) blk off d) := by
  refine ⟨rfl, rfl, rfl, by simp, fun b c e f h => ?_⟩
  by_cases hb : b = blk
  · subst hb
    exact ⟨_, f, heap_putRow_at enc (Sort.ahead w q) b off d h, size_putCells _ _ _ _⟩
  · exact ⟨c, f, by rw [heap_putRow_other _ _ _ _ _ hb]; exact h, rfl⟩
theorem Wr.putRow {α : Type} [Inhabited α] {w : World} {b n : Nat} (h : Wr w b n) (enc : α → Value) (q off : Nat) (d : Array α) : Wr (putRow enc (Sort.ahead w q) b off d) b n := by
  obtain ⟨c, e, f, h1, h2, h3⟩ := h
  exact ⟨_, e, f, heap_putRow_at enc (Sort.ahead w q) b off d h1, by rw [size_putCells]; exact h2, fun o ho => h3 o (by rwa [size_putCells] at ho)⟩
theorem Wr.frozen {w : World} {b n : Nat} (h : Wr w b n) {k : Nat} (hk : k < n) : w.frozen? ⟨b, k, none⟩ = false := by
  obtain ⟨c, e, f, h1, h2, h3⟩ := h
  unfold World.frozen?
  rw [h1]
  have := h3 k (by omega)
  simp only [Bool.and_eq_false_iff, decide_eq_false_iff_not]
  by_cases h : f.1 ≤ k
  · exact .inr fun h' => this ⟨h, h'⟩
  · exact .inl h
theorem intAt {w : World} {S : Nat → Prop} {b off : Nat} {ci : List Value} {k : IntKind} {x : Int} {O : Nat → Prop} (h : AtC w b off ci) (hr : Rp w S (.int k) .z x ci O) : w.cell? ⟨b, off, none⟩ = some (.int k x) := by
  have e : ci = [.int k x] := hr
  subst e
  exact h 0 _ rfl
set_option maxHeartbeats 1000000 in
/-- slices.DeleteFunc at a function value that only reads: the elements that it does not strike. -/
theorem del_ok (L : SlLaysH.n10 P ρ) (v23 : ∀ w, (zeroValue (ρ.t 23)).run P w = .ok (.int .i64 0) w) {g : Nat} {t : Ty} (eg : ∀ args w, (callFunc g args).run P w = .ok (.enter g args) w) (pred : t.den → Int → Bool) (okp : t.den → Prop) [DecidablePred okp]
    (hcl : ∀ (w : World) (S : Nat → Prop) (y : t.den) (cap : List Value) (x : Int), okp y → Rp w S t .z y cap (fun _ => False) → FnGives P g cap.toArray #[.int .i64 x] (.bool (pred y x)) w) :
    SmOk P ⟨ρ.f 10, [.own (.sl (.int .i64)) (.own .z), .fz (.fn g t)], [.v (.sl (.int .i64)) (.own .z)], fun x => if ((List.length x.1 : Nat) : Int) ≤ lim ∧ okp x.2.1 then some (List.filter (fun v => !pred x.2.1 v) x.1) else none⟩ := by
  intro args w S Os x y0 hf ha hap
  obtain ⟨y, hyy⟩ : ∃ y : List Int, y = y0 := ⟨y0, rfl⟩
  subst hyy
  have hf : (if ((List.length x.1 : Nat) : Int) ≤ lim ∧ okp x.2.1 then some (List.filter (fun v => !pred x.2.1 v) x.1) else none) = some y := hf
  by_cases hlm : ((List.length x.1 : Nat) : Int) ≤ lim ∧ okp x.2.1
  case neg => rw [if_neg hlm] at hf; cases hf
  rw [if_pos hlm] at hf
  have hok := hlm.2
  have hlm : (List.length x.1 : Nat) ≤ 1073741824 := by have := hlm.1; rw [lim_eq] at this; omega
  have hy : List.filter (fun v => !pred x.2.1 v) x.1 = y := Option.some.inj hf
  obtain ⟨v0, v1, rfl⟩ : ∃ v0 v1, args = [v0, v1] := by
    match args, ha with
    | [v0, v1], _ => exact ⟨v0, v1, rfl⟩
    | [], h => exact h.elim
    | [_], h => exact h.2.elim
    | _ :: _ :: _ :: _, h => exact h.2.2.elim
  obtain ⟨⟨cs, rfl, h0⟩, ⟨cs1, rfl, h1⟩, _⟩ := ha
  obtain ⟨a, cap, rfl, hc, h0⟩ := h0
  obtain ⟨cp, rfl, h1⟩ := h1
  have hp : ∀ W : World, (∀ b, S b → W.heap[b]? = w.heap[b]?) → ∀ v : Int, FnGives P g cp.toArray #[.int .i64 v] (.bool (pred x.2.1 v)) W := fun W hW v =>
    hcl W S x.2.1 cp v hok (h1.frame (fun _ h => h) (fun _ h => h) (fun b hb => hb.elim (hW b) False.elim))
  change List.length x.1 ≤ cap at hc
  cases a with
  | none =>
    have hx : x.1 = [] := h0.1
    have hc0 : cap = 0 := h0.2
    have hlen : List.length x.1 = 0 := by rw [hx]; rfl
    subst hc0
    have hcall := del_empty L none 0 (.func (.func g) #[] cp.toArray) w
    show Calls P (ρ.f 10) #[.slice none (List.length x.1) 0, .func (.func g) #[] cp.toArray] w _
    rw [hlen]
    refine hcall.mono fun e w' ⟨he, hw⟩ => ?_
    subst he hw
    refine ⟨[.slice none 0 0], S, fun _ _ => False, fun _ _ => False, rfl, ⟨⟨[.slice none 0 0], rfl, none, 0, ?_, ?_⟩, trivial⟩, trivial, Grow.refl _, fun _ _ _ => rfl, fun _ h => h, fun _ h => .inl h, fun _ _ h => (h.elim id id).elim, ⟨fun _ _ _ _ h => h.elim, fun _ _ h => h.elim, fun _ _ h => h.elim, hap.ltS⟩, ⟨fun _ _ _ _ h => h.elim, fun _ _ h => h.elim, fun _ _ h => h.elim, hap.ltS⟩, fun _ _ _ h => h.elim⟩
    · show [Value.slice none 0 0] = [.slice none (List.length y) 0]
      rw [← hy, hx]; rfl
    · show List.length y ≤ 0 ∧ y = [] ∧ _
      rw [← hy, hx]; exact ⟨Nat.le_refl _, rfl, rfl⟩
  | some ad =>
    obtain ⟨hs, hO, hW, Oss, hrow, hOs, _⟩ := h0
    obtain ⟨blk, off, sp⟩ := ad
    have hs : sp = none := hs
    subst hs
    have hW : Wr w blk (off + cap * 1) := hW
    have hO : Os 0 blk := hO
    have hnS : ∀ b, S b → b ≠ blk := fun b hb e => hap.noS 0 blk hO (e ▸ hb)
    have hH : Holds (Value.int .i64) w blk off (x.1 : List Int).toArray := fun j hj => by
      have hj : j < List.length x.1 := by simpa using hj
      obtain ⟨ci, k1, k2⟩ := hrow j ((x.1 : List Int)[j]) (List.getElem?_eq_getElem hj)
      have := intAt k1 k2
      rw [show off + j * (Ty.int .i64).size = off + j by simp [Ty.size]] at this
      refine ⟨?_, hW.frozen (by omega)⟩
      rw [this, getElem!_pos _ j (by simpa using hj)]; simp
    have hsz : (x.1 : List Int).toArray.size ≤ cap := by simpa using hc
    have hcap : (x.1 : List Int).toArray.size ≤ 9223372036854775807 := by rw [List.size_toArray]; omega
    have hcall := AnyE.slices_DeleteFunc L (Value.int .i64) (fun _ => rfl) (pred x.2.1) g cp.toArray eg 0 v23 blk off cap (x.1 : List Int).toArray w
      (fun W v hb => hp W (fun b hb' => hb.block b (hap.ltS b hb')) v)
      (fun n os dk v hd => hp _ (fun b hb' => by
        unfold sortWorld
        rw [Sort.heap_grow_old _ _ (by simp; exact hap.ltS b hb'), heap_putRow_other _ _ _ _ _ (hnS b hb')]; rfl) v) hH hcap hsz
    simp only [List.size_toArray] at hcall
    refine hcall.mono fun e w' ⟨he, q, hw⟩ => ?_
    have hyl : List.filter (fun v => !pred x.2.1 v) x.1 = y := hy
    rw [hyl] at he hw
    have hyn : List.length y ≤ List.length x.1 := by rw [← hyl]; exact List.length_filter_le _ _
    generalize hd : ((y : List Int) ++ List.replicate (List.length x.1 - List.length y) 0).toArray = d at hw
    have hds : d.size = (x.1 : List Int).toArray.size := by rw [← hd]; simp; omega
    have hH' : Holds (Value.int .i64) w' blk off d := by rw [hw]; exact holds_putRow _ _ _ _ _ _ hH hds
    subst he
    refine ⟨[.slice (some ⟨blk, off, none⟩) (List.length y) cap], S, fun i b => i = 0 ∧ b = blk, fun _ _ => False, rfl, ⟨⟨[.slice (some ⟨blk, off, none⟩) (List.length y) cap], rfl, some ⟨blk, off, none⟩, cap, rfl, by show List.length y ≤ cap; omega, rfl, ⟨rfl, rfl⟩, ?_, fun _ _ => False, fun i v hv => ?_, fun _ _ h => h.elim, fun _ _ _ _ h => h.elim⟩, trivial⟩, trivial, by rw [hw]; exact grow_putRow _ _ _ _ _ _, fun b hb hn => ?_, fun _ h => h, fun _ h => .inl h, fun i b h => ?_, ?_, ?_, fun i j b _ h => h⟩
    · rw [hw]; exact hW.putRow _ _ _ _
    · have hi : i < List.length y := (List.getElem?_eq_some_iff.1 hv).1
      have h1 := (hH' i (by rw [hds]; simp; omega)).1
      have h2 : d[i]! = v := by
        rw [← hd, getElem!_pos _ i (by simp; omega)]
        simp only [List.getElem_toArray]
        rw [List.getElem_append_left hi]
        exact (List.getElem?_eq_some_iff.1 hv).2
      rw [h2] at h1
      refine ⟨[.int .i64 v], fun k u hk => ?_, rfl⟩
      cases k with
      | zero =>
        cases hk
        rw [show off + i * (Ty.int .i64).size + 0 = off + i by simp [Ty.size]]; exact h1
      | succ k => cases hk
    · rw [hw, heap_putRow_other _ _ _ _ _ (fun (h : b = blk) => hn ⟨0, by rw [h]; exact hO⟩)]; rfl
    · rcases h with ⟨_, rfl⟩ | h
      · exact .inl ⟨0, hO⟩
      · exact h.elim
    · have hsz' : w'.heap.size = w.heap.size := by rw [hw]; simp
      exact ⟨fun i j b hij h1 h2 => hij (h1.1.trans h2.1.symm), fun i b h hb => hnS b hb h.2, fun i b h => by rw [hsz', h.2]; exact hap.lt 0 blk hO, fun b hb => by rw [hsz']; exact hap.ltS b hb⟩
    · have hsz' : w'.heap.size = w.heap.size := by rw [hw]; simp
      exact ⟨fun _ _ _ _ h => h.elim, fun _ _ h => h.elim, fun _ _ h => h.elim, fun b hb => by rw [hsz']; exact hap.ltS b hb⟩
/-- One captured variable. -/
theorem cap_one {w : World} {S : Nat → Prop} {t : Ty} {y : (Ty.pair (.fp t) .unit).den} {cap : List Value} {O : Nat → Prop} (h : Rp w S (.pair (.fp t) .unit) .z y cap O) :
    ∃ b off c1, cap = [.pointer (some ⟨b, off, none⟩)] ∧ AtC w b off c1 ∧ Rp w S t .z y.1 c1 (fun _ => False) := by
  obtain ⟨oa, ob, c1, c2, O1, O2, e1, e2, rfl, h1, h2, _⟩ := h
  simp [Ow.fst] at e1; simp [Ow.snd] at e2; subst e1 e2
  obtain ⟨b, off, d, rfl, _, k2, k3⟩ := h1
  have : c2 = [] := h2
  subst this
  exact ⟨b, off, d, rfl, k2, k3⟩
theorem contains_calls (L : SlLaysE.n31 P ρ) {w : World} {S : Nat → Prop} {xs : List Int} {a : Option Addr} {n c : Nat} {O : Nat → Prop} (h : Rp w S (.sl (.int .i64)) .z xs [.slice a n c] O) (hl : xs.length ≤ 1073741824) (x : Int) :
    Calls P (ρ.f 31) #[.slice a n c, .int .i64 x] w fun e w' => e = .returned (.bool (xs.any fun u => decide (x = u))) ∧ w' = w := by
  obtain ⟨a', c', e1, hc, h⟩ := h
  cases e1
  have none_case : xs = [] → Calls P (ρ.f 31) #[.slice a (List.length xs) c, .int .i64 x] w fun e w' => e = .returned (.bool (xs.any fun u => decide (x = u))) ∧ w' = w := fun hx => by
    subst hx
    exact AnyE.slices_Contains_empty L a c (.int .i64 x) w
  cases hxs : xs with
  | nil => rw [← hxs]; exact none_case hxs
  | cons x0 r =>
    rw [← hxs]
    cases a with
    | none => exact none_case h
    | some ad =>
      obtain ⟨b, off, sp⟩ := ad
      have hs : sp = none := (h 0 x0 (by rw [hxs]; rfl)).1
      subst hs
      have := AnyE.slices_Contains L (Value.int .i64) (fun x y => decide (x = y)) (EqlAt.intD _ _ .i64) b off (List.length xs) c xs x w (Nat.le_refl _) (by omega) (fun j hj => by
        obtain ⟨_, _, ci, k1, k2⟩ := h j xs[j] (List.getElem?_eq_getElem hj)
        have h1 := intAt k1 k2
        rw [show off + j * (Ty.int .i64).size = off + j by simp [Ty.size]] at h1
        rw [h1, getElem!_pos _ j hj])
      rw [List.take_length] at this
      exact this
end
end Go.OM

