/- The plain law: a drawn world is right just as the reference says; who has a place has it kept and is not lost; how far a writer is sure is the same, and not less than nothing. Conditions: what is known of a value that came in. -/
import Derived.Test.YtngfjichhphjeaaGreatPureAFnWorlds
set_option linter.unusedVariables false
set_option linter.unusedSimpArgs false
set_option linter.unusedSectionVars false
namespace Go.Proofs.YtngfjichhphjeaaGreat.OmFnWorlds
open Go Go.OM
theorem spec_l6DrawRight_d (c : l1Cur) (h : Cu c) : Evp (fun k => spec_l6DrawRight.f k c) (fun q => EG 4096 q.1.1 ∧ EG 4096 q.1.2.1 ∧ InR q.1.2.2.1 ∧ Cu q.2) := by
  simp only [spec_l6DrawRight.f]
  refine Evp.bindc (spec_l1Below_d c 8 h) fun b hb => ?_
  have h1 := hb.2.1 (by omega); have h0 := hb.1
  exact spec_l6DrawRight_l b.1 (by omega) _ SG.zero b.1.toNat 0 _ _ (by omega) (by omega) ⟨SG.zero, by show (0 : Nat) + 0 ≤ 0; omega⟩ hb.2.2.2

theorem spec_l1DrawPlace_d (c : l1Cur) (h : Cu c) : Op (spec_l1DrawPlace.f c) (fun r => InR r.1 ∧ Cu r.2) := by
  unfold spec_l1DrawPlace.f
  refine Op.bind (spec_l1Below_d c 3 h) fun r hr => Op.bind (spec_l1Below_d _ 6 hr.2.2.2) fun s hs => Op.bind (spec_l1Place_is _ _) fun p hp => Op.bind (spec_l1Below_d _ 15 hs.2.2.2) fun t ht => ?_
  refine Op.ite (fun _ => Op.bind (spec_l1PickInt_d _ _ ht.2.2.2 (by decide)) fun u hu => Op.ret ⟨?_, hu.2⟩) (fun _ => Op.ite (fun _ => Op.bind (spec_l1PickInt_d _ _ ht.2.2.2 (by decide)) fun u hu => Op.bind (spec_l1PickInt_d _ _ hu.2 (by decide)) fun v hv => Op.bind (spec_l1Place_is _ _) fun q hq => Op.ret ⟨hq, hv.2⟩) (fun _ => Op.ret ⟨hp, ht.2.2.2⟩))
  have := hu.1
  simp only [List.mem_cons, List.not_mem_nil, or_false] at this
  unfold InR
  rcases this with h | h | h | h | h | h <;> rw [h] <;> decide

theorem spec_l3Draw_d (c : l1Cur) (h : Cu c) : Op (spec_l3Draw.f c) (fun r => InR r.1.1 ∧ Cu r.2) := by
  unfold spec_l3Draw.f
  refine Op.bind (spec_l3DrawRight_d c h) fun r hr => Op.bind (spec_l1Below_d _ 15 hr.2) fun s hs => ?_
  refine Op.ite (fun _ => Op.bind (spec_l1DrawPlace_d _ hs.2.2.2) fun p hp => Op.ret ⟨hp.1, hp.2⟩) (fun _ => Op.ite (fun _ => Op.bind (spec_l1PickInt_d _ _ hs.2.2.2 (by decide)) fun p hp => Op.ret ⟨hr.1, hp.2⟩) (fun _ => Op.ite (fun _ => Op.ret ⟨hr.1, hs.2.2.2⟩) (fun _ => Op.ite (fun _ => Op.bind (spec_l1Below_d _ 2 hs.2.2.2) fun p hp => ?_) (fun _ => Op.ret ⟨hr.1, hs.2.2.2⟩))))
  have h1 := hp.2.1 (by omega); have h0 := hp.1
  rw [wrap64_id (by omega) (by omega)]
  exact Op.pos (by rw [lim_eq]; omega) (Op.ret ⟨hr.1, hp.2.2.2⟩)

def DG (n : Nat) (s : Store) : Prop := EG n s.1 ∧ EG n s.2.1 ∧ InR s.2.2.1
theorem spec_l6Draw_l (z : Store) : ∀ (d : Nat) (s : Store) (c : l1Cur), 21 - s.2.1.length ≤ d → DG 4096 s → Cu c → Evp (fun k => spec_l6Draw.p21 k z s c) (fun q => DG 4097 q.1 ∧ Cu q.2) := by
  intro d
  induction d with
  | zero =>
    intro s c hd hs hc
    refine Evp.succ ?_
    simp only [spec_l6Draw.p21]
    refine Evp.bindc (spec_l1Below_d c 2 hc) fun r hr => ?_
    have h1 := hr.2.1 (by omega)
    have h0 := hr.1
    rw [wrap64_id (x := 20 + r.1) (by omega) (by omega)]
    exact Evp.neg (by omega) (Evp.ret ⟨⟨hs.1.mono (by omega), hs.2.1.mono (by omega), hs.2.2⟩, hr.2.2.2⟩)
  | succ d ih =>
    intro s c hd hs hc
    refine Evp.succ ?_
    simp only [spec_l6Draw.p21]
    refine Evp.bindc (spec_l1Below_d c 2 hc) fun r hr => ?_
    have h1 := hr.2.1 (by omega)
    have h0 := hr.1
    rw [wrap64_id (x := 20 + r.1) (by omega) (by omega)]
    refine Evp.ite (fun hl => Evp.bindc (spec_l1Place_is _ _) fun p hp => Evp.pos (by simp only [lim_eq, List.length_cons, List.length_nil]; omega) ?_) (fun _ => Evp.ret ⟨⟨hs.1.mono (by omega), hs.2.1.mono (by omega), hs.2.2⟩, hr.2.2.2⟩)
    have hx : EG s.2.1.length s.2.1 := ⟨Nat.le_refl _, hs.2.1.2⟩
    refine ih _ _ ?_ ⟨hs.1, (hx.app (e := (p, ((0 : Int), (false, ((⟨#[]⟩ : ByteArray), ()))))) hp).mono (by omega), hs.2.2⟩ hr.2.2.2
    show 21 - (s.2.1 ++ [_]).length ≤ d
    rw [List.length_append, List.length_singleton]; omega
theorem spec_l6Draw_d (c : l1Cur) (hc : Cu c) : Evp (fun k => spec_l6Draw.f k c) (fun q => DG 4097 q.1 ∧ Cu q.2) := by
  simp only [spec_l6Draw.f]
  refine Evp.bind (spec_l6DrawRight_d c hc) fun r hr => Evp.bindc (spec_l1Below_d _ 25 hr.2.2.2) fun s hs => ?_
  have g : DG 4096 r.1 := ⟨hr.1, hr.2.1, hr.2.2.1⟩
  have g' : DG 4097 r.1 := ⟨hr.1.mono (by omega), hr.2.1.mono (by omega), hr.2.2.1⟩
  have l1 := hr.1.1
  have l2 := hr.2.1.1
  refine Evp.ite (fun _ => Evp.bindc (spec_l1PickInt_d _ _ hs.2.2.2 (by simp)) fun p hp => Evp.ret ⟨⟨g'.1, g'.2.1, ?_⟩, hp.2⟩) (fun _ => Evp.ite (fun _ => Evp.bindc (spec_l3Draw_d _ hs.2.2.2) fun e he => Evp.pos (by simp only [lim_eq, List.length_cons, List.length_nil]; omega) (Evp.ret ⟨⟨g.1.app he.1, g'.2.1, g'.2.2⟩, he.2⟩)) (fun _ => Evp.ite (fun _ => Evp.bindc (spec_l3Draw_d _ hs.2.2.2) fun e he => Evp.pos (by simp only [lim_eq, List.length_cons, List.length_nil]; omega) (Evp.ret ⟨⟨g'.1, g.2.1.app he.1, g'.2.2⟩, he.2⟩)) (fun _ => Evp.ite (fun _ => spec_l6Draw_l _ 21 r.1 _ (by omega) g hs.2.2.2) (fun _ => Evp.ret ⟨g', hs.2.2.2⟩))))
  show InR p.1
  have := hp.1
  simp only [List.mem_cons, List.not_mem_nil, or_false] at this
  unfold InR; omega

theorem spec_l7DrawRight_l (a : Config) (z : Register) (ha : a.1.length ≤ 9) : ∀ (m i : Nat) (r : Register) (c : l1Cur), i + m = 6 → RG i r → Cu c →
    Evp (fun k => spec_l7DrawRight.p7 k (i : Int) a z r c) (fun q => RG 6 q.1 ∧ Cu q.2) := by
  intro m
  induction m with
  | zero =>
    intro i r c hi hr hc
    refine Evp.succ ?_
    simp only [spec_l7DrawRight.p7]
    refine Evp.bindc (spec_l1Below_d c 7 hc) fun b hb => Evp.neg ?_ (Evp.ret ⟨hr.mono (by omega), hb.2.2.2⟩)
    have := hb.2.1 (by omega); omega
  | succ m ih =>
    intro i r c hi hr hc
    have hl := hr.1
    have go : ∀ (r' : Register) (c' : l1Cur), RG (i + 1) r' → Cu c' → Evp (fun k => spec_l7DrawRight.p7 k (wrap64 ((i : Int) + 1)) a z r' c') (fun q => RG 6 q.1 ∧ Cu q.2) := fun r' c' h1 h2 => by
      rw [wrap_up (i := i) (n := 6) (by omega) (by omega)]
      exact ih (i + 1) r' c' (by omega) h1 h2
    have same : RG (i + 1) r := hr.mono (by omega)
    refine Evp.succ ?_
    simp only [spec_l7DrawRight.p7]
    refine Evp.bindc (spec_l1Below_d c 7 hc) fun b hb => Evp.ite (fun _ => ?_) (fun _ => Evp.ret ⟨hr.mono (by omega), hb.2.2.2⟩)
    refine Evp.bind (spec_l7DrawSet_d b.2 a hb.2.2.2 ha) fun s hs => Evp.bindv (spec_RegOpen_ev a r s.1 hr.2.2 (by omega) (by omega) hr.at (by omega)) (Evp.bindc (spec_l1Below_d _ 4 hs.2) fun t ht => ?_)
    refine Evp.ite (fun _ => Evp.bindc (spec_l1Below_d _ 5 ht.2.2.2) fun u hu => Evp.bind (spec_RegClose_d a r _ _ (by omega) (by omega) hr) fun w hw => Evp.ite (fun _ => go _ _ (hw.mono (by omega)) hu.2.2.2) (fun _ => go _ _ same hu.2.2.2)) (fun _ => Evp.ite (fun _ => ?_) (fun _ => Evp.ite (fun ho => go _ _ ?_ ht.2.2.2) (fun _ => go _ _ same ht.2.2.2)))
    · refine Evp.bindc (spec_l1Below_d _ 2 ht.2.2.2) fun u hu => Evp.bindc (spec_l1Below_d _ 4 hu.2.2.2) fun v hv => Evp.bindc (spec_l1Place_is _ _) fun p hp => Evp.bindv (spec_RegTrim_ev a r p hr.2.2 hp (by omega) (by omega) hr.at) (Evp.ite (fun _ => go _ _ ?_ hv.2.2.2) (fun _ => go _ _ same hv.2.2.2))
      unfold trimF
      split
      · split
        · refine ⟨by show r.1.length ≤ i + 1; omega, hr.2.1, ?_⟩
          have h1 := hr.2.2
          show InR (max r.2.1 p)
          unfold InR at *
          omega
        · exact same
      · exact RG.nil
    · unfold openF
      split
      · split
        · split
          · exact same
          · refine ⟨by show (r.1 ++ [_]).length ≤ i + 1; simp; omega, fun e he => ?_, hr.2.2⟩
            rcases List.mem_append.1 he with h | h
            · exact hr.2.1 e h
            · rw [List.mem_singleton] at h; subst h; show s.1.length ≤ 64; omega
        · exact same
      · exact RG.nil
theorem spec_l7DrawRight_d (c : l1Cur) (a : Config) (h : Cu c) (ha : a.1.length ≤ 9) : Evp (fun k => spec_l7DrawRight.f k c a) (fun q => RG 6 q.1 ∧ Cu q.2) := spec_l7DrawRight_l a _ ha 6 0 _ c (by omega) RG.nil h

theorem spec_l7Draw_l (l : List Int) (hl : l.length ≤ 64) (z : Register) : ∀ (m : Nat) (r : Register) (c : l1Cur), r.1.length + m = 31 → RG 31 r → Cu c →
    Evp (fun k => spec_l7Draw.p35 k l z r c) (fun q => RG 31 q.1 ∧ Cu q.2) := by
  intro m
  induction m with
  | zero =>
    intro r c hi hr hc
    refine Evp.succ ?_
    simp only [spec_l7Draw.p35]
    refine Evp.bindc (spec_l1Below_d c 2 hc) fun b hb => Evp.neg ?_ (Evp.ret ⟨hr, hb.2.2.2⟩)
    have h1 := hb.2.1 (by omega); have h0 := hb.1
    rw [wrap64_id (by omega) (by omega)]; omega
  | succ m ih =>
    intro r c hi hr hc
    refine Evp.succ ?_
    simp only [spec_l7Draw.p35]
    refine Evp.bindc (spec_l1Below_d c 2 hc) fun b hb => Evp.ite (fun _ => Evp.pos (by simp only [lim_eq, List.length_cons, List.length_nil]; omega) ?_) (fun _ => Evp.ret ⟨hr, hb.2.2.2⟩)
    refine ih _ b.2 (by show (r.1 ++ [_]).length + m = 31; simp; omega) ⟨by show (r.1 ++ [_]).length ≤ 31; simp; omega, fun e he => ?_, hr.2.2⟩ hb.2.2.2
    rcases List.mem_append.1 he with h | h
    · exact hr.2.1 e h
    · rw [List.mem_singleton] at h; subst h; exact hl
theorem spec_l7Draw_d (c : l1Cur) (a : Config) (h : Cu c) (ha : a.1.length ≤ 9) : Evp (fun k => spec_l7Draw.f k c a) (fun q => RG 31 q.1 ∧ Cu q.2) := by
  simp only [spec_l7Draw.f]
  refine Evp.bind (spec_l7DrawRight_d c a h ha) fun r hr => Evp.bindc (spec_l1Below_d _ 25 hr.2) fun b hb => ?_
  have hg := hr.1
  have hg31 : RG 31 r.1 := hg.mono (by omega)
  have hl := hg.1
  refine Evp.ite (fun _ => Evp.bindc (spec_l1DrawPlace_d _ hb.2.2.2) fun p hp => Evp.ret ⟨⟨by show r.1.1.length ≤ 31; omega, hg.2.1, hp.1⟩, hp.2⟩) fun _ => ?_
  refine Evp.ite (fun _ => Evp.ite (fun h0 => ?_) (fun _ => Evp.ret ⟨hg31, hb.2.2.2⟩)) fun _ => ?_
  · rw [wrap64_id (by omega) (by omega)]
    exact Evp.pos (by omega) (Evp.ret ⟨RG.set hg31 (hg.get _), hb.2.2.2⟩)
  refine Evp.ite (fun _ => Evp.ite (fun h0 => Evp.bindc (spec_l1PickInt_d _ _ hb.2.2.2 (by decide)) fun p hp => Evp.pos (by omega) (Evp.ret ⟨RG.set hg31 (hg.get _), hp.2⟩)) (fun _ => Evp.ret ⟨hg31, hb.2.2.2⟩)) fun _ => ?_
  refine Evp.ite (fun _ => Evp.ite (fun h0 => Evp.bind (spec_l4DrawNodes_d _ a hb.2.2.2 ha) fun p hp => Evp.pos (by omega) (Evp.ret ⟨RG.set hg31 (by show p.1.length ≤ 64; omega), hp.2⟩)) (fun _ => Evp.ret ⟨hg31, hb.2.2.2⟩)) fun _ => ?_
  refine Evp.ite (fun _ => Evp.bind (spec_l7DrawSet_d _ a hb.2.2.2 ha) fun p hp => ?_) (fun _ => Evp.ret ⟨hg31, hb.2.2.2⟩)
  exact spec_l7Draw_l p.1 (by omega) _ (31 - r.1.1.length) r.1 p.2 (by omega) hg31 hp.2

theorem WD.ack {n : Nat} {w : Writer} (h : WD n w) (a : Config) (x y : Int) : WD (n + 1) (wackF a w x y).1 := by
  unfold wackF
  split
  · split
    · refine ⟨by show (w.2.1.set _ _).length ≤ _; rw [List.length_set]; have := h.1; omega, fun z hz => ?_⟩
      rcases List.mem_or_eq_of_mem_set (show z ∈ w.2.1.set _ _ from hz) with h' | h'
      · have := h.2 z h'; omega
      · subst h'
        show (insL _ y).length ≤ _
        have h1 := insL_len (w.2.1.getD (x - 1).toNat zWord).2.1 y
        by_cases hi : (x - 1).toNat < w.2.1.length
        · have := h.2 _ (getD_mem (d := zWord) hi); omega
        · have h2 : w.2.1.getD (x - 1).toNat zWord = zWord := by rw [List.getD_eq_getElem?_getD, List.getElem?_eq_none (by omega)]; rfl
          rw [h2] at h1 ⊢
          have h3 : zWord.2.1.length = 0 := rfl
          omega
    · exact h.mono (by omega)
  · exact ⟨Nat.zero_le _, fun z hz => by cases hz⟩
theorem WD.addF {n : Nat} {w : Writer} (h : WD n w) (a : Config) (s : ByteArray) : WD (n + 1) (waddF a w s).1 := by
  unfold waddF
  split
  · split
    · exact h.add s
    · exact h.mono (by omega)
  · exact ⟨Nat.zero_le _, fun z hz => by cases hz⟩
theorem spec_l8DrawRight_l (a : Config) (z : Writer) (ha : a.1.length ≤ 1048576) : ∀ (d i : Nat) (w : Writer) (c : l1Cur), i + d = 14 → WD i w → Cu c → Evp (fun k => spec_l8DrawRight.p7 k (i : Int) a z w c) (fun r => WD 14 r.1 ∧ Cu r.2) := by
  intro d
  induction d with
  | zero =>
    intro i w c hi hw hc
    refine Evp.succ ?_
    simp only [spec_l8DrawRight.p7]
    refine Evp.bindc (spec_l1Below_d c 14 hc) fun r hr => Evp.neg (by have := hr.2.1 (by omega); omega) (Evp.ret ⟨hw.mono (by omega), hr.2.2.2⟩)
  | succ d ih =>
    intro i w c hi hw hc
    have h1 := hw.1
    refine Evp.succ ?_
    simp only [spec_l8DrawRight.p7]
    rw [wrap_up (i := i) (n := 14) (by omega) (by omega)]
    refine Evp.bindc (spec_l1Below_d c 14 hc) fun r hr => Evp.ite (fun _ => ?_) (fun _ => Evp.ret ⟨hw.mono (by omega), hr.2.2.2⟩)
    refine Evp.bindc (spec_l1Pick_d _ _ hr.2.2.2 (by simp)) fun s hs => Evp.bindv (spec_WriterAdd_ev a w s.1 ha (hw.mono (by omega))) (Evp.bindc (spec_l1Once_d _ 2 hs) fun o ho => Evp.ite (fun _ => ?_) (fun _ => Evp.ite (fun _ => ih (i + 1) _ _ (by omega) (hw.addF a s.1) ho) (fun _ => ih (i + 1) _ _ (by omega) (hw.mono (by omega)) ho)))
    refine Evp.bindc (spec_l1Max_d _ _) fun m hm => Evp.bindc (spec_l1Below_d _ m ho) fun p hp => Evp.bindc (spec_l1Below_d _ _ hp.2.2.2) fun q hq => Evp.bindv (spec_WriterAck_ev a w _ q.1 ha (by omega) (hw.at (by omega))) (Evp.ite (fun _ => ih (i + 1) _ _ (by omega) (hw.ack a _ q.1) hq.2.2.2) (fun _ => ih (i + 1) _ _ (by omega) (hw.mono (by omega)) hq.2.2.2))
theorem spec_l8DrawRight_d (c : l1Cur) (a : Config) (hc : Cu c) (ha : a.1.length ≤ 1048576) : Evp (fun k => spec_l8DrawRight.f k c a) (fun r => WD 14 r.1 ∧ Cu r.2) := by
  simp only [spec_l8DrawRight.f]
  exact Evp.bindc (spec_l1Below_d c 4 hc) fun r hr => spec_l8DrawRight_l a _ ha 14 0 _ _ (by omega) ⟨Nat.zero_le _, fun z hz => by cases hz⟩ hr.2.2.2

theorem spec_l8Draw_l (z : Writer) : ∀ (d : Nat) (w : Writer) (c : l1Cur), 60 - w.2.1.length ≤ d → WD 60 w → Cu c → Evp (fun k => spec_l8Draw.p23 k z w c) (fun r => WD 60 r.1 ∧ Cu r.2) := by
  intro d
  induction d with
  | zero =>
    intro w c hd hw hc
    refine Evp.succ ?_
    simp only [spec_l8Draw.p23]
    exact Evp.neg (by omega) (Evp.ret ⟨hw, hc⟩)
  | succ d ih =>
    intro w c hd hw hc
    have h1 := hw.1
    refine Evp.succ ?_
    simp only [spec_l8Draw.p23]
    refine Evp.ite (fun hl => Evp.ite (fun h0 => Evp.pos (by omega) (Evp.pos (by simp only [lim_eq, List.length_cons, List.length_nil]; omega) ?_)) (fun _ => Evp.ret ⟨hw, hc⟩)) (fun _ => Evp.ret ⟨hw, hc⟩)
    refine ih _ c (by show 60 - (w.2.1 ++ [_]).length ≤ d; rw [List.length_append, List.length_singleton]; omega) ⟨by show (w.2.1 ++ [_]).length ≤ 60; rw [List.length_append, List.length_singleton]; omega, fun x hx => ?_⟩ hc
    rcases List.mem_append.1 (show x ∈ w.2.1 ++ [w.2.1.getD (0 : Int).toNat zWord] from hx) with h' | h'
    · exact hw.2 x h'
    · rw [List.mem_singleton] at h'; subst h'
      exact hw.2 _ (getD_mem (by show 0 < _; omega))
theorem spec_l8Draw_d (c : l1Cur) (a : Config) (hc : Cu c) (ha : a.1.length ≤ 1048576) : Evp (fun k => spec_l8Draw.f k c a) (fun r => WD 60 r.1 ∧ Cu r.2) := by
  simp only [spec_l8Draw.f]
  refine Evp.bind (spec_l8DrawRight_d c a hc ha) fun r hr => Evp.bindc (spec_l1Below_d _ 25 hr.2) fun s hs => ?_
  have g : WD 60 r.1 := hr.1.mono (by omega)
  have h1 := hr.1.1
  refine Evp.ite (fun _ => Evp.bindc (spec_l1PickInt_d _ _ hs.2.2.2 (by simp)) fun p hp => Evp.ret ⟨g, hp.2⟩) (fun _ => ?_)
  refine Evp.ite (fun _ => Evp.ite (fun h0 => Evp.pos (by omega) (Evp.pos (by omega) (Evp.ret ⟨⟨?_, fun x hx => ?_⟩, hs.2.2.2⟩))) (fun _ => Evp.ret ⟨g, hs.2.2.2⟩)) (fun _ => ?_)
  · show (r.1.2.1.set _ _).length ≤ 60; rw [List.length_set]; exact g.1
  · rcases List.mem_or_eq_of_mem_set (show x ∈ r.1.2.1.set _ _ from hx) with h' | h'
    · exact g.2 x h'
    · subst h'
      have hp : (0 : Int).toNat < r.1.2.1.length := by have h0' := h0; have e : (0 : Int).toNat = 0 := rfl; omega
      exact g.2 (r.1.2.1.getD (0 : Int).toNat zWord) (getD_mem (d := zWord) hp)
  refine Evp.ite (fun _ => Evp.bindc (spec_l1Below_d _ 2 hs.2.2.2) fun p hp => ?_) (fun _ => Evp.ite (fun _ => spec_l8Draw_l _ 60 r.1 _ (by omega) g hs.2.2.2) (fun _ => Evp.ret ⟨g, hs.2.2.2⟩))
  have hp1 := hp.2.1 (by omega)
  have hp0 := hp.1
  rw [wrap64_id (x := 40 + p.1) (by omega) (by omega)]
  refine Evp.pos ⟨by omega, by omega, by rw [lim_eq]; omega⟩ (Evp.pos (by simp only [lim_eq, List.length_cons, List.length_nil]; omega) (Evp.ret ⟨?_, hp.2.2.2⟩))
  exact (hr.1.add _).mono (by omega)

theorem spec_l9Cover_l (a : Config) (ha : a.1.length ≤ 9) : ∀ (m i : Nat) (l : List Int), i + m = a.1.length → l.length ≤ 1024 + i → Evp (fun k => spec_l9Cover.p7 k l (i : Int) a) (fun r => r.length ≤ 1040) := by
  intro m
  induction m with
  | zero =>
    intro i l hi hl
    refine Evp.succ ?_
    simp only [spec_l9Cover.p7]
    exact Evp.neg (by omega) (Evp.ret (by omega))
  | succ m ih =>
    intro i l hi hl
    refine Evp.succ ?_
    simp only [spec_l9Cover.p7]
    rw [wrap_up (i := i) (n := i + 1) (by omega) (by omega)]
    exact Evp.pos (by omega) (Evp.bindv (spec_Holds_ev a l (by omega) (by omega)) (Evp.ite (fun _ => Evp.ret (by omega)) (fun _ => Evp.bind (spec_l4Put_d l _ (by omega)) fun r hr => ih (i + 1) r (by omega) (by omega))))
theorem spec_l9Cover_d {s n h w : Nat} (a : Config) (m : Mend) (ha : a.1.length ≤ 9) (hs : s ≤ 1024) (g : MG s n h w m) : Evp (fun k => spec_l9Cover.f k a m) (fun r => r.length ≤ 1040) := by
  have g1 := g.1
  simp only [spec_l9Cover.f, List.nil_append]
  exact Evp.pos (by simp only [lim_eq, List.length_nil]; omega) (spec_l9Cover_l a ha a.1.length 0 _ (by omega) (by omega))

theorem spec_l9DrawRight_b {s n h : Nat} (a : Config) (z : Mend) (ha : a.1.length ≤ 9) (ha0 : 0 < a.1.length) (hs : s ≤ 1024) (hn : n ≤ 20480) (hh : h ≤ 1024) : ∀ (d i : Nat) (m : Mend) (c : l1Cur), i + d = 8 → MG s n h i m → Cu c →
    Evp (fun k => spec_l9DrawRight.p31 k (i : Int) a z m c) (fun q => MG s n h 8 q.1 ∧ Cu q.2) := by
  intro d
  induction d with
  | zero =>
    intro i m c hi g hc
    refine Evp.succ ?_
    simp only [spec_l9DrawRight.p31]
    refine Evp.bindc (spec_l1Below_d c 9 hc) fun b hb => Evp.neg ?_ (Evp.ret ⟨g.mono (Nat.le_refl _) (Nat.le_refl _) (Nat.le_refl _) (by omega), hb.2.2.2⟩)
    have := hb.2.1 (by omega); omega
  | succ d ih =>
    intro i m c hi g hc
    have ew : wrap64 ((i : Int) + 1) = ((i + 1 : Nat) : Int) := wrap_up (n := 9) (by omega) (by omega)
    have g3 := g.2.2.1.1
    refine Evp.succ ?_
    simp only [spec_l9DrawRight.p31, spec_l1Max.f, ew]
    have hm : ∃ y : Int, (if (1 : Int) < ((m.2.2.2.2.2.1.length : Nat) : Int) then some ((m.2.2.2.2.2.1.length : Nat) : Int) else some (1 : Int)) = some y := by split <;> exact ⟨_, rfl⟩
    obtain ⟨y, hy⟩ := hm
    simp only [hy, Option.bind_some]
    refine Evp.bindc (spec_l1Below_d c 9 hc) fun b hb => Evp.ite (fun _ => Evp.bindc (spec_l1Below_d _ y hb.2.2.2) fun u hu => Evp.bindc (spec_l1Below_d _ _ hu.2.2.2) fun v hv => Evp.bind (spec_MendAck_d a m _ _ (by omega) hs hn hh (by omega) g) fun r hr => Evp.ite (fun ht => ih (i + 1) _ _ (by omega) (hr ht) hv.2.2.2) (fun _ => ih (i + 1) _ _ (by omega) (g.mono (Nat.le_refl _) (Nat.le_refl _) (Nat.le_refl _) (by omega)) hv.2.2.2)) (fun _ => Evp.ret ⟨g.mono (Nat.le_refl _) (Nat.le_refl _) (Nat.le_refl _) (by omega), hb.2.2.2⟩)
theorem spec_l9DrawRight_l (a : Config) (z : Mend) (x0 : Int) (ha : a.1.length ≤ 9) (ha0 : 0 < a.1.length) (hx0 : x0 ≤ 4) : ∀ (d i : Nat) (m : Mend) (c : l1Cur), (i : Int) + d = max x0 i → i ≤ 4 → MG i (4096 * i) 0 0 m → Cu c →
    Evp (fun k => spec_l9DrawRight.p9 k x0 (i : Int) a z m c) (fun q => MG 4 16384 60 8 q.1 ∧ Cu q.2) := by
  have tail : ∀ (m : Mend) (c : l1Cur), MG 4 16384 60 0 m → Cu c → Evp (fun k => spec_l9DrawRight.p28 k a z m c) (fun q => MG 4 16384 60 8 q.1 ∧ Cu q.2) := fun m c g hc => by
    refine Evp.succ ?_
    simp only [spec_l9DrawRight.p28]
    exact spec_l9DrawRight_b a z ha ha0 (by omega) (by omega) (by omega) 8 0 m c (by omega) g hc
  intro d
  induction d with
  | zero =>
    intro i m c hi h4 g hc
    have gg : MG 4 16384 0 0 m := g.mono (by omega) (by omega) (Nat.le_refl _) (Nat.le_refl _)
    refine Evp.succ ?_
    simp only [spec_l9DrawRight.p9]
    refine Evp.neg (by omega) (Evp.bindc (spec_l1Once_d c 3 hc) fun b hb => Evp.ite (fun _ => Evp.ret ⟨gg.mono (Nat.le_refl _) (Nat.le_refl _) (by omega) (by omega), hb⟩) (fun _ => Evp.bind (spec_l9Cover_d a m ha (by omega) gg) fun l hl => Evp.bind (spec_MendPlan_d a m l (by omega) (by omega) (by omega) (by omega) (by omega) gg (by omega)) fun r hr => Evp.ite (fun ht => tail _ _ (hr ht) hb) (fun _ => tail _ _ (gg.mono (Nat.le_refl _) (Nat.le_refl _) (by omega) (Nat.le_refl _)) hb)))
  | succ d ih =>
    intro i m c hi h4 g hc
    have ew : wrap64 ((i : Int) + 1) = ((i + 1 : Nat) : Int) := wrap_up (n := 5) (by omega) (by omega)
    refine Evp.succ ?_
    simp only [spec_l9DrawRight.p9, ew]
    refine Evp.pos (by omega) (Evp.bindc (spec_l1Below_d c _ hc) fun b hb => Evp.bind (spec_l6DrawRight_d _ hb.2.2.2) fun t ht => Evp.bind (spec_StoreEra_d t.1 _ ht.1 ht.2.1 ht.2.2.1) fun e he => Evp.bind (spec_MendSeal_d a m _ e (by omega) (by omega) (by omega) (by omega) (by omega) g he) fun r hr => Evp.ite (fun hk => ih (i + 1) _ _ (by omega) (by omega) ((hr hk).mono (Nat.le_refl _) (by omega) (Nat.le_refl _) (Nat.le_refl _)) ht.2.2.2) (fun _ => ih (i + 1) _ _ (by omega) (by omega) (g.mono (by omega) (by omega) (Nat.le_refl _) (Nat.le_refl _)) ht.2.2.2))
theorem spec_l9DrawRight_d (c : l1Cur) (a : Config) (h : Cu c) (ha : a.1.length ≤ 9) (ha0 : 0 < a.1.length) : Evp (fun k => spec_l9DrawRight.f k c a) (fun q => MG 4 16384 60 8 q.1 ∧ Cu q.2) := by
  simp only [spec_l9DrawRight.f, spec_MendNew.f, Option.bind_some]
  refine Evp.bindc (spec_l1Below_d c 2 h) fun b hb => Evp.bindc (spec_l1Below_d _ 5 hb.2.2.2) fun u hu => ?_
  have h1 := hu.2.1 (by omega); have h0 := hu.1
  exact spec_l9DrawRight_l a _ u.1 ha ha0 (by omega) u.1.toNat 0 _ _ (by omega) (by omega) ⟨Nat.le_refl _, EG.nil, ⟨Nat.le_refl _, fun l hl => by cases hl⟩, by show InR (4 : Int); unfold InR; decide, InR_wrap _⟩ hu.2.2.2

theorem spec_l9Draw_d (c : l1Cur) (a : Config) (h : Cu c) (ha : a.1.length ≤ 9) (ha0 : 0 < a.1.length) : Evp (fun k => spec_l9Draw.f k c a) (fun q => MG 12 16385 61 12 q.1 ∧ Cu q.2) := by
  simp only [spec_l9Draw.f]
  refine Evp.bind (spec_l9DrawRight_d c a h ha ha0) fun r hr => Evp.bindc (spec_l1Below_d _ 25 hr.2) fun b hb => ?_
  have g := hr.1
  have gg : MG 12 16385 61 12 r.1 := g.mono (by omega) (by omega) (by omega) (by omega)
  have l2 := g.2.1.1
  have l3 := g.2.2.1.1
  refine Evp.ite (fun _ => Evp.bindc (spec_l1PickInt_d _ _ hb.2.2.2 (by simp)) fun p hp => Evp.ret ⟨⟨gg.1, gg.2.1, gg.2.2.1, ?_, gg.2.2.2.2⟩, hp.2⟩) (fun _ => ?_)
  · have hm := hp.1
    have h5 := gg.2.2.2.2
    simp only [List.mem_cons, List.not_mem_nil, or_false] at hm
    show InR p.1
    unfold InR at *
    omega
  refine Evp.ite (fun _ => Evp.ret ⟨⟨gg.1, gg.2.1, gg.2.2.1, gg.2.2.2⟩, hb.2.2.2⟩) (fun _ => ?_)
  refine Evp.ite (fun _ => Evp.bind (spec_l4DrawNodes_d _ a hb.2.2.2 ha) fun p hp => Evp.pos (by simp only [lim_eq, List.length_cons, List.length_nil]; omega) (Evp.ret ⟨⟨gg.1, gg.2.1, ⟨by show (r.1.2.2.2.2.2.1 ++ [p.1]).length ≤ 61; simp; omega, fun l hl => ?_⟩, gg.2.2.2⟩, hp.2⟩)) (fun _ => ?_)
  · rcases List.mem_append.1 hl with h' | h'
    · exact gg.2.2.1.2 l h'
    · rw [List.mem_singleton] at h'; subst h'; exact hp.1
  refine Evp.ite (fun _ => Evp.bindc (spec_l3Draw_d _ hb.2.2.2) fun p hp => Evp.pos (by simp only [lim_eq, List.length_cons, List.length_nil]; omega) (Evp.ret ⟨⟨gg.1, g.2.1.app hp.1, gg.2.2⟩, hp.2⟩)) (fun _ => ?_)
  exact Evp.ite (fun _ => Evp.bind (spec_l4DrawNodes_d _ a hb.2.2.2 ha) fun p hp => Evp.ret ⟨⟨hp.1, gg.2⟩, hp.2⟩) (fun _ => Evp.ret ⟨gg, hb.2.2.2⟩)

theorem spec_l10DrawReader_l (z : Reader) : ∀ (d i : Nat) (r : Reader) (c : l1Cur), i + d = 3 → r.2.2.1.length ≤ i → Cu c → Evp (fun k => spec_l10DrawReader.p7 k (i : Int) z r c) (fun q => q.1.2.2.1.length ≤ 121 ∧ Cu q.2) := by
  have fin : ∀ (i : Nat) (r : Reader) (c : l1Cur), i ≤ 3 → r.2.2.1.length ≤ i → Cu c → Evp (fun k => (spec_l1Below.f c (25 : Int)).bind fun r6 =>
      if r6.1 = (0 : Int) then ((spec_l1PickInt.f r6.2 ([(0 : Int), (31 : Int), (32 : Int)] : List Int)).bind fun r7 => some ((r7.1, r.2), r7.2))
      else if r6.1 = (1 : Int) then ((spec_l1PickInt.f r6.2 ([(0 : Int), (60 : Int), (61 : Int), (62 : Int)] : List Int)).bind fun r8 => some ((r.1, (r8.1, r.2.2)), r8.2))
      else if r6.1 = (2 : Int) then ((spec_l1Below.f r6.2 (2 : Int)).bind fun r9 =>
        if (0 : Int) ≤ (wrap64 ((120 : Int) + r9.1)) ∧ (wrap64 ((120 : Int) + r9.1)) ≤ (wrap64 ((120 : Int) + r9.1)) ∧ (wrap64 ((120 : Int) + r9.1)) ≤ lim then some ((r.1, (r.2.1, ((List.replicate (wrap64 ((120 : Int) + r9.1)).toNat ((0 : Int), ((0 : Int), ((⟨#[]⟩ : ByteArray), ())))), r.2.2.2))), r9.2)
        else none)
      else some (r, r6.2)) (fun q : Reader × l1Cur => q.1.2.2.1.length ≤ 121 ∧ Cu q.2) := by
    intro i r c hi hr hc
    refine Evp.bindc (spec_l1Below_d c 25 hc) fun s hs => Evp.ite (fun _ => Evp.bindc (spec_l1PickInt_d _ _ hs.2.2.2 (by simp)) fun p hp => Evp.ret ⟨by show r.2.2.1.length ≤ 121; omega, hp.2⟩) (fun _ => Evp.ite (fun _ => Evp.bindc (spec_l1PickInt_d _ _ hs.2.2.2 (by simp)) fun p hp => Evp.ret ⟨by show r.2.2.1.length ≤ 121; omega, hp.2⟩) (fun _ => Evp.ite (fun _ => Evp.bindc (spec_l1Below_d _ 2 hs.2.2.2) fun p hp => ?_) (fun _ => Evp.ret ⟨by show r.2.2.1.length ≤ 121; omega, hs.2.2.2⟩)))
    have h1 := hp.2.1 (by omega)
    have h0 := hp.1
    rw [wrap64_id (x := 120 + p.1) (by omega) (by omega)]
    refine Evp.pos ⟨by omega, by omega, by rw [lim_eq]; omega⟩ (Evp.ret ⟨?_, hp.2.2.2⟩)
    show (List.replicate (120 + p.1).toNat _).length ≤ 121
    rw [List.length_replicate]; omega
  intro d
  induction d with
  | zero =>
    intro i r c hi hr hc
    refine Evp.succ ?_
    simp only [spec_l10DrawReader.p7]
    exact Evp.bindc (spec_l1Below_d c 4 hc) fun s hs => Evp.neg (by have := hs.2.1 (by omega); omega) (fin i r s.2 (by omega) hr hs.2.2.2)
  | succ d ih =>
    intro i r c hi hr hc
    refine Evp.succ ?_
    simp only [spec_l10DrawReader.p7]
    rw [wrap_up (i := i) (n := 3) (by omega) (by omega)]
    refine Evp.bindc (spec_l1Below_d c 4 hc) fun s hs => Evp.ite (fun _ => Evp.bindc (spec_l1Below_d _ 5 hs.2.2.2) fun p hp => Evp.bindc (spec_l1DrawPlace_d _ hp.2.2.2) fun q hq => Evp.pos (by simp only [lim_eq, List.length_cons, List.length_nil]; omega) (ih (i + 1) _ _ (by omega) ?_ hq.2)) (fun _ => fin i r s.2 (by omega) hr hs.2.2.2)
    show (r.2.2.1 ++ [_]).length ≤ i + 1
    rw [List.length_append, List.length_singleton]; omega
theorem spec_l10DrawReader_d (c : l1Cur) (hc : Cu c) : Evp (fun k => spec_l10DrawReader.f k c) (fun q => q.1.2.2.1.length ≤ 121 ∧ Cu q.2) := by
  simp only [spec_l10DrawReader.f]
  exact Evp.bindc (spec_l1Below_d c 3 hc) fun r hr => Evp.bindc (spec_l1Below_d _ 5 hr.2.2.2) fun s hs => spec_l10DrawReader_l _ 3 0 _ _ (by omega) (Nat.zero_le _) hs.2.2.2

theorem spec_l4Draw_d (c : l1Cur) (h : Cu c) : Evp (fun k => spec_l4Draw.f k c) (fun r => r.1.1.length ≤ 9 ∧ Cu r.2) := by
  simp only [spec_l4Draw.f]
  refine Evp.bind (spec_l4DrawRight_d c h) fun r hr => Evp.bindc (spec_l1Below_d _ 20 hr.2.2.2.2.2) fun s hs => ?_
  refine Evp.ite (fun _ => Evp.bindc (spec_l1PickInt_d _ _ hs.2.2.2 (by decide)) fun t ht => Evp.ret ⟨by show r.1.1.length ≤ 9; omega, ht.2⟩) fun _ => ?_
  refine Evp.ite (fun _ => Evp.bindc (spec_l1PickInt_d _ _ hs.2.2.2 (by decide)) fun t ht => Evp.pos (by omega) (Evp.ret ⟨by show (r.1.1.set _ _).length ≤ 9; rw [List.length_set]; omega, ht.2⟩)) fun _ => ?_
  refine Evp.ite (fun _ => Evp.bindc (spec_l1PickInt_d _ _ hs.2.2.2 (by decide)) fun t ht => ?_) fun _ => Evp.ret ⟨by show r.1.1.length ≤ 9; omega, hs.2.2.2⟩
  have hm : t.1 = 0 ∨ t.1 = 8 ∨ t.1 = 9 := by simpa using ht.1
  refine Evp.pos (by rw [lim_eq]; omega) (Evp.ret ⟨?_, ht.2⟩)
  show (List.replicate t.1.toNat (0 : Int)).length ≤ 9
  rw [List.length_replicate]; omega

noncomputable def holdL (x : Int) : Nat → List Store → List Int
  | _, [] => []
  | i, s :: l => if (getF s.1 x).2 = true then (i : Int) :: holdL x (i + 1) l else holdL x (i + 1) l
theorem holdL_cons {x : Int} {i : Nat} {s : Store} {l : List Store} : holdL x i (s :: l) = if (getF s.1 x).2 = true then (i : Int) :: holdL x (i + 1) l else holdL x (i + 1) l := rfl
theorem holdL_len {x : Int} : ∀ {l : List Store} {i : Nat}, (holdL x i l).length ≤ l.length := by
  intro l
  induction l with
  | nil => intro i; exact Nat.le_refl _
  | cons s l ih =>
    intro i
    have := ih (i := i + 1)
    rw [holdL_cons]
    split
    · rw [List.length_cons, List.length_cons]; omega
    · rw [List.length_cons]; omega
noncomputable def holdF (w : World) (x : Int) : List Int := if worldB w = true then holdL x 0 w.2.1 else []
theorem spec_HoldersOf_ev (w : World) (x : Int) (g : WG w) : Ev (fun k => spec_HoldersOf.f k w x) (holdF w x) := by
  have hl := g.st.1
  have h : ∀ (m i : Nat) (o : List Int), i + m = w.2.1.length → o.length ≤ i → worldB w = true → Ev (fun k => spec_HoldersOf.p7 k x o (i : Int) w) (o ++ holdL x i (w.2.1.drop i)) := by
    intro m
    induction m with
    | zero =>
      intro i o hi ho hw
      refine Ev.succ ?_
      simp only [spec_HoldersOf.p7]
      rw [List.drop_eq_nil_of_le (by omega)]
      exact Ev.neg (by omega) (Ev.ret.eq (by simp [holdL]))
    | succ m ih =>
      intro i o hi ho hw
      have hlt : i < w.2.1.length := by omega
      refine Ev.succ ?_
      simp only [spec_HoldersOf.p7, Int.toNat_natCast]
      rw [wrap_up hlt (by omega), drop_get (d := zSto) hlt, holdL_cons]
      refine Ev.pos (by omega) (Ev.bind (spec_WorldOk_ev w g) (Ev.pos hw (Ev.pos (by omega) (Ev.bind (spec_l6Get_ev (w.2.1.getD i zSto).1 x (g.st.2 _ (getD_mem hlt)).1.1) ?_))))
      by_cases hq : (getF (w.2.1.getD i zSto).1 x).2 = true
      · rw [if_pos hq]
        exact Ev.pos hq (Ev.pos (by simp only [lim_eq, List.length_cons, List.length_nil]; omega) ((ih (i + 1) _ (by omega) (by simp; omega) hw).eq (by simp)))
      · rw [if_neg hq]
        exact Ev.neg hq (ih (i + 1) o (by omega) (by omega) hw)
  unfold holdF
  by_cases hw : worldB w = true
  · rw [if_pos hw]
    exact h w.2.1.length 0 [] (by omega) (by simp) hw
  · rw [if_neg hw]
    refine Ev.cg (g := fun k => spec_HoldersOf.p7 k x [] (0 : Int) w) (Ev.succ ?_) fun k => rfl
    simp only [spec_HoldersOf.p7]
    by_cases h0 : (0 : Int) < ((w.2.1.length : Nat) : Int)
    · exact Ev.pos h0 (Ev.bind (spec_WorldOk_ev w g) (Ev.neg hw Ev.ret))
    · exact Ev.neg h0 Ev.ret

theorem laws_big_is (b : List Int) : laws_big.f b = some (decide ((1048576 : Int) < ((b.length : Nat) : Int))) := rfl

theorem impl_within_is (x a b : Int) : impl_within.f x a b = some (inB x a b) := ite_inB x a b

theorem impl_ConfigOk_ev (a : Config) (hl : a.1.length ≤ 1048576) : Ev (fun k => impl_ConfigOk.f k a) (cfgB a) := by
  have h := all_loop (n := a.1.length) (p := fun k i => impl_ConfigOk.p5 k a.1 ((a.1.length : Nat) : Int) i a) (q := fun i => inB (a.1.getD i 0) 0 7) (zb := inB ((a.1.length : Nat) : Int) 1 8 && (inB a.2.1 1 4 && true)) (fun i hi b hb => by
    simp only [impl_ConfigOk.p5, impl_within_is]
    refine Ev.pos (by omega) (Ev.pos (by omega) (Ev.bindc rfl (Ev.and fun _ => ?_)))
    rw [wrap_up hi (by omega)]; exact hb) (by
    simp only [impl_ConfigOk.p5, impl_within_is]
    refine Ev.neg (by omega) (Ev.bindc rfl (Ev.and fun _ => Ev.bindc rfl (Ev.ret.eq (by simp))))) a.1.length 0 (by omega)
  refine (Ev.cg h fun k => rfl).eq ?_
  unfold cfgB
  cases inB ((a.1.length : Nat) : Int) 1 8 <;> cases inB a.2.1 1 4 <;> simp

theorem impl_ascends_ev (l : List Int) (hi : Int) (hl : l.length ≤ 1048576) : Ev (fun k => impl_ascends.f k l hi) (ascB l 0 hi) := by
  have h := all_loop (n := l.length) (p := fun k i => impl_ascends.p5 k l hi l ((l.length : Nat) : Int) i) (q := fun i => inB (l.getD i 0) 0 hi && (decide (i = 0) || !decide (l.getD i 0 ≤ l.getD (i - 1) 0))) (zb := true) (fun i hi' b hb => by
    simp only [impl_ascends.p5, impl_within_is]
    refine Ev.pos (by omega) (Ev.pos (by omega) (Ev.bindc rfl ?_))
    rw [Bool.and_assoc]
    refine Ev.and fun _ => ?_
    rw [wrap_up hi' (by omega)]
    by_cases h0 : i = 0
    · subst h0
      exact (Ev.neg (by omega) hb).eq (by simp)
    · have e : wrap64 ((i : Int) - 1) = ((i - 1 : Nat) : Int) := by rw [wrap64_id (by omega) (by omega)]; omega
      rw [e]
      refine Ev.pos (by omega) (Ev.pos (by omega) ?_)
      rw [decide_eq_false h0, Bool.false_or]
      exact Ev.nand fun _ => hb) (by
    simp only [impl_ascends.p5]
    exact Ev.neg (by omega) Ev.ret) l.length 0 (by omega)
  exact (Ev.cg h fun k => rfl).eq (by unfold ascB; rw [Bool.and_true])

theorem impl_NodesOk_ev (a : Config) (l : List Int) (ha : a.1.length ≤ 1048576) (hl : l.length ≤ 1048576) : Ev (fun k => impl_NodesOk.f k a l) (nodesB a l) := by
  simp only [impl_NodesOk.f, nodesB]
  refine Ev.bind (impl_ConfigOk_ev a ha) (Ev.and fun _ => ?_)
  rw [wrap64_id (by omega) (by omega)]
  exact Ev.bind (impl_ascends_ev l _ hl) Ev.ret

theorem impl_PlaceOk_is (x : Int) (hx : InR x) : impl_PlaceOk.f x = some (placeOk x) := by
  have h1 := hx.1; have h2 := hx.2
  simp only [impl_PlaceOk.f, placeOk, impl_isEpoch.f, impl_isOff.f, impl_within_is]
  by_cases h : 0 < x
  · rw [tdiv_pos (by omega), tmod_pos (by omega), wrap64_id (by omega) (by omega)]
    cases inB (x / 4294967296) 1 30 <;> simp [h]
  · rw [tdiv_neg' (by omega), wrap64_id (by omega) (by omega), show inB (-(-x / 4294967296)) 1 30 = false by
      rw [Bool.eq_false_iff]
      intro he
      rw [inB_true] at he
      omega]
    simp [h]

theorem impl_dataOk_is (s : ByteArray) : impl_dataOk.f s = some (!decide ((40 : Int) < ((s.size : Nat) : Int))) := by
  simp only [impl_dataOk.f]
  by_cases h : ((s.size : Nat) : Int) ≤ 40
  · rw [decide_eq_true h, decide_eq_false (by omega)]; rfl
  · rw [decide_eq_false h, decide_eq_true (by omega)]; rfl

theorem impl_EpochOf_is (x : Int) (hx : InR x) : impl_EpochOf.f x = some (epochOf x) := by
  have h2 := hx.2
  simp only [impl_EpochOf.f, impl_PlaceOk_is x hx, Option.bind_some, epochOf]
  by_cases h : placeOk x = true
  · have := placeOk_pos h
    rw [if_pos h, if_pos h, tdiv_pos (by omega), wrap64_id (by omega) (by omega)]
  · rw [if_neg h, if_neg h]

theorem impl_EntryOk_ev (e : Entry) (ha : InR e.1) : Ev (fun k => impl_EntryOk.f k e) (entB e) := by
  have h6 : ∀ p q : Bool, Ev (fun k => impl_EntryOk.p6 k p q e) (placeOk e.1 && (p && (q && decide (((e.2.2.2.1.size : Nat) : Int) ≤ 40)))) := fun p q => by
    refine Ev.succ ?_
    simp only [impl_EntryOk.p6, impl_PlaceOk_is _ ha, impl_dataOk.f, Option.bind_some]
    exact Ev.and fun _ => Ev.and fun _ => Ev.and fun _ => Ev.ret
  have h4 : ∀ p : Bool, Ev (fun k => impl_EntryOk.p4 k p e) (placeOk e.1 && (p && ((!e.2.2.1 || (decide (0 < e.2.1) && decide (e.2.2.2.1 = (⟨#[]⟩ : ByteArray)))) && decide (((e.2.2.2.1.size : Nat) : Int) ≤ 40)))) := fun p => by
    refine Ev.succ ?_
    simp only [impl_EntryOk.p4]
    cases hc : e.2.2.1 with
    | true =>
      refine Ev.pos rfl ?_
      by_cases h0 : (0 : Int) < e.2.1
      · exact (Ev.pos h0 (h6 p _)).eq (by rw [decide_eq_true h0]; simp)
      · exact (Ev.neg h0 (h6 p _)).eq (by rw [decide_eq_false h0]; simp)
    | false => exact (Ev.neg (by decide) (h6 p _)).eq (by simp)
  simp only [impl_EntryOk.f, impl_EpochOf_is _ ha, impl_within_is, Option.bind_some]
  have key : ∀ v : Bool, v = (inB e.2.1 0 30 && !(decide (0 < e.2.1) && decide (e.2.1 ≤ epochOf e.1))) → Ev (fun k => impl_EntryOk.p4 k v e) (entB e) := fun v hv => (h4 v).eq (by
    unfold entB
    rw [hv]
    cases placeOk e.1 <;> cases inB e.2.1 0 30 <;> cases decide ((0 : Int) < e.2.1) <;> cases decide (e.2.1 ≤ epochOf e.1) <;> cases e.2.2.1 <;> cases decide (((e.2.2.2.1.size : Nat) : Int) ≤ 40) <;> cases decide (e.2.2.2.1 = (⟨#[]⟩ : ByteArray)) <;> rfl)
  by_cases hi : inB e.2.1 0 30 = true
  · have hb := inB_true.1 hi
    refine Ev.pos hi ?_
    by_cases h0 : e.2.1 = 0
    · exact Ev.pos h0 (key true (by rw [hi, decide_eq_false (show ¬ (0 : Int) < e.2.1 by omega)]; rfl))
    · refine Ev.neg h0 (key _ ?_)
      rw [hi, decide_eq_true (show (0 : Int) < e.2.1 by omega)]
      by_cases h1 : epochOf e.1 < e.2.1
      · rw [decide_eq_true h1, decide_eq_false (by omega)]; rfl
      · rw [decide_eq_false h1, decide_eq_true (by omega)]; rfl
  · exact Ev.neg hi (key false (by rw [Bool.not_eq_true] at hi; rw [hi]; rfl))

theorem impl_entriesOk_ev (l : List Entry) (hl : l.length ≤ 1048576) (ha : ∀ i, i < l.length → InR (l.getD i zEnt).1) : Ev (fun k => impl_entriesOk.f k l) (entsB l) := by
  have h := all_loop (n := l.length) (p := fun k i => impl_entriesOk.p5 k l ((l.length : Nat) : Int) i) (q := fun i => entB (l.getD i zEnt)) (zb := true) (fun i hi b hb => by
    simp only [impl_entriesOk.p5, Int.toNat_natCast]
    rw [wrap_up hi (by omega)]
    exact Ev.pos (by omega) (Ev.pos (by omega) (Ev.bind (impl_EntryOk_ev _ (ha i hi)) (Ev.and fun _ => hb)))) (by
    simp only [impl_entriesOk.p5]
    exact Ev.neg (by omega) Ev.ret) l.length 0 (by omega)
  rw [Bool.and_true] at h
  exact h

theorem impl_placesAscend_ev (l : List Entry) (hl : l.length ≤ 1048576) : Ev (fun k => impl_placesAscend.f k l) (ascE l) := by
  have h := all_loop (n := l.length) (p := fun k i => impl_placesAscend.p5 k l l ((l.length : Nat) : Int) i) (q := fun i => !(decide (0 < i) && decide ((l.getD i zEnt).1 ≤ (l.getD (i - 1) zEnt).1))) (zb := true) (fun i hi b hb => by
    simp only [impl_placesAscend.p5, Int.toNat_natCast]
    rw [wrap_up hi (by omega)]
    refine Ev.pos (by omega) (Ev.pos (by omega) ?_)
    by_cases h0 : i = 0
    · subst h0
      exact (Ev.neg (by omega) hb).eq (by rfl)
    · have e2 : wrap64 ((i : Int) - 1) = ((i - 1 : Nat) : Int) := by rw [wrap64_id (by omega) (by omega)]; omega
      rw [e2, decide_eq_true (show 0 < i by omega), Bool.true_and, Int.toNat_natCast]
      exact Ev.pos (by omega) (Ev.pos (by omega) (Ev.nand fun _ => hb))) (by
    simp only [impl_placesAscend.p5]
    exact Ev.neg (by omega) Ev.ret) l.length 0 (by omega)
  rw [Bool.and_true] at h
  exact h

theorem impl_StoreOk_ev (s : Store) (h1 : s.1.length ≤ 1048576) (h2 : s.2.1.length ≤ 1048576) (a1 : ∀ i, i < s.1.length → InR (s.1.getD i zEnt).1) (a2 : ∀ i, i < s.2.1.length → InR (s.2.1.getD i zEnt).1) : Ev (fun k => impl_StoreOk.f k s) (storeB s) := by
  simp only [impl_StoreOk.f, impl_within_is, Option.bind_some, storeB]
  refine (Ev.nand fun _ => Ev.nand fun _ => Ev.bind (impl_entriesOk_ev s.1 h1 a1) (Ev.and fun _ => Ev.bind (impl_entriesOk_ev s.2.1 h2 a2) (Ev.and fun _ => Ev.bind (impl_placesAscend_ev s.1 h1) (Ev.and fun _ => Ev.ret)))).eq ?_
  rw [ndec, ndec]
  cases decide (((s.1.length : Nat) : Int) ≤ 200) <;> cases entsB s.1 <;> cases decide (((s.2.1.length : Nat) : Int) ≤ 20) <;> cases entsB s.2.1 <;> simp
theorem StG.ok' {l : List Store} (h : StG l) {i : Nat} (hi : i < l.length) : Ev (fun k => impl_StoreOk.f k (l.getD i zSto)) (storeB (l.getD i zSto)) := by
  have := h.2 _ (getD_mem (d := zSto) hi)
  exact impl_StoreOk_ev _ this.1.1 this.2.1.1 this.1.at this.2.1.at

theorem impl_copyInts_is (l : List Int) (h : l.length ≤ 1048576) : impl_copyInts.f l = some l := by
  simp only [impl_copyInts.f]
  rw [if_pos (by simp [lim_eq]; omega)]; rfl

theorem impl_both_is (l o : List Int) (hl : l.length ≤ 1048576) (ho : o.length ≤ 1048576) : impl_both.f l o = some (l.filter fun v => o.contains v) := by
  simp only [impl_both.f, impl_copyInts_is l hl, Option.bind_some, slices_DeleteFunc_int_int_impl_both_1.f]
  rw [if_pos ⟨by rw [lim_eq]; omega, by show o.length ≤ _; omega⟩]
  show some (l.filter _) = _
  congr 1
  refine List.filter_congr fun v _ => ?_
  show (!(!(o.any fun u => decide (v = u)))) = _
  rw [Bool.not_not, Bool.eq_iff_iff, List.contains_iff_mem, List.any_eq_true]
  exact ⟨fun ⟨u, h1, h2⟩ => by rw [decide_eq_true_eq] at h2; exact h2 ▸ h1, fun h => ⟨v, h, by simp⟩⟩

theorem impl_World_isLost_is (w : World) (i : Int) (h : w.2.2.1.length ≤ 1048576) : impl_World_isLost.f w i = some (w.2.2.1.contains i) := by
  simp only [impl_World_isLost.f, impl_both_is [i] w.2.2.1 (by simp) h, Option.bind_some]
  congr 1
  cases hc : w.2.2.1.contains i <;> simp only [List.filter_cons, hc] <;> simp

theorem slices_Index_l (l : List Int) (x : Int) (hl : l.length ≤ 1048576) : ∀ (m i : Nat), i + m = l.length → ∃ r : Int, Ev (fun k => slices_Index_int_int.p5 k l x ((l.length : Nat) : Int) (i : Int)) r ∧ (decide (0 ≤ r) = (l.drop i).contains x) := by
  intro m
  induction m with
  | zero =>
    intro i h
    refine ⟨-1, Ev.succ ?_, by rw [List.drop_eq_nil_of_le (by omega)]; rfl⟩
    simp only [slices_Index_int_int.p5]
    exact Ev.neg (by omega) Ev.ret
  | succ m ih =>
    intro i h
    have hi : i < l.length := by omega
    rw [drop_get (d := (0 : Int)) hi]
    by_cases hx : x = l.getD i 0
    · refine ⟨i, Ev.succ ?_, by simp [hx]⟩
      simp only [slices_Index_int_int.p5, Int.toNat_natCast]
      exact Ev.pos (by omega) (Ev.pos (by omega) (Ev.pos hx Ev.ret))
    · obtain ⟨r, h1, h2⟩ := ih (i + 1) (by omega)
      refine ⟨r, Ev.succ ?_, by rw [h2, List.contains_cons, beq_eq_false_iff_ne.2 hx, Bool.false_or]⟩
      simp only [slices_Index_int_int.p5, Int.toNat_natCast]
      refine Ev.pos (by omega) (Ev.pos (by omega) (Ev.neg hx ?_))
      rw [wrap_up hi (by omega)]; exact h1

theorem slices_Contains_ev (l : List Int) (x : Int) (hl : l.length ≤ 1048576) : Ev (fun k => slices_Contains_int_int.f k l x) (l.contains x) := by
  obtain ⟨r, h1, h2⟩ := slices_Index_l l x hl l.length 0 (by omega)
  simp only [slices_Contains_int_int.f, slices_Index_int_int.f]
  exact (Ev.bind h1 (Ev.ret (v := decide (0 ≤ r)))).eq (by rw [h2, List.drop_zero])

theorem impl_SpanOf_l (a : Config) (l : List Int) (hl : l.length ≤ 1048576) (hmem : ∀ i, i < l.length → 0 ≤ l.getD i 0 ∧ l.getD i 0 < ((a.1.length : Nat) : Int)) :
    ∀ (m i : Nat) (acc : List Int), i + m = l.length → acc.length ≤ i → Ev (fun k => impl_SpanOf.p11 k acc l ((l.length : Nat) : Int) (i : Int) a) ((domsOf a (l.drop i) acc).length : Int) := by
  intro m
  induction m with
  | zero =>
    intro i acc h ha
    refine Ev.succ ?_
    simp only [impl_SpanOf.p11]
    rw [List.drop_eq_nil_of_le (by omega)]
    exact Ev.neg (by omega) Ev.ret
  | succ m ih =>
    intro i acc h ha
    have hi : i < l.length := by omega
    have hn := hmem i hi
    refine Ev.succ ?_
    simp only [impl_SpanOf.p11, Int.toNat_natCast]
    rw [drop_get (d := (0 : Int)) hi]
    simp only [domsOf]
    generalize hw : a.1.getD (l.getD i 0).toNat 0 = x at *
    refine Ev.pos (by omega) (Ev.pos (by omega) (Ev.pos (by omega) (Ev.bind (slices_Contains_ev acc x (by omega)) ?_)))
    rw [wrap_up hi (by omega)]
    by_cases hc : acc.contains x = true
    · rw [if_pos hc]
      exact Ev.pos hc (ih (i + 1) acc (by omega) (by omega))
    · rw [if_neg hc]
      refine Ev.neg hc (Ev.pos (by omega) (Ev.pos (by simp [lim_eq]; omega) ?_))
      exact ih (i + 1) (acc ++ [x]) (by omega) (by simp; omega)
theorem impl_SpanOf_ev (a : Config) (l : List Int) (ha : a.1.length ≤ 1048576) (hl : l.length ≤ 1048576) : Ev (fun k => impl_SpanOf.f k a l) (if nodesB a l = true then spanOf a l else -1) := by
  simp only [impl_SpanOf.f]
  refine Ev.bind (impl_NodesOk_ev a l ha hl) (Ev.ite (fun h => ?_) fun _ => Ev.ret)
  simp only [nodesB, Bool.and_eq_true] at h
  have := impl_SpanOf_l a l hl (fun i hi => by have := ascB_mem h.2 hi; omega) l.length 0 [] (by omega) (by simp)
  rw [List.drop_zero] at this
  exact this

theorem impl_Holds_ev (a : Config) (l : List Int) (ha : a.1.length ≤ 1048576) (hl : l.length ≤ 1048576) : Ev (fun k => impl_Holds.f k a l) (holdsB a l) := by
  simp only [impl_Holds.f, holdsB]
  refine Ev.bind (impl_NodesOk_ev a l ha hl) (Ev.and fun h => Ev.bind (impl_SpanOf_ev a l ha hl) ?_)
  rw [if_pos h]; exact Ev.ret

theorem impl_World_storesOk_ev (w : World) (g : WG w) : Ev (fun k => impl_World_storesOk.f k w) (decide (w.2.1.length = w.1.1.length) && (nodesB w.1 w.2.2.1 && ((List.range' 0 w.2.1.length).all (storeAt w) && (w.2.2.2.2.2.2.2.2.1 || !holdsB w.1 w.2.2.1)))) := by
  have hl := g.st.1
  have h9 : Ev (fun k => impl_World_storesOk.p9 k w w.2.1 ((w.2.1.length : Nat) : Int) (0 : Int)) ((List.range' 0 w.2.1.length).all (storeAt w) && (w.2.2.2.2.2.2.2.2.1 || !holdsB w.1 w.2.2.1)) :=
    all_loop (n := w.2.1.length) (p := fun k i => impl_World_storesOk.p9 k w w.2.1 ((w.2.1.length : Nat) : Int) i) (q := storeAt w) (zb := (w.2.2.2.2.2.2.2.2.1 || !holdsB w.1 w.2.2.1)) (fun i hi b hb => by
      simp only [impl_World_storesOk.p9, Int.toNat_natCast, impl_World_isLost_is w _ g.lo, Option.bind_some]
      rw [wrap_up hi (by omega)]
      unfold storeAt
      rw [Bool.and_assoc]
      refine Ev.pos (by omega) (Ev.pos (by omega) (Ev.bind (g.st.ok' hi) (Ev.and fun hs => Ev.orb (fun _ => ?_) (fun _ => hb))))
      have hs := hs
      simp only [storeB, Bool.and_eq_true, decide_eq_true_eq, inB_true] at hs
      obtain ⟨a1, _, a3, _, _, a6, a7⟩ := hs
      change Ev (fun k => if (0 : Int) < wrap64 (wrap64 ((((w.2.1.getD i zSto).1.length : Nat) : Int) + (((w.2.1.getD i zSto).2.1.length : Nat) : Int)) + (w.2.1.getD i zSto).2.2.1) then some false else impl_World_storesOk.p9 k w w.2.1 ((w.2.1.length : Nat) : Int) ((i + 1 : Nat) : Int)) _
      rw [wrap64_id (x := (((w.2.1.getD i zSto).1.length : Nat) : Int) + (((w.2.1.getD i zSto).2.1.length : Nat) : Int)) (by omega) (by omega), wrap64_id (by omega) (by omega)]
      refine (Ev.nand fun _ => hb).eq ?_
      congr 1
      unfold zeroB
      by_cases z : (0 : Int) < (((w.2.1.getD i zSto).1.length : Nat) : Int) + (((w.2.1.getD i zSto).2.1.length : Nat) : Int) + (w.2.1.getD i zSto).2.2.1
      · rw [decide_eq_true z]
        by_cases z1 : (w.2.1.getD i zSto).1.length = 0
        · by_cases z2 : (w.2.1.getD i zSto).2.1.length = 0
          · rw [decide_eq_false (show ¬ (w.2.1.getD i zSto).2.2.1 = 0 by omega)]; simp
          · rw [decide_eq_false z2]; simp
        · rw [decide_eq_false z1]; simp
      · rw [decide_eq_false z, decide_eq_true (show (w.2.1.getD i zSto).1.length = 0 by omega), decide_eq_true (show (w.2.1.getD i zSto).2.1.length = 0 by omega), decide_eq_true (show (w.2.1.getD i zSto).2.2.1 = 0 by omega)]; rfl) (by
      simp only [impl_World_storesOk.p9]
      refine Ev.neg (by omega) ?_
      cases ht : w.2.2.2.2.2.2.2.2.1 with
      | true => exact Ev.pos rfl Ev.ret
      | false => exact Ev.neg (by decide) (Ev.bind (impl_Holds_ev w.1 w.2.2.1 g.c g.lo) (Ev.ret.eq (by cases holdsB w.1 w.2.2.1 <;> rfl)))) w.2.1.length 0 (by omega)
  simp only [impl_World_storesOk.f]
  by_cases he : w.2.1.length = w.1.1.length
  · rw [decide_eq_true he, Bool.true_and]
    exact Ev.pos (by omega) (Ev.bind (impl_NodesOk_ev w.1 w.2.2.1 g.c g.lo) (Ev.and fun _ => h9))
  · rw [decide_eq_false he, Bool.false_and]
    exact Ev.neg (by omega) Ev.ret

theorem impl_eraOk_ev (a : Config) (e : Era) (ha : a.1.length ≤ 1048576) (he : e.1.length ≤ 1048576) : Ev (fun k => impl_eraOk.f k a e) (eraB a e) := by
  simp only [impl_eraOk.f, impl_within_is, eraB]
  refine Ev.bind (impl_Holds_ev a e.1 ha he) (Ev.and fun _ => Ev.bindc rfl (Ev.and fun _ => ?_))
  by_cases hc : e.2.1 = true
  · exact (Ev.pos hc Ev.ret).eq (by rw [hc]; rfl)
  · refine (Ev.neg hc Ev.ret).eq ?_
    simp only [Bool.not_eq_true] at hc
    rw [hc, Bool.false_or]

theorem impl_RegOk_ev (a : Config) (r : Register) (ht : InR r.2.1) (ha : a.1.length ≤ 1048576) (hl : r.1.length ≤ 1048576) (he : ∀ i, i < r.1.length → (r.1.getD i zEra).1.length ≤ 1048576) : Ev (fun k => impl_RegOk.f k a r) (regB a r) := by
  have hend : ∀ q : Bool, Ev (fun k => impl_RegOk.p16 k q a r) (cfgB a && (decide (((r.1.length : Nat) : Int) ≤ 30) && q)) := fun q => by
    refine Ev.succ ?_
    simp only [impl_RegOk.p16]
    exact Ev.bind (impl_ConfigOk_ev a ha) (Ev.and fun _ => Ev.andc fun _ => Ev.ret)
  have h := all_loop (n := r.1.length) (p := fun k i => impl_RegOk.p5 k r.1 ((r.1.length : Nat) : Int) i a r) (q := eraAt a r.1) (zb := cfgB a && (decide (((r.1.length : Nat) : Int) ≤ 30) && trimB r.1.length r.2.1)) (fun i hi b hb => by
    simp only [impl_RegOk.p5, Int.toNat_natCast]
    have hz := he i hi
    have hw : wrap64 ((i : Int) + 1) = ((i + 1 : Nat) : Int) := wrap_up hi (by omega)
    unfold eraAt
    refine Ev.pos (by omega) (Ev.pos (by omega) (Ev.bind (impl_eraOk_ev a (r.1.getD i zEra) ha hz) ?_))
    rw [Bool.and_assoc]
    refine Ev.and fun _ => ?_
    simp only [hw]
    by_cases hc : (r.1.getD i zEra).2.1 = true
    · refine Ev.pos hc ?_
      have e1 : wrap64 (((r.1.length : Nat) : Int) - 1) = ((r.1.length - 1 : Nat) : Int) := by rw [wrap64_id (by omega) (by omega)]; omega
      rw [e1, hc, Bool.not_true, Bool.false_or, Bool.and_assoc]
      by_cases hq : i = r.1.length - 1
      · rw [decide_eq_true hq]
        exact Ev.pos (by omega) Ev.ret
      · rw [decide_eq_false hq]
        refine Ev.neg (by omega) ?_
        by_cases h0 : i = 0
        · subst h0
          exact (Ev.neg (by omega) hb).eq (by rfl)
        · have e2 : wrap64 ((i : Int) - 1) = ((i - 1 : Nat) : Int) := by rw [wrap64_id (by omega) (by omega)]; omega
          rw [e2, decide_eq_false h0]
          refine Ev.pos (by omega) (Ev.pos (by omega) ?_)
          exact (Ev.and fun _ => hb).eq (by rfl)
    · refine (Ev.neg hc hb).eq ?_
      simp only [Bool.not_eq_true] at hc
      rw [hc]; rfl) (by
    simp only [impl_RegOk.p5, impl_EpochOf_is _ ht, impl_within_is, Option.bind_some]
    refine Ev.neg (by omega) ?_
    unfold trimB
    by_cases h0 : r.2.1 = 0
    · exact (Ev.pos h0 (hend true)).eq (by rw [decide_eq_true h0]; rfl)
    · exact (Ev.neg h0 (hend _)).eq (by rw [decide_eq_false h0]; rfl)) r.1.length 0 (by omega)
  refine (Ev.cg h fun k => rfl).eq ?_
  unfold regB erasB
  cases cfgB a <;> cases decide (((r.1.length : Nat) : Int) ≤ 30) <;> cases trimB r.1.length r.2.1 <;> simp

theorem impl_WriterOk_l (a : Config) (w : Writer) (ha : a.1.length ≤ 1048576) (hl : w.2.1.length ≤ 4194304) (he : ∀ i, i < w.2.1.length → (w.2.1.getD i zWord).2.1.length ≤ 1048576) : ∀ (m i : Nat) (n : Int), i + m = w.2.1.length → 0 ≤ n → n ≤ i →
    Ev (fun k => impl_WriterOk.p7 k n w.2.1 ((w.2.1.length : Nat) : Int) (i : Int) a w) ((w.2.1.drop i).all (wordB a) && (cfgB a && (inB w.1 1 30 && (decide (((w.2.1.length : Nat) : Int) ≤ 60) && decide (n + undone (w.2.1.drop i) ≤ 6))))) := by
  intro m
  induction m with
  | zero =>
    intro i n h h0 h1
    refine Ev.succ ?_
    simp only [impl_WriterOk.p7, impl_isEpoch.f, impl_within_is, Option.bind_some]
    rw [List.drop_eq_nil_of_le (by omega)]
    refine Ev.neg (by omega) (Ev.eq (v := cfgB a && (inB w.1 1 30 && (decide (((w.2.1.length : Nat) : Int) ≤ 60) && decide (n ≤ 6)))) (Ev.bind (impl_ConfigOk_ev a ha) (Ev.and fun _ => Ev.and fun _ => Ev.andc fun _ => Ev.ret)) (by simp [undone]))
  | succ m ih =>
    intro i n h h0 h1
    have hi : i < w.2.1.length := by omega
    have hz := he i hi
    refine Ev.succ ?_
    simp only [impl_WriterOk.p7, Int.toNat_natCast, impl_dataOk_is]
    rw [drop_get (d := zWord) hi, List.all_cons]
    simp only [wordB]
    rw [wrap_up hi (by omega), Bool.and_assoc, Bool.and_assoc, Bool.and_assoc]
    refine Ev.pos (by omega) (Ev.pos (by omega) ?_)
    change Ev (fun k => (some (!decide ((40 : Int) < (((w.2.1.getD i zWord).1.size : Nat) : Int)))).bind fun r1 => if r1 = true then ((impl_NodesOk.f k a (w.2.1.getD i zWord).2.1).bind fun r2 => if r2 = true then ((impl_Holds.f k a (w.2.1.getD i zWord).2.1).bind fun r3 => if (w.2.1.getD i zWord).2.2.1 = r3 then ((impl_flagNum.f (!(decide ((w.2.1.getD i zWord).2.2.1 = true)))).bind fun r4 => impl_WriterOk.p7 k (wrap64 (n + r4)) w.2.1 ((w.2.1.length : Nat) : Int) ((i + 1 : Nat) : Int) a w) else some false) else some false) else some false) _
    refine Ev.bindc rfl (Ev.and fun _ => Ev.bind (impl_NodesOk_ev a _ ha hz) (Ev.and fun _ => Ev.bind (impl_Holds_ev a _ ha hz) ?_))
    have e : decide (holdsB a (w.2.1.getD i zWord).2.1 = (w.2.1.getD i zWord).2.2.1) = decide ((w.2.1.getD i zWord).2.2.1 = holdsB a (w.2.1.getD i zWord).2.1) := by
      rw [decide_eq_decide]; exact ⟨fun h => h.symm, fun h => h.symm⟩
    rw [e]
    refine Ev.andc fun _ => ?_
    by_cases hd : (w.2.1.getD i zWord).2.2.1 = true
    · have e2 : impl_flagNum.f (!(decide ((w.2.1.getD i zWord).2.2.1 = true))) = some 0 := by rw [hd]; rfl
      refine Ev.bindc e2 ?_
      rw [Int.add_zero, wrap64_id (x := n) (by omega) (by omega)]
      refine (ih (i + 1) n (by omega) h0 (by omega)).eq ?_
      rw [undone_t hd]
    · have e2 : impl_flagNum.f (!(decide ((w.2.1.getD i zWord).2.2.1 = true))) = some 1 := by
        simp only [Bool.not_eq_true] at hd
        rw [hd]; rfl
      refine Ev.bindc e2 ?_
      rw [wrap64_id (x := n + 1) (by omega) (by omega)]
      refine (ih (i + 1) (n + 1) (by omega) (by omega) (by omega)).eq ?_
      rw [undone_f hd, Int.add_assoc]
theorem impl_WriterOk_ev (a : Config) (w : Writer) (ha : a.1.length ≤ 1048576) (hl : w.2.1.length ≤ 4194304) (he : ∀ i, i < w.2.1.length → (w.2.1.getD i zWord).2.1.length ≤ 1048576) : Ev (fun k => impl_WriterOk.f k a w) (writerB a w) := by
  have := impl_WriterOk_l a w ha hl he w.2.1.length 0 0 (by omega) (by omega) (by omega)
  rw [List.drop_zero, Int.zero_add] at this
  refine (Ev.cg this fun k => rfl).eq ?_
  have e : decide (((w.2.1.length : Nat) : Int) ≤ 60) = !decide ((60 : Int) < ((w.2.1.length : Nat) : Int)) := by
    by_cases h : ((w.2.1.length : Nat) : Int) ≤ 60
    · rw [decide_eq_true h, decide_eq_false (by omega)]; rfl
    · rw [decide_eq_false h, decide_eq_true (by omega)]; rfl
  unfold writerB
  rw [e]
  cases w.2.1.all (wordB a) <;> cases cfgB a <;> cases inB w.1 1 30 <;> cases decide ((60 : Int) < ((w.2.1.length : Nat) : Int)) <;> rfl

theorem impl_World_writersOk_ev (w : World) (g : WG w) : Ev (fun k => impl_World_writersOk.f k w) ((List.range' 0 w.2.2.2.2.1.length).all (writerAt w) && decide (((w.2.2.2.2.1.length : Nat) : Int) ≤ 4)) := by
  have hwl := g.wl; have hrl := g.rl
  exact all_loop (n := w.2.2.2.2.1.length) (p := fun k i => impl_World_writersOk.p5 k w w.2.2.2.2.1 ((w.2.2.2.2.1.length : Nat) : Int) i) (q := writerAt w) (zb := decide (((w.2.2.2.2.1.length : Nat) : Int) ≤ 4)) (fun i hi b hb => by
      have hw := g.writer hi
      simp only [impl_World_writersOk.p5, Int.toNat_natCast, impl_World_isThere.f, impl_within_is, Option.bind_some]
      rw [wrap_up hi (by omega)]
      unfold writerAt
      rw [Bool.and_assoc, Bool.and_assoc]
      refine Ev.pos (by omega) (Ev.pos (by omega) (Ev.bind (impl_WriterOk_ev w.1 (w.2.2.2.2.1.getD i zWr) g.c hw.1 hw.2) (Ev.and fun hok => ?_)))
      have h1 : 1 ≤ (w.2.2.2.2.1.getD i zWr).1 := by
        simp only [writerB, Bool.and_eq_true, inB_true] at hok
        exact hok.2.1.1
      have e1 : (!decide (((w.2.2.2.1.1.length : Nat) : Int) < (w.2.2.2.2.1.getD i zWr).1)) = inB (w.2.2.2.2.1.getD i zWr).1 1 ((w.2.2.2.1.1.length : Nat) : Int) := by
        unfold inB
        rw [decide_eq_true h1, Bool.true_and]
        by_cases c : ((w.2.2.2.1.1.length : Nat) : Int) < (w.2.2.2.2.1.getD i zWr).1
        · rw [decide_eq_true c, decide_eq_false (by omega)]; rfl
        · rw [decide_eq_false c, decide_eq_true (by omega)]; rfl
      rw [e1]
      refine Ev.and fun _ => ?_
      by_cases h0 : i = 0
      · exact (Ev.neg (by omega) hb).eq (by simp [h0])
      · rw [wrap64_id (x := (i : Int) - 1) (by omega) (by omega), decide_eq_false h0, Bool.false_or, show (((i : Int) - 1).toNat) = i - 1 by omega]
        exact Ev.pos (by omega) (Ev.pos (by omega) (Ev.nand fun _ => hb))) (by
      simp only [impl_World_writersOk.p5]
      exact Ev.neg (by omega) Ev.ret) w.2.2.2.2.1.length 0 (by omega)

theorem impl_OffOf_is (x : Int) (hx : InR x) : impl_OffOf.f x = some (offOf x) := by
  simp only [impl_OffOf.f, impl_PlaceOk_is x hx, Option.bind_some, offOf]
  by_cases h : placeOk x = true
  · have := placeOk_pos h
    rw [if_pos h, if_pos h, tmod_pos (by omega)]
  · rw [if_neg h, if_neg h]

theorem impl_lastOff_is (m : Mend) (hl : m.2.2.2.1.length ≤ 1048576) (h : ∀ i, InR (m.2.2.2.1.getD i zEnt).1) : impl_lastOff.f m = some (lastB m) := by
  unfold impl_lastOff.f lastB
  by_cases h0 : m.2.2.2.1.length = 0
  · rw [if_pos (by omega), if_pos h0]
  · have e : wrap64 (((m.2.2.2.1.length : Nat) : Int) - 1) = ((m.2.2.2.1.length - 1 : Nat) : Int) := by rw [wrap64_id (by omega) (by omega)]; omega
    rw [if_neg (by omega), if_neg h0, e, if_pos (by omega), Int.toNat_natCast]
    exact (congrArg (fun x => x.bind fun r => some r) (impl_OffOf_is _ (h _))).trans rfl

theorem impl_seenOk_ev {n : Nat} (m : Mend) (hn : n ≤ 1048576) (g2 : EG n m.2.2.2.1) : Ev (fun k => impl_seenOk.f k m) (seenB m && ascE m.2.2.2.1) := by
  have l2 := g2.1
  exact all_loop (n := m.2.2.2.1.length) (p := fun k i => impl_seenOk.p5 k m.2.2.2.1 ((m.2.2.2.1.length : Nat) : Int) i m) (q := seenAt m) (fun i hi b hb => by
      simp only [impl_seenOk.p5, Int.toNat_natCast]
      rw [wrap_up hi (by omega)]
      unfold seenAt
      rw [Bool.and_assoc, Bool.and_assoc]
      exact Ev.pos (by omega) (Ev.pos (by omega) (Ev.bind (impl_EntryOk_ev _ (g2.get i)) (Ev.and fun _ => Ev.bind (Ev.of (impl_EpochOf_is _ (g2.get i))) (Ev.andc fun _ => Ev.nand fun _ => hb))))) (by
      simp only [impl_seenOk.p5]
      exact Ev.neg (by omega) (Ev.bind (impl_placesAscend_ev _ (by omega)) Ev.ret)) m.2.2.2.1.length 0 (by omega)

theorem impl_MendOk_ev {s n h w : Nat} (a : Config) (m : Mend) (ha : a.1.length ≤ 1048576) (hs : s ≤ 1048576) (hn : n ≤ 1048576) (hh : h ≤ 1048576) (hw : w ≤ 1048576) (g : MG s n h w m) : Ev (fun k => impl_MendOk.f k a m) (mendB a m) := by
  obtain ⟨g1, g2, g3, g4, g5⟩ := g
  have l2 := g2.1
  have h22 : ∀ (x : Int) (b : Bool), Ev (fun k => impl_MendOk.p22 k x b a m) (cfgB a && (b && (nodesB a m.2.2.1 && ((seenB m && ascE m.2.2.2.1) && decide (((m.2.2.2.2.2.1.length : Nat) : Int) = x))))) := fun x b => by
    refine Ev.succ ?_
    simp only [impl_MendOk.p22]
    exact Ev.bind (impl_ConfigOk_ev a ha) (Ev.and fun _ => Ev.and fun _ => Ev.bind (impl_NodesOk_ev a _ ha (by omega)) (Ev.and fun _ => Ev.bind (impl_seenOk_ev m hn g2) (Ev.and fun _ => Ev.ret)))
  have h20 : ∀ (x : Int), Ev (fun k => impl_MendOk.p20 k x a m) (cfgB a && ((inB m.2.1 1 30 && inB m.1 (m.2.1 + 1) 30) && (nodesB a m.2.2.1 && ((seenB m && ascE m.2.2.2.1) && decide (((m.2.2.2.2.2.1.length : Nat) : Int) = x))))) := fun x => by
    refine Ev.succ ?_
    simp only [impl_MendOk.p20, impl_isEpoch.f, impl_within_is, Option.bind_some]
    cases hi : inB m.2.1 1 30 with
    | true =>
      have h1 := inB_true.1 hi
      rw [wrap64_id (by omega) (by omega), Bool.true_and]
      exact Ev.pos rfl (h22 x _)
    | false => exact (Ev.neg (by decide) (h22 x false)).eq (by simp)
  have h5 : Ev (fun k => impl_MendOk.p5 k m.2.2.2.2.2.1 ((m.2.2.2.2.2.1.length : Nat) : Int) (0 : Int) a m) (holdB a m && (cfgB a && ((inB m.2.1 1 30 && inB m.1 (m.2.1 + 1) 30) && (nodesB a m.2.2.1 && ((seenB m && ascE m.2.2.2.1) && decide (((m.2.2.2.2.2.1.length : Nat) : Int) = if m.2.2.2.2.1 = true then lastB m else 0)))))) :=
    all_loop (n := m.2.2.2.2.2.1.length) (p := fun k i => impl_MendOk.p5 k m.2.2.2.2.2.1 ((m.2.2.2.2.2.1.length : Nat) : Int) i a m) (q := fun i => nodesB a (m.2.2.2.2.2.1.getD i [])) (fun i hi b hb => by
      simp only [impl_MendOk.p5, Int.toNat_natCast]
      rw [wrap_up hi (by omega)]
      exact Ev.pos (by omega) (Ev.pos (by omega) (Ev.bind (impl_NodesOk_ev a _ ha (by have := g3.2 _ (getD_mem (d := []) hi); omega)) (Ev.and fun _ => hb)))) (by
      simp only [impl_MendOk.p5, impl_lastOff_is m (by omega) g2.get, Option.bind_some]
      refine Ev.neg (by omega) ?_
      by_cases hp : m.2.2.2.2.1 = true
      · rw [if_pos hp]; exact Ev.pos hp (h20 _)
      · rw [if_neg hp]; exact Ev.neg hp (h20 _)) m.2.2.2.2.2.1.length 0 (by omega)
  refine (Ev.cg h5 fun k => rfl).eq ?_
  unfold mendB
  generalize decide (((m.2.2.2.2.2.1.length : Nat) : Int) = if m.2.2.2.2.1 = true then lastB m else 0) = d
  cases holdB a m <;> cases cfgB a <;> cases inB m.2.1 1 30 <;> cases inB m.1 (m.2.1 + 1) 30 <;> cases nodesB a m.2.2.1 <;> cases seenB m <;> cases ascE m.2.2.2.1 <;> cases d <;> rfl

theorem impl_FirstOpen_l (l : List Era) (hl : l.length ≤ 1048576) : ∀ (m i : Nat), i + m = l.length → Ev (fun k => impl_FirstOpen.p5 k l ((l.length : Nat) : Int) (i : Int)) (fO (l.drop i) i) := by
  intro m
  induction m with
  | zero =>
    intro i hi
    refine Ev.succ ?_
    simp only [impl_FirstOpen.p5]
    rw [List.drop_eq_nil_of_le (by omega)]
    exact Ev.neg (by omega) Ev.ret
  | succ m ih =>
    intro i hi
    refine Ev.succ ?_
    simp only [impl_FirstOpen.p5, Int.toNat_natCast]
    rw [drop_get (d := zEra) (i := i) (l := l) (by omega), wrap_up (i := i) (n := l.length) (by omega) (by omega)]
    exact Ev.pos (by omega) (Ev.pos (by omega) (Ev.ite (fun _ => ih (i + 1) (by omega)) (fun _ => Ev.ret)))
theorem impl_FirstOpen_ev (r : Register) (hl : r.1.length ≤ 1048576) : Ev (fun k => impl_FirstOpen.f k r) (fO r.1 0) := impl_FirstOpen_l r.1 hl r.1.length 0 (by omega)

theorem impl_World_mendsOk_ev (w : World) (g : WG w) : Ev (fun k => impl_World_mendsOk.f k w) ((List.range' 0 w.2.2.2.2.2.1.length).all (mendAt w) && decide (((w.2.2.2.2.2.1.length : Nat) : Int) ≤ 1)) := by
  have hml := g.ml
  exact all_loop (n := w.2.2.2.2.2.1.length) (p := fun k i => impl_World_mendsOk.p5 k w w.2.2.2.2.2.1 ((w.2.2.2.2.2.1.length : Nat) : Int) i) (q := mendAt w) (zb := decide (((w.2.2.2.2.2.1.length : Nat) : Int) ≤ 1)) (fun i hi b hb => by
      simp only [impl_World_mendsOk.p5, Int.toNat_natCast]
      rw [wrap_up hi (by omega)]
      unfold mendAt
      rw [Bool.and_assoc, Bool.and_assoc]
      exact Ev.pos (by omega) (Ev.pos (by omega) (Ev.bind (impl_MendOk_ev w.1 (w.2.2.2.2.2.1.getD i zMd) g.c (Nat.le_refl _) (Nat.le_refl _) (Nat.le_refl _) (Nat.le_refl _) (g.me _ (getD_mem hi))) (Ev.and fun _ => Ev.andc fun _ => Ev.bind (impl_FirstOpen_ev w.2.2.2.1 g.rl) (Ev.andc fun _ => hb))))) (by
      simp only [impl_World_mendsOk.p5]
      exact Ev.neg (by omega) Ev.ret) w.2.2.2.2.2.1.length 0 (by omega)

theorem impl_ReaderOk_is (r : Reader) : impl_ReaderOk.f r = some (readerB r) := by
  simp only [impl_ReaderOk.f, impl_within_is, Option.bind_some, readerB]
  cases inB r.1 1 31 <;> cases inB r.2.1 1 61 <;> simp

theorem impl_World_readersOk_ev (w : World) (g : WG w) : Ev (fun k => impl_World_readersOk.f k w) (readersW w) := by
  have hdl := g.dl
  refine (all_loop (n := w.2.2.2.2.2.2.1.length) (p := fun k i => impl_World_readersOk.p5 k w w.2.2.2.2.2.2.1 ((w.2.2.2.2.2.2.1.length : Nat) : Int) i) (q := fun i => readerB (w.2.2.2.2.2.2.1.getD i zRd)) (zb := decide (((w.2.2.2.2.2.2.1.length : Nat) : Int) = 2)) (fun i hi b hb => by
      simp only [impl_World_readersOk.p5, Int.toNat_natCast, impl_ReaderOk_is, Option.bind_some]
      rw [wrap_up hi (by omega)]
      exact Ev.pos (by omega) (Ev.pos (by omega) (Ev.and fun _ => hb))) (by
      simp only [impl_World_readersOk.p5]
      exact Ev.neg (by omega) Ev.ret) w.2.2.2.2.2.2.1.length 0 (by omega)).eq ?_
  unfold readersW
  by_cases h2 : w.2.2.2.2.2.2.1.length = 2
  · rw [decide_eq_true h2, Bool.true_and, h2, decide_eq_true (by rfl), Bool.and_true]
    show (readerB (w.2.2.2.2.2.2.1.getD 0 zRd) && (readerB (w.2.2.2.2.2.2.1.getD 1 zRd) && true)) = _
    rw [Bool.and_true]
  · rw [decide_eq_false h2, Bool.false_and, decide_eq_false (by omega), Bool.and_false]

theorem impl_World_sentOk_ev (w : World) (g : WG w) : Ev (fun k => impl_World_sentOk.f k w) ((List.range' 0 w.2.2.2.2.2.2.2.1.length).all (sentAt w) && decide (((w.2.2.2.2.2.2.2.1.length : Nat) : Int) ≤ 120)) := by
  have hsl := g.sl
  exact all_loop (n := w.2.2.2.2.2.2.2.1.length) (p := fun k i => impl_World_sentOk.p5 k w w.2.2.2.2.2.2.2.1 ((w.2.2.2.2.2.2.2.1.length : Nat) : Int) i) (q := sentAt w) (zb := decide (((w.2.2.2.2.2.2.2.1.length : Nat) : Int) ≤ 120)) (fun i hi b hb => by
      have hx : InR (w.2.2.2.2.2.2.2.1.getD i zSn).1 := g.se _ (getD_mem hi)
      simp only [impl_World_sentOk.p5, Int.toNat_natCast, impl_World_isThere.f, impl_within_is, Option.bind_some, impl_dataOk_is]
      rw [wrap_up hi (by omega)]
      unfold sentAt
      refine Ev.pos (by omega) (Ev.pos (by omega) (Ev.bindc (impl_EpochOf_is _ hx) ?_))
      have e1 : (placeOk (w.2.2.2.2.2.2.2.1.getD i zSn).1 && !decide (((w.2.2.2.1.1.length : Nat) : Int) < epochOf (w.2.2.2.2.2.2.2.1.getD i zSn).1)) = inB (epochOf (w.2.2.2.2.2.2.2.1.getD i zSn).1) 1 ((w.2.2.2.1.1.length : Nat) : Int) := by
        unfold inB
        by_cases hp : placeOk (w.2.2.2.2.2.2.2.1.getD i zSn).1 = true
        · have := epochOf_pos hp
          rw [hp, Bool.true_and, decide_eq_true (by omega : 1 ≤ epochOf (w.2.2.2.2.2.2.2.1.getD i zSn).1), Bool.true_and]
          by_cases c : ((w.2.2.2.1.1.length : Nat) : Int) < epochOf (w.2.2.2.2.2.2.2.1.getD i zSn).1
          · rw [decide_eq_true c, decide_eq_false (by omega)]; rfl
          · rw [decide_eq_false c, decide_eq_true (by omega)]; rfl
        · have h0 : epochOf (w.2.2.2.2.2.2.2.1.getD i zSn).1 = 0 := by unfold epochOf; rw [if_neg hp]
          rw [Bool.not_eq_true] at hp
          rw [hp, Bool.false_and, h0, decide_eq_false (by omega), Bool.false_and]
      rw [← Bool.and_assoc (placeOk _), e1, Bool.and_assoc, Bool.and_assoc]
      refine Ev.and fun _ => Ev.and fun _ => ?_
      by_cases h0 : i = 0
      · exact (Ev.neg (by omega) hb).eq (by simp [h0])
      · rw [wrap64_id (x := (i : Int) - 1) (by omega) (by omega), decide_eq_false h0, Bool.false_or, show (((i : Int) - 1).toNat) = i - 1 by omega]
        exact Ev.pos (by omega) (Ev.pos (by omega) (Ev.nand fun _ => hb))) (by
      simp only [impl_World_sentOk.p5]
      exact Ev.neg (by omega) Ev.ret) w.2.2.2.2.2.2.2.1.length 0 (by omega)

theorem impl_WorldOk_ev (w : World) (g : WG w) : Ev (fun k => impl_WorldOk.f k w) (worldB w) := by
  have h4 : ∀ b : Bool, Ev (fun k => impl_WorldOk.p4 k b w) (b && (((List.range' 0 w.2.2.2.2.1.length).all (writerAt w) && decide (((w.2.2.2.2.1.length : Nat) : Int) ≤ 4)) && (((List.range' 0 w.2.2.2.2.2.1.length).all (mendAt w) && decide (((w.2.2.2.2.2.1.length : Nat) : Int) ≤ 1)) && (readersW w && ((List.range' 0 w.2.2.2.2.2.2.2.1.length).all (sentAt w) && decide (((w.2.2.2.2.2.2.2.1.length : Nat) : Int) ≤ 120)))))) := fun b => by
    refine Ev.succ ?_
    simp only [impl_WorldOk.p4]
    exact Ev.and fun _ => Ev.bind (impl_World_writersOk_ev w g) (Ev.and fun _ => Ev.bind (impl_World_mendsOk_ev w g) (Ev.and fun _ => Ev.bind (impl_World_readersOk_ev w g) (Ev.and fun _ => Ev.bind (impl_World_sentOk_ev w g) Ev.ret)))
  simp only [impl_WorldOk.f]
  refine (Ev.bind (impl_ConfigOk_ev w.1 g.c) (b := cfgB w.1 && ((decide (w.2.1.length = w.1.1.length) && (nodesB w.1 w.2.2.1 && ((List.range' 0 w.2.1.length).all (storeAt w) && (w.2.2.2.2.2.2.2.2.1 || !holdsB w.1 w.2.2.1)))) && (regB w.1 w.2.2.2.1 && (((List.range' 0 w.2.2.2.2.1.length).all (writerAt w) && decide (((w.2.2.2.2.1.length : Nat) : Int) ≤ 4)) && (((List.range' 0 w.2.2.2.2.2.1.length).all (mendAt w) && decide (((w.2.2.2.2.2.1.length : Nat) : Int) ≤ 1)) && (readersW w && ((List.range' 0 w.2.2.2.2.2.2.2.1.length).all (sentAt w) && decide (((w.2.2.2.2.2.2.2.1.length : Nat) : Int) ≤ 120)))))))) ?_).eq ?_
  · by_cases hc : cfgB w.1 = true
    · rw [hc, Bool.true_and]
      refine Ev.pos rfl (Ev.bind (impl_World_storesOk_ev w g) ?_)
      generalize (decide (w.2.1.length = w.1.1.length) && (nodesB w.1 w.2.2.1 && ((List.range' 0 w.2.1.length).all (storeAt w) && (w.2.2.2.2.2.2.2.2.1 || !holdsB w.1 w.2.2.1)))) = s
      cases s with
      | true => exact Ev.pos rfl (Ev.bind (impl_RegOk_ev w.1 w.2.2.2.1 g.rt g.c g.rl g.era) (h4 _))
      | false => exact Ev.neg (by decide) (h4 false)
    · rw [Bool.not_eq_true] at hc
      rw [hc, Bool.false_and]
      exact (Ev.neg (by decide) (h4 false)).eq rfl
  · unfold worldB nodesW epochsW sentW
    rw [ndec, ndec, ndec]
    generalize cfgB w.1 = x1
    generalize decide (w.2.1.length = w.1.1.length) = x2
    generalize nodesB w.1 w.2.2.1 = x3
    generalize (List.range' 0 w.2.1.length).all (storeAt w) = x4
    generalize holdsB w.1 w.2.2.1 = x5
    generalize w.2.2.2.2.2.2.2.2.1 = x6
    generalize regB w.1 w.2.2.2.1 = x7
    generalize (List.range' 0 w.2.2.2.2.1.length).all (writerAt w) = x8
    generalize decide (((w.2.2.2.2.1.length : Nat) : Int) ≤ 4) = x9
    generalize (List.range' 0 w.2.2.2.2.2.1.length).all (mendAt w) = x10
    generalize decide (((w.2.2.2.2.2.1.length : Nat) : Int) ≤ 1) = x11
    generalize readersW w = x12
    generalize (List.range' 0 w.2.2.2.2.2.2.2.1.length).all (sentAt w) = x13
    generalize decide (((w.2.2.2.2.2.2.2.1.length : Nat) : Int) ≤ 120) = x14
    cases x1 <;> cases x2 <;> cases x3 <;> simp only [Bool.true_and, Bool.false_and]
    cases x4 <;> cases x5 <;> cases x6 <;> simp only [Bool.true_and, Bool.false_and, Bool.and_false, Bool.not_true, Bool.not_false, Bool.or_true, Bool.or_false, Bool.true_or, Bool.false_or]
    all_goals (cases x7 <;> cases x8 <;> cases x9 <;> cases x10 <;> cases x11 <;> simp only [Bool.true_and, Bool.false_and, Bool.and_false, Bool.and_true])
    all_goals (cases x12 <;> cases x13 <;> cases x14 <;> rfl)

theorem slices_BinarySearchFunc_ev (l : List Entry) (x : Int) (hl : l.length ≤ 1048576) (ha : AscE l) : ∃ i : Nat, i ≤ l.length ∧ (∀ q, q < i → (l.getD q ((0 : Int), ((0 : Int), (false, ((⟨#[]⟩ : ByteArray), ()))))).1 < x) ∧ (∀ q, i ≤ q → q < l.length → x ≤ (l.getD q ((0 : Int), ((0 : Int), (false, ((⟨#[]⟩ : ByteArray), ()))))).1) ∧
    Ev (fun k => slices_BinarySearchFunc_impl_Entry_impl_Entry_int_impl_placeIn_1.f k l x ()) ((i : Int), decide (i < l.length ∧ (l.getD i ((0 : Int), ((0 : Int), (false, ((⟨#[]⟩ : ByteArray), ()))))).1 = x)) := by
  let g : Nat → Int := fun q => (l.getD q ((0 : Int), ((0 : Int), (false, ((⟨#[]⟩ : ByteArray), ()))))).1
  have hex : ∃ i : Nat, i ≤ l.length ∧ (∀ q, q < i → g q < x) ∧ (∀ q, i ≤ q → q < l.length → x ≤ g q) := by
    have : ∀ d : Nat, d ≤ l.length → (∀ q, d ≤ q → q < l.length → x ≤ g q) → ∃ i : Nat, i ≤ l.length ∧ (∀ q, q < i → g q < x) ∧ (∀ q, i ≤ q → q < l.length → x ≤ g q) := by
      intro d
      induction d with
      | zero => intro _ h; exact ⟨0, by omega, fun q hq => absurd hq (Nat.not_lt_zero _), h⟩
      | succ d ih =>
        intro hd h
        by_cases hx : x ≤ g d
        · exact ih (by omega) fun q hq hql => by
            by_cases e : q = d
            · subst e; exact hx
            · exact h q (by omega) hql
        · exact ⟨d + 1, hd, fun q hq => by
            by_cases e : q = d
            · subst e; omega
            · have : g q < g d := ha q d (by omega) (by omega)
              omega, h⟩
    exact this l.length (Nat.le_refl _) fun q h1 h2 => absurd h2 (by omega)
  obtain ⟨i0, h1, h2, h3⟩ := hex
  refine ⟨i0, h1, h2, h3, ?_⟩
  have cmp : ∀ q, ∃ r : Int, impl_placeIn_1.f (l.getD q ((0 : Int), ((0 : Int), (false, ((⟨#[]⟩ : ByteArray), ()))))) x = some r ∧ decide (r < 0) = decide (g q < x) ∧ decide (r = 0) = decide (g q = x) := fun q => by
    simp only [impl_placeIn_1.f]
    by_cases c1 : g q < x
    · exact ⟨-1, by rw [if_pos c1], by simp [c1], by have : ¬ g q = x := (by omega); simp [this]⟩
    · rw [if_neg c1]
      by_cases c2 : x < g q
      · exact ⟨1, by rw [if_pos c2], by simp [c1], by have : ¬ g q = x := (by omega); simp [this]⟩
      · exact ⟨0, by rw [if_neg c2], by simp [c1], by have : g q = x := (by omega); simp [this]⟩
  refine Ev.cg (bs_loop (n := l.length) (p := fun k i j => slices_BinarySearchFunc_impl_Entry_impl_Entry_int_impl_placeIn_1.p7 k l x () ((l.length : Nat) : Int) i j) (lt := fun q => decide (g q < x)) (fun q r hqr hr h => ?_) (fun i j hij hj b ht hf => ?_) (fun i hi ht hf => ?_) l.length 0 l.length (by omega) (by omega) (Nat.le_refl _) (fun q hq => absurd hq (Nat.not_lt_zero _)) (fun q h1 h2 => absurd h2 (by omega))) fun k => rfl
  · simp only [decide_eq_true_eq] at h ⊢
    by_cases e : q = r
    · subst e; exact h
    · have : g q < g r := ha q r (by omega) hr
      omega
  · simp only [slices_BinarySearchFunc_impl_Entry_impl_Entry_int_impl_placeIn_1.p7, mid_is hij hj (by omega : l.length ≤ _), Int.toNat_natCast]
    rw [wrap_up (i := (i + j) / 2) (n := l.length) (by omega) (by omega)]
    obtain ⟨r, k1, k2, _⟩ := cmp ((i + j) / 2)
    refine Ev.pos (by omega) (Ev.pos (by omega) (Ev.bindc k1 ?_))
    by_cases hc : g ((i + j) / 2) < x
    · have hr : r < 0 := by rw [decide_eq_true hc] at k2; simpa using k2
      exact Ev.pos hr (ht (by simpa using hc))
    · have hr : ¬ r < 0 := by rw [decide_eq_false hc] at k2; simpa using k2
      exact Ev.neg hr (hf (by simpa using hc))
  · have e : i = i0 := by
      simp only [decide_eq_true_eq, decide_eq_false_iff_not] at ht hf
      rcases Nat.lt_trichotomy i i0 with h | h | h
      · exact absurd (h2 i h) (hf i (Nat.le_refl _) (by omega))
      · exact h
      · have := ht i0 h; have := h3 i0 (Nat.le_refl _) (by omega); omega
    subst e
    simp only [slices_BinarySearchFunc_impl_Entry_impl_Entry_int_impl_placeIn_1.p7, Int.toNat_natCast]
    refine Ev.neg (by omega) ?_
    by_cases hl2 : i < l.length
    · obtain ⟨r, k1, _, k3⟩ := cmp i
      exact Ev.pos (by omega) (Ev.pos (by omega) (Ev.bindc k1 (Ev.ret.eq (by rw [k3, show decide (g i = x) = decide (i < l.length ∧ g i = x) by by_cases q : g i = x <;> simp [hl2, q]]))))
    · exact Ev.neg (by omega) (Ev.ret.eq (by rw [decide_eq_false (fun h => hl2 h.1)]))

theorem impl_placeIn_ev (l : List Entry) (x : Int) (hl : l.length ≤ 1048576) (ha : AscE l) : ∃ i : Nat, i ≤ l.length ∧ (∀ q, q < i → (l.getD q ((0 : Int), ((0 : Int), (false, ((⟨#[]⟩ : ByteArray), ()))))).1 < x) ∧ (∀ q, i ≤ q → q < l.length → x ≤ (l.getD q ((0 : Int), ((0 : Int), (false, ((⟨#[]⟩ : ByteArray), ()))))).1) ∧
    Ev (fun k => impl_placeIn.f k l x) ((i : Int), decide (i < l.length ∧ (l.getD i ((0 : Int), ((0 : Int), (false, ((⟨#[]⟩ : ByteArray), ()))))).1 = x)) := by
  obtain ⟨i, h1, h2, h3, h4⟩ := slices_BinarySearchFunc_ev l x hl ha
  exact ⟨i, h1, h2, h3, Ev.bind h4 Ev.ret⟩

theorem impl_StoreGet_ev (s : Store) (x : Int) (h1 : s.1.length ≤ 1048576) (h2 : s.2.1.length ≤ 1048576) (a1 : ∀ i, i < s.1.length → InR (s.1.getD i zEnt).1) (a2 : ∀ i, i < s.2.1.length → InR (s.2.1.getD i zEnt).1) : Ev (fun k => impl_StoreGet.f k s x) (if storeB s = true then getF s.1 x else (zEnt, false)) := by
  simp only [impl_StoreGet.f]
  refine Ev.bind (impl_StoreOk_ev s h1 h2 a1 a2) (Ev.ite (fun hs => ?_) (fun _ => Ev.ret))
  have hA : AscE s.1 := by
    simp only [storeB, Bool.and_eq_true] at hs
    exact ascE_Asc hs.2.2.2.2.1
  obtain ⟨i, k1, k2, k3, k4⟩ := impl_placeIn_ev s.1 x h1 hA
  refine Ev.bind k4 ?_
  simp only [Int.toNat_natCast]
  by_cases hc : i < s.1.length ∧ (s.1.getD i zEnt).1 = x
  · refine Ev.pos (decide_eq_true hc) (Ev.pos (by omega) (Ev.ret.eq ?_))
    rw [getF_some hc.1 (fun q hq h => by have := k2 q hq; unfold zEnt at h; omega) hc.2]; rfl
  · refine Ev.neg (by rw [decide_eq_true_eq]; exact hc) (Ev.ret.eq ?_)
    rw [getF_none fun y hy h => ?_]
    obtain ⟨q, hq, e⟩ := List.getElem_of_mem hy
    have e' : s.1.getD q zEnt = y := (getD_is hq).trans e
    unfold zEnt at e'
    rcases Nat.lt_trichotomy q i with c | c | c
    · have := k2 q c; rw [e'] at this; omega
    · subst c; exact hc ⟨hq, by unfold zEnt; rw [e']; exact h⟩
    · have h5 := hA i q c hq; have h6 := k3 i (Nat.le_refl _) (by omega); rw [e'] at h5; omega

theorem impl_HoldersOf_ev (w : World) (x : Int) (g : WG w) : Ev (fun k => impl_HoldersOf.f k w x) (holdF w x) := by
  have hl := g.st.1
  have h : worldB w = true → ∀ (m i : Nat) (o : List Int), i + m = w.2.1.length → o.length ≤ i → Ev (fun k => impl_HoldersOf.p11 k x o w.2.1 ((w.2.1.length : Nat) : Int) (i : Int)) (o ++ holdL x i (w.2.1.drop i)) := by
    intro hw m
    induction m with
    | zero =>
      intro i o hi ho
      refine Ev.succ ?_
      simp only [impl_HoldersOf.p11]
      rw [List.drop_eq_nil_of_le (by omega)]
      exact Ev.neg (by omega) (Ev.ret.eq (by simp [holdL]))
    | succ m ih =>
      intro i o hi ho
      have hlt : i < w.2.1.length := by omega
      have hs : storeB (w.2.1.getD i zSto) = true := by
        simp only [worldB, nodesW, Bool.and_eq_true, List.all_eq_true, List.mem_range'_1] at hw
        have := hw.1.2.2.2.2 i (by omega)
        unfold storeAt at this
        rw [Bool.and_eq_true] at this
        exact this.1
      have hg := g.st.2 _ (getD_mem (d := zSto) hlt)
      have hget := impl_StoreGet_ev (w.2.1.getD i zSto) x hg.1.1 hg.2.1.1 hg.1.at hg.2.1.at
      rw [if_pos hs] at hget
      refine Ev.succ ?_
      simp only [impl_HoldersOf.p11, Int.toNat_natCast]
      rw [wrap_up hlt (by omega), drop_get (d := zSto) hlt, holdL_cons]
      refine Ev.pos (by omega) (Ev.pos (by omega) (Ev.bind hget ?_))
      by_cases hq : (getF (w.2.1.getD i zSto).1 x).2 = true
      · rw [if_pos hq]
        exact Ev.pos hq (Ev.pos (by simp only [lim_eq, List.length_cons, List.length_nil]; omega) ((ih (i + 1) _ (by omega) (by simp; omega)).eq (by simp)))
      · rw [if_neg hq]
        exact Ev.neg hq (ih (i + 1) o (by omega) (by omega))
  simp only [impl_HoldersOf.f]
  unfold holdF
  exact Ev.bind (impl_WorldOk_ev w g) (Ev.ite (fun hw => h hw w.2.1.length 0 [] (by omega) (by simp)) (fun _ => Ev.ret))

theorem laws_sameInts_l (l : List Int) (hl : l.length ≤ 1048576) : ∀ (m i : Nat), i + m = l.length → Ev (fun k => laws_sameInts.p9 k l l (i : Int)) true := by
  intro m
  induction m with
  | zero =>
    intro i hi
    refine Ev.succ ?_
    simp only [laws_sameInts.p9]
    exact Ev.neg (by omega) Ev.ret
  | succ m ih =>
    intro i hi
    refine Ev.succ ?_
    simp only [laws_sameInts.p9]
    rw [wrap_up (i := i) (n := l.length) (by omega) (by omega)]
    exact Ev.pos (by omega) (Ev.pos (by omega) (Ev.pos (by omega) (Ev.pos trivial (ih (i + 1) (by omega)))))
theorem laws_sameInts_ev (l : List Int) (hl : l.length ≤ 1048576) : Ev (fun k => laws_sameInts.f k l l) true := by
  simp only [laws_sameInts.f]
  exact Ev.pos trivial (laws_sameInts_l l hl l.length 0 (by omega))

theorem laws_within_ev (l : List Int) (x : Int) (hl : l.length ≤ 1048576) : Ev (fun k => laws_within.f k l x) (l.contains x) := by
  have h : ∀ (d i : Nat), i + d = l.length → Ev (fun k => laws_within.p5 k l x (i : Int)) ((l.drop i).contains x) := by
    intro d
    induction d with
    | zero =>
      intro i hi
      refine Ev.succ ?_
      simp only [laws_within.p5]
      rw [List.drop_eq_nil_of_le (by omega)]
      exact Ev.neg (by omega) Ev.ret
    | succ d ih =>
      intro i hi
      have hlt : i < l.length := by omega
      refine Ev.succ ?_
      simp only [laws_within.p5, Int.toNat_natCast]
      rw [wrap_up hlt (by omega), drop_get (d := (0 : Int)) hlt, List.contains_cons]
      refine Ev.pos (by omega) (Ev.pos (by omega) ?_)
      by_cases hq : l.getD i 0 = x
      · exact Ev.pos hq (Ev.ret.eq (by rw [hq]; simp))
      · exact Ev.neg hq ((ih (i + 1) (by omega)).eq (by
          have : ¬ x = l.getD i 0 := fun e => hq e.symm
          rw [show (x == l.getD i 0) = false by simpa using this, Bool.false_or]))
  have := h l.length 0 (by omega)
  rw [List.drop_zero] at this
  exact Ev.cg this fun k => rfl

theorem impl_WriterSure_l (w : Writer) (hl : w.2.1.length ≤ 1048576) : ∀ (d i : Nat), i + d = w.2.1.length → Ev (fun k => impl_WriterSure.p5 k w.2.1 ((w.2.1.length : Nat) : Int) (i : Int) w) (((i + sureN (w.2.1.drop i) : Nat)) : Int) := by
  intro d
  induction d with
  | zero =>
    intro i hi
    refine Ev.succ ?_
    simp only [impl_WriterSure.p5]
    rw [List.drop_eq_nil_of_le (by omega)]
    exact Ev.neg (by omega) (Ev.ret.eq (by show ((w.2.1.length : Nat) : Int) = ((i + 0 : Nat) : Int); omega))
  | succ d ih =>
    intro i hi
    have hlt : i < w.2.1.length := by omega
    refine Ev.succ ?_
    simp only [impl_WriterSure.p5, Int.toNat_natCast]
    rw [wrap_up hlt (by omega), drop_get (d := zWord) hlt]
    refine Ev.pos (by omega) (Ev.pos (by omega) ?_)
    unfold sureN
    by_cases hd : (w.2.1.getD i zWord).2.2.1 = true
    · rw [if_pos hd]
      exact Ev.pos hd ((ih (i + 1) (by omega)).eq (by omega))
    · rw [if_neg hd]
      exact Ev.neg hd Ev.ret
theorem impl_WriterSure_ev (w : Writer) (hl : w.2.1.length ≤ 1048576) : Ev (fun k => impl_WriterSure.f k w) ((sureN w.2.1 : Nat) : Int) := by
  have := impl_WriterSure_l w hl w.2.1.length 0 (by omega)
  rw [List.drop_zero, Nat.zero_add] at this
  exact Ev.cg this fun k => rfl


/-! What a deed keeps of a world, so that the next one can be drawn. -/
theorem mendB_mem {a : Config} {m : Mend} (h : mendB a m = true) {l : List Int} (hl : l ∈ m.2.2.2.2.2.1) : nodesB a l = true := by
  obtain ⟨q, hq, e⟩ := List.getElem_of_mem hl
  have := (mendB_parts h).2.2.2.2.2.2.1 q hq
  rw [getD_is hq, e] at this; exact this
theorem mendB_forget {a : Config} {m : Mend} (x : Int) (h : mendB a m = true) : mendB a (forgetM m x) = true := by
  unfold forgetM
  refine mendB_wrote h (List.length_map _) fun z hz => ?_
  obtain ⟨u, hu, rfl⟩ := List.mem_map.1 hz
  exact nodesB_filter _ (mendB_mem h hu)
theorem mendB_ack {a : Config} {m : Mend} {x y : Int} (h : mendB a m = true) (hi : (x - 1).toNat < m.2.2.2.2.2.1.length) (h0 : 0 ≤ y) (h1 : y ≤ ((a.1.length : Nat) : Int) - 1) : mendB a (ackM m x y) = true := by
  have hp := mendB_parts h
  unfold ackM
  refine mendB_wrote h (List.length_set ..) fun z hz => ?_
  rcases List.mem_or_eq_of_mem_set hz with h' | h'
  · exact mendB_mem h h'
  · subst h'
    exact nodesB_ins (hp.2.2.2.2.2.2.1 _ hi) h0 h1
theorem plan_ok {a : Config} {m : Mend} (h : mendB a m = true) : mendB a (planM m) = true := by
  have hb := lastB_le m
  have hp := mendB_parts h
  simp only [mendB, Bool.and_eq_true] at h ⊢
  refine ⟨h.1, h.2.1, h.2.2.1, h.2.2.2.1, h.2.2.2.2.1, h.2.2.2.2.2.1, ?_, ?_⟩
  · simp only [holdB, List.all_eq_true, List.mem_range'_1]
    intro i hi
    have hz : (planM m).2.2.2.2.2.1.getD i [] = [] := by
      show (List.replicate (lastB m).toNat ([] : List Int)).getD i [] = []
      rw [List.getD_eq_getElem?_getD, List.getElem?_replicate]
      split <;> rfl
    rw [hz]
    unfold nodesB
    rw [hp.1]; rfl
  · rw [decide_eq_true_eq]
    show (((List.replicate (lastB m).toNat ([] : List Int)).length : Nat) : Int) = lastB m
    rw [List.length_replicate]; omega
theorem less_word (a : Config) (x : Int) (w : Word) (h : wordB a w = true) : wordB a (lessW x w) = true := by
  unfold lessW
  split
  · exact h
  · rename_i hd
    simp only [wordB, Bool.and_eq_true, Bool.not_eq_true', decide_eq_false_iff_not, decide_eq_true_eq] at h ⊢
    refine ⟨h.1, nodesB_filter _ h.2.1, ?_⟩
    have hf : w.2.2.1 = false := by simpa using hd
    rw [hf] at h
    show holdsB a (w.2.1.filter _) = w.2.2.1
    rw [hf]
    cases hh : holdsB a (w.2.1.filter fun v => !decide (v = x)) with
    | false => rfl
    | true =>
      have := holdsB_mono h.2.1 (fun y hy => (List.mem_filter.1 hy).1) hh
      rw [this] at h
      exact absurd h.2.2 (by decide)
theorem less_undone (x : Int) (l : List Word) : undone (l.map (lessW x)) = undone l := by
  induction l with
  | nil => rfl
  | cons w l ih =>
    have h : (lessW x w).2.2.1 = w.2.2.1 := by unfold lessW; split <;> rfl
    simp only [List.map_cons, undone, h, ih]
theorem less_ok (a : Config) (w : Writer) (x : Int) (h : writerB a w = true) : writerB a (lessWr w x) = true := by
  simp only [writerB, Bool.and_eq_true, Bool.not_eq_true', decide_eq_false_iff_not, List.all_eq_true, decide_eq_true_eq] at h ⊢
  refine ⟨h.1, h.2.1, ?_, fun y hy => ?_, ?_⟩
  · show ¬ (60 : Int) < (((w.2.1.map (lessW x)).length : Nat) : Int)
    rw [List.length_map]; exact h.2.2.1
  · obtain ⟨z, hz, rfl⟩ := List.mem_map.1 (show y ∈ w.2.1.map (lessW x) from hy)
    exact less_word a x z (h.2.2.2.1 z hz)
  · show undone (w.2.1.map (lessW x)) ≤ 6
    rw [less_undone]; exact h.2.2.2.2
theorem set_undone {l : List Word} {v : Word} : ∀ {i : Nat}, i < l.length → ¬ (l.getD i zWord).2.2.1 = true → undone (l.set i v) ≤ undone l := by
  induction l with
  | nil => intro i hi; exact absurd hi (Nat.not_lt_zero _)
  | cons w l ih =>
    intro i hi hd
    cases i with
    | zero =>
      have hd : ¬ w.2.2.1 = true := hd
      rw [List.set_cons_zero]
      simp only [undone]
      rw [if_neg hd]
      split <;> omega
    | succ i =>
      rw [getD_cons_succ'] at hd
      have := ih (i := i) (by simpa using hi) hd
      rw [List.set_cons_succ]
      simp only [undone]
      split <;> omega
theorem ack_ok {a : Config} {w : Writer} {x y : Int} (h : writerB a w = true) (hi : (x - 1).toNat < w.2.1.length) (hy : inB y 0 (((a.1.length : Nat) : Int) - 1) = true) (hd : ¬ (w.2.1.getD (x - 1).toNat zWord).2.2.1 = true) : writerB a (ackWr a w x y) = true := by
  simp only [writerB, Bool.and_eq_true, Bool.not_eq_true', decide_eq_false_iff_not, List.all_eq_true, decide_eq_true_eq] at h ⊢
  have hw := h.2.2.2.1 _ (getD_mem (d := zWord) hi)
  have hy := inB_true.1 hy
  refine ⟨h.1, h.2.1, ?_, fun z hz => ?_, ?_⟩
  · show ¬ (60 : Int) < (((w.2.1.set _ _).length : Nat) : Int)
    rw [List.length_set]; exact h.2.2.1
  · rcases List.mem_or_eq_of_mem_set (show z ∈ w.2.1.set _ _ from hz) with h' | h'
    · exact h.2.2.2.1 z h'
    · subst h'
      simp only [wordB, ackW, Bool.and_eq_true, Bool.not_eq_true', decide_eq_false_iff_not, decide_eq_true_eq] at hw ⊢
      exact ⟨decide_eq_false hw.1, nodesB_ins hw.2.1 hy.1 hy.2, trivial⟩
  · show undone (w.2.1.set _ _) ≤ 6
    have := set_undone (v := ackW a (w.2.1.getD (x - 1).toNat zWord) y) hi hd
    have := h.2.2.2.2
    omega
theorem wack_keep {a : Config} {w : Writer} (off node : Int) (h : writerB a w = true) : writerB a (wackF a w off node).1 = true ∧ (wackF a w off node).1.1 = w.1 ∧ (wackF a w off node).1.2.1.length = w.2.1.length := by
  unfold wackF
  rw [if_pos h]
  split
  · rename_i hc
    have h1 := inB_true.1 hc.1
    exact ⟨ack_ok h (by omega) hc.2.1 hc.2.2, rfl, List.length_set ..⟩
  · exact ⟨h, rfl, rfl⟩
theorem mack_keep {a : Config} {m : Mend} (off node : Int) (h : mendB a m = true) : mendB a (mackF a m off node).1 = true ∧ (mackF a m off node).1.2.1 = m.2.1 ∧ (mackF a m off node).1.2.2.2.2.2.1.length = m.2.2.2.2.2.1.length := by
  unfold mackF
  rw [if_pos h]
  split
  · rename_i hc
    have h1 := inB_true.1 hc
    split
    · rename_i hn
      have h2 := inB_true.1 hn
      exact ⟨mendB_ack h (by omega) h2.1 h2.2, rfl, List.length_set ..⟩
    · exact ⟨h, rfl, rfl⟩
  · exact ⟨h, rfl, rfl⟩
theorem placeOk_InR {x : Int} (h : placeOk x = true) : InR x := by
  have := placeOk_pos h
  unfold InR; omega
theorem entB_InR {e : Entry} (h : entB e = true) : InR e.1 := by
  simp only [entB, Bool.and_eq_true] at h
  exact placeOk_InR h.1
theorem writerB_WD {a : Config} {w : Writer} (h : writerB a w = true) : WD 60 w := by
  simp only [writerB, Bool.and_eq_true, Bool.not_eq_true', decide_eq_false_iff_not, List.all_eq_true] at h
  refine ⟨by omega, fun x hx => ?_⟩
  have := h.2.2.2.1 x hx
  simp only [wordB, Bool.and_eq_true] at this
  have := nodesB_len this.2.1
  omega
theorem mendB_MG {a : Config} {m : Mend} (h : mendB a m = true) : MG 60 60 60 60 m := by
  have hp := mendB_parts h
  have hb := lastB_le m
  have hn := nodesB_len hp.2.2.2.1
  have hs : ∀ e ∈ m.2.2.2.1, entB e = true ∧ epochOf e.1 = m.2.1 := fun e he => by
    obtain ⟨q, hq, rfl⟩ := List.getElem_of_mem he
    have := hp.2.2.2.2.2.1
    simp only [seenB, List.all_eq_true, List.mem_range'_1] at this
    have := this q (by omega)
    simp only [seenAt, Bool.and_eq_true, decide_eq_true_eq] at this
    rw [getD_is hq] at this
    exact ⟨this.1, this.2.1⟩
  have hl : m.2.2.2.1.length ≤ 60 := by
    have ha : ascB (m.2.2.2.1.map (·.1)) (m.2.1 * 4294967296 + 1) (m.2.1 * 4294967296 + 60) = true := by
      refine ascB_iff.2 ⟨fun x hx => ?_, ?_⟩
      · obtain ⟨e, he, rfl⟩ := List.mem_map.1 hx
        obtain ⟨h1, h2⟩ := hs e he
        simp only [entB, Bool.and_eq_true] at h1
        have h3 := placeOk_pos h1.1
        have h4 := (epochOf_pos h1.1).1
        rw [h2] at h4
        omega
      · exact List.pairwise_map.2 (ascE_Asc hp.2.2.2.2.1).pw
    have := ascB_len ha
    rw [List.length_map] at this
    omega
  refine ⟨by omega, ⟨hl, fun e he => entB_InR (hs e he).1⟩, ⟨?_, fun l hl => ?_⟩, ?_, ?_⟩
  · have := hp.2.2.2.2.2.2.2
    split at this <;> omega
  · have := nodesB_len (mendB_mem h hl); omega
  · have := hp.2.2.1; have := hp.2.1; unfold InR; omega
  · have := hp.2.1; unfold InR; omega
/-- An epoch of the register that has nodes. -/
def EraIn (r : Register) (e : Int) : Prop := 1 ≤ e ∧ e ≤ r.1.length ∧ 0 < (r.1.getD (e - 1).toNat zEra).1.length
/-- What every deed keeps. -/
structure WT (w : World) : Prop where
  c : cfgB w.1 = true
  sl : w.2.1.length = w.1.1.length
  st : ∀ s ∈ w.2.1, SG 512 512 s
  lo : w.2.2.1.length ≤ 16
  rg : RG 31 w.2.2.2.1
  wl : w.2.2.2.2.1.length ≤ 5
  we : ∀ x ∈ w.2.2.2.2.1, writerB w.1 x = true ∧ EraIn w.2.2.2.1 x.1
  ml : w.2.2.2.2.2.1.length ≤ 1
  me : ∀ m ∈ w.2.2.2.2.2.1, mendB w.1 m = true ∧ EraIn w.2.2.2.1 m.2.1
  dl : w.2.2.2.2.2.2.1.length = 2
  de : ∀ r ∈ w.2.2.2.2.2.2.1, r.2.2.1.length ≤ 121
  nl : w.2.2.2.2.2.2.2.1.length ≤ 121
  ne : ∀ x ∈ w.2.2.2.2.2.2.2.1, InR x.1
theorem RG.wg {n : Nat} {r : Register} (h : RG n r) (hn : n ≤ 64) : InR r.2.1 ∧ r.1.length ≤ 1048576 ∧ ∀ e ∈ r.1, e.1.length ≤ 1048576 :=
  ⟨h.2.2, by have := h.1; omega, fun e he => by have := h.2.1 e he; omega⟩
theorem WD.wg {n : Nat} {x : Writer} (h : WD n x) (hn : n ≤ 1048576) : x.2.1.length ≤ 1048576 ∧ ∀ y ∈ x.2.1, y.2.1.length ≤ 1048576 :=
  ⟨by have := h.1; omega, fun y hy => by have := h.2 y hy; omega⟩
theorem WT.wg {w : World} (g : WT w) : WG w := by
  have hc := cfgB_len g.c
  have hr := g.rg.wg (by omega)
  refine ⟨by omega, ⟨by have := g.sl; omega, fun s hs => ?_⟩, by have := g.lo; omega, hr.1, hr.2.1, hr.2.2, by have := g.wl; omega, fun x hx => (writerB_WD (g.we x hx).1).wg (by omega), by have := g.ml; omega, fun m hm => (mendB_MG (g.me m hm).1).mono (by omega) (by omega) (by omega) (by omega), by have := g.dl; omega, by have := g.nl; omega, g.ne⟩
  have := g.st s hs
  exact ⟨this.1.mono (by omega), this.2.1.mono (by omega), this.2.2⟩
/-- What a right world is. -/
theorem worldB_parts {w : World} (h : worldB w = true) : (w.2.1.length = w.1.1.length ∧ nodesB w.1 w.2.2.1 = true ∧ ∀ i, i < w.2.1.length → storeAt w i = true) ∧
    regB w.1 w.2.2.2.1 = true ∧ w.2.2.2.2.1.length ≤ 4 ∧ w.2.2.2.2.2.1.length ≤ 1 ∧ (∀ i, i < w.2.2.2.2.2.1.length → mendAt w i = true) ∧ (w.2.2.2.2.2.2.1.length = 2 ∧ readerB (w.2.2.2.2.2.2.1.getD 0 zRd) = true ∧ readerB (w.2.2.2.2.2.2.1.getD 1 zRd) = true) ∧ w.2.2.2.2.2.2.2.1.length ≤ 120 := by
  simp only [worldB, nodesW, epochsW, readersW, sentW, Bool.and_eq_true, Bool.not_eq_true', decide_eq_false_iff_not, decide_eq_true_eq, List.all_eq_true, List.mem_range'_1] at h
  obtain ⟨h1, h2, h3, h4⟩ := h
  exact ⟨⟨h1.2.1, h1.2.2.1, fun i hi => h1.2.2.2.2 i (by omega)⟩, h2.1, by omega, by omega, fun i hi => h2.2.2.2.2 i (by omega), ⟨h3.1, h3.2.1, h3.2.2⟩, by omega⟩
theorem storeB_SG {s : Store} (h : storeB s = true) : SG 200 20 s := by
  simp only [storeB, Bool.and_eq_true, decide_eq_true_eq, inB_true] at h
  have hm : ∀ {l : List Entry}, entsB l = true → ∀ e ∈ l, InR e.1 := fun {l} hl e he => by
    obtain ⟨q, hq, rfl⟩ := List.getElem_of_mem he
    simp only [entsB, List.all_eq_true, List.mem_range'_1] at hl
    have := hl q (by omega)
    rw [getD_is hq] at this
    exact entB_InR this
  exact ⟨⟨by omega, hm h.2.1⟩, ⟨by omega, hm h.2.2.2.1⟩, by have := h.2.2.2.2.2; unfold InR; omega⟩
theorem worldB_SG {w : World} (h : worldB w = true) (i : Nat) (hi : i < w.2.1.length) : SG 200 20 (w.2.1.getD i zSto) := by
  have := (worldB_parts h).1.2.2 i hi
  unfold storeAt at this
  rw [Bool.and_eq_true] at this
  exact storeB_SG this.1
theorem EraNodes_in {n : Nat} {r : Register} {e : Int} (h : RG n r) (hn : n ≤ 64) (he : EraIn r e) : spec_EraNodes.f r e = some (r.1.getD (e - 1).toNat zEra).1 ∧ 0 < (r.1.getD (e - 1).toNat zEra).1.length ∧ (r.1.getD (e - 1).toNat zEra).1.length ≤ 64 := by
  have h1 := he.1
  have h2 := he.2.1
  have := spec_EraNodes_at r (e - 1).toNat (by omega) (h.wg hn).2.1 h.at
  rw [show (((e - 1).toNat + 1 : Nat) : Int) = e by omega] at this
  exact ⟨this, he.2.2, h.get _⟩
theorem SG.mono {n m n' m' : Nat} {s : Store} (h : SG n m s) (h1 : n ≤ n') (h2 : m ≤ m') : SG n' m' s := ⟨h.1.mono h1, h.2.1.mono h2, h.2.2⟩
theorem spec_l1Long_d (b : List Int) (hb : b.length ≤ 1048576) : Op (spec_l1Long.f b 40 90) (fun r => 40 ≤ r ∧ r ≤ 90) := by
  have e : Int.tdiv ((b.length : Nat) : Int) 4 = ((b.length / 4 : Nat) : Int) := by
    rw [Int.tdiv_eq_ediv_of_nonneg (by omega)]; rfl
  have e1 : wrap64 ((40 : Int) + wrap64 (Int.tdiv ((b.length : Nat) : Int) 4)) = 40 + ((b.length / 4 : Nat) : Int) := by
    rw [e, wrap64_id (x := ((b.length / 4 : Nat) : Int)) (by omega) (by omega), wrap64_id (by omega) (by omega)]
  simp only [spec_l1Long.f, e1]
  exact Op.ite (fun _ => Op.ret ⟨by omega, by omega⟩) (fun _ => Op.ret ⟨by omega, by omega⟩)
theorem spec_l1Min_d (a b : Int) : Op (spec_l1Min.f a b) (fun _ => True) := by
  simp only [spec_l1Min.f]
  exact Op.ite (fun _ => Op.ret trivial) (fun _ => Op.ret trivial)
/-- What is drawn to be done: a place that is given up is a number of 64 bits. -/
def DI (d : Deed) : Prop := d.1 = 13 → InR d.2.1
def NX (w : World) (q : Deed × l1Cur × World) : Prop := DI q.1 ∧ Cu q.2.1 ∧ q.2.2 = w
theorem DI.of {k : Int} {r : Int × Int × Int × ByteArray × Unit} (h : k ≠ 13) : DI (k, r) := fun e => absurd e h
theorem spec_NodesMask_l (l : List Int) (hl : l.length ≤ 1048576) (h : ascB l 0 7 = true) : ∀ (m i : Nat) (x : Int), i + m = l.length → Evp (fun k => spec_NodesMask.p11 k l x (i : Int)) (fun _ => True) := by
  intro m
  induction m with
  | zero =>
    intro i x hi
    refine Evp.succ ?_
    simp only [spec_NodesMask.p11]
    exact Evp.neg (by omega) (Evp.ret trivial)
  | succ m ih =>
    intro i x hi
    have hlt : i < l.length := by omega
    refine Evp.succ ?_
    simp only [spec_NodesMask.p11, Int.toNat_natCast]
    rw [wrap_up hlt (by omega)]
    exact Evp.pos (by omega) (Evp.pos (by omega) (Evp.pos (ascB_mem h hlt).1 (ih (i + 1) _ (by omega))))
theorem spec_NodesMask_d (l : List Int) (hl : l.length ≤ 1048576) : Evp (fun k => spec_NodesMask.f k l) (fun _ => True) := by
  simp only [spec_NodesMask.f]
  exact Evp.bindv (spec_l4Asc_ev l 0 7 hl) (Evp.ite (fun h => spec_NodesMask_l l hl h l.length 0 0 (by omega)) (fun _ => Evp.ret trivial))
theorem spec_l13DrawWrite_p (w : World) (g : WT w) (c : l1Cur) (hc : Cu c) (z : Deed) (x : Int) (h0 : 0 ≤ x) (h1 : x < ((w.2.2.2.2.1.length : Nat) : Int)) : Evp (fun k => spec_l13DrawWrite.p8 k x w z c) (NX w) := by
  have hm := g.we _ (getD_mem (d := zWr) (show x.toNat < w.2.2.2.2.1.length by omega))
  obtain ⟨e1, e2, e3⟩ := EraNodes_in g.rg (by omega) hm.2
  unfold zWr at e1 e2 e3
  refine Evp.succ ?_
  simp only [spec_l13DrawWrite.p8]
  refine Evp.pos ⟨h0, h1⟩ (Evp.bindv (Ev.of e1) (Evp.bindc (spec_l1Below_d c _ hc) fun b hb => Evp.pos ⟨hb.1, hb.2.1 (by omega)⟩ (Evp.ite (fun _ => Evp.bindc (spec_l1Pick_d _ _ hb.2.2.2 (by simp)) fun p hp => Evp.ret ⟨DI.of (by decide), hp, rfl⟩) (fun _ => Evp.bindc (spec_l1Once_d _ 7 hb.2.2.2) fun o ho => Evp.ite (fun _ => Evp.bindc (spec_l1Pick_d _ _ ho (by simp)) fun p hp => Evp.ret ⟨DI.of (by decide), hp, rfl⟩) (fun _ => Evp.bindc (spec_l1Once_d _ 3 ho) fun o2 ho2 => Evp.ite (fun _ => Evp.ret ⟨DI.of (by decide), ho2, rfl⟩) (fun _ => Evp.bindc (spec_l1Min_d _ _) fun n _ => Evp.bindc (spec_l1Below_d _ n ho2) fun b2 hb2 => Evp.ret ⟨DI.of (by decide), hb2.2.2.2, rfl⟩))))))
theorem spec_l13DrawWrite_d (w : World) (g : WT w) (c : l1Cur) (hc : Cu c) (hw : 0 < w.2.2.2.2.1.length) : Evp (fun k => spec_l13DrawWrite.f k c w) (NX w) := by
  have := g.wl
  simp only [spec_l13DrawWrite.f]
  rw [wrap64_id (by omega) (by omega)]
  exact Evp.bindc (spec_l1Below_d c _ hc) fun b hb => Evp.bindc (spec_l1Once_d _ 3 hb.2.2.2) fun o ho => Evp.ite (fun _ => spec_l13DrawWrite_p w g _ ho _ _ hb.1 (hb.2.1 (by omega))) (fun _ => spec_l13DrawWrite_p w g _ ho _ _ (by omega) (by omega))
theorem spec_l13DrawMend_l (w : World) (g : WT w) (z : Deed) (m : Mend) (hm : MG 60 60 60 60 m) (x0 : Int) : ∀ (d i : Nat) (x : Int) (c : l1Cur), i + d = m.2.2.2.2.2.1.length → Cu c → Evp (fun k => spec_l13DrawMend.p33 k x0 x (i : Int) w z m c) (NX w) := by
  have hc8 := cfgB_len g.c
  have h60 := hm.2.2.1.1
  intro d
  induction d with
  | zero =>
    intro i x c hi hc
    refine Evp.succ ?_
    simp only [spec_l13DrawMend.p33]
    exact Evp.neg (by omega) (Evp.ret ⟨DI.of (by decide), hc, rfl⟩)
  | succ d ih =>
    intro i x c hi hc
    have hlt : i < m.2.2.2.2.2.1.length := by omega
    have hw := hm.get i
    refine Evp.succ ?_
    simp only [spec_l13DrawMend.p33, Int.toNat_natCast]
    rw [wrap_up hlt (by omega)]
    exact Evp.pos (by omega) (Evp.pos (by omega) (Evp.bindv (spec_Holds_ev _ _ (by omega) (by omega)) (Evp.ite (fun _ => ih (i + 1) _ c (by omega) hc) (fun _ => Evp.bindc (spec_l1Once_d c 3 hc) fun o ho => Evp.ite (fun _ => ih (i + 1) _ _ (by omega) ho) (fun _ => ih (i + 1) _ _ (by omega) ho)))))
theorem spec_l13DrawMend_p (w : World) (g : WT w) (z : Deed) (m : Mend) (hm : MG 60 60 60 60 m) (x0 : Int) (c : l1Cur) (hc : Cu c) : Evp (fun k => spec_l13DrawMend.p28 k x0 w z m c) (NX w) := by
  refine Evp.succ ?_
  simp only [spec_l13DrawMend.p28]
  exact Evp.bindc (spec_l1Max_d _ _) fun n _ => Evp.bindc (spec_l1Below_d c n hc) fun b hb => spec_l13DrawMend_l w g z m hm x0 m.2.2.2.2.2.1.length 0 _ _ (by omega) hb.2.2.2
theorem spec_l13DrawMend_d (w : World) (g : WT w) (c : l1Cur) (hc : Cu c) : Evp (fun k => spec_l13DrawMend.f k c w) (NX w) := by
  simp only [spec_l13DrawMend.f]
  refine Evp.ite (fun _ => Evp.ret ⟨DI.of (by decide), hc, rfl⟩) (fun h => ?_)
  have hlt : (0 : Int).toNat < w.2.2.2.2.2.1.length := by show 0 < _; omega
  have hm := g.me _ (getD_mem (d := zMd) hlt)
  have hM := mendB_MG hm.1
  obtain ⟨e1, e2, e3⟩ := EraNodes_in g.rg (by omega) hm.2
  unfold zMd at e1 e2 e3 hM
  have rest : ∀ (x : Int) (c' : l1Cur), Cu c' → Evp (fun k => (spec_l1Once.f c' (6 : Int)).bind fun r3 =>
          if r3.1 = true then some (((12 : Int), ((0 : Int), ((0 : Int), ((0 : Int), ((⟨#[]⟩ : ByteArray), ()))))), r3.2, w)
          else (spec_l1Once.f r3.2 (3 : Int)).bind fun r4 =>
          if r4.1 = true then some (((4 : Int), (x, ((0 : Int), ((0 : Int), ((⟨#[]⟩ : ByteArray), ()))))), r4.2, w)
          else spec_l13DrawMend.p28 k x w ((0 : Int), ((0 : Int), ((0 : Int), ((0 : Int), ((⟨#[]⟩ : ByteArray), ()))))) (w.2.2.2.2.2.1.getD (0 : Int).toNat ((0 : Int), ((0 : Int), (([] : List Int), (([] : List Entry), (false, (([] : List (List Int)), ()))))))) r4.2) (NX w) := fun x c' hc' =>
    Evp.bindc (spec_l1Once_d c' 6 hc') fun o ho => Evp.ite (fun _ => Evp.ret ⟨DI.of (by decide), ho, rfl⟩) (fun _ => Evp.bindc (spec_l1Once_d _ 3 ho) fun o2 ho2 => Evp.ite (fun _ => Evp.ret ⟨DI.of (by decide), ho2, rfl⟩) (fun _ => spec_l13DrawMend_p w g _ _ hM _ _ ho2))
  refine Evp.pos ⟨by omega, by omega⟩ (Evp.bindv (Ev.of e1) (Evp.bindc (spec_l1Below_d c _ hc) fun b hb => Evp.pos ⟨hb.1, hb.2.1 (by omega)⟩ ?_))
  exact Evp.ite (fun _ => Evp.ite (fun _ => rest _ _ hb.2.2.2) (fun _ => Evp.ret ⟨DI.of (by decide), hb.2.2.2, rfl⟩)) (fun _ => Evp.bindc (spec_l1Once_d _ 4 hb.2.2.2) fun o ho => Evp.ite (fun _ => Evp.ret ⟨DI.of (by decide), ho, rfl⟩) (fun _ => Evp.ite (fun _ => rest _ _ ho) (fun _ => Evp.ret ⟨DI.of (by decide), ho, rfl⟩)))
theorem spec_l13DrawNext_r (w : World) (z : Deed) (x : Int) (c : l1Cur) (hc : Cu c) : Evp (fun k => spec_l13DrawNext.p48 k x w z c) (NX w) := by
  refine Evp.succ ?_
  simp only [spec_l13DrawNext.p48]
  exact Evp.bindc (spec_l1Once_d c 2 hc) fun o ho => Evp.ite (fun _ => Evp.bindc (spec_l1Below_d _ 256 ho) fun b hb => Evp.bindc (spec_l1Below_d _ 2 hb.2.2.2) fun b2 hb2 => Evp.ret ⟨DI.of (by decide), hb2.2.2.2, rfl⟩) (fun _ => Evp.bindc (spec_l1Below_d _ 2 ho) fun b hb => Evp.ret ⟨DI.of (by decide), hb.2.2.2, rfl⟩)
theorem spec_l13DrawNext_m (w : World) (g : WT w) (z : Deed) (c : l1Cur) (hc : Cu c) (hw : 0 < w.2.2.2.2.1.length) : Evp (fun k => spec_l13DrawNext.p54 k w z c) (NX w) := by
  have hr := g.rg.wg (by omega)
  refine Evp.succ ?_
  simp only [spec_l13DrawNext.p54]
  have wr : ∀ c', Cu c' → Evp (fun k => (spec_l13DrawWrite.f k c' w).bind fun r => some (r.1, r.2.1, r.2.2)) (NX w) := fun c' hc' => Evp.bind (spec_l13DrawWrite_d w g c' hc' hw) fun q hq => Evp.ret hq
  exact Evp.ite (fun _ => Evp.bindv (spec_FirstOpen_ev _ hr.2.1) (Evp.ite (fun _ => Evp.bindc (spec_l1Once_d c 3 hc) fun o ho => Evp.ite (fun _ => wr _ ho) (fun _ => Evp.bind (spec_l13DrawMend_d w g _ ho) fun q hq => Evp.ret hq)) (fun _ => wr _ hc))) (fun _ => wr _ hc)
theorem spec_l13DrawNext_d (w : World) (g : WT w) (c : l1Cur) (hc : Cu c) : Evp (fun k => spec_l13DrawNext.f k c w) (NX w) := by
  have hc8 := cfgB_len g.c
  have op : ∀ c', Cu c' → Evp (fun k => (spec_l7DrawSet.f k c' w.1).bind fun r1 => (spec_NodesMask.f k r1.1).bind fun r2 => some (((1 : Int), (r2, ((0 : Int), ((0 : Int), ((⟨#[]⟩ : ByteArray), ()))))), r1.2, w)) (NX w) := fun c' hc' =>
    Evp.bind (spec_l7DrawSet_d c' w.1 hc' (by omega)) fun s hs => Evp.bind (spec_NodesMask_d s.1 (by omega)) fun n _ => Evp.ret ⟨DI.of (by decide), hs.2, rfl⟩
  simp only [spec_l13DrawNext.f]
  refine Evp.ite (fun _ => op c hc) (fun hw => Evp.bindc (spec_l1Once_d c 30 hc) fun o ho => Evp.ite (fun _ => op _ ho) (fun _ => Evp.bindc (spec_l1Below_d _ _ ho) fun n hn => Evp.bindc (spec_l1Below_d _ 44 hn.2.2.2) fun t ht => ?_))
  have ht := ht.2.2.2
  have hw : 0 < w.2.2.2.2.1.length := by omega
  refine Evp.ite (fun _ => Evp.bindc (spec_l1Below_d _ 16 ht) fun b hb => Evp.ret ⟨DI.of (by decide), hb.2.2.2, rfl⟩) (fun _ => ?_)
  refine Evp.ite (fun _ => Evp.ite (fun _ => Evp.ret ⟨DI.of (by decide), ht, rfl⟩) (fun h0 => Evp.bindc (spec_l1Once_d _ 12 ht) fun o2 ho2 => Evp.ite (fun _ => Evp.ret ⟨DI.of (by decide), ho2, rfl⟩) (fun _ => Evp.pos ⟨by omega, by omega⟩ (Evp.ret ⟨DI.of (by decide), ho2, rfl⟩)))) (fun _ => ?_)
  refine Evp.ite (fun _ => Evp.bindc (spec_l1Below_d _ _ ht) fun b hb => Evp.ret ⟨DI.of (by decide), hb.2.2.2, rfl⟩) (fun _ => ?_)
  refine Evp.ite (fun _ => Evp.bindc (spec_l1Once_d _ 3 ht) fun o2 ho2 => Evp.ite (fun _ => Evp.ite (fun _ => Evp.bindc (spec_l1Below_d _ _ ho2) fun b hb => Evp.pos ⟨hb.1, hb.2.1 (by omega)⟩ (Evp.ret ⟨fun _ => g.ne _ (getD_mem (by have := hb.1; have := hb.2.1 (by omega); omega)), hb.2.2.2, rfl⟩)) (fun _ => Evp.ret ⟨DI.of (by decide), ho2, rfl⟩)) (fun _ => Evp.ret ⟨DI.of (by decide), ho2, rfl⟩)) (fun _ => ?_)
  have rd := fun (z : Deed) => spec_l13DrawNext_r w z 255 t.2 ht
  have mw := fun (z : Deed) => spec_l13DrawNext_m w g z t.2 ht hw
  exact Evp.ite (fun _ => Evp.ite (fun _ => rd _) (fun _ => mw _)) (fun _ => Evp.ite (fun _ => Evp.ite (fun _ => rd _) (fun _ => mw _)) (fun _ => Evp.ite (fun _ => Evp.ite (fun _ => rd _) (fun _ => mw _)) (fun _ => Evp.ite (fun _ => Evp.ite (fun _ => rd _) (fun _ => mw _)) (fun _ => Evp.ite (fun _ => rd _) (fun _ => mw _)))))
theorem spec_l13Names_d (d : Deed) : Op (spec_l13Names.f d) (fun _ => True) := by
  simp only [spec_l13Names.f]
  repeat' first | exact Op.ret trivial | refine Op.ite (fun _ => ?_) (fun _ => ?_)
theorem spec_DeedOk_d (d : Deed) : Op (spec_DeedOk.f d) (fun _ => True) := by
  simp only [spec_DeedOk.f, spec_l1In_is, Option.bind_some]
  exact Op.ite (fun _ => Op.bind (spec_l13Names_d d) fun r _ => Op.ite (fun _ => Op.ret trivial) (fun _ => Op.ret trivial)) (fun _ => Op.ret trivial)
theorem one_lim {α : Type} {acc : List α} {x : α} (h : acc.length ≤ 1048576) : (((acc.length : Nat) : Int) + ((([x] : List α).length : Nat) : Int)) ≤ lim := by
  simp only [lim_eq, List.length_cons, List.length_nil]; omega
theorem nil_lim {α β : Type} {l : List β} (h : l.length ≤ 1048576) : (((([] : List α).length : Nat) : Int) + ((l.length : Nat) : Int)) ≤ lim := by
  simp only [lim_eq, List.length_nil]; omega
theorem copy_end {α : Type} {l acc : List α} {i : Nat} (h : l.length ≤ i) : acc ++ l.drop i = acc := by rw [List.drop_eq_nil_of_le h, List.append_nil]
theorem copy_next {α : Type} {l acc : List α} {i : Nat} {d : α} (h : i < l.length) : (acc ++ [l.getD i d]) ++ l.drop (i + 1) = acc ++ l.drop i := by
  rw [drop_get (d := d) h, List.append_assoc]; rfl
theorem spec_l12Copy_ev (w : World) (g : WT w) : Ev (fun k => spec_l12Copy.f k w) w := by
  have hc := cfgB_len g.c
  have hr := g.rg.wg (by omega)
  have e1 := g.sl
  have e2 := g.lo
  have e3 := g.wl
  have e4 := g.ml
  have e5 := g.dl
  have e6 := g.nl
  have p31 : ∀ (z : World) (m i : Nat) (t : World), i + m = w.2.2.2.2.2.2.1.length → t.2.2.2.2.2.2.1.length = i → Ev (fun k => spec_l12Copy.p31 k (i : Int) w z t) (t.1, (t.2.1, (t.2.2.1, (t.2.2.2.1, (t.2.2.2.2.1, (t.2.2.2.2.2.1, (t.2.2.2.2.2.2.1 ++ w.2.2.2.2.2.2.1.drop i, t.2.2.2.2.2.2.2))))))) := by
    intro z m
    induction m with
    | zero =>
      intro i t hi ht
      refine Ev.succ ?_
      simp only [spec_l12Copy.p31]
      rw [copy_end (by omega)]
      exact Ev.neg (by omega) Ev.ret
    | succ m ih =>
      intro i t hi ht
      have hlt : i < w.2.2.2.2.2.2.1.length := by omega
      have hx := g.de _ (getD_mem (d := zRd) hlt)
      refine Ev.succ ?_
      simp only [spec_l12Copy.p31, Int.toNat_natCast]
      rw [wrap_up hlt (by omega), ← copy_next (d := zRd) hlt]
      exact Ev.pos (by omega) (Ev.pos (by omega) (Ev.bind (Ev.of (spec_l10Copy_is _ (Nat.le_trans hx (by omega)))) (Ev.pos (one_lim (by omega)) (ih (i + 1) (t.1, (t.2.1, (t.2.2.1, (t.2.2.2.1, (t.2.2.2.2.1, (t.2.2.2.2.2.1, ((t.2.2.2.2.2.2.1 ++ ([w.2.2.2.2.2.2.1.getD i zRd] : List Reader)), t.2.2.2.2.2.2.2))))))) (by omega) (by rw [List.length_append, ht]; rfl)))))
  have p23 : ∀ (z : World) (m i : Nat) (t : World), i + m = w.2.2.2.2.2.1.length → t.2.2.2.2.2.1.length = i → t.2.2.2.2.2.2.1 = [] → Ev (fun k => spec_l12Copy.p23 k (i : Int) w z t) (t.1, (t.2.1, (t.2.2.1, (t.2.2.2.1, (t.2.2.2.2.1, (t.2.2.2.2.2.1 ++ w.2.2.2.2.2.1.drop i, (w.2.2.2.2.2.2.1, t.2.2.2.2.2.2.2))))))) := by
    intro z m
    induction m with
    | zero =>
      intro i t hi ht h0
      refine Ev.succ ?_
      simp only [spec_l12Copy.p23]
      rw [copy_end (by omega)]
      exact Ev.neg (by omega) ((p31 z w.2.2.2.2.2.2.1.length 0 t (by omega) (by rw [h0]; rfl)).eq (by rw [h0]; rfl))
    | succ m ih =>
      intro i t hi ht h0
      have hlt : i < w.2.2.2.2.2.1.length := by omega
      have hx := mendB_MG (g.me _ (getD_mem (d := zMd) hlt)).1
      refine Ev.succ ?_
      simp only [spec_l12Copy.p23, Int.toNat_natCast]
      rw [wrap_up hlt (by omega), ← copy_next (d := zMd) hlt]
      exact Ev.pos (by omega) (Ev.pos (by omega) (Ev.bind (spec_l9Copy_ev _ (by omega) (by omega) (by omega) (by omega) hx) (Ev.pos (one_lim (by omega)) (ih (i + 1) (t.1, (t.2.1, (t.2.2.1, (t.2.2.2.1, (t.2.2.2.2.1, ((t.2.2.2.2.2.1 ++ ([w.2.2.2.2.2.1.getD i zMd] : List Mend)), t.2.2.2.2.2.2)))))) (by omega) (by rw [List.length_append, ht]; rfl) h0))))
  have p15 : ∀ (z : World) (m i : Nat) (t : World), i + m = w.2.2.2.2.1.length → t.2.2.2.2.1.length = i → t.2.2.2.2.2.1 = [] → t.2.2.2.2.2.2.1 = [] → Ev (fun k => spec_l12Copy.p15 k (i : Int) w z t) (t.1, (t.2.1, (t.2.2.1, (t.2.2.2.1, (t.2.2.2.2.1 ++ w.2.2.2.2.1.drop i, (w.2.2.2.2.2.1, (w.2.2.2.2.2.2.1, t.2.2.2.2.2.2.2))))))) := by
    intro z m
    induction m with
    | zero =>
      intro i t hi ht h0 h1
      refine Ev.succ ?_
      simp only [spec_l12Copy.p15]
      rw [copy_end (by omega)]
      exact Ev.neg (by omega) ((p23 z w.2.2.2.2.2.1.length 0 t (by omega) (by rw [h0]; rfl) h1).eq (by rw [h0]; rfl))
    | succ m ih =>
      intro i t hi ht h0 h1
      have hlt : i < w.2.2.2.2.1.length := by omega
      have hx := writerB_WD (g.we _ (getD_mem (d := zWr) hlt)).1
      refine Ev.succ ?_
      simp only [spec_l12Copy.p15, Int.toNat_natCast]
      rw [wrap_up hlt (by omega), ← copy_next (d := zWr) hlt]
      exact Ev.pos (by omega) (Ev.pos (by omega) (Ev.bind (spec_l8Copy_ev _ (hx.wg (by omega)).1 (hx.at (by omega))) (Ev.pos (one_lim (by omega)) (ih (i + 1) (t.1, (t.2.1, (t.2.2.1, (t.2.2.2.1, ((t.2.2.2.2.1 ++ ([w.2.2.2.2.1.getD i zWr] : List Writer)), t.2.2.2.2.2))))) (by omega) (by rw [List.length_append, ht]; rfl) h0 h1))))
  have p7 : ∀ (z : World) (m i : Nat) (t : World), i + m = w.2.1.length → t.2.1.length = i → t.2.2.2.2.1 = [] → t.2.2.2.2.2.1 = [] → t.2.2.2.2.2.2.1 = [] → Ev (fun k => spec_l12Copy.p7 k (i : Int) w z t) (t.1, (t.2.1 ++ w.2.1.drop i, (t.2.2.1, (t.2.2.2.1, (w.2.2.2.2.1, (w.2.2.2.2.2.1, (w.2.2.2.2.2.2.1, t.2.2.2.2.2.2.2))))))) := by
    intro z m
    induction m with
    | zero =>
      intro i t hi ht h0 h1 h2
      refine Ev.succ ?_
      simp only [spec_l12Copy.p7]
      rw [copy_end (by omega)]
      exact Ev.neg (by omega) ((p15 z w.2.2.2.2.1.length 0 t (by omega) (by rw [h0]; rfl) h1 h2).eq (by rw [h0]; rfl))
    | succ m ih =>
      intro i t hi ht h0 h1 h2
      have hlt : i < w.2.1.length := by omega
      have hx := g.st _ (getD_mem (d := zSto) hlt)
      refine Ev.succ ?_
      simp only [spec_l12Copy.p7, Int.toNat_natCast]
      rw [wrap_up hlt (by omega), ← copy_next (d := zSto) hlt]
      exact Ev.pos (by omega) (Ev.pos (by omega) (Ev.bind (Ev.of (spec_l6Copy_is _ (Nat.le_trans hx.1.1 (by omega)) (Nat.le_trans hx.2.1.1 (by omega)))) (Ev.pos (one_lim (by omega)) (ih (i + 1) (t.1, ((t.2.1 ++ ([w.2.1.getD i zSto] : List Store)), t.2.2)) (by omega) (by rw [List.length_append, ht]; rfl) h0 h1 h2))))
  simp only [spec_l12Copy.f]
  exact Ev.pos (nil_lim (by omega)) (Ev.pos (nil_lim (by omega)) (Ev.bind (spec_l7Copy_ev _ hr.2.1 g.rg.at) (Ev.pos (nil_lim (by omega)) ((p7 _ w.2.1.length 0 _ (by omega) rfl rfl rfl rfl).eq rfl))))
/-! A world with one part told anew. -/
section
variable {w : World}
theorem WT.stores (g : WT w) {i : Nat} {s : Store} (h : SG 512 512 s) : WT (w.1, (w.2.1.set i s, w.2.2)) :=
  { g with sl := (List.length_set ..).trans g.sl, st := fun x hx => (List.mem_or_eq_of_mem_set hx).elim (g.st x) (fun e => e ▸ h) }
theorem WT.lost (g : WT w) {l : List Int} (h : l.length ≤ 16) : WT (w.1, (w.2.1, (l, w.2.2.2))) := { g with lo := h }
theorem WT.reg (g : WT w) {r : Register} (h : RG 31 r) (he : ∀ e, EraIn w.2.2.2.1 e → EraIn r e) : WT (w.1, (w.2.1, (w.2.2.1, (r, w.2.2.2.2)))) :=
  { g with rg := h, we := fun x hx => ⟨(g.we x hx).1, he _ (g.we x hx).2⟩, me := fun m hm => ⟨(g.me m hm).1, he _ (g.me m hm).2⟩ }
theorem WT.writers (g : WT w) {l : List Writer} (h : l.length ≤ 5) (hl : ∀ x ∈ l, writerB w.1 x = true ∧ EraIn w.2.2.2.1 x.1) : WT (w.1, (w.2.1, (w.2.2.1, (w.2.2.2.1, (l, w.2.2.2.2.2))))) := { g with wl := h, we := hl }
theorem WT.writer (g : WT w) {i : Nat} {x : Writer} (h : writerB w.1 x = true) (he : EraIn w.2.2.2.1 x.1) : WT (w.1, (w.2.1, (w.2.2.1, (w.2.2.2.1, (w.2.2.2.2.1.set i x, w.2.2.2.2.2))))) :=
  g.writers (by rw [List.length_set]; exact g.wl) fun y hy => (List.mem_or_eq_of_mem_set hy).elim (g.we y) (fun e => e ▸ ⟨h, he⟩)
theorem WT.mends (g : WT w) {l : List Mend} (h : l.length ≤ 1) (hl : ∀ m ∈ l, mendB w.1 m = true ∧ EraIn w.2.2.2.1 m.2.1) : WT (w.1, (w.2.1, (w.2.2.1, (w.2.2.2.1, (w.2.2.2.2.1, (l, w.2.2.2.2.2.2)))))) := { g with ml := h, me := hl }
theorem WT.mend (g : WT w) {i : Nat} {m : Mend} (h : mendB w.1 m = true) (he : EraIn w.2.2.2.1 m.2.1) : WT (w.1, (w.2.1, (w.2.2.1, (w.2.2.2.1, (w.2.2.2.2.1, (w.2.2.2.2.2.1.set i m, w.2.2.2.2.2.2)))))) :=
  g.mends (by rw [List.length_set]; exact g.ml) fun y hy => (List.mem_or_eq_of_mem_set hy).elim (g.me y) (fun e => e ▸ ⟨h, he⟩)
theorem WT.reader (g : WT w) {i : Nat} {r : Reader} (h : r.2.2.1.length ≤ 121) : WT (w.1, (w.2.1, (w.2.2.1, (w.2.2.2.1, (w.2.2.2.2.1, (w.2.2.2.2.2.1, (w.2.2.2.2.2.2.1.set i r, w.2.2.2.2.2.2.2))))))) :=
  { g with dl := (List.length_set ..).trans g.dl, de := fun y hy => (List.mem_or_eq_of_mem_set hy).elim (g.de y) (fun e => e ▸ h) }
theorem WT.sents (g : WT w) {l : List Sent} (h : l.length ≤ 121) (hl : ∀ x ∈ l, InR x.1) : WT (w.1, (w.2.1, (w.2.2.1, (w.2.2.2.1, (w.2.2.2.2.1, (w.2.2.2.2.2.1, (w.2.2.2.2.2.2.1, (l, w.2.2.2.2.2.2.2.2)))))))) := { g with nl := h, ne := hl }
theorem WT.torn (g : WT w) {b : Bool} : WT (w.1, (w.2.1, (w.2.2.1, (w.2.2.2.1, (w.2.2.2.2.1, (w.2.2.2.2.2.1, (w.2.2.2.2.2.2.1, (w.2.2.2.2.2.2.2.1, (b, w.2.2.2.2.2.2.2.2.2))))))))) := { g with }
end
/-- A deed that is done leaves a world from which the next one can be drawn. -/
def Dn (q : World × Int) : Prop := q.2 = 0 → WT q.1
theorem Dn.no {w : World} {c : Int} (h : c ≠ 0) : Dn (w, c) := fun e => absurd e h
theorem spec_MaskNodes_d (x : Int) : Evp (fun k => spec_MaskNodes.f k x) (fun l => l.length ≤ 8) := by
  have h : ∀ (m i : Nat) (l : List Int), i + m = 8 → l.length ≤ i → Evp (fun k => spec_MaskNodes.p7 k x l (i : Int)) (fun l => l.length ≤ 8) := by
    intro m
    induction m with
    | zero =>
      intro i l hi hl
      refine Evp.succ ?_
      simp only [spec_MaskNodes.p7]
      exact Evp.neg (by omega) (Evp.ret (by omega))
    | succ m ih =>
      intro i l hi hl
      refine Evp.succ ?_
      simp only [spec_MaskNodes.p7, spec_l1In_is, Option.bind_some]
      rw [wrap_up (i := i) (n := 8) (by omega) (by omega)]
      refine Evp.pos (by omega) (Evp.ite (fun _ => Evp.pos (by omega) (Evp.ite (fun _ => Evp.pos (one_lim (by omega)) (ih (i + 1) _ (by omega) ?_)) (fun _ => ih (i + 1) l (by omega) (by omega)))) (fun _ => Evp.ret (by omega)))
      rw [List.length_append]; simp; omega
  exact h 8 0 [] (by omega) (Nat.le_refl _)
theorem spec_l13Writer_d (w : World) (x : Int) (g : WT w) : Op (spec_l13Writer.f w x) (fun b => b = true → 0 ≤ x ∧ x < ((w.2.2.2.2.1.length : Nat) : Int)) := by
  have := g.wl
  simp only [spec_l13Writer.f, spec_l1In_is, Option.bind_some]
  rw [wrap64_id (by omega) (by omega)]
  exact Op.ret fun h => by have := inB_true.1 h; omega
theorem spec_l13Node_d (w : World) (x : Int) (g : WT w) : Evp (fun k => spec_l13Node.f k w x) (fun r => r = 0 → 0 ≤ x ∧ x < ((w.2.1.length : Nat) : Int)) := by
  have hc := cfgB_len g.c
  have h1 := g.sl
  have h2 := g.lo
  simp only [spec_l13Node.f, spec_l1In_is, Option.bind_some]
  rw [wrap64_id (by omega) (by omega)]
  exact Evp.ite (fun h => Evp.bindv (spec_l4Has_ev _ _ (by omega)) (Evp.ite (fun _ => Evp.ret fun h => absurd h (by decide)) (fun _ => Evp.ret fun _ => by have := inB_true.1 h; omega))) (fun _ => Evp.ret fun h => absurd h (by decide))
theorem holdsB_ne {a : Config} {l : List Int} (hc : cfgB a = true) (h : holdsB a l = true) : 0 < l.length := by
  have h1 := cfgB_len hc
  cases l with
  | nil =>
    simp only [holdsB, Bool.and_eq_true, decide_eq_true_eq] at h
    have : spanOf a ([] : List Int) = 0 := rfl
    omega
  | cons x l => exact Nat.zero_lt_succ _
theorem regB_parts {a : Config} {r : Register} (h : regB a r = true) : cfgB a = true ∧ r.1.length ≤ 30 ∧ ∀ i, i < r.1.length → holdsB a (r.1.getD i zEra).1 = true ∧ ((r.1.getD i zEra).2.1 = true → i ≠ r.1.length - 1) := by
  simp only [regB, erasB, Bool.and_eq_true, decide_eq_true_eq, List.all_eq_true, List.mem_range'_1] at h
  refine ⟨h.1, by omega, fun i hi => ?_⟩
  have := h.2.2.2 i (by omega)
  simp only [eraAt, eraB, Bool.and_eq_true, Bool.or_eq_true, Bool.not_eq_true', decide_eq_false_iff_not] at this
  refine ⟨this.1.1, fun hd => ?_⟩
  rcases this.2 with h' | h'
  · rw [hd] at h'; cases h'
  · exact h'.1
theorem EraIn.of {a : Config} {r : Register} {e : Int} (h : regB a r = true) (h1 : 1 ≤ e) (h2 : e ≤ r.1.length) : EraIn r e := by
  have hp := regB_parts h
  exact ⟨h1, h2, holdsB_ne hp.1 (hp.2.2 _ (by omega)).1⟩
theorem writerB_new {a : Config} {e : Int} (hc : cfgB a = true) (h1 : 1 ≤ e) (h2 : e ≤ 30) : writerB a (e, (([] : List Word), ())) = true := by
  unfold writerB
  rw [hc, inB_true.2 ⟨h1, h2⟩]; rfl
theorem spec_l13Open_d (w : World) (d : Deed) (g : WT w) (hw : worldB w = true) : Evp (fun k => spec_l13Open.f k w d) Dn := by
  have hp := worldB_parts hw
  have hc := cfgB_len g.c
  have hr := g.rg.wg (by omega)
  have hl := hp.2.2.1
  simp only [spec_l13Open.f]
  refine Evp.ite (fun _ => Evp.ret (Dn.no (by decide))) (fun h4 => Evp.bind (spec_MaskNodes_d d.2.1) fun l hl8 => Evp.bindv (spec_RegOpen_ev w.1 w.2.2.2.1 l hr.1 (by omega) hr.2.1 g.rg.at (by omega)) ?_)
  unfold openF
  rw [if_pos hp.2.1]
  by_cases hh : holdsB w.1 l = true
  · rw [if_pos hh]
    by_cases h30 : ((w.2.2.2.1.1.length : Nat) : Int) = (30 : Int)
    · rw [if_pos h30]
      exact Evp.neg nft (Evp.ret (Dn.no (by decide)))
    · rw [if_neg h30]
      have h30' := (regB_parts hp.2.1).2.1
      have hlen : (w.2.2.2.1.1 ++ [(l, (false, ((0 : Int), ())))]).length = w.2.2.2.1.1.length + 1 := by rw [List.length_append]; rfl
      have hE : ∀ e, EraIn w.2.2.2.1 e → EraIn ((w.2.2.2.1.1 ++ [(l, (false, ((0 : Int), ())))]), w.2.2.2.1.2) e := fun e he => by
        refine ⟨he.1, by show e ≤ (((w.2.2.2.1.1 ++ [_]).length : Nat) : Int); rw [hlen]; have := he.2.1; omega, ?_⟩
        have h1 := he.1
        have h2 := he.2.1
        show 0 < ((w.2.2.2.1.1 ++ [_]).getD (e - 1).toNat zEra).1.length
        rw [List.getD_eq_getElem?_getD, List.getElem?_append_left (by omega), ← List.getD_eq_getElem?_getD]
        exact he.2.2
      have hN : EraIn ((w.2.2.2.1.1 ++ [(l, (false, ((0 : Int), ())))]), w.2.2.2.1.2) (((w.2.2.2.1.1 ++ [(l, (false, ((0 : Int), ())))]).length : Nat) : Int) := by
        refine ⟨by rw [hlen]; omega, Int.le_refl _, ?_⟩
        show 0 < ((w.2.2.2.1.1 ++ [_]).getD _ zEra).1.length
        rw [hlen, List.getD_eq_getElem?_getD, List.getElem?_append_right (by omega), show (((w.2.2.2.1.1.length + 1 : Nat) : Int) - 1).toNat - w.2.2.2.1.1.length = 0 by omega]
        exact holdsB_ne g.c hh
      have hR : RG 31 ((w.2.2.2.1.1 ++ [(l, (false, ((0 : Int), ())))]), w.2.2.2.1.2) := by
        refine ⟨by show (w.2.2.2.1.1 ++ [_]).length ≤ 31; rw [hlen]; omega, fun e he => ?_, g.rg.2.2⟩
        rcases List.mem_append.1 he with h' | h'
        · exact g.rg.2.1 e h'
        · rw [List.mem_singleton.1 h']; show l.length ≤ 64; omega
      refine Evp.pos rfl (Evp.pos (one_lim (by omega)) (Evp.ret fun _ => ?_))
      refine ((g.reg hR hE).writers (l := w.2.2.2.2.1 ++ [_]) (by rw [List.length_append]; simp; omega) fun x hx => ?_).mends (l := []) (Nat.zero_le _) (fun m hm => by cases hm)
      rcases List.mem_append.1 hx with h' | h'
      · exact ⟨(g.we x h').1, hE _ (g.we x h').2⟩
      · rw [List.mem_singleton.1 h']
        exact ⟨writerB_new g.c hN.1 (by show (((w.2.2.2.1.1 ++ [_]).length : Nat) : Int) ≤ 30; rw [hlen]; omega), hN⟩
  · rw [if_neg hh]
    exact Evp.neg nft (Evp.ret (Dn.no (by decide)))
theorem spec_l13Add_b (w z : World) (s : Sent) (g : WT w) (hs : InR s.1) (h0 : w.2.2.2.2.2.2.2.1.length ≤ 120) : ∀ (m i : Nat) (l : List Sent) (b : Bool), i + m = w.2.2.2.2.2.2.2.1.length → l.length ≤ i + (if b = true then 1 else 0) → (∀ x ∈ l, InR x.1) → Evp (fun k => spec_l13Add.p33 k l b (i : Int) w z s) Dn := by
  have app : ∀ {l : List Sent} {x : Sent}, (∀ x ∈ l, InR x.1) → InR x.1 → ∀ y ∈ l ++ [x], InR y.1 := fun hl hx y hy => (List.mem_append.1 hy).elim (hl y) (fun h => by rw [List.mem_singleton.1 h]; exact hx)
  intro m
  induction m with
  | zero =>
    intro i l b hi hl hI
    refine Evp.succ ?_
    simp only [spec_l13Add.p33]
    refine Evp.neg (by omega) (Evp.ite (fun hb => Evp.ret fun _ => g.sents (by rw [if_pos hb] at hl; omega) hI) (fun hb => ?_))
    rw [if_neg hb] at hl
    exact Evp.pos (one_lim (by omega)) (Evp.ret fun _ => g.sents (by rw [List.length_append]; simp; omega) (app hI hs))
  | succ m ih =>
    intro i l b hi hl hI
    have hlt : i < w.2.2.2.2.2.2.2.1.length := by omega
    have hx := g.ne _ (getD_mem (d := zSn) hlt)
    refine Evp.succ ?_
    simp only [spec_l13Add.p33, Int.toNat_natCast]
    rw [wrap_up hlt (by omega)]
    refine Evp.pos (by omega) (Evp.ite (fun hb => ?_) (fun hb => ?_))
    · rw [if_pos hb] at hl
      exact Evp.pos (by omega) (Evp.pos (one_lim (by omega)) (ih (i + 1) _ b (by omega) (by rw [List.length_append, if_pos hb]; simp; omega) (app hI hx)))
    · rw [if_neg hb] at hl
      refine Evp.pos (by omega) (Evp.ite (fun _ => Evp.pos (one_lim (by omega)) (Evp.pos (by omega) (Evp.pos (one_lim (by rw [List.length_append]; simp; omega)) (ih (i + 1) _ true (by omega) (by rw [List.length_append, List.length_append]; simp; omega) (app (app hI hs) hx))))) (fun _ => Evp.pos (by omega) (Evp.pos (one_lim (by omega)) (ih (i + 1) _ b (by omega) (by rw [List.length_append, if_neg hb]; simp; omega) (app hI hx)))))
theorem spec_l13Add_d (w : World) (d : Deed) (g : WT w) (hw : worldB w = true) : Evp (fun k => spec_l13Add.f k w d) Dn := by
  have hp := worldB_parts hw
  have hc := cfgB_len g.c
  have hn := hp.2.2.2.2.2.2
  simp only [spec_l13Add.f]
  refine Evp.bindc (spec_l13Writer_d w d.2.1 g) fun b hb => Evp.ite (fun hbt => ?_) (fun _ => Evp.ret (Dn.no (by decide)))
  have hb := hb hbt
  have hx := g.we _ (getD_mem (d := zWr) (show d.2.1.toNat < w.2.2.2.2.1.length by omega))
  have hX := writerB_WD hx.1
  refine Evp.pos hb (Evp.bindv (spec_WriterAdd_ev w.1 _ d.2.2.2.2.1 (by omega) (hX.mono (by omega))) ?_)
  unfold zWr at hx
  unfold waddF
  rw [if_pos hx.1]
  by_cases ha : writerB w.1 (addWr (w.2.2.2.2.1.getD d.2.1.toNat ((0 : Int), (([] : List Word), ()))) d.2.2.2.2.1) = true
  · rw [if_pos ha]
    refine Evp.pos rfl (Evp.ite (fun _ => Evp.ret (Dn.no (by decide))) (fun h120 => Evp.pos hb (Evp.bindc (spec_l1Place_is _ _) fun p hpl => ?_)))
    have g' := g.writer (i := d.2.1.toNat) ha hx.2
    have h := fun z => spec_l13Add_b _ z (p, (d.2.2.2.2.1, (false, ()))) g' hpl hn
    have loop : ∀ (z : World) (m i : Nat), i + m = w.2.2.2.2.2.2.2.1.length → Evp (fun k => spec_l13Add.p19 k (i : Int) (w.1, (w.2.1, (w.2.2.1, (w.2.2.2.1, (w.2.2.2.2.1.set d.2.1.toNat (addWr (w.2.2.2.2.1.getD d.2.1.toNat ((0 : Int), (([] : List Word), ()))) d.2.2.2.2.1), w.2.2.2.2.2))))) z (p, (d.2.2.2.2.1, (false, ())))) Dn := by
      intro z m
      induction m with
      | zero =>
        intro i hi
        refine Evp.succ ?_
        simp only [spec_l13Add.p19]
        exact Evp.neg (by omega) (h z w.2.2.2.2.2.2.2.1.length 0 [] false (Nat.zero_add _) (Nat.zero_le _) (fun x hx => by cases hx))
      | succ m ih =>
        intro i hi
        have hlt : i < w.2.2.2.2.2.2.2.1.length := by omega
        refine Evp.succ ?_
        simp only [spec_l13Add.p19, Int.toNat_natCast]
        rw [wrap_up hlt (by omega)]
        exact Evp.pos (by omega) (Evp.pos (by omega) (Evp.ite (fun _ => Evp.ret (Dn.no (by decide))) (fun _ => ih (i + 1) (by omega))))
    exact loop _ w.2.2.2.2.2.2.2.1.length 0 (by omega)
  · rw [if_neg ha]
    exact Evp.neg nft (Evp.ret (Dn.no (by decide)))
theorem spec_l13Store_d (w : World) (d : Deed) (g : WT w) (hw : worldB w = true) : Evp (fun k => spec_l13Store.f k w d) Dn := by
  simp only [spec_l13Store.f]
  refine Evp.bindc (spec_l13Writer_d w d.2.1 g) fun b hb => Evp.ite (fun hbt => ?_) (fun _ => Evp.ret (Dn.no (by decide)))
  have hb := hb hbt
  have hx := g.we _ (getD_mem (d := zWr) (show d.2.1.toNat < w.2.2.2.2.1.length by omega))
  have hX := writerB_WD hx.1
  obtain ⟨e1, e2, e3⟩ := EraNodes_in g.rg (by omega) hx.2
  unfold zWr at hX e1 e2 e3
  have hX1 := hX.1
  refine Evp.pos hb (Evp.bindv (Ev.of (spec_l1In_is _ _ _)) (Evp.ite (fun hi => ?_) (fun _ => Evp.ret (Dn.no (by decide)))))
  have hi := inB_true.1 hi
  refine Evp.bind (spec_l13Node_d w d.2.2.2.1 g) fun c hc => Evp.ite (fun hc0 => ?_) (fun hc0 => Evp.ret (Dn.no hc0))
  have hc := hc hc0
  have hS := worldB_SG hw d.2.2.2.1.toNat (by omega)
  unfold zSto at hS
  refine Evp.bindv (Ev.of e1) (Evp.bindv (spec_l4Has_ev _ _ (by omega)) (Evp.ite (fun _ => Evp.pos hc (Evp.bindc (spec_l1Place_is _ _) fun p hp => ?_)) (fun _ => Evp.ret (Dn.no (by decide)))))
  rw [wrap64_id (by omega) (by omega)]
  exact Evp.pos (by omega) (Evp.bind (spec_StorePut_d _ _ (by omega) (by omega) hS hp) fun q hq => Evp.ite (fun _ => Evp.pos hc (Evp.ret fun _ => g.stores (hq.mono (by omega) (by omega)))) (fun _ => Evp.ret (Dn.no (by decide))))
theorem fO_zero' : ∀ (l : List Era) (i : Int), 0 ≤ i → fO l i = 0 → ∀ e ∈ l, e.2.1 = true := by
  intro l
  induction l with
  | nil => intro i _ _ e he; cases he
  | cons x l ih =>
    intro i hi h e he
    simp only [fO] at h
    split at h
    · rename_i hx
      rcases List.mem_cons.1 he with rfl | he
      · exact hx
      · exact ih (i + 1) (by omega) h e he
    · omega
/-- The first epoch that is open is there. -/
theorem fO_in {a : Config} {r : Register} (h : regB a r = true) (h0 : 0 < r.1.length) : EraIn r (fO r.1 0) := by
  have hp := regB_parts h
  rcases fO_or r.1 0 (by omega) with h1 | h1
  · have := fO_zero' r.1 0 (by omega) h1 _ (getD_mem (d := zEra) (show r.1.length - 1 < r.1.length by omega))
    exact absurd rfl ((hp.2.2 (r.1.length - 1) (by omega)).2 this)
  · exact EraIn.of h (by omega) (by omega)
theorem spec_l13Mend_d (w : World) (g : WT w) (hw : worldB w = true) : Evp (fun k => spec_l13Mend.f k w) Dn := by
  have hp := worldB_parts hw
  have hr := g.rg.wg (by omega)
  have h30 := (regB_parts hp.2.1).2.1
  simp only [spec_l13Mend.f, spec_MendNew.f, Option.bind_some]
  refine Evp.bindv (spec_FirstOpen_ev _ hr.2.1) (Evp.ite (fun _ => Evp.ret (Dn.no (by decide))) (fun h2 => Evp.ite (fun _ => Evp.ret (Dn.no (by decide))) (fun hn => Evp.ite (fun _ => Evp.ret (Dn.no (by decide))) (fun _ => Evp.ret fun _ => ?_))))
  have hE := fO_in hp.2.1 (by omega)
  have e1 := hE.1
  have e2 := hE.2.1
  refine g.mends (Nat.le_refl _) fun m hm => ?_
  rw [List.mem_singleton.1 hm]
  refine ⟨?_, hE⟩
  unfold mendB
  rw [g.c, inB_true.2 (by show 1 ≤ fO w.2.2.2.1.1 0 ∧ fO w.2.2.2.1.1 0 ≤ 30; omega), inB_true.2 (by show fO w.2.2.2.1.1 0 + 1 ≤ ((w.2.2.2.1.1.length : Nat) : Int) ∧ ((w.2.2.2.1.1.length : Nat) : Int) ≤ 30; omega)]
  unfold nodesB
  rw [g.c]; rfl
theorem WT.m0 {w : World} (g : WT w) (h : ¬ ((w.2.2.2.2.2.1.length : Nat) : Int) = 0) : mendB w.1 (w.2.2.2.2.2.1.getD (0 : Int).toNat zMd) = true ∧ EraIn w.2.2.2.1 (w.2.2.2.2.2.1.getD (0 : Int).toNat zMd).2.1 :=
  g.me _ (getD_mem (show 0 < w.2.2.2.2.2.1.length by omega))
theorem spec_l13Plan_d (w : World) (g : WT w) : Evp (fun k => spec_l13Plan.f k w) Dn := by
  have hc := cfgB_len g.c
  simp only [spec_l13Plan.f]
  refine Evp.ite (fun _ => Evp.ret (Dn.no (by decide))) (fun h0 => ?_)
  have hm := g.m0 h0
  have hM := mendB_MG hm.1
  obtain ⟨e1, e2, e3⟩ := EraNodes_in g.rg (by omega) hm.2
  unfold zMd at e1 e2 e3 hm hM
  refine Evp.pos (by omega) (Evp.pos (by omega) (Evp.bindv (Ev.of e1) (Evp.bindv (spec_MendPlan_ev w.1 _ _ (by omega) (by omega) (by omega) (by omega) (by omega) hM (by omega)) (Evp.ite (fun hq => Evp.pos (by omega) (Evp.ret fun _ => ?_)) (fun _ => Evp.ret (Dn.no (by decide)))))))
  revert hq
  unfold planF
  rw [if_pos hm.1]
  split
  · exact fun h => absurd h nft
  · split
    · exact fun _ => g.mend (plan_ok hm.1) hm.2
    · exact fun h => absurd h nft
theorem spec_l13Fix_d (w : World) (d : Deed) (g : WT w) (hw : worldB w = true) : Evp (fun k => spec_l13Fix.f k w d) Dn := by
  simp only [spec_l13Fix.f]
  refine Evp.ite (fun _ => Evp.ret (Dn.no (by decide))) (fun h0 => ?_)
  have hm := g.m0 h0
  have hM := mendB_MG hm.1
  obtain ⟨e1, e2, e3⟩ := EraNodes_in g.rg (by omega) hm.2
  unfold zMd at e1 e2 e3 hm hM
  have hM1 := hM.2.1.1
  refine Evp.pos (by omega) (Evp.bindv (spec_MendEntry_ev _ d.2.2.1 (by omega)) (Evp.ite (fun hq => ?_) (fun _ => Evp.ret (Dn.no (by decide)))))
  have hE : InR (mentF (w.2.2.2.2.2.1.getD (0 : Int).toNat ((0 : Int), ((0 : Int), (([] : List Int), (([] : List Entry), (false, (([] : List (List Int)), ()))))))) d.2.2.1).1.1 := by
    unfold mentF
    split
    · rename_i hc
      have h1 := inB_true.1 hc.2.1
      have h2 := inB_true.1 hc.2.2.1
      show InR (4294967296 * _ + _)
      unfold InR; omega
    · show InR (0 : Int); unfold InR; decide
  refine Evp.bind (spec_l13Node_d w d.2.2.2.1 g) fun c hc => Evp.ite (fun hc0 => ?_) (fun hc0 => Evp.ret (Dn.no hc0))
  have hc := hc hc0
  have hS := worldB_SG hw d.2.2.2.1.toNat (by omega)
  unfold zSto at hS
  exact Evp.pos (by omega) (Evp.bindv (Ev.of e1) (Evp.bindv (spec_l4Has_ev _ _ (by omega)) (Evp.ite (fun _ => Evp.pos hc (Evp.bind (spec_StorePut_d _ _ (by omega) (by omega) hS hE) fun q hq => Evp.ite (fun _ => Evp.pos hc (Evp.ret fun _ => g.stores (hq.mono (by omega) (by omega)))) (fun _ => Evp.ret (Dn.no (by decide))))) (fun _ => Evp.ret (Dn.no (by decide))))))
theorem EraIn.set {r : Register} {e : Int} {i : Nat} {x : Era} (h : EraIn r e) (hx : i < r.1.length → x.1 = (r.1.getD i zEra).1) : EraIn (r.1.set i x, r.2) e := by
  have h1 := h.1
  have h2 := h.2.1
  refine ⟨h.1, by show e ≤ (((r.1.set i x).length : Nat) : Int); rw [List.length_set]; exact h.2.1, ?_⟩
  show 0 < ((r.1.set i x).getD (e - 1).toNat zEra).1.length
  rw [List.getD_eq_getElem?_getD, List.getElem?_set]
  split
  · rename_i hi
    subst hi
    rw [if_pos (by omega)]
    show 0 < x.1.length
    rw [hx (by omega)]; exact h.2.2
  · rw [← List.getD_eq_getElem?_getD]; exact h.2.2
theorem spec_l13Close_d (w : World) (g : WT w) : Evp (fun k => spec_l13Close.f k w) Dn := by
  have hc := cfgB_len g.c
  have hr := g.rg.wg (by omega)
  have clos : ∀ f n : Int, WT (w.1, (w.2.1, (w.2.2.1, (closR w.2.2.2.1 f n, w.2.2.2.2)))) := fun f n =>
    g.reg (RG.set (t := w.2.2.2.1.2.1) g.rg (by show (w.2.2.2.1.1.getD _ zEra).1.length ≤ 64; exact g.rg.get _)) (fun e he => he.set (fun _ => rfl))
  simp only [spec_l13Close.f]
  refine Evp.ite (fun _ => Evp.ret (Dn.no (by decide))) (fun h0 => ?_)
  have hm := g.m0 h0
  have hM := mendB_MG hm.1
  unfold zMd at hm hM
  refine Evp.pos (by omega) (Evp.bindv (spec_MendReady_ev w.1 _ (by omega) (by omega) (by omega) (by omega) (by omega) hM) (Evp.ite (fun _ => Evp.pos (by omega) (Evp.pos (by omega) (Evp.bindv (spec_RegClose_ev w.1 w.2.2.2.1 _ _ hr.1 (by omega) hr.2.1 g.rg.at) (Evp.ite (fun hq => Evp.ret fun _ => ?_) (fun _ => Evp.ret (Dn.no (by decide))))))) (fun _ => Evp.ret (Dn.no (by decide)))))
  revert hq
  unfold closF
  split
  · split
    · intro _
      exact (clos _ _).mends (l := []) (Nat.zero_le _) (fun m hm => by cases hm)
    · exact fun h => absurd h nft
  · exact fun h => absurd h nft
theorem spec_l13Lose_d (w : World) (d : Deed) (g : WT w) (hw : worldB w = true) : Evp (fun k => spec_l13Lose.f k w d) Dn := by
  have hc := cfgB_len g.c
  have hp := worldB_parts hw
  have h8 := nodesB_len hp.1.2.1
  have p23 : ∀ (z : World) (m i : Nat) (w : World), WT w → i + m = w.2.2.2.2.2.1.length → Evp (fun k => spec_l13Lose.p23 k (i : Int) w d z) Dn := by
    intro z m
    induction m with
    | zero =>
      intro i w g hi
      have hc := cfgB_len g.c
      have := g.lo
      refine Evp.succ ?_
      simp only [spec_l13Lose.p23]
      exact Evp.neg (by omega) (Evp.ite (fun _ => Evp.ret fun _ => g.torn) (fun _ => Evp.bindv (spec_Holds_ev _ _ (by omega) (by omega)) (Evp.ret fun _ => g.torn)))
    | succ m ih =>
      intro i w g hi
      have hc := cfgB_len g.c
      have := g.ml
      have hlt : i < w.2.2.2.2.2.1.length := by omega
      have hm := g.me _ (getD_mem (d := zMd) hlt)
      have hM := mendB_MG hm.1
      refine Evp.succ ?_
      simp only [spec_l13Lose.p23, Int.toNat_natCast]
      rw [wrap_up hlt (by omega)]
      refine Evp.pos (by omega) (Evp.pos (by omega) (Evp.bindv (spec_MendForget_ev w.1 _ d.2.1 (by omega) (by omega) (by omega) (by omega) (by omega) hM) (Evp.pos (by omega) ?_)))
      unfold forgetF
      unfold zMd at hm
      rw [if_pos hm.1]
      exact ih (i + 1) _ (g.mend (mendB_forget _ hm.1) hm.2) (by show _ = (w.2.2.2.2.2.1.set _ _).length; rw [List.length_set]; omega)
  have p15 : ∀ (z : World) (m i : Nat) (w : World), WT w → i + m = w.2.2.2.2.1.length → Evp (fun k => spec_l13Lose.p15 k (i : Int) w d z) Dn := by
    intro z m
    induction m with
    | zero =>
      intro i w g hi
      refine Evp.succ ?_
      simp only [spec_l13Lose.p15]
      exact Evp.neg (by omega) (p23 z w.2.2.2.2.2.1.length 0 w g (by omega))
    | succ m ih =>
      intro i w g hi
      have hc := cfgB_len g.c
      have := g.wl
      have hlt : i < w.2.2.2.2.1.length := by omega
      have hx := g.we _ (getD_mem (d := zWr) hlt)
      have hX := writerB_WD hx.1
      refine Evp.succ ?_
      simp only [spec_l13Lose.p15, Int.toNat_natCast]
      rw [wrap_up hlt (by omega)]
      refine Evp.pos (by omega) (Evp.pos (by omega) (Evp.bindv (spec_WriterForget_ev w.1 _ d.2.1 (by omega) (hX.wg (by omega)).1 (hX.at (by omega))) (Evp.pos (by omega) ?_)))
      unfold wforF
      unfold zWr at hx
      rw [if_pos hx.1]
      exact ih (i + 1) _ (g.writer (less_ok _ _ _ hx.1) hx.2) (by show _ = (w.2.2.2.2.1.set _ _).length; rw [List.length_set]; omega)
  simp only [spec_l13Lose.f]
  refine Evp.bind (spec_l13Node_d w d.2.1 g) fun c hc => Evp.ite (fun hc0 => ?_) (fun hc0 => Evp.ret (Dn.no hc0))
  have hl := insL_len w.2.2.1 d.2.1
  exact Evp.pos (hc hc0) (Evp.bindv (spec_l4Put_ev _ _ (by omega)) (p15 _ w.2.2.2.2.1.length 0 _ ((g.stores SG.zero).lost (by omega)) (Nat.zero_add _)))
theorem ktS_le {n : Nat} : ∀ {l : List Store}, (∀ s ∈ l, s.1.length ≤ n) → ktS l ≤ n * l.length := by
  intro l
  induction l with
  | nil => intro _; exact Nat.zero_le _
  | cons s l ih =>
    intro h
    have h1 := ih fun x hx => h x (List.mem_cons_of_mem _ hx)
    have h2 := h s List.mem_cons_self
    rw [ktS_cons, List.length_cons, Nat.mul_succ]; omega
theorem spec_l13Fill_d (w : World) (d : Deed) (g : WT w) (hw : worldB w = true) : Evp (fun k => spec_l13Fill.f k w d) Dn := by
  have hc := cfgB_len g.c
  have hp := worldB_parts hw
  have h8 := nodesB_len hp.1.2.1
  have hk := ktS_le (n := 512) fun s hs => (g.st s hs).1.1
  have hk' : 512 * w.2.1.length ≤ 4096 := by have := g.sl; omega
  simp only [spec_l13Fill.f]
  refine Evp.bindv (spec_l4Has_ev _ _ (by omega)) (Evp.ite (fun hin => Evp.bindc (spec_l1Max_d _ _) fun u _ => Evp.bindv (spec_Fill_ev w.1 w.2.1 w.2.2.1 d.2.1 u (by omega) g.wg.st (by omega) (by omega)) (Evp.ite (fun hq => ?_) (fun _ => Evp.ret (Dn.no (by decide))))) (fun _ => Evp.ret (Dn.no (by decide))))
  have hb : 0 ≤ d.2.1 ∧ d.2.1 < ((w.2.1.length : Nat) : Int) := by
    have h1 := hp.1.2.1
    simp only [nodesB, Bool.and_eq_true] at h1
    have := (ascB_iff.1 h1.2).1 _ (List.contains_iff_mem.1 hin)
    have := g.sl
    omega
  have hS : storeB (fillF w.1 w.2.1 w.2.2.1 d.2.1 u).1 = true := by
    revert hq
    unfold fillF
    split
    · unfold fillG
      split
      · split
        · rename_i h; exact fun _ => h
        · exact fun h => absurd h nft
      · exact fun h => absurd h nft
    · exact fun h => absurd h nft
  refine Evp.pos hb (Evp.bindv (spec_l4Less_ev _ _ (by omega) (by simp)) (Evp.ret fun _ => (g.stores ((storeB_SG hS).mono (by omega) (by omega))).lost ?_))
  have := List.length_filter_le (fun v => !([d.2.1] : List Int).contains v) w.2.2.1
  omega
theorem spec_StoreSeal_g (s : Store) (x : Int) (hs : SG 200 20 s) (hx : InR x) : Evp (fun k => spec_StoreSeal.f k s x) (fun q => SG 220 220 q.1) := by
  have hs' := hs
  obtain ⟨h1, h2, h3⟩ := hs'
  have l1 := h1.1; have l2 := h2.1
  have same : SG 220 220 s := hs.mono (by omega) (by omega)
  simp only [spec_StoreSeal.f, spec_l1In_is, Option.bind_some, spec_l6Copy_is s (by omega) (by omega), spec_l1Max.f]
  refine Evp.bindv (spec_StoreOk_ev s (by omega) (by omega) h1.at h2.at) (Evp.ite (fun _ => Evp.bind (spec_StoreSync_d (n := 220) s same (by omega)) fun r hr => Evp.ite (fun ht => Evp.ite (fun _ => ?_) (fun _ => Evp.ret same)) (fun _ => Evp.ret same)) (fun _ => Evp.ret SG.zero))
  have g := (hr ht).mono (n' := 220) (m' := 220) (by omega) (by omega)
  by_cases hm : x < r.1.2.2.1
  · simp only [if_pos hm, Option.bind_some]
    exact Evp.ret g
  · simp only [if_neg hm, Option.bind_some]
    exact Evp.ret ⟨g.1, g.2.1, hx⟩
theorem spec_l13Seal_d (w : World) (d : Deed) (g : WT w) (hw : worldB w = true) : Evp (fun k => spec_l13Seal.f k w d) Dn := by
  have hc8 := cfgB_len g.c
  simp only [spec_l13Seal.f]
  refine Evp.ite (fun _ => Evp.ret (Dn.no (by decide))) (fun h0 => ?_)
  have hm := g.m0 h0
  have hM := mendB_MG hm.1
  obtain ⟨e1, e2, e3⟩ := EraNodes_in g.rg (by omega) hm.2
  unfold zMd at e1 e2 e3 hm hM
  refine Evp.pos (by omega) (Evp.bind (spec_l13Node_d w d.2.1 g) fun c hc => Evp.ite (fun hc0 => ?_) (fun hc0 => Evp.ret (Dn.no hc0)))
  have hc := hc hc0
  have hS := worldB_SG hw d.2.1.toNat (by omega)
  unfold zSto at hS
  refine Evp.bindv (Ev.of e1) (Evp.bindv (spec_l4Has_ev _ _ (by omega)) (Evp.ite (fun _ => Evp.pos hc (Evp.bind (spec_StoreSeal_g _ _ hS (InR_wrap _)) fun s hs => Evp.bind (spec_StoreEra_d s.1 _ (hs.1.mono (by omega)) (hs.2.1.mono (by omega)) hs.2.2) fun l hl => ?_)) (fun _ => Evp.ret (Dn.no (by decide)))))
  have hl1 := hl.1
  refine Evp.bindv (spec_MendSeal_ev w.1 _ d.2.1 l (by omega) (by omega) (by omega) (by omega) (by omega) hM ⟨Nat.le_refl _, hl.2⟩) (Evp.ite (fun _ => Evp.ite (fun hq => Evp.pos hc (Evp.pos (by omega) (Evp.ret fun _ => ?_))) (fun _ => Evp.ret (Dn.no (by decide)))) (fun _ => Evp.ret (Dn.no (by decide))))
  revert hq
  unfold sealF
  rw [if_pos hm.1]
  split
  · exact fun h => absurd h nft
  · split
    · rename_i hk
      exact fun _ => (g.stores (hs.mono (by omega) (by omega))).mend hk hm.2
    · exact fun h => absurd h nft
theorem spec_l13Drop_d (w : World) (d : Deed) (g : WT w) : Evp (fun k => spec_l13Drop.f k w d) Dn := by
  have h5 := g.wl
  have loop : ∀ (z : World) (m i : Nat) (l : List Writer), i + m = w.2.2.2.2.1.length → l.length ≤ i → (∀ x ∈ l, writerB w.1 x = true ∧ EraIn w.2.2.2.1 x.1) → Evp (fun k => spec_l13Drop.p11 k l (i : Int) w d z) Dn := by
    intro z m
    induction m with
    | zero =>
      intro i l hi hl hI
      refine Evp.succ ?_
      simp only [spec_l13Drop.p11]
      exact Evp.neg (by omega) (Evp.ret fun _ => g.writers (by omega) hI)
    | succ m ih =>
      intro i l hi hl hI
      have hlt : i < w.2.2.2.2.1.length := by omega
      have hx := g.we _ (getD_mem (d := zWr) hlt)
      refine Evp.succ ?_
      simp only [spec_l13Drop.p11, Int.toNat_natCast]
      rw [wrap_up hlt (by omega)]
      refine Evp.pos (by omega) (Evp.ite (fun _ => ih (i + 1) l (by omega) (by omega) hI) (fun _ => Evp.pos (by omega) (Evp.pos (one_lim (by omega)) (ih (i + 1) _ (by omega) (by rw [List.length_append]; simp; omega) fun x h => ?_))))
      exact (List.mem_append.1 h).elim (hI x) (fun h => by rw [List.mem_singleton.1 h]; exact hx)
  simp only [spec_l13Drop.f]
  exact Evp.bindc (spec_l13Writer_d w d.2.1 g) fun b hb => Evp.ite (fun _ => loop _ w.2.2.2.2.1.length 0 [] (by omega) (Nat.le_refl _) (fun x h => by cases h)) (fun _ => Evp.ret (Dn.no (by decide)))
theorem spec_StoreTrim_d (s : Store) (x : Int) (hs : SG 200 20 s) (hx : InR x) : Evp (fun k => spec_StoreTrim.f k s x) (fun q => SG 220 220 q.1) := by
  have hs' := hs
  obtain ⟨h1, h2, h3⟩ := hs'
  have l1 := h1.1; have l2 := h2.1
  have loop : ∀ (z : Store) (m i : Nat) (t : Store), i + m = s.1.length → SG i 220 t → Evp (fun k => spec_StoreTrim.p17 k x (i : Int) s z t) (fun q => SG 220 220 q.1) := by
    intro z m
    induction m with
    | zero =>
      intro i t hi ht
      refine Evp.succ ?_
      simp only [spec_StoreTrim.p17]
      exact Evp.neg (by omega) (Evp.ret (ht.mono (by omega) (by omega)))
    | succ m ih =>
      intro i t hi ht
      have hlt : i < s.1.length := by omega
      have he := h1.at i hlt
      have hti := ht.1.1
      refine Evp.succ ?_
      simp only [spec_StoreTrim.p17, Int.toNat_natCast]
      rw [wrap_up hlt (by omega)]
      exact Evp.pos (by omega) (Evp.pos (by omega) (Evp.ite (fun _ => Evp.pos (by omega) (Evp.pos (one_lim (by omega)) (ih (i + 1) _ (by omega) ⟨ht.1.app he, ht.2.1, ht.2.2⟩))) (fun _ => ih (i + 1) t (by omega) (ht.mono (by omega) (by omega)))))
  simp only [spec_StoreTrim.f, spec_l6Copy_is s (by omega) (by omega), spec_PlaceOk_is x hx, Option.bind_some]
  exact Evp.bindv (spec_StoreOk_ev s (by omega) (by omega) h1.at h2.at) (Evp.ite (fun _ => Evp.ite (fun _ => loop _ s.1.length 0 _ (by omega) ⟨EG.nil, h2.mono (by omega), h3⟩) (fun _ => Evp.ret (hs.mono (by omega) (by omega)))) (fun _ => Evp.ret SG.zero))
theorem spec_l13Other_d (w : World) (d : Deed) (g : WT w) (hw : worldB w = true) : Evp (fun k => spec_l13Other.f k w d) Dn := by
  have hr := g.rg.wg (by omega)
  simp only [spec_l13Other.f]
  refine Evp.bind (spec_l13Node_d w d.2.1 g) fun c hc => Evp.ite (fun hc0 => ?_) (fun hc0 => Evp.ret (Dn.no hc0))
  have hc := hc hc0
  have hS := worldB_SG hw d.2.1.toNat (by omega)
  have fin : ∀ (b : Bool) (z : World) (s : Store), (b = true → SG 512 512 s) → Evp (fun k => spec_l13Other.p14 k b w d z s) Dn := fun b z s hs => by
    refine Evp.succ ?_
    simp only [spec_l13Other.p14]
    exact Evp.ite (fun hb => Evp.pos hc (Evp.ret fun _ => g.stores (hs hb))) (fun _ => Evp.ret (Dn.no (by decide)))
  unfold zSto at hS
  refine Evp.pos hc (Evp.bind (spec_StoreCrash_d (n := 200) _ d.2.2.1 (hS.mono (by omega) (by omega)) (by omega)) fun q hq => Evp.ite (fun _ => Evp.pos hc (Evp.bind (spec_StoreTrim_d _ _ hS hr.1) fun q hq => fin _ _ _ fun _ => hq.mono (by omega) (by omega))) (fun _ => fin _ _ _ fun hb => (hq hb).mono ?_ (by omega)))
  have := hS.1.1
  have := hS.2.1.1
  omega
/-- How far the writer of an epoch is sure. -/
noncomputable def sureL (e : Int) : List Writer → Int
  | [] => 0
  | x :: l => if x.1 = e then ((sureN x.2.1 : Nat) : Int) else sureL e l
theorem sureL_cons {e : Int} {x : Writer} {l : List Writer} : sureL e (x :: l) = if x.1 = e then ((sureN x.2.1 : Nat) : Int) else sureL e l := rfl
theorem sureL_pos {e : Int} : ∀ {l : List Writer}, 0 ≤ sureL e l := by
  intro l
  induction l with
  | nil => exact Int.le_refl _
  | cons x l ih =>
    rw [sureL_cons]
    split
    · omega
    · exact ih
theorem spec_SureOf_ev (w : World) (e : Int) (hl : w.2.2.2.2.1.length ≤ 1048576) (hw : ∀ x ∈ w.2.2.2.2.1, x.2.1.length ≤ 1048576) : Ev (fun k => spec_SureOf.f k w e) (sureL e w.2.2.2.2.1) := by
  have h : ∀ (m i : Nat), i + m = w.2.2.2.2.1.length → Ev (fun k => spec_SureOf.p5 k e (i : Int) w) (sureL e (w.2.2.2.2.1.drop i)) := by
    intro m
    induction m with
    | zero =>
      intro i hi
      refine Ev.succ ?_
      simp only [spec_SureOf.p5]
      rw [List.drop_eq_nil_of_le (by omega)]
      exact Ev.neg (by omega) Ev.ret
    | succ m ih =>
      intro i hi
      have hlt : i < w.2.2.2.2.1.length := by omega
      refine Ev.succ ?_
      simp only [spec_SureOf.p5, Int.toNat_natCast]
      rw [wrap_up hlt (by omega), drop_get (d := zWr) hlt, sureL_cons]
      exact Ev.pos (by omega) (Ev.pos (by omega) (Ev.ite (fun _ => Ev.pos (by omega) (Ev.bind (spec_WriterSure_ev _ (hw _ (getD_mem hlt))) Ev.ret)) (fun _ => ih (i + 1) (by omega))))
  exact h w.2.2.2.2.1.length 0 (by omega)
theorem impl_SureOf_ev (w : World) (e : Int) (hl : w.2.2.2.2.1.length ≤ 1048576) (hw : ∀ x ∈ w.2.2.2.2.1, x.2.1.length ≤ 1048576) : Ev (fun k => impl_SureOf.f k w e) (sureL e w.2.2.2.2.1) := by
  have h : ∀ (m i : Nat), i + m = w.2.2.2.2.1.length → Ev (fun k => impl_SureOf.p5 k e w.2.2.2.2.1 ((w.2.2.2.2.1.length : Nat) : Int) (i : Int)) (sureL e (w.2.2.2.2.1.drop i)) := by
    intro m
    induction m with
    | zero =>
      intro i hi
      refine Ev.succ ?_
      simp only [impl_SureOf.p5]
      rw [List.drop_eq_nil_of_le (by omega)]
      exact Ev.neg (by omega) Ev.ret
    | succ m ih =>
      intro i hi
      have hlt : i < w.2.2.2.2.1.length := by omega
      refine Ev.succ ?_
      simp only [impl_SureOf.p5, Int.toNat_natCast]
      rw [wrap_up hlt (by omega), drop_get (d := zWr) hlt, sureL_cons]
      exact Ev.pos (by omega) (Ev.pos (by omega) (Ev.ite (fun _ => Ev.bind (impl_WriterSure_ev _ (hw _ (getD_mem hlt))) Ev.ret) (fun _ => ih (i + 1) (by omega))))
  exact h w.2.2.2.2.1.length 0 (by omega)
theorem getF_InR {x : Int} : ∀ {l : List Entry}, (∀ e ∈ l, InR e.1) → InR (getF l x).1.1 := by
  intro l
  induction l with
  | nil => intro _; show InR (0 : Int); unfold InR; decide
  | cons y l ih =>
    intro h
    show InR (if y.1 = x then (y, true) else getF l x).1.1
    split
    · exact h y List.mem_cons_self
    · exact ih fun e he => h e (List.mem_cons_of_mem _ he)
theorem spec_l13Answers_d (w : World) (r : Reader) (x : Int) (g : WT w) : Evp (fun k => spec_l13Answers.f k w r x) AnG := by
  have loop : ∀ (nodes : List Int), nodes.length ≤ 8 → ∀ (m i : Nat) (l : List Answer), i + m = nodes.length → l.length ≤ i → (∀ x ∈ l, InR x.2.2.1.1) → Evp (fun k => spec_l13Answers.p9 k l nodes (i : Int) w r) AnG := by
    intro nodes h8 m
    induction m with
    | zero =>
      intro i l hi hl hI
      refine Evp.succ ?_
      simp only [spec_l13Answers.p9]
      exact Evp.neg (by omega) (Evp.ret ⟨by omega, hI⟩)
    | succ m ih =>
      intro i l hi hl hI
      have hlt : i < nodes.length := by omega
      refine Evp.succ ?_
      simp only [spec_l13Answers.p9, Int.toNat_natCast]
      rw [wrap_up hlt (by omega)]
      refine Evp.pos (by omega) (Evp.pos (by omega) (Evp.bind (spec_l13Node_d w _ g) fun c hc => Evp.ite (fun hc0 => ?_) (fun _ => ih (i + 1) l (by omega) (by omega) hI)))
      have hc := hc hc0
      have hS := g.st _ (getD_mem (d := zSto) (show (nodes.getD i 0).toNat < w.2.1.length by omega))
      unfold zSto at hS
      have h1 := hS.1.1
      refine Evp.pos (by omega) (Evp.pos hc (Evp.bindc (spec_l1Place_is _ _) fun p _ => Evp.bindv (spec_l6Get_ev _ p (by omega)) (Evp.pos (by omega) (Evp.pos (one_lim (by omega)) (ih (i + 1) _ (by omega) (by rw [List.length_append]; simp; omega) fun y hy => ?_)))))
      exact (List.mem_append.1 hy).elim (hI y) (fun h => by rw [List.mem_singleton.1 h]; exact getF_InR hS.1.2)
  simp only [spec_l13Answers.f]
  exact Evp.bind (spec_MaskNodes_d x) fun l hl => loop l hl l.length 0 [] (by omega) (Nat.le_refl _) (fun x h => by cases h)
theorem readF_len {a : Config} {g : Register} {s : Int} {r : Reader} {l : List Answer} (h : (readF a g s r l).2 = 0) : (readF a g s r l).1.2.2.1.length ≤ 121 := by
  revert h
  unfold readF
  split
  · rename_i hc
    have h3 := (readerB_parts hc.2.1).2.2
    have app : ∀ e : Event, (r.2.2.1 ++ [e]).length ≤ 121 := fun e => by rw [List.length_append]; simp; omega
    split
    · exact fun h => absurd h (by show ¬ (2 : Int) = 0; decide)
    · split
      · exact fun h => absurd h (by show ¬ (2 : Int) = 0; decide)
      · split
        · exact fun _ => app _
        · split
          · exact fun _ => app _
          · split
            · exact fun h => absurd h (by show ¬ (2 : Int) = 0; decide)
            · unfold tellR
              split
              · exact fun _ => app _
              · exact fun h => absurd h (by show ¬ (3 : Int) = 0; decide)
  · exact fun h => absurd h (by show ¬ (1 : Int) = 0; decide)
theorem spec_l13Read_d (w : World) (d : Deed) (g : WT w) : Evp (fun k => spec_l13Read.f k w d) Dn := by
  have hc := cfgB_len g.c
  have hr := g.rg.wg (by omega)
  have h2 := g.dl
  have h5 := g.wl
  simp only [spec_l13Read.f, spec_l1In_is, Option.bind_some]
  refine Evp.ite (fun hi => ?_) (fun _ => Evp.ret (Dn.no (by decide)))
  have hi := inB_true.1 hi
  have hb : 0 ≤ d.2.1 ∧ d.2.1 < ((w.2.2.2.2.2.2.1.length : Nat) : Int) := by omega
  have hR := g.de _ (getD_mem (d := zRd) (show d.2.1.toNat < w.2.2.2.2.2.2.1.length by omega))
  unfold zRd at hR
  exact Evp.pos hb (Evp.bindv (spec_SureOf_ev w _ (by omega) (fun x hx => ((writerB_WD (g.we x hx).1).wg (by omega)).1)) (Evp.pos hb (Evp.pos hb (Evp.bind (spec_l13Answers_d w _ _ g) fun l hl => Evp.bindv (spec_ReaderNext_ev w.1 w.2.2.2.1 _ _ l (by omega) hr.1 hr.2.1 g.rg.at (by omega) hl) (Evp.ite (fun hq => Evp.pos hb (Evp.ret fun _ => g.reader (readF_len hq))) (fun _ => Evp.ret (Dn.no (by decide))))))))
theorem offOf_ok {x : Int} (h : 1 ≤ epochOf x) : 1 ≤ offOf x := by
  unfold epochOf at h
  unfold offOf
  split at h
  · rename_i hp
    rw [if_pos hp]
    have := placeOk_pos hp
    omega
  · omega
theorem spec_l13Tell_s (node : Int) (z : World) (s : Store) (x : Writer) (i n : Nat) (a e : Int) (b : Bool) (hx : 1 ≤ x.1) (hn : n ≤ 5) (hi : i < n) (H : ∀ w, WT w → w.2.2.2.2.1.length = n → Evp (fun k => spec_l13Tell.p7 k node (((i + 1 : Nat)) : Int) w z s) WT) (hX : x.2.1.length ≤ 60) :
    ∀ (m j : Nat) (w : World), WT w → w.2.2.2.2.1.length = n → j + m = w.2.2.2.2.2.2.2.1.length → Evp (fun k => spec_l13Tell.p31 k node (i : Int) (j : Int) a e b w z s x) WT := by
  intro m
  induction m with
  | zero =>
    intro j w g hw hj
    refine Evp.succ ?_
    simp only [spec_l13Tell.p31]
    rw [wrap_up hi (by omega)]
    exact Evp.neg (by omega) (H w g hw)
  | succ m ih =>
    intro j w g hw hj
    have hlt : j < w.2.2.2.2.2.2.2.1.length := by omega
    have hs := g.ne _ (getD_mem (d := zSn) hlt)
    have h121 := g.nl
    unfold zSn at hs
    refine Evp.succ ?_
    simp only [spec_l13Tell.p31, Int.toNat_natCast, spec_EpochOf_is _ hs, spec_OffOf_is _ hs, Option.bind_some]
    rw [wrap_up hlt (by omega)]
    have nx : Evp (fun k => spec_l13Tell.p31 k node (i : Int) (((j + 1 : Nat)) : Int) a e b w z s x) WT := ih (j + 1) w g hw (by omega)
    refine Evp.pos (by omega) (Evp.pos (by omega) (Evp.ite (fun he => ?_) (fun _ => nx)))
    have h1 := offOf_ok (x := (w.2.2.2.2.2.2.2.1.getD j ((0 : Int), ((⟨#[]⟩ : ByteArray), (false, ())))).1) (by omega)
    refine Evp.ite (fun ho => ?_) (fun _ => nx)
    rw [wrap64_id (by omega) (by omega)]
    refine Evp.pos (by omega) (Evp.ite (fun _ => Evp.pos (by omega) (ih (j + 1) _ (g.sents (by rw [List.length_set]; exact h121) fun y hy => ?_) hw (by show _ = (w.2.2.2.2.2.2.2.1.set _ _).length; rw [List.length_set]; omega))) (fun _ => nx))
    exact (List.mem_or_eq_of_mem_set hy).elim (g.ne y) (fun h => by rw [h]; exact hs)
theorem spec_l13Tell_a (node : Int) (z : World) (s : Store) (hs : s.1.length ≤ 1048576) (i n : Nat) (a e : Int) (b : Bool) (hn : n ≤ 5) (hi : i < n) (H : ∀ w, WT w → w.2.2.2.2.1.length = n → Evp (fun k => spec_l13Tell.p7 k node (((i + 1 : Nat)) : Int) w z s) WT) (w : World) (g : WT w) (hw : w.2.2.2.2.1.length = n) :
    ∀ (m o : Nat) (x : Writer), writerB w.1 x = true → EraIn w.2.2.2.1 x.1 → 1 ≤ o → o + m = x.2.1.length + 1 → Evp (fun k => spec_l13Tell.p17 k node (i : Int) (o : Int) a e b w z s x) WT := by
  have hc := cfgB_len g.c
  intro m
  induction m with
  | zero =>
    intro o x hx hE ho hm
    have hX := writerB_WD hx
    refine Evp.succ ?_
    simp only [spec_l13Tell.p17, Int.toNat_natCast]
    exact Evp.neg (by omega) (Evp.pos (by omega) (spec_l13Tell_s node z s x i n a e b hE.1 hn hi H hX.1 _ 0 _ (g.writer hx hE) (by show (w.2.2.2.2.1.set _ _).length = n; rw [List.length_set]; exact hw) (Nat.zero_add _)))
  | succ m ih =>
    intro o x hx hE ho hm
    have hX := writerB_WD hx
    have h60 := hX.1
    refine Evp.succ ?_
    simp only [spec_l13Tell.p17]
    rw [wrap_up (i := o) (n := 61) (by omega) (by omega), wrap64_id (x := (o : Int) - 1) (by omega) (by omega)]
    have nx : Evp (fun k => spec_l13Tell.p17 k node (i : Int) (((o + 1 : Nat)) : Int) a e b w z s x) WT := ih (o + 1) x hx hE (by omega) (by omega)
    refine Evp.pos (by omega) (Evp.bindc (spec_l1Place_is _ _) fun p _ => Evp.bindv (spec_l6Get_ev _ p hs) (Evp.ite (fun _ => Evp.ite (fun _ => Evp.pos (by omega) (Evp.ite (fun _ => nx) (fun _ => Evp.bindv (spec_WriterAck_ev w.1 x _ node (by omega) (hX.wg (by omega)).1 (hX.at (by omega))) ?_))) (fun _ => nx)) (fun _ => nx)))
    obtain ⟨k1, k2, k3⟩ := wack_keep (o : Int) node hx
    exact ih (o + 1) _ k1 (by rw [k2]; exact hE) (by omega) (by rw [k3]; omega)
theorem spec_l13Tell_n (node : Int) (z : World) (s : Store) (hs : s.1.length ≤ 1048576) (i : Nat) (hi : i < 1) (H : ∀ w, WT w → Evp (fun k => spec_l13Tell.p43 k node (((i + 1 : Nat)) : Int) w z s) WT) (w : World) (g : WT w) (hw : i < w.2.2.2.2.2.1.length) :
    ∀ (q o : Nat) (m : Mend), mendB w.1 m = true → EraIn w.2.2.2.1 m.2.1 → 1 ≤ o → o + q = (w.2.2.2.2.2.1.getD i zMd).2.2.2.2.2.1.length + 1 → Evp (fun k => spec_l13Tell.p51 k node (i : Int) (o : Int) w z s m) WT := by
  have hc := cfgB_len g.c
  have h0 := mendB_MG (g.me _ (getD_mem (d := zMd) hw)).1
  have h60 := h0.2.2.1.1
  have fin : ∀ m, mendB w.1 m = true → EraIn w.2.2.2.1 m.2.1 → Evp (fun k => if (0 : Int) ≤ (i : Int) ∧ (i : Int) < ((w.2.2.2.2.2.1.length : Nat) : Int) then spec_l13Tell.p43 k node (((i + 1 : Nat)) : Int) (w.1, (w.2.1, (w.2.2.1, (w.2.2.2.1, (w.2.2.2.2.1, ((w.2.2.2.2.2.1.set i m), w.2.2.2.2.2.2)))))) z s else none) WT := fun m hm hE => Evp.pos (by omega) (H _ (g.mend hm hE))
  intro q
  induction q with
  | zero =>
    intro o m hm hE ho hq
    refine Evp.succ ?_
    simp only [spec_l13Tell.p51, Int.toNat_natCast]
    rw [wrap_up (i := i) (n := 1) hi (by omega)]
    unfold zMd at hq
    exact Evp.pos (by omega) (Evp.neg (by omega) (fin m hm hE))
  | succ q ih =>
    intro o m hm hE ho hq
    have hM := mendB_MG hm
    have hM1 := hM.2.1.1
    obtain ⟨e1, e2, e3⟩ := EraNodes_in g.rg (by omega) hE
    refine Evp.succ ?_
    simp only [spec_l13Tell.p51, Int.toNat_natCast]
    rw [wrap_up (i := i) (n := 1) hi (by omega), wrap_up (i := o) (n := 61) (by omega) (by omega)]
    have nx : Evp (fun k => spec_l13Tell.p51 k node (i : Int) (((o + 1 : Nat)) : Int) w z s m) WT := ih (o + 1) m hm hE (by omega) (by omega)
    unfold zMd at hq
    refine Evp.pos (by omega) (Evp.pos (by omega) (Evp.bindv (Ev.of e1) (Evp.bindv (spec_l4Has_ev _ _ (by omega)) (Evp.ite (fun _ => Evp.bindv (spec_MendEntry_ev m _ (by omega)) (Evp.bindv (spec_l6Get_ev _ _ hs) (Evp.ite (fun _ => Evp.ite (fun _ => Evp.bindv (spec_MendAck_ev w.1 m _ node (by omega) (by omega) (by omega) (by omega) (by omega) hM) ?_) (fun _ => nx)) (fun _ => nx)))) (fun _ => fin m hm hE)))))
    obtain ⟨k1, k2, k3⟩ := mack_keep (o : Int) node hm
    exact ih (o + 1) _ k1 (by rw [k2]; exact hE) (by omega) (by unfold zMd; omega)
theorem spec_l13Tell_d (w : World) (node : Int) (g : WT w) (hn : 0 ≤ node ∧ node < ((w.2.1.length : Nat) : Int)) : Evp (fun k => spec_l13Tell.f k w node) WT := by
  have hS := g.st _ (getD_mem (d := zSto) (show node.toNat < w.2.1.length by omega))
  have hs : (w.2.1.getD node.toNat zSto).1.length ≤ 1048576 := by have := hS.1.1; omega
  simp only [spec_l13Tell.f]
  refine Evp.pos hn ?_
  generalize e : w.2.1.getD node.toNat zSto = s at hs
  unfold zSto at e
  rw [e]
  have m43 : ∀ (z w : World), WT w → Evp (fun k => spec_l13Tell.p43 k node ((0 : Nat) : Int) w z s) WT := fun z w g => by
    have h1 := g.ml
    refine Evp.succ ?_
    simp only [spec_l13Tell.p43, Int.toNat_natCast]
    refine Evp.ite (fun hlt => Evp.pos (by omega) ?_) (fun _ => Evp.ret g)
    have hm := g.me _ (getD_mem (d := zMd) (show 0 < w.2.2.2.2.2.1.length by omega))
    refine spec_l13Tell_n node z s hs 0 (by omega) (fun w' g' => ?_) w g (by omega) _ 1 _ hm.1 hm.2 (by omega) (Nat.add_comm _ _)
    have h1 := g'.ml
    refine Evp.succ ?_
    simp only [spec_l13Tell.p43]
    exact Evp.neg (by omega) (Evp.ret g')
  have m7 : ∀ (z : World) (n : Nat) (hn : n ≤ 5) (m i : Nat) (w : World), WT w → w.2.2.2.2.1.length = n → i + m = n → Evp (fun k => spec_l13Tell.p7 k node (i : Int) w z s) WT := by
    intro z n hn m
    induction m with
    | zero =>
      intro i w g hw hi
      refine Evp.succ ?_
      simp only [spec_l13Tell.p7]
      exact Evp.neg (by omega) (m43 z w g)
    | succ m ih =>
      intro i w g hw hi
      have hlt : i < w.2.2.2.2.1.length := by omega
      have hx := g.we _ (getD_mem (d := zWr) hlt)
      have hX := writerB_WD hx.1
      obtain ⟨e1, e2, e3⟩ := EraNodes_in g.rg (by omega) hx.2
      unfold zWr at e1 e2 e3 hx
      refine Evp.succ ?_
      simp only [spec_l13Tell.p7, Int.toNat_natCast]
      rw [wrap_up hlt (by omega)]
      have nx := fun w g hw => ih (i + 1) w g hw (by omega)
      exact Evp.pos (by omega) (Evp.pos (by omega) (Evp.bindv (Ev.of e1) (Evp.bindv (spec_l4Has_ev _ _ (by omega)) (Evp.ite (fun _ => Evp.ite (fun _ => nx w g hw) (fun _ => spec_l13Tell_a node z s hs i n _ _ _ hn (by omega) nx w g hw _ 1 _ hx.1 hx.2 (by omega) (Nat.add_comm _ _))) (fun _ => nx w g hw)))))
  exact m7 _ _ g.wl w.2.2.2.2.1.length 0 w g rfl (Nat.zero_add _)
theorem spec_l13Sync_d (w : World) (d : Deed) (g : WT w) (hw : worldB w = true) : Evp (fun k => spec_l13Sync.f k w d) Dn := by
  simp only [spec_l13Sync.f]
  refine Evp.bind (spec_l13Node_d w d.2.1 g) fun c hc => Evp.ite (fun hc0 => ?_) (fun hc0 => Evp.ret (Dn.no hc0))
  have hc := hc hc0
  have hS := worldB_SG hw d.2.1.toNat (by omega)
  unfold zSto at hS
  have h1 := hS.1.1
  have h2 := hS.2.1.1
  exact Evp.pos hc (Evp.bind (spec_StoreSync_d (n := 200) _ (hS.mono (by omega) (by omega)) (by omega)) fun q hq => Evp.ite (fun hb => Evp.pos hc (Evp.bind (spec_l13Tell_d _ d.2.1 (g.stores ((hq hb).mono (by omega) (by omega))) (by show _ ∧ d.2.1 < (((w.2.1.set _ _).length : Nat) : Int); rw [List.length_set]; exact hc)) fun r hr => Evp.ret fun _ => hr)) (fun _ => Evp.ret (Dn.no (by decide))))
theorem spec_l13Do_d (w : World) (d : Deed) (g : WT w) (hw : worldB w = true) (hd : DI d) : Evp (fun k => spec_l13Do.f k w d) Dn := by
  have hc := cfgB_len g.c
  have hr := g.rg.wg (by omega)
  have k : ∀ {f : Nat → Option (World × Int)}, Evp f Dn → Evp (fun k => (f k).bind fun r => some (r.1, r.2)) Dn := fun h => Evp.bind h fun q hq => Evp.ret hq
  simp only [spec_l13Do.f]
  refine Evp.ite (fun _ => k (spec_l13Open_d w d g hw)) (fun _ => ?_)
  refine Evp.ite (fun _ => k (spec_l13Add_d w d g hw)) (fun _ => ?_)
  refine Evp.ite (fun _ => k (spec_l13Store_d w d g hw)) (fun _ => ?_)
  refine Evp.ite (fun _ => k (spec_l13Sync_d w d g hw)) (fun _ => ?_)
  refine Evp.ite (fun _ => k (spec_l13Lose_d w d g hw)) (fun _ => ?_)
  refine Evp.ite (fun _ => k (spec_l13Fill_d w d g hw)) (fun _ => ?_)
  refine Evp.ite (fun _ => k (spec_l13Mend_d w g hw)) (fun _ => ?_)
  refine Evp.ite (fun _ => k (spec_l13Seal_d w d g hw)) (fun _ => ?_)
  refine Evp.ite (fun _ => k (spec_l13Plan_d w g)) (fun _ => ?_)
  refine Evp.ite (fun _ => k (spec_l13Fix_d w d g hw)) (fun _ => ?_)
  refine Evp.ite (fun _ => k (spec_l13Close_d w g)) (fun _ => ?_)
  refine Evp.ite (fun h13 => ?_) (fun _ => ?_)
  · refine Evp.bindv (spec_RegTrim_ev w.1 w.2.2.2.1 d.2.1 hr.1 (hd h13) (by omega) hr.2.1 g.rg.at) (Evp.ite (fun hq => Evp.ret fun _ => ?_) (fun _ => Evp.ret (Dn.no (by decide))))
    revert hq
    unfold trimF
    split
    · split
      · refine fun _ => g.reg ⟨g.rg.1, g.rg.2.1, ?_⟩ (fun e he => he)
        have h1 := g.rg.2.2
        have h2 := hd h13
        show InR (max w.2.2.2.1.2.1 d.2.1)
        unfold InR at *; omega
      · exact fun h => absurd h nft
    · exact fun h => absurd h nft
  refine Evp.ite (fun _ => k (spec_l13Read_d w d g)) (fun _ => ?_)
  exact Evp.ite (fun _ => k (spec_l13Drop_d w d g)) (fun _ => k (spec_l13Other_d w d g hw))
theorem spec_WorldNew_d (c : Config) (hc : cfgB c = true) : Evp (fun k => spec_WorldNew.f k c) (fun q => WT q.1) := by
  have h := cfgB_len hc
  simp only [spec_WorldNew.f, spec_ReaderNew.f, Option.bind_some, Int.toNat_natCast, List.nil_append]
  refine Evp.bindv (spec_ConfigOk_ev c (by omega)) (Evp.pos hc (Evp.pos (nil_lim (by omega)) (Evp.pos ⟨by omega, by omega, by rw [lim_eq]; omega⟩ (Evp.ret ?_))))
  refine ⟨hc, List.length_replicate, fun s hs => ?_, Nat.zero_le _, RG.nil, Nat.zero_le _, fun x hx => (by cases hx), Nat.zero_le _, fun x hx => (by cases hx), rfl, fun r hr => ?_, Nat.zero_le _, fun x hx => (by cases hx)⟩
  · rw [List.eq_of_mem_replicate hs]; exact SG.zero
  · rcases List.mem_cons.1 hr with h' | h'
    · rw [h']; exact Nat.zero_le _
    · rw [List.mem_singleton.1 h']; exact Nat.zero_le _
theorem spec_WorldDo_d (w : World) (d : Deed) (g : WT w) (hd : DI d) : Evp (fun k => spec_WorldDo.f k w d) (fun q => (q.2.1 = 0 → WT q.1) ∧ q.2.2 = w) := by
  have no : ∀ (x : World) (c : Int), c ≠ 0 → (c = 0 → WT x) ∧ w = w := fun x c h => ⟨fun e => absurd e h, rfl⟩
  simp only [spec_WorldDo.f]
  exact Evp.bindv (spec_WorldOk_ev w g.wg) (Evp.ite (fun hw => Evp.bindc (spec_DeedOk_d d) fun b _ => Evp.ite (fun _ => Evp.bindv (spec_l12Copy_ev w g) (Evp.bind (spec_l13Do_d w d g hw hd) fun q hq => Evp.ite (fun _ => Evp.ret ⟨hq, rfl⟩) (fun hn => Evp.bindv (spec_l12Copy_ev w g) (Evp.ret (no _ _ hn))))) (fun _ => Evp.ret (no _ 1 (by decide)))) (fun _ => Evp.ret (no _ 1 (by decide))))
/-- A world that was drawn, and the cursor. -/
def RW (q : World × List Deed × World × l1Cur) : Prop := WT q.2.2.1 ∧ Cu q.2.2.2
theorem spec_l13DrawRun_r (n : Int) (hn : n ≤ 90) (z1 z2 s : World) : ∀ (m i : Nat) (l : List Deed) (w : World) (c : l1Cur), (i : Int) + m = max n i → i ≤ 90 → l.length = i → WT w → Cu c → Evp (fun k => spec_l13DrawRun_w.p29 k l n (i : Int) z1 z2 s w c) RW := by
  intro m
  induction m with
  | zero =>
    intro i l w c hi h90 hl g hc
    refine Evp.succ ?_
    simp only [spec_l13DrawRun_w.p29]
    exact Evp.neg (by omega) (Evp.ret ⟨g, hc⟩)
  | succ m ih =>
    intro i l w c hi h90 hl g hc
    refine Evp.succ ?_
    simp only [spec_l13DrawRun_w.p29]
    rw [wrap_up (i := i) (n := 90) (by omega) (by omega)]
    refine Evp.pos (by omega) (Evp.bind (spec_l13DrawNext_d w g c hc) fun q hq => Evp.pos (one_lim (by omega)) ?_)
    obtain ⟨h1, h2, h3⟩ := hq
    rw [h3]
    refine Evp.bind (spec_WorldDo_d w q.1 g h1) fun r hr => Evp.ite (fun h0 => ih (i + 1) _ _ _ (by omega) (by omega) (by rw [List.length_append, hl]; rfl) (hr.1 h0) h2) (fun _ => ih (i + 1) _ _ _ (by omega) (by omega) (by rw [List.length_append, hl]; rfl) (by rw [hr.2]; exact g) h2)
theorem spec_l13DrawRun_p (x : Int) (hx : 40 ≤ x ∧ x ≤ 90) (z1 z2 : World) (a : Config) (ha : cfgB a = true) (c : l1Cur) (hc : Cu c) : Evp (fun k => spec_l13DrawRun_w.p18 k x z1 z2 a c) RW := by
  refine Evp.succ ?_
  simp only [spec_l13DrawRun_w.p18]
  rw [wrap64_id (by omega) (by omega)]
  exact Evp.bind (spec_WorldNew_d a ha) fun s hs => Evp.bindc (spec_l1Below_d c _ hc) fun b hb => by
    have h1 := hb.1
    have h2 := hb.2.1 (by omega)
    exact spec_l13DrawRun_r b.1 (by omega) z1 z2 s.1 b.1.toNat 0 [] s.1 b.2 (by omega) (by omega) rfl hs hb.2.2.2
theorem spec_l13DrawRun_c (x : Int) (hx : 40 ≤ x ∧ x ≤ 90) (z1 z2 : World) (l : List Int) (hl : l.length ≤ 8) : ∀ (m : Nat) (a : Config) (c : l1Cur), cfgB a = true → a.2.1.toNat = m → Cu c → Evp (fun k => spec_l13DrawRun_w.p15 k x l z1 z2 a c) RW := by
  intro m
  induction m with
  | zero =>
    intro a c ha hm hc
    have := cfgB_len ha
    omega
  | succ m ih =>
    intro a c ha hm hc
    have h := cfgB_len ha
    refine Evp.succ ?_
    simp only [spec_l13DrawRun_w.p15]
    rw [wrap64_id (by omega) (by omega)]
    refine Evp.ite (fun h1 => Evp.bindv (spec_Holds_ev a l (by omega) (by omega)) (Evp.ite (fun _ => spec_l13DrawRun_p x hx z1 z2 a ha c hc) (fun _ => ih _ c ?_ (by show (a.2.1 - 1).toNat = m; omega) hc))) (fun _ => spec_l13DrawRun_p x hx z1 z2 a ha c hc)
    simp only [cfgB, Bool.and_eq_true, inB_true] at ha ⊢
    exact ⟨ha.1, by omega, ha.2.2⟩
theorem spec_l13DrawRun_d (c : l1Cur) (hc : Cu c) (x : Int) (hx : 40 ≤ x ∧ x ≤ 90) : Evp (fun k => spec_l13DrawRun_w.f k c x) RW := by
  simp only [spec_l13DrawRun_w.f]
  refine Evp.bind (spec_l4DrawRight_d c hc) fun q hq => ?_
  obtain ⟨h1, h2, h3, h4, h5, h6⟩ := hq
  have ha : cfgB q.1 = true := by
    simp only [cfgB, Bool.and_eq_true, inB_true, List.all_eq_true, List.mem_range'_1]
    exact ⟨by omega, by omega, fun i hi => by have := h3 _ (getD_mem (d := 0) (show i < q.1.1.length by omega)); omega⟩
  have loop : ∀ (z1 z2 : World) (m i : Nat) (l : List Int), i + m = q.1.1.length → l.length = i → Evp (fun k => spec_l13DrawRun_w.p9 k x l (i : Int) z1 z2 q.1 q.2) RW := by
    intro z1 z2 m
    induction m with
    | zero =>
      intro i l hi hl
      refine Evp.succ ?_
      simp only [spec_l13DrawRun_w.p9]
      exact Evp.neg (by omega) (spec_l13DrawRun_c x hx z1 z2 l (by omega) _ q.1 q.2 ha rfl h6)
    | succ m ih =>
      intro i l hi hl
      refine Evp.succ ?_
      simp only [spec_l13DrawRun_w.p9]
      rw [wrap_up (i := i) (n := q.1.1.length) (by omega) (by omega)]
      exact Evp.pos (by omega) (Evp.pos (one_lim (by omega)) (ih (i + 1) _ (by omega) (by rw [List.length_append, hl]; rfl)))
  exact loop _ _ q.1.1.length 0 [] (Nat.zero_add _) rfl
theorem app_all {α : Type} {P : α → Prop} {l : List α} {x : α} (h : ∀ y ∈ l, P y) (hx : P x) : ∀ y ∈ l ++ [x], P y := fun y hy => (List.mem_append.1 hy).elim (h y) fun h => by rw [List.mem_singleton.1 h]; exact hx
theorem app_len {α : Type} {l : List α} {x : α} {n : Nat} (h : l.length < n) : (l ++ [x]).length ≤ n := by rw [List.length_append]; exact h
theorem spec_l13DrawWorld_d (c : l1Cur) (hc : Cu c) (b : List Int) (hb : b.length ≤ 1048576) : Evp (fun k => spec_l13DrawWorld.f k c b) (fun q => WG q.1 ∧ Cu q.2) := by
  simp only [spec_l13DrawWorld.f]
  refine Evp.bindc (spec_l1Long_d b hb) fun x hx => Evp.bind (spec_l13DrawRun_d c hc x hx) fun q hq => Evp.bindc (spec_l1Below_d _ 40 hq.2) fun t ht => ?_
  have ht := ht.2.2.2
  have hT : WT q.2.2.1 := hq.1
  generalize q.2.2.1 = w at *
  have hc8 := cfgB_len hT.c
  have g := hT.wg
  have e1 := hT.sl
  have e2 := hT.dl
  have e3 := hT.wl
  have e4 := hT.ml
  have e5 := hT.nl
  refine Evp.ite (fun _ => Evp.bind (spec_l4DrawNodes_d _ w.1 ht (by omega)) fun r hr => Evp.ret ⟨{ g with lo := Nat.le_trans hr.1 (by omega) }, hr.2⟩) (fun _ => ?_)
  refine Evp.ite (fun _ => Evp.bind (spec_l6Draw_d _ ht) fun r hr => Evp.pos ⟨by omega, by omega⟩ (Evp.ret ⟨{ g with st := ⟨by rw [List.length_set]; exact g.st.1, fun s hs => (List.mem_or_eq_of_mem_set hs).elim (g.st.2 s) (fun e => e ▸ ⟨hr.1.1.mono (by omega), hr.1.2.1.mono (by omega), hr.1.2.2⟩)⟩ }, hr.2⟩)) (fun _ => ?_)
  refine Evp.ite (fun _ => Evp.bind (spec_l7Draw_d _ w.1 ht (by omega)) fun r hr => Evp.ret ⟨{ g with rt := (hr.1.wg (by omega)).1, rl := (hr.1.wg (by omega)).2.1, re := (hr.1.wg (by omega)).2.2 }, hr.2⟩) (fun _ => ?_)
  refine Evp.ite (fun _ => Evp.bind (spec_l8Draw_d _ w.1 ht (by omega)) fun r hr => Evp.pos (one_lim (by omega)) (Evp.ret ⟨{ g with wl := app_len (by omega), we := app_all g.we (hr.1.wg (by omega)) }, hr.2⟩)) (fun _ => ?_)
  refine Evp.ite (fun _ => Evp.bind (spec_l9Draw_d _ w.1 ht (by omega) (by omega)) fun r hr => Evp.pos (one_lim (by omega)) (Evp.ret ⟨{ g with ml := app_len (by omega), me := app_all g.me (hr.1.mono (by omega) (by omega) (by omega) (by omega)) }, hr.2⟩)) (fun _ => ?_)
  refine Evp.ite (fun _ => Evp.bind (spec_l10DrawReader_d _ ht) fun r hr => Evp.pos ⟨by omega, by omega⟩ (Evp.ret ⟨{ g with dl := by rw [List.length_set]; exact g.dl }, hr.2⟩)) (fun _ => ?_)
  refine Evp.ite (fun _ => Evp.bindc (spec_l1DrawPlace_d _ ht) fun r hr => Evp.pos (one_lim (by omega)) (Evp.ret ⟨{ g with sl := app_len (by omega), se := app_all g.se hr.1 }, hr.2⟩)) (fun _ => ?_)
  refine Evp.ite (fun _ => Evp.ret ⟨{ g with }, ht⟩) (fun _ => ?_)
  exact Evp.ite (fun _ => Evp.bind (spec_l4Draw_d _ ht) fun r hr => Evp.ret ⟨{ g with c := Nat.le_trans hr.1 (by omega) }, hr.2⟩) (fun _ => Evp.ret ⟨g, ht⟩)
theorem spec_l13DrawPlace_d (c : l1Cur) (w : World) (hc : Cu c) : Op (spec_l13DrawPlace.f c w) (fun _ => True) := by
  simp only [spec_l13DrawPlace.f]
  exact Op.ite (fun h => Op.bind (spec_l1Once_d c 4 hc) fun o ho => Op.ite (fun _ => Op.bind (spec_l1DrawPlace_d _ ho) fun p _ => Op.ret trivial) (fun _ => Op.bind (spec_l1Below_d _ _ ho) fun b hb => Op.pos ⟨hb.1, hb.2.1 h⟩ (Op.ret trivial))) (fun _ => Op.bind (spec_l1DrawPlace_d _ hc) fun p _ => Op.ret trivial)
theorem spec_DrawHoldersOf_d (b : List Int) (hb : b.length ≤ 1048576) : Evp (fun k => spec_DrawHoldersOf.f k b) (fun q => WG q.1) := by
  simp only [spec_DrawHoldersOf.f]
  exact Evp.bind (spec_l1New_d b hb) fun c hc => Evp.bind (spec_l13DrawWorld_d c hc b hb) fun w hw => Evp.bindc (spec_l13DrawPlace_d _ _ hw.2) fun p _ => Evp.ret hw.1
theorem spec_DrawSureOf_d (b : List Int) (hb : b.length ≤ 1048576) : Evp (fun k => spec_DrawSureOf.f k b) (fun q => WG q.1) := by
  simp only [spec_DrawSureOf.f]
  exact Evp.bind (spec_l1New_d b hb) fun c hc => Evp.bind (spec_l13DrawWorld_d c hc b hb) fun w hw => Evp.ite (fun h => Evp.bindc (spec_l1Once_d _ 4 hw.2) fun o ho => Evp.ite (fun _ => Evp.bindc (spec_l1Below_d _ 6 ho) fun e _ => Evp.ret hw.1) (fun _ => Evp.bindc (spec_l1Below_d _ _ ho) fun e he => Evp.pos ⟨he.1, he.2.1 h⟩ (Evp.ret hw.1))) (fun _ => Evp.bindc (spec_l1Below_d _ 6 hw.2) fun e _ => Evp.ret hw.1)
theorem holdL_mem {x v : Int} : ∀ {l : List Store} {i : Nat}, v ∈ holdL x i l → ∃ j, j < l.length ∧ v = ((i + j : Nat) : Int) ∧ (getF (l.getD j zSto).1 x).2 = true := by
  intro l
  induction l with
  | nil => intro i h; cases h
  | cons s l ih =>
    intro i h
    rw [holdL_cons] at h
    have nx : v ∈ holdL x (i + 1) l → ∃ j, j < (s :: l).length ∧ v = ((i + j : Nat) : Int) ∧ (getF ((s :: l).getD j zSto).1 x).2 = true := fun h => by
      obtain ⟨j, h1, h2, h3⟩ := ih h
      exact ⟨j + 1, by simp; omega, by omega, by rw [getD_cons_succ']; exact h3⟩
    split at h
    · rename_i hs
      rcases List.mem_cons.1 h with h' | h'
      · exact ⟨0, Nat.zero_lt_succ _, h', hs⟩
      · exact nx h'
    · exact nx h
theorem laws_FnWorlds_e (b : List Int) (hb : b.length ≤ 1048576) (w : World) (x : Int) (g : WG w) : ∀ (m i : Nat), i + m = (holdF w x).length → Ev (fun k => laws_FnWorlds.p19 k b x (worldB w) (holdF w x) (i : Int) w) true := by
  have hlen : (holdF w x).length ≤ 1048576 := by
    have := holdL_len (x := x) (l := w.2.1) (i := 0)
    have := g.st.1
    unfold holdF
    split
    · omega
    · exact Nat.zero_le _
  intro m
  induction m with
  | zero =>
    intro i hi
    obtain ⟨q, e0, gq⟩ := spec_DrawSureOf_d b hb
    have hw := fun y hy => (gq.we y hy).1
    refine Ev.succ ?_
    simp only [laws_FnWorlds.p19]
    refine Ev.neg (by omega) (Ev.bind e0 (Ev.bind (impl_SureOf_ev q.1 q.2 gq.wl hw) (Ev.bind (spec_SureOf_ev q.1 q.2 gq.wl hw) (Ev.pos rfl (Ev.pos sureL_pos ?_)))))
    by_cases h : worldB w = true
    · exact Ev.pos h Ev.ret
    · refine Ev.neg h (Ev.ret.eq ?_)
      unfold holdF
      rw [if_neg h]; rfl
  | succ m ih =>
    intro i hi
    have hlt : i < (holdF w x).length := by omega
    have hm := getD_mem (d := (0 : Int)) hlt
    refine Ev.succ ?_
    simp only [laws_FnWorlds.p19, Int.toNat_natCast]
    rw [wrap_up hlt (by omega)]
    generalize (holdF w x).getD i 0 = v at *
    have hw : worldB w = true := by
      by_cases h : worldB w = true
      · exact h
      · unfold holdF at hlt
        rw [if_neg h] at hlt
        exact absurd hlt (Nat.not_lt_zero _)
    have hm' := hm
    unfold holdF at hm'
    rw [if_pos hw] at hm'
    obtain ⟨j, h1, h2, h3⟩ := holdL_mem hm'
    rw [Nat.zero_add] at h2
    subst h2
    have hat := (worldB_parts hw).1.2.2 j h1
    unfold storeAt at hat
    simp only [Bool.and_eq_true, Bool.or_eq_true, Bool.not_eq_true'] at hat
    have hs := g.st.2 _ (getD_mem (d := zSto) h1)
    have hget := impl_StoreGet_ev (w.2.1.getD j zSto) x hs.1.1 hs.2.1.1 hs.1.at hs.2.1.at
    rw [if_pos hat.1] at hget
    have hF : getF (w.2.1.getD j zSto).1 x = ((getF (w.2.1.getD j zSto).1 x).1, true) := Prod.ext rfl h3
    have hx := (getF_true hF).2
    have hno : w.2.2.1.contains (j : Int) = false := by
      rcases hat.2 with h | h
      · exact h
      · simp only [zeroB, Bool.and_eq_true, decide_eq_true_eq] at h
        rw [List.eq_nil_of_length_eq_zero h.1] at h3
        exact absurd h3 nft
    have hwi := laws_within_ev w.2.2.1 (j : Int) g.lo
    rw [hno] at hwi
    rw [Int.toNat_natCast]
    exact Ev.pos (by omega) (Ev.pos (by omega) (Ev.pos (by omega) (Ev.bind hget (Ev.pos h3 (Ev.pos hx (Ev.pos (by omega) (Ev.bind hwi (Ev.neg nft (ih (i + 1) (by omega))))))))))
theorem pureL (a0 : List Int) (h0 : Gd (.sl (.int .u8)) a0) : ∃ k, laws_FnWorlds.f k a0 = some true := by
  refine Ev.get (v := true) ?_
  simp only [laws_FnWorlds.f, laws_big_is, Option.bind_some]
  by_cases hb : (1048576 : Int) < ((a0.length : Nat) : Int)
  · exact Ev.pos (by simpa using hb) Ev.ret
  refine Ev.neg (by simpa using hb) ?_
  obtain ⟨⟨w, x⟩, e0, g⟩ := spec_DrawHoldersOf_d a0 (by omega)
  have g : WG w := g
  have hlen : (holdF w x).length ≤ 1048576 := by
    have := holdL_len (x := x) (l := w.2.1) (i := 0)
    have := g.st.1
    unfold holdF
    split
    · omega
    · exact Nat.zero_le _
  exact Ev.bind e0 (Ev.bind (impl_WorldOk_ev w g) (Ev.bind (impl_HoldersOf_ev w x g) (Ev.bind (spec_WorldOk_ev w g) (Ev.pos rfl (Ev.bind (spec_HoldersOf_ev w x g) (Ev.bind (laws_sameInts_ev _ hlen) (Ev.pos rfl (laws_FnWorlds_e a0 (by omega) w x g (holdF w x).length 0 (Nat.zero_add _)))))))))

end Go.Proofs.YtngfjichhphjeaaGreat.OmFnWorlds
