-- Written by wip/gen/xprint.py of this repo over the translation's functions. Lean checks it.
import Derived.Test.YtdkdhciogedoiabPFnExactRegOkx0
import Derived.Test.YtdkdhciogedoiabPFnExactRegOkx1
import Derived.Test.YtdkdhciogedoiabPFnExactRegOkx2
namespace Go.Proofs.Ytdkdhciogedoiab.PFnExactRegOk
open Go.RowKit Go.Proofs.YtdkdhciogedoiabW.PrintWords Go.Proofs.YtdkdhciogedoiabW.PrintLast Go.Proofs.YtdkdhciogedoiabW.PrintMore Go.Proofs.YtdkdhciogedoiabW.Sq
attribute [local go_sem] max2_int min2_int max_two min_two max_three min_three max_four min_four   -- for this text's walks alone
set_option linter.unusedVariables false
set_option linter.unusedSimpArgs false

/-! ### spec_RegOk: function 11 -/
mutual
def spec_RegOk.j0 : Nat → Int → Bool → List Int → Int → List (S95) → Int → Option (Bool)
  | 0, _, _, _, _, _, _ => none
  | k + 1, x5, x35, x136000, x136001, x137000, x137001 => if x35 = true then (some false) else (spec_RegOk.l0 k x5 0 x136000 x136001 x137000 x137001)
def spec_RegOk.l0 : Nat → Int → Int → List Int → Int → List (S95) → Int → Option (Bool)
  | 0, _, _, _, _, _, _ => none
  | k + 1, x5, x6, x136000, x136001, x137000, x137001 => if x6 < x5 then (if 0 ≤ x6 then (if x6 < (x137000.length : Int) then ((spec_Holds.f k x136000 x136001 ((rd_T95 x137000 x6).f0)).bind fun t142 => (if t142 = true then ((spec_l1In.f ((rd_T95 x137000 x6).f2) 0 60).bind fun t143 => (if t143 = true then (if ((rd_T95 x137000 x6).f1 = true) then (spec_RegOk.j2 k x5 x6 false x136000 x136001 x137000 x137001 ((rd_T95 x137000 x6).f0) ((rd_T95 x137000 x6).f1) ((rd_T95 x137000 x6).f2)) else (spec_RegOk.j2 k x5 x6 (((rd_T95 x137000 x6).f2) != 0) x136000 x136001 x137000 x137001 ((rd_T95 x137000 x6).f0) ((rd_T95 x137000 x6).f1) ((rd_T95 x137000 x6).f2))) else (spec_RegOk.j2 k x5 x6 true x136000 x136001 x137000 x137001 ((rd_T95 x137000 x6).f0) ((rd_T95 x137000 x6).f1) ((rd_T95 x137000 x6).f2)))) else (spec_RegOk.j2 k x5 x6 true x136000 x136001 x137000 x137001 ((rd_T95 x137000 x6).f0) ((rd_T95 x137000 x6).f1) ((rd_T95 x137000 x6).f2)))) else (none)) else (none)) else (some true)
def spec_RegOk.j2 : Nat → Int → Int → Bool → List Int → Int → List (S95) → Int → List Int → Bool → Int → Option (Bool)
  | 0, _, _, _, _, _, _, _, _, _, _ => none
  | k + 1, x5, x6, x66, x136000, x136001, x137000, x137001, x142000, x142001, x142002 => if x66 = true then (some false) else (if x142001 = true then (if x6 = (wrap64 (x5 - 1)) then (some false) else (if x6 > 0 then (if 0 ≤ (wrap64 (x6 - 1)) then (if (wrap64 (x6 - 1)) < (x137000.length : Int) then (if ((rd_T95 x137000 (wrap64 (x6 - 1))).f1 = true) then (spec_RegOk.l0 k x5 (wrap64 (x6 + 1)) x136000 x136001 x137000 x137001) else (some false)) else (none)) else (none)) else (spec_RegOk.l0 k x5 (wrap64 (x6 + 1)) x136000 x136001 x137000 x137001))) else (spec_RegOk.l0 k x5 (wrap64 (x6 + 1)) x136000 x136001 x137000 x137001))
end
def spec_RegOk.f (k : Nat) (l0_0 : List Int) (a0_1 : Int) (l1_0 : List (S95)) (a1_1 : Int) : Option (Bool) := (spec_ConfigOk.f k l0_0 a0_1).bind fun t137 => (if t137 = true then (if (l1_0.length : Int) > 30 then (spec_RegOk.j0 k (l1_0.length : Int) true l0_0 a0_1 l1_0 a1_1) else (if a1_1 = 0 then (spec_RegOk.j0 k (l1_0.length : Int) false l0_0 a0_1 l1_0 a1_1) else ((spec_PlaceOk.f a1_1).bind fun t138 => (if t138 = true then ((spec_EpochOf.f a1_1).bind fun t139 => (spec_RegOk.j0 k (l1_0.length : Int) (decide (t139 > (l1_0.length : Int))) l0_0 a0_1 l1_0 a1_1)) else (spec_RegOk.j0 k (l1_0.length : Int) true l0_0 a0_1 l1_0 a1_1))))) else (spec_RegOk.j0 k (l1_0.length : Int) true l0_0 a0_1 l1_0 a1_1))
theorem spec_RegOk.mono_l : ∀ k, (∀ y0 y1 y2 y3 y4 y5, LeO (spec_RegOk.j0 k y0 y1 y2 y3 y4 y5) (spec_RegOk.j0 (k + 1) y0 y1 y2 y3 y4 y5)) ∧ (∀ y0 y1 y2 y3 y4 y5, LeO (spec_RegOk.l0 k y0 y1 y2 y3 y4 y5) (spec_RegOk.l0 (k + 1) y0 y1 y2 y3 y4 y5)) ∧ (∀ y0 y1 y2 y3 y4 y5 y6 y7 y8 y9, LeO (spec_RegOk.j2 k y0 y1 y2 y3 y4 y5 y6 y7 y8 y9) (spec_RegOk.j2 (k + 1) y0 y1 y2 y3 y4 y5 y6 y7 y8 y9))
  | 0 => ⟨fun _ _ _ _ _ _ r h => by simp [spec_RegOk.j0] at h, fun _ _ _ _ _ _ r h => by simp [spec_RegOk.l0] at h, fun _ _ _ _ _ _ _ _ _ _ r h => by simp [spec_RegOk.j2] at h⟩
  | k + 1 => by
    obtain ⟨ih0, ih1, ih2⟩ := spec_RegOk.mono_l k
    refine ⟨?_, ?_, ?_⟩
    · intro y0 y1 y2 y3 y4 y5
      unfold spec_RegOk.j0
      repeat' first
      | (with_reducible exact ih0 _ _ _ _ _ _)
      | (with_reducible exact ih1 _ _ _ _ _ _)
      | (with_reducible exact ih2 _ _ _ _ _ _ _ _ _ _)
      | (with_reducible exact spec_ConfigOk.mono _ _ _)
      | (with_reducible exact spec_Holds.mono _ _ _ _)
      | (with_reducible exact LeO.refl _)
      | (with_reducible exact LeO.none _)
      | (with_reducible refine LeO.ite ?_ ?_)
      | (with_reducible refine LeO.bind ?_ (fun _ => ?_))
      | exact ih0 _ _ _ _ _ _
      | exact ih1 _ _ _ _ _ _
      | exact ih2 _ _ _ _ _ _ _ _ _ _
      | exact spec_ConfigOk.mono _ _ _
      | exact spec_Holds.mono _ _ _ _
      | exact LeO.none _
      | refine LeO.ite ?_ ?_
      | refine LeO.bind ?_ (fun _ => ?_)
    · intro y0 y1 y2 y3 y4 y5
      unfold spec_RegOk.l0
      repeat' first
      | (with_reducible exact ih0 _ _ _ _ _ _)
      | (with_reducible exact ih1 _ _ _ _ _ _)
      | (with_reducible exact ih2 _ _ _ _ _ _ _ _ _ _)
      | (with_reducible exact spec_ConfigOk.mono _ _ _)
      | (with_reducible exact spec_Holds.mono _ _ _ _)
      | (with_reducible exact LeO.refl _)
      | (with_reducible exact LeO.none _)
      | (with_reducible refine LeO.ite ?_ ?_)
      | (with_reducible refine LeO.bind ?_ (fun _ => ?_))
      | exact ih0 _ _ _ _ _ _
      | exact ih1 _ _ _ _ _ _
      | exact ih2 _ _ _ _ _ _ _ _ _ _
      | exact spec_ConfigOk.mono _ _ _
      | exact spec_Holds.mono _ _ _ _
      | exact LeO.none _
      | refine LeO.ite ?_ ?_
      | refine LeO.bind ?_ (fun _ => ?_)
    · intro y0 y1 y2 y3 y4 y5 y6 y7 y8 y9
      unfold spec_RegOk.j2
      repeat' first
      | (with_reducible exact ih0 _ _ _ _ _ _)
      | (with_reducible exact ih1 _ _ _ _ _ _)
      | (with_reducible exact ih2 _ _ _ _ _ _ _ _ _ _)
      | (with_reducible exact spec_ConfigOk.mono _ _ _)
      | (with_reducible exact spec_Holds.mono _ _ _ _)
      | (with_reducible exact LeO.refl _)
      | (with_reducible exact LeO.none _)
      | (with_reducible refine LeO.ite ?_ ?_)
      | (with_reducible refine LeO.bind ?_ (fun _ => ?_))
      | exact ih0 _ _ _ _ _ _
      | exact ih1 _ _ _ _ _ _
      | exact ih2 _ _ _ _ _ _ _ _ _ _
      | exact spec_ConfigOk.mono _ _ _
      | exact spec_Holds.mono _ _ _ _
      | exact LeO.none _
      | refine LeO.ite ?_ ?_
      | refine LeO.bind ?_ (fun _ => ?_)
theorem spec_RegOk.mono : ∀ a0 a1 a2 a3 k, LeO (spec_RegOk.f k a0 a1 a2 a3) (spec_RegOk.f (k + 1) a0 a1 a2 a3) := by
  intro a0 a1 a2 a3 k
  obtain ⟨ih0, ih1, ih2⟩ := spec_RegOk.mono_l k
  unfold spec_RegOk.f
  repeat' first
      | (with_reducible exact ih0 _ _ _ _ _ _)
      | (with_reducible exact ih1 _ _ _ _ _ _)
      | (with_reducible exact ih2 _ _ _ _ _ _ _ _ _ _)
      | (with_reducible exact spec_ConfigOk.mono _ _ _)
      | (with_reducible exact spec_Holds.mono _ _ _ _)
      | (with_reducible exact LeO.refl _)
      | (with_reducible exact LeO.none _)
      | (with_reducible refine LeO.ite ?_ ?_)
      | (with_reducible refine LeO.bind ?_ (fun _ => ?_))
      | exact ih0 _ _ _ _ _ _
      | exact ih1 _ _ _ _ _ _
      | exact ih2 _ _ _ _ _ _ _ _ _ _
      | exact spec_ConfigOk.mono _ _ _
      | exact spec_Holds.mono _ _ _ _
      | exact LeO.none _
      | refine LeO.ite ?_ ?_
      | refine LeO.bind ?_ (fun _ => ?_)
set_option maxHeartbeats 8000000 in
set_option maxRecDepth 100000 in
theorem spec_RegOk.calls (k : Nat) (A0_0 : Option Addr) (c0_0 : Nat) (l0_0 : List Int) (a0_1 : Int) (A1_0 : Option Addr) (c1_0 : Nat) (l1_0 : List (S95)) (a1_1 : Int) (r : Bool) (w : World) (hr0_0 : Kd.C (Kd.int .i64) w A0_0 l0_0.length l0_0) (hc0_0 : l0_0.length ≤ c0_0) (hr1_0 : Kd.C k95 w A1_0 l1_0.length l1_0) (hc1_0 : l1_0.length ≤ c1_0) (h : spec_RegOk.f k l0_0 a0_1 l1_0 a1_1 = some r) :
    Calls Try.prog 11 #[.agg #[.slice A0_0 l0_0.length c0_0, .int .i64 a0_1], .agg #[.slice A1_0 l1_0.length c1_0, .int .i64 a1_1]] w fun e w' => e = .returned (.bool r) ∧ Below w.heap.size w w' := by
  have hu31 := Try.underlying31
  have hu35 := Try.underlying35
  have hu95 := Try.underlying95
  have HR0_0 := Aside0.mk hr0_0
  have HC0_0 := Aside0.mk hc0_0
  clear hr0_0 hc0_0
  have HR1_0 := Aside0.mk hr1_0
  have HC1_0 := Aside0.mk hc1_0
  clear hr1_0 hc1_0
  have HB := Aside0.mk (Below.refl w.heap.size w)
  have H : ((spec_ConfigOk.f k l0_0 a0_1).bind fun t137 => (if t137 = true then (if (l1_0.length : Int) > 30 then (spec_RegOk.j0 k (l1_0.length : Int) true l0_0 a0_1 l1_0 a1_1) else (if a1_1 = 0 then (spec_RegOk.j0 k (l1_0.length : Int) false l0_0 a0_1 l1_0 a1_1) else ((spec_PlaceOk.f a1_1).bind fun t138 => (if t138 = true then ((spec_EpochOf.f a1_1).bind fun t139 => (spec_RegOk.j0 k (l1_0.length : Int) (decide (t139 > (l1_0.length : Int))) l0_0 a0_1 l1_0 a1_1)) else (spec_RegOk.j0 k (l1_0.length : Int) true l0_0 a0_1 l1_0 a1_1))))) else (spec_RegOk.j0 k (l1_0.length : Int) true l0_0 a0_1 l1_0 a1_1))) = some r := h
  clear h
  have HC3 := Aside0.mk H
  clear H
  go_enter Try.func11, Try.ntmps11
  go_upto_region 2 with (first | ((with_reducible refine gate_dst (N := 2) rfl ?_); refine box_event ?hg (N := 2) ?hd (cs := #[.slice A0_0 l0_0.length c0_0, .int .i64 a0_1]) (t := 31) ?hr ?_; (case hd => rfl); (case hg => rfl); (case hr => first | (go_simp; done) | (go_simp; rfl)); intro gb135 hg w4 hbox hb; have n0_ := Aside0.mk (below_step (by repeat (first | (with_reducible first | exact HB.out | apply below_alloc | apply pw_below_drewN | apply below_drew1) | exact HB.out)) hb); have n1_ := Aside0.mk (hbox); have n2_ := Aside0.mk ((by rw [hg]; exact (below_size (by repeat (first | (with_reducible first | exact HB.out | apply below_alloc | apply pw_below_drewN | apply below_drew1) | exact HB.out))) : w.heap.size ≤ gb135)); have n3_ := Aside0.mk ((by rw [hg]; exact (below_size (by repeat (first | (with_reducible first | exact HB.out | apply below_alloc | apply pw_below_drewN | apply below_drew1) | exact HB.out))) : w.heap.size ≤ gb135)); clear HB; have HB := n0_; have BK135 := n1_; have GW135 := n2_; have GE135 := n3_; clear n0_ n1_ n2_ n3_; clear hb hbox hg) | ((with_reducible refine gate_dst (N := 3) rfl ?_); refine box_event ?hg (N := 3) ?hd (cs := #[.slice A1_0 l1_0.length c1_0, .int .i64 a1_1]) (t := 35) ?hr ?_; (case hd => rfl); (case hg => rfl); (case hr => first | (go_simp; done) | (go_simp; rfl)); intro gb136 hg w5 hbox hb; have n0_ := Aside0.mk (blk_below (g := gb135) (o := .cells #[.slice A0_0 l0_0.length c0_0, .int .i64 a0_1] 31 (0, 0)) (by (with_reducible repeat (first | refine blk_drewN ?_ _ | refine blk_drew ?_ | refine blk_alloc ?_ _)); exact BK135.out) hb); have n1_ := Aside0.mk (below_step (by repeat (first | (with_reducible first | exact HB.out | apply below_alloc | apply pw_below_drewN | apply below_drew1 | refine below_set ?_ GE135.out) | exact HB.out)) hb); have n2_ := Aside0.mk (hbox); have n3_ := Aside0.mk ((by rw [hg]; exact (below_size (by repeat (first | (with_reducible first | exact HB.out | apply below_alloc | apply pw_below_drewN | apply below_drew1 | refine below_set ?_ GE135.out) | exact HB.out))) : w.heap.size ≤ gb136)); have n4_ := Aside0.mk ((by rw [hg]; exact (below_size (by repeat (first | (with_reducible first | exact HB.out | apply below_alloc | apply pw_below_drewN | apply below_drew1 | refine below_set ?_ GE135.out) | exact HB.out))) : w.heap.size ≤ gb136)); have n5_ := Aside0.mk ((by rw [hg]; exact Nat.ne_of_lt (blk_lt (g := gb135) (o := .cells #[.slice A0_0 l0_0.length c0_0, .int .i64 a0_1] 31 (0, 0)) (by (with_reducible repeat (first | refine blk_drewN ?_ _ | refine blk_drew ?_ | refine blk_alloc ?_ _)); exact BK135.out)) : gb135 ≠ gb136)); have n6_ := Aside0.mk ((by rw [hg]; exact Nat.ne_of_gt (blk_lt (g := gb135) (o := .cells #[.slice A0_0 l0_0.length c0_0, .int .i64 a0_1] 31 (0, 0)) (by (with_reducible repeat (first | refine blk_drewN ?_ _ | refine blk_drew ?_ | refine blk_alloc ?_ _)); exact BK135.out)) : gb136 ≠ gb135)); clear BK135; clear HB; have BK135 := n0_; have HB := n1_; have BK136 := n2_; have GW136 := n3_; have GE136 := n4_; have NB135_136 := n5_; have NB136_135 := n6_; clear n0_ n1_ n2_ n3_ n4_ n5_ n6_; clear hb hbox hg; have hnb6 := NB136_135.out; have hnc6 := NB135_136.out; have hcz7_0 : w5.cell? ⟨gb136, 0, none⟩ = some (.slice A1_0 l1_0.length c1_0) := (blk_cell BK136.out 0).trans rfl; have hcz7_1 : w5.cell? ⟨gb136, 1, none⟩ = some (.int .i64 a1_1) := (blk_cell BK136.out 1).trans rfl; have hfz7_0 := blk_frozen BK136.out 0; have hfz7_1 := blk_frozen BK136.out 1))
  (try simp only [Act.put, List.setIfInBounds_toArray, List.set_cons_zero, List.set_cons_succ])
  go_cut [35] (fun v35 wc => ∃ (kq : Nat) (x35_2 : Bool), v35 = .bool x35_2 ∧ Aside0 (spec_RegOk.j0 kq (l1_0.length : Int) x35_2 l0_0 a0_1 l1_0 a1_1 = some r) ∧ Aside0 (kq ≤ k) ∧ Aside0 (wc.heap[gb135]? = some (.cells #[(.slice A0_0 l0_0.length c0_0), .int .i64 a0_1] 31 (0, 0))) ∧ Aside0 (wc.heap[gb136]? = some (.cells #[(.slice A1_0 l1_0.length c1_0), .int .i64 a1_1] 35 (0, 0))) ∧ Aside0 (Below w.heap.size w wc))
  case first =>
    have H := HC3.out
    clear HC3
    replace H := Option.bind_eq_some_iff.mp H
    obtain ⟨t137, A80, H⟩ := H
    replace H : (if t137 = true then (if (l1_0.length : Int) > 30 then (spec_RegOk.j0 k (l1_0.length : Int) true l0_0 a0_1 l1_0 a1_1) else (if a1_1 = 0 then (spec_RegOk.j0 k (l1_0.length : Int) false l0_0 a0_1 l1_0 a1_1) else ((spec_PlaceOk.f a1_1).bind fun t138 => (if t138 = true then ((spec_EpochOf.f a1_1).bind fun t139 => (spec_RegOk.j0 k (l1_0.length : Int) (decide (t139 > (l1_0.length : Int))) l0_0 a0_1 l1_0 a1_1)) else (spec_RegOk.j0 k (l1_0.length : Int) true l0_0 a0_1 l1_0 a1_1))))) else (spec_RegOk.j0 k (l1_0.length : Int) true l0_0 a0_1 l1_0 a1_1)) = some r := H
    have A8 := Aside0.mk A80
    clear A80
    by_cases c9 : t137 = true
    · subst c9
      have H1 : (if (l1_0.length : Int) > 30 then (spec_RegOk.j0 k (l1_0.length : Int) true l0_0 a0_1 l1_0 a1_1) else (if a1_1 = 0 then (spec_RegOk.j0 k (l1_0.length : Int) false l0_0 a0_1 l1_0 a1_1) else ((spec_PlaceOk.f a1_1).bind fun t138 => (if t138 = true then ((spec_EpochOf.f a1_1).bind fun t139 => (spec_RegOk.j0 k (l1_0.length : Int) (decide (t139 > (l1_0.length : Int))) l0_0 a0_1 l1_0 a1_1)) else (spec_RegOk.j0 k (l1_0.length : Int) true l0_0 a0_1 l1_0 a1_1))))) = some r := by rw [if_pos rfl] at H; exact H
      clear H
      have H := H1
      clear H1
      by_cases c10 : (l1_0.length : Int) > 30
      · rw [if_pos c10] at H
        have c10b0 : decide (30 < (l1_0.length : Int)) = true := decide_eq_true c10
        have c10b1 : decide (30 < l1_0.length) = true := decide_eq_true (by omega)
        clear c10
        (first | rw [c10b0] | (simp only [i64_w, i32_w]; rw [c10b0]) | skip)
        have H' := Aside0.mk H
        clear H
        have hnb11 := NB135_136.out
        have hnc11 := NB136_135.out
        have hcz12_0 : w5.cell? ⟨gb135, 0, none⟩ = some (.slice A0_0 l0_0.length c0_0) := (blk_cell BK135.out 0).trans rfl
        have hcz12_1 : w5.cell? ⟨gb135, 1, none⟩ = some (.int .i64 a0_1) := (blk_cell BK135.out 1).trans rfl
        have hfz12_0 := blk_frozen BK135.out 0
        have hfz12_1 := blk_frozen BK135.out 1
        go_wp2_with (first | ((with_reducible refine gate_callee (f := 51) rfl ?_); refine goesL_ (some 12) rfl rfl Try.func51 (by kernel_rfl) rfl #[.agg #[.slice A0_0 l0_0.length c0_0, .int .i64 a0_1]] rfl (by (try simp only [List.map_toArray, List.map_cons, List.map_nil]); first | done | rfl | (simp only [List.length_drop, List.length_take]; rfl)) ?_; (with_reducible refine (spec_ConfigOk.calls k _ _ l0_0 a0_1 true _ ?side1 ?side2 A8.out).mono ?_); (case side1 => repeat (first | exact (Kd.C_below HR0_0.out HB.out) | (with_reducible refine Kd.C_alloc ?_ _) | (with_reducible refine Kd.C_drewN ?_ _) | (with_reducible refine Kd.C_drew ?_))); (case side2 => exact HC0_0.out); rintro e w13 ⟨rfl, hb⟩; refine ⟨_, rfl, ?_⟩; have n0_ := Aside0.mk (blk_below (g := gb135) (o := .cells #[.slice A0_0 l0_0.length c0_0, .int .i64 a0_1] 31 (0, 0)) (by (with_reducible repeat (first | refine blk_drewN ?_ _ | refine blk_drew ?_ | refine blk_alloc ?_ _)); exact BK135.out) hb); have n1_ := Aside0.mk (blk_below (g := gb136) (o := .cells #[.slice A1_0 l1_0.length c1_0, .int .i64 a1_1] 35 (0, 0)) (by (with_reducible repeat (first | refine blk_drewN ?_ _ | refine blk_drew ?_ | refine blk_alloc ?_ _)); exact BK136.out) hb); have n2_ := Aside0.mk (below_step (by repeat (first | (with_reducible first | exact HB.out | apply below_alloc | apply pw_below_drewN | apply below_drew1 | refine below_set ?_ GE135.out | refine below_set ?_ GE136.out) | exact HB.out)) hb); clear BK135; clear BK136; clear HB; have BK135 := n0_; have BK136 := n1_; have HB := n2_; clear n0_ n1_ n2_; (try clear hb); (try clear hb2); (try clear hk); (try clear hi)))
        go_meet
        case rel => exact ⟨_, (true), (by first | rfl | (simp; done) | (simp [*]; done)), H', ⟨by first | omega | exact Nat.le_refl _⟩, ⟨by (with_reducible repeat (first | refine blk_drewN ?_ _ | refine blk_drew ?_ | refine blk_alloc ?_ _)); exact BK135.out⟩, ⟨by (with_reducible repeat (first | refine blk_drewN ?_ _ | refine blk_drew ?_ | refine blk_alloc ?_ _)); exact BK136.out⟩, ⟨by repeat (first | (with_reducible first | exact HB.out | apply below_alloc | apply pw_below_drewN | apply below_drew1 | refine below_set ?_ GE135.out | refine below_set ?_ GE136.out) | exact HB.out)⟩⟩
      · rw [if_neg c10] at H
        have c10b0 : decide (30 < (l1_0.length : Int)) = false := decide_eq_false c10
        have c10b1 : decide (30 < l1_0.length) = false := decide_eq_false (by omega)
        clear c10
        (first | rw [c10b0] | (simp only [i64_w, i32_w]; rw [c10b0]) | skip)
        by_cases c14 : a1_1 = 0
        · rw [if_pos c14] at H
          have c14b0 : (a1_1 == 0) = true := beq_iff_eq.mpr c14
          have c14b1 : (a1_1 != 0) = false := bne_eq_false_iff_eq.mpr c14
          clear c14
          have H' := Aside0.mk H
          clear H
          have hnb15 := NB135_136.out
          have hnc15 := NB136_135.out
          have hcz16_0 : w5.cell? ⟨gb135, 0, none⟩ = some (.slice A0_0 l0_0.length c0_0) := (blk_cell BK135.out 0).trans rfl
          have hcz16_1 : w5.cell? ⟨gb135, 1, none⟩ = some (.int .i64 a0_1) := (blk_cell BK135.out 1).trans rfl
          have hfz16_0 := blk_frozen BK135.out 0
          have hfz16_1 := blk_frozen BK135.out 1
          go_wp2_with (first | ((with_reducible refine gate_callee (f := 51) rfl ?_); refine goesL_ (some 12) rfl rfl Try.func51 (by kernel_rfl) rfl #[.agg #[.slice A0_0 l0_0.length c0_0, .int .i64 a0_1]] rfl (by (try simp only [List.map_toArray, List.map_cons, List.map_nil]); first | done | rfl | (simp only [List.length_drop, List.length_take]; rfl)) ?_; (with_reducible refine (spec_ConfigOk.calls k _ _ l0_0 a0_1 true _ ?side1 ?side2 A8.out).mono ?_); (case side1 => repeat (first | exact (Kd.C_below HR0_0.out HB.out) | (with_reducible refine Kd.C_alloc ?_ _) | (with_reducible refine Kd.C_drewN ?_ _) | (with_reducible refine Kd.C_drew ?_))); (case side2 => exact HC0_0.out); rintro e w17 ⟨rfl, hb⟩; refine ⟨_, rfl, ?_⟩; have n0_ := Aside0.mk (blk_below (g := gb135) (o := .cells #[.slice A0_0 l0_0.length c0_0, .int .i64 a0_1] 31 (0, 0)) (by (with_reducible repeat (first | refine blk_drewN ?_ _ | refine blk_drew ?_ | refine blk_alloc ?_ _)); exact BK135.out) hb); have n1_ := Aside0.mk (blk_below (g := gb136) (o := .cells #[.slice A1_0 l1_0.length c1_0, .int .i64 a1_1] 35 (0, 0)) (by (with_reducible repeat (first | refine blk_drewN ?_ _ | refine blk_drew ?_ | refine blk_alloc ?_ _)); exact BK136.out) hb); have n2_ := Aside0.mk (below_step (by repeat (first | (with_reducible first | exact HB.out | apply below_alloc | apply pw_below_drewN | apply below_drew1 | refine below_set ?_ GE135.out | refine below_set ?_ GE136.out) | exact HB.out)) hb); clear BK135; clear BK136; clear HB; have BK135 := n0_; have BK136 := n1_; have HB := n2_; clear n0_ n1_ n2_; (try clear hb); (try clear hb2); (try clear hk); (try clear hi); have hcz18_0 : w17.cell? ⟨gb136, 0, none⟩ = some (.slice A1_0 l1_0.length c1_0) := (blk_cell BK136.out 0).trans rfl; have hcz18_1 : w17.cell? ⟨gb136, 1, none⟩ = some (.int .i64 a1_1) := (blk_cell BK136.out 1).trans rfl; have hfz18_0 := blk_frozen BK136.out 0; have hfz18_1 := blk_frozen BK136.out 1))
          go_meet
          case rel => exact ⟨_, (false), (by first | rfl | (simp; done) | (simp [*]; done)), H', ⟨by first | omega | exact Nat.le_refl _⟩, ⟨by (with_reducible repeat (first | refine blk_drewN ?_ _ | refine blk_drew ?_ | refine blk_alloc ?_ _)); exact BK135.out⟩, ⟨by (with_reducible repeat (first | refine blk_drewN ?_ _ | refine blk_drew ?_ | refine blk_alloc ?_ _)); exact BK136.out⟩, ⟨by repeat (first | (with_reducible first | exact HB.out | apply below_alloc | apply pw_below_drewN | apply below_drew1 | refine below_set ?_ GE135.out | refine below_set ?_ GE136.out) | exact HB.out)⟩⟩
        · rw [if_neg c14] at H
          have c14b0 : (a1_1 == 0) = false := beq_eq_false_iff_ne.mpr c14
          have c14b1 : (a1_1 != 0) = true := bne_iff_ne.mpr c14
          replace H := Option.bind_eq_some_iff.mp H
          obtain ⟨t138, A190, H⟩ := H
          replace H : (if t138 = true then ((spec_EpochOf.f a1_1).bind fun t139 => (spec_RegOk.j0 k (l1_0.length : Int) (decide (t139 > (l1_0.length : Int))) l0_0 a0_1 l1_0 a1_1)) else (spec_RegOk.j0 k (l1_0.length : Int) true l0_0 a0_1 l1_0 a1_1)) = some r := H
          have A19 := Aside0.mk A190
          clear A190
          by_cases c20 : t138 = true
          · subst c20
            have H1 : ((spec_EpochOf.f a1_1).bind fun t139 => (spec_RegOk.j0 k (l1_0.length : Int) (decide (t139 > (l1_0.length : Int))) l0_0 a0_1 l1_0 a1_1)) = some r := by rw [if_pos rfl] at H; exact H
            clear H
            have H := H1
            clear H1
            replace H := Option.bind_eq_some_iff.mp H
            obtain ⟨t139, A210, H⟩ := H
            replace H : (spec_RegOk.j0 k (l1_0.length : Int) (decide (t139 > (l1_0.length : Int))) l0_0 a0_1 l1_0 a1_1) = some r := H
            have A21 := Aside0.mk A210
            clear A210
            have H' := Aside0.mk H
            clear H
            have hnb22 := NB135_136.out
            have hnc22 := NB136_135.out
            have hcz23_0 : w5.cell? ⟨gb135, 0, none⟩ = some (.slice A0_0 l0_0.length c0_0) := (blk_cell BK135.out 0).trans rfl
            have hcz23_1 : w5.cell? ⟨gb135, 1, none⟩ = some (.int .i64 a0_1) := (blk_cell BK135.out 1).trans rfl
            have hfz23_0 := blk_frozen BK135.out 0
            have hfz23_1 := blk_frozen BK135.out 1
            go_wp2_with (first | ((with_reducible refine gate_callee (f := 51) rfl ?_); refine goesL_ (some 12) rfl rfl Try.func51 (by kernel_rfl) rfl #[.agg #[.slice A0_0 l0_0.length c0_0, .int .i64 a0_1]] rfl (by (try simp only [List.map_toArray, List.map_cons, List.map_nil]); first | done | rfl | (simp only [List.length_drop, List.length_take]; rfl)) ?_; (with_reducible refine (spec_ConfigOk.calls k _ _ l0_0 a0_1 true _ ?side1 ?side2 A8.out).mono ?_); (case side1 => repeat (first | exact (Kd.C_below HR0_0.out HB.out) | (with_reducible refine Kd.C_alloc ?_ _) | (with_reducible refine Kd.C_drewN ?_ _) | (with_reducible refine Kd.C_drew ?_))); (case side2 => exact HC0_0.out); rintro e w24 ⟨rfl, hb⟩; refine ⟨_, rfl, ?_⟩; have n0_ := Aside0.mk (blk_below (g := gb135) (o := .cells #[.slice A0_0 l0_0.length c0_0, .int .i64 a0_1] 31 (0, 0)) (by (with_reducible repeat (first | refine blk_drewN ?_ _ | refine blk_drew ?_ | refine blk_alloc ?_ _)); exact BK135.out) hb); have n1_ := Aside0.mk (blk_below (g := gb136) (o := .cells #[.slice A1_0 l1_0.length c1_0, .int .i64 a1_1] 35 (0, 0)) (by (with_reducible repeat (first | refine blk_drewN ?_ _ | refine blk_drew ?_ | refine blk_alloc ?_ _)); exact BK136.out) hb); have n2_ := Aside0.mk (below_step (by repeat (first | (with_reducible first | exact HB.out | apply below_alloc | apply pw_below_drewN | apply below_drew1 | refine below_set ?_ GE135.out | refine below_set ?_ GE136.out) | exact HB.out)) hb); clear BK135; clear BK136; clear HB; have BK135 := n0_; have BK136 := n1_; have HB := n2_; clear n0_ n1_ n2_; (try clear hb); (try clear hb2); (try clear hk); (try clear hi); have hcz25_0 : w24.cell? ⟨gb136, 0, none⟩ = some (.slice A1_0 l1_0.length c1_0) := (blk_cell BK136.out 0).trans rfl; have hcz25_1 : w24.cell? ⟨gb136, 1, none⟩ = some (.int .i64 a1_1) := (blk_cell BK136.out 1).trans rfl; have hfz25_0 := blk_frozen BK136.out 0; have hfz25_1 := blk_frozen BK136.out 1) | (go_at_call 52; (with_reducible refine (spec_PlaceOk.calls a1_1 true _ A19.out).mono ?_); rintro e w' ⟨rfl, ⟨nd, rfl⟩⟩) | (go_at_call 53; (with_reducible refine (spec_EpochOf.calls a1_1 t139 _ A21.out).mono ?_); rintro e w' ⟨rfl, ⟨nd, rfl⟩⟩))
            go_meet
            case rel => exact ⟨_, (decide (t139 > (l1_0.length : Int))), (by first | rfl | (simp; done) | (simp [*]; done)), H', ⟨by first | omega | exact Nat.le_refl _⟩, ⟨by (with_reducible repeat (first | refine blk_drewN ?_ _ | refine blk_drew ?_ | refine blk_alloc ?_ _)); exact BK135.out⟩, ⟨by (with_reducible repeat (first | refine blk_drewN ?_ _ | refine blk_drew ?_ | refine blk_alloc ?_ _)); exact BK136.out⟩, ⟨by repeat (first | (with_reducible first | exact HB.out | apply below_alloc | apply pw_below_drewN | apply below_drew1 | refine below_set ?_ GE135.out | refine below_set ?_ GE136.out) | exact HB.out)⟩⟩
          · replace c20 := Bool.eq_false_iff.mpr c20
            subst c20
            have H1 : (spec_RegOk.j0 k (l1_0.length : Int) true l0_0 a0_1 l1_0 a1_1) = some r := by rw [if_neg (show ¬ (false = true) by decide)] at H; exact H
            clear H
            have H := H1
            clear H1
            have H' := Aside0.mk H
            clear H
            have hnb26 := NB135_136.out
            have hnc26 := NB136_135.out
            have hcz27_0 : w5.cell? ⟨gb135, 0, none⟩ = some (.slice A0_0 l0_0.length c0_0) := (blk_cell BK135.out 0).trans rfl
            have hcz27_1 : w5.cell? ⟨gb135, 1, none⟩ = some (.int .i64 a0_1) := (blk_cell BK135.out 1).trans rfl
            have hfz27_0 := blk_frozen BK135.out 0
            have hfz27_1 := blk_frozen BK135.out 1
            go_wp2_with (first | ((with_reducible refine gate_callee (f := 51) rfl ?_); refine goesL_ (some 12) rfl rfl Try.func51 (by kernel_rfl) rfl #[.agg #[.slice A0_0 l0_0.length c0_0, .int .i64 a0_1]] rfl (by (try simp only [List.map_toArray, List.map_cons, List.map_nil]); first | done | rfl | (simp only [List.length_drop, List.length_take]; rfl)) ?_; (with_reducible refine (spec_ConfigOk.calls k _ _ l0_0 a0_1 true _ ?side1 ?side2 A8.out).mono ?_); (case side1 => repeat (first | exact (Kd.C_below HR0_0.out HB.out) | (with_reducible refine Kd.C_alloc ?_ _) | (with_reducible refine Kd.C_drewN ?_ _) | (with_reducible refine Kd.C_drew ?_))); (case side2 => exact HC0_0.out); rintro e w28 ⟨rfl, hb⟩; refine ⟨_, rfl, ?_⟩; have n0_ := Aside0.mk (blk_below (g := gb135) (o := .cells #[.slice A0_0 l0_0.length c0_0, .int .i64 a0_1] 31 (0, 0)) (by (with_reducible repeat (first | refine blk_drewN ?_ _ | refine blk_drew ?_ | refine blk_alloc ?_ _)); exact BK135.out) hb); have n1_ := Aside0.mk (blk_below (g := gb136) (o := .cells #[.slice A1_0 l1_0.length c1_0, .int .i64 a1_1] 35 (0, 0)) (by (with_reducible repeat (first | refine blk_drewN ?_ _ | refine blk_drew ?_ | refine blk_alloc ?_ _)); exact BK136.out) hb); have n2_ := Aside0.mk (below_step (by repeat (first | (with_reducible first | exact HB.out | apply below_alloc | apply pw_below_drewN | apply below_drew1 | refine below_set ?_ GE135.out | refine below_set ?_ GE136.out) | exact HB.out)) hb); clear BK135; clear BK136; clear HB; have BK135 := n0_; have BK136 := n1_; have HB := n2_; clear n0_ n1_ n2_; (try clear hb); (try clear hb2); (try clear hk); (try clear hi); have hcz29_0 : w28.cell? ⟨gb136, 0, none⟩ = some (.slice A1_0 l1_0.length c1_0) := (blk_cell BK136.out 0).trans rfl; have hcz29_1 : w28.cell? ⟨gb136, 1, none⟩ = some (.int .i64 a1_1) := (blk_cell BK136.out 1).trans rfl; have hfz29_0 := blk_frozen BK136.out 0; have hfz29_1 := blk_frozen BK136.out 1) | (go_at_call 52; (with_reducible refine (spec_PlaceOk.calls a1_1 false _ A19.out).mono ?_); rintro e w' ⟨rfl, ⟨nd, rfl⟩⟩))
            go_meet
            case rel => exact ⟨_, (true), (by first | rfl | (simp; done) | (simp [*]; done)), H', ⟨by first | omega | exact Nat.le_refl _⟩, ⟨by (with_reducible repeat (first | refine blk_drewN ?_ _ | refine blk_drew ?_ | refine blk_alloc ?_ _)); exact BK135.out⟩, ⟨by (with_reducible repeat (first | refine blk_drewN ?_ _ | refine blk_drew ?_ | refine blk_alloc ?_ _)); exact BK136.out⟩, ⟨by repeat (first | (with_reducible first | exact HB.out | apply below_alloc | apply pw_below_drewN | apply below_drew1 | refine below_set ?_ GE135.out | refine below_set ?_ GE136.out) | exact HB.out)⟩⟩
    · replace c9 := Bool.eq_false_iff.mpr c9
      subst c9
      have H1 : (spec_RegOk.j0 k (l1_0.length : Int) true l0_0 a0_1 l1_0 a1_1) = some r := by rw [if_neg (show ¬ (false = true) by decide)] at H; exact H
      clear H
      have H := H1
      clear H1
      have H' := Aside0.mk H
      clear H
      have hnb30 := NB135_136.out
      have hnc30 := NB136_135.out
      have hcz31_0 : w5.cell? ⟨gb135, 0, none⟩ = some (.slice A0_0 l0_0.length c0_0) := (blk_cell BK135.out 0).trans rfl
      have hcz31_1 : w5.cell? ⟨gb135, 1, none⟩ = some (.int .i64 a0_1) := (blk_cell BK135.out 1).trans rfl
      have hfz31_0 := blk_frozen BK135.out 0
      have hfz31_1 := blk_frozen BK135.out 1
      go_wp2_with (first | ((with_reducible refine gate_callee (f := 51) rfl ?_); refine goesL_ (some 12) rfl rfl Try.func51 (by kernel_rfl) rfl #[.agg #[.slice A0_0 l0_0.length c0_0, .int .i64 a0_1]] rfl (by (try simp only [List.map_toArray, List.map_cons, List.map_nil]); first | done | rfl | (simp only [List.length_drop, List.length_take]; rfl)) ?_; (with_reducible refine (spec_ConfigOk.calls k _ _ l0_0 a0_1 false _ ?side1 ?side2 A8.out).mono ?_); (case side1 => repeat (first | exact (Kd.C_below HR0_0.out HB.out) | (with_reducible refine Kd.C_alloc ?_ _) | (with_reducible refine Kd.C_drewN ?_ _) | (with_reducible refine Kd.C_drew ?_))); (case side2 => exact HC0_0.out); rintro e w32 ⟨rfl, hb⟩; refine ⟨_, rfl, ?_⟩; have n0_ := Aside0.mk (blk_below (g := gb135) (o := .cells #[.slice A0_0 l0_0.length c0_0, .int .i64 a0_1] 31 (0, 0)) (by (with_reducible repeat (first | refine blk_drewN ?_ _ | refine blk_drew ?_ | refine blk_alloc ?_ _)); exact BK135.out) hb); have n1_ := Aside0.mk (blk_below (g := gb136) (o := .cells #[.slice A1_0 l1_0.length c1_0, .int .i64 a1_1] 35 (0, 0)) (by (with_reducible repeat (first | refine blk_drewN ?_ _ | refine blk_drew ?_ | refine blk_alloc ?_ _)); exact BK136.out) hb); have n2_ := Aside0.mk (below_step (by repeat (first | (with_reducible first | exact HB.out | apply below_alloc | apply pw_below_drewN | apply below_drew1 | refine below_set ?_ GE135.out | refine below_set ?_ GE136.out) | exact HB.out)) hb); clear BK135; clear BK136; clear HB; have BK135 := n0_; have BK136 := n1_; have HB := n2_; clear n0_ n1_ n2_; (try clear hb); (try clear hb2); (try clear hk); (try clear hi)))
      go_meet
      case rel => exact ⟨_, (true), (by first | rfl | (simp; done) | (simp [*]; done)), H', ⟨by first | omega | exact Nat.le_refl _⟩, ⟨by (with_reducible repeat (first | refine blk_drewN ?_ _ | refine blk_drew ?_ | refine blk_alloc ?_ _)); exact BK135.out⟩, ⟨by (with_reducible repeat (first | refine blk_drewN ?_ _ | refine blk_drew ?_ | refine blk_alloc ?_ _)); exact BK136.out⟩, ⟨by repeat (first | (with_reducible first | exact HB.out | apply below_alloc | apply pw_below_drewN | apply below_drew1 | refine below_set ?_ GE135.out | refine below_set ?_ GE136.out) | exact HB.out)⟩⟩
  case rest =>
    clear HC3
    try clear c1
    try clear c2
    try clear p2
    try clear c3
    try clear c5
    try clear c6
    try clear c9
    try clear c10
    try clear c10b0
    try clear c10b1
    try clear c11
    try clear c14
    try clear c14b0
    try clear c14b1
    try clear c15
    try clear c20
    try clear c22
    try clear c26
    try clear c30
    try clear hcz12_0
    try clear hcz12_1
    try clear hcz16_0
    try clear hcz16_1
    try clear hcz18_0
    try clear hcz18_1
    try clear hcz23_0
    try clear hcz23_1
    try clear hcz25_0
    try clear hcz25_1
    try clear hcz27_0
    try clear hcz27_1
    try clear hcz29_0
    try clear hcz29_1
    try clear hcz31_0
    try clear hcz31_1
    try clear hcz7_0
    try clear hcz7_1
    try clear hfz12_0
    try clear hfz12_1
    try clear hfz16_0
    try clear hfz16_1
    try clear hfz18_0
    try clear hfz18_1
    try clear hfz23_0
    try clear hfz23_1
    try clear hfz25_0
    try clear hfz25_1
    try clear hfz27_0
    try clear hfz27_1
    try clear hfz29_0
    try clear hfz29_1
    try clear hfz31_0
    try clear hfz31_1
    try clear hfz7_0
    try clear hfz7_1
    obtain ⟨kq, x35_2, rfl, HA, HJ2, BK135, BK136, HB⟩ := hcut
    cases kq with
    | zero => exact absurd HA.out (by simp [spec_RegOk.j0])
    | succ kj2 =>
      have H := HA.out
      clear HA
      simp only [spec_RegOk.j0] at H
      by_cases c33 : x35_2 = true
      · subst c33
        have H1 : (some false) = some r := by rw [if_pos rfl] at H; exact H
        clear H
        have H := H1
        clear H1
        obtain rfl := Option.some.inj H
        go_wp2
        go_ret
        exact ⟨by first | rfl | (simp [errW_none, errW_some] <;> rfl) | (simp [*, errW_none, errW_some] <;> rfl), by repeat (first | (with_reducible first | exact HB.out | apply below_alloc | apply pw_below_drewN | apply below_drew1 | refine below_set ?_ GE135.out | refine below_set ?_ GE136.out) | exact HB.out)⟩
      · replace c33 := Bool.eq_false_iff.mpr c33
        subst c33
        have H1 : (spec_RegOk.l0 kj2 (l1_0.length : Int) 0 l0_0 a0_1 l1_0 a1_1) = some r := by rw [if_neg (show ¬ (false = true) by decide)] at H; exact H
        clear H
        have H := H1
        clear H1
        have H' := Aside0.mk H
        clear H
        go_wp2
        go_loopg [6] kj2 (fun kq v6 w' => ∃ (x6_2 : Int), v6 = .int .i64 x6_2 ∧ Aside0 (spec_RegOk.l0 kq (l1_0.length : Int) x6_2 l0_0 a0_1 l1_0 a1_1 = some r) ∧ Aside0 (kq ≤ kj2) ∧ Aside0 (w'.heap[gb135]? = some (.cells #[(.slice A0_0 l0_0.length c0_0), .int .i64 a0_1] 31 (0, 0))) ∧ Aside0 (w'.heap[gb136]? = some (.cells #[(.slice A1_0 l1_0.length c1_0), .int .i64 a1_1] 35 (0, 0))) ∧ Aside0 (Below w.heap.size w w'))
        case atStart => exact ⟨(0), (by first | rfl | (simp; done) | (simp [*]; done)), H', ⟨Nat.le_refl _⟩, ⟨by (with_reducible repeat (first | refine blk_drewN ?_ _ | refine blk_drew ?_ | refine blk_alloc ?_ _)); exact BK135.out⟩, ⟨by (with_reducible repeat (first | refine blk_drewN ?_ _ | refine blk_drew ?_ | refine blk_alloc ?_ _)); exact BK136.out⟩, ⟨by repeat (first | (with_reducible first | exact HB.out | apply below_alloc | apply pw_below_drewN | apply below_drew1 | refine below_set ?_ GE135.out | refine below_set ?_ GE136.out) | exact HB.out)⟩⟩
        case round =>
          clear H'
          try clear c1
          try clear c2
          try clear p2
          try clear c3
          try clear c5
          try clear c6
          try clear c9
          try clear c10
          try clear c10b0
          try clear c10b1
          try clear c11
          try clear c14
          try clear c14b0
          try clear c14b1
          try clear c15
          try clear c20
          try clear c22
          try clear c26
          try clear c30
          try clear c33
          try clear hcz12_0
          try clear hcz12_1
          try clear hcz16_0
          try clear hcz16_1
          try clear hcz18_0
          try clear hcz18_1
          try clear hcz23_0
          try clear hcz23_1
          try clear hcz25_0
          try clear hcz25_1
          try clear hcz27_0
          try clear hcz27_1
          try clear hcz29_0
          try clear hcz29_1
          try clear hcz31_0
          try clear hcz31_1
          try clear hcz7_0
          try clear hcz7_1
          try clear hfz12_0
          try clear hfz12_1
          try clear hfz16_0
          try clear hfz16_1
          try clear hfz18_0
          try clear hfz18_1
          try clear hfz23_0
          try clear hfz23_1
          try clear hfz25_0
          try clear hfz25_1
          try clear hfz27_0
          try clear hfz27_1
          try clear hfz29_0
          try clear hfz29_1
          try clear hfz31_0
          try clear hfz31_1
          try clear hfz7_0
          try clear hfz7_1
          try clear p2
          obtain ⟨x6_2, rfl, HA, HK2, BK135, BK136, HB⟩ := hrel
          cases gk with
          | zero => exact absurd HA.out (by simp [spec_RegOk.l0])
          | succ k2 =>
            have H := HA.out
            clear HA
            simp only [spec_RegOk.l0] at H
            by_cases c34 : x6_2 < (l1_0.length : Int)
            · rw [if_pos c34] at H
              have c34b0 : decide (x6_2 < (l1_0.length : Int)) = true := decide_eq_true c34
              clear c34
              by_cases c35 : 0 ≤ x6_2
              · rw [if_pos c35] at H
                have c35b0 : decide (0 ≤ x6_2) = true := decide_eq_true c35
                clear c35
                by_cases c36 : x6_2 < (l1_0.length : Int)
                · rw [if_pos c36] at H
                  have c36b0 : decide (x6_2 < (l1_0.length : Int)) = true := decide_eq_true c36
                  clear c36
                  have HC37 := Aside0.mk H
                  clear H
                  have hnb38 := NB136_135.out
                  have hnc38 := NB135_136.out
                  have hcz39_0 : wr.cell? ⟨gb136, 0, none⟩ = some (.slice A1_0 l1_0.length c1_0) := (blk_cell BK136.out 0).trans rfl
                  have hcz39_1 : wr.cell? ⟨gb136, 1, none⟩ = some (.int .i64 a1_1) := (blk_cell BK136.out 1).trans rfl
                  have hfz39_0 := blk_frozen BK136.out 0
                  have hfz39_1 := blk_frozen BK136.out 1
                  have p140 : 0 ≤ (x6_2 : Int) := of_decide_eq_true (by first | (with_reducible assumption) | assumption)
                  have q140 : x6_2 < (l1_0.length : Int) := of_decide_eq_true (by first | (with_reducible assumption) | assumption)
                  obtain ⟨ad140, A140_0, c140_0, e140, hx140_0, hx140_1, hx140_2, hl140_0, hi140_0⟩ := at_T95 HR1_0.out x6_2 p140 q140
                  cases e140
                  replace hx140_0 := (HB.out.cell (World.block_lt_of_cell? w _ hx140_0)).trans hx140_0
                  replace hx140_1 := (HB.out.cell (World.block_lt_of_cell? w _ hx140_1)).trans hx140_1
                  replace hx140_2 := (HB.out.cell (World.block_lt_of_cell? w _ hx140_2)).trans hx140_2
                  have HR140_0 := Aside0.mk hi140_0
                  have HC140_0 := Aside0.mk hl140_0
                  clear hi140_0 hl140_0
                  replace p140 := eq_true p140
                  replace q140 := eq_true q140
                  go_upto_region 8 with (first | ((with_reducible refine gate_dst (N := 7) rfl ?_); refine box_event ?hg (N := 7) ?hd (cs := #[.slice none 0 0, .bool false, .int .i64 0]) (t := 95) ?hr ?_; (case hd => rfl); (case hg => rfl); (case hr => first | (go_simp; done) | (go_simp; rfl)); intro gb141 hg w40 hbox hb; have n0_ := Aside0.mk (blk_below (g := gb135) (o := .cells #[.slice A0_0 l0_0.length c0_0, .int .i64 a0_1] 31 (0, 0)) (by (with_reducible repeat (first | refine blk_drewN ?_ _ | refine blk_drew ?_ | refine blk_alloc ?_ _)); exact BK135.out) hb); have n1_ := Aside0.mk (blk_below (g := gb136) (o := .cells #[.slice (some ad140) l1_0.length c1_0, .int .i64 a1_1] 35 (0, 0)) (by (with_reducible repeat (first | refine blk_drewN ?_ _ | refine blk_drew ?_ | refine blk_alloc ?_ _)); exact BK136.out) hb); have n2_ := Aside0.mk (below_step (by repeat (first | (with_reducible first | exact HB.out | apply below_alloc | apply pw_below_drewN | apply below_drew1 | refine below_set ?_ GE135.out | refine below_set ?_ GE136.out) | exact HB.out)) hb); have n3_ := Aside0.mk (hbox); have n4_ := Aside0.mk ((by rw [hg]; exact (below_size (by repeat (first | (with_reducible first | exact HB.out | apply below_alloc | apply pw_below_drewN | apply below_drew1 | refine below_set ?_ GE135.out | refine below_set ?_ GE136.out) | exact HB.out))) : w.heap.size ≤ gb141)); have n5_ := Aside0.mk ((by rw [hg]; exact (below_size (by repeat (first | (with_reducible first | exact HB.out | apply below_alloc | apply pw_below_drewN | apply below_drew1 | refine below_set ?_ GE135.out | refine below_set ?_ GE136.out) | exact HB.out))) : w.heap.size ≤ gb141)); have n6_ := Aside0.mk ((by rw [hg]; exact Nat.ne_of_lt (blk_lt (g := gb135) (o := .cells #[.slice A0_0 l0_0.length c0_0, .int .i64 a0_1] 31 (0, 0)) (by (with_reducible repeat (first | refine blk_drewN ?_ _ | refine blk_drew ?_ | refine blk_alloc ?_ _)); exact BK135.out)) : gb135 ≠ gb141)); have n7_ := Aside0.mk ((by rw [hg]; exact Nat.ne_of_gt (blk_lt (g := gb135) (o := .cells #[.slice A0_0 l0_0.length c0_0, .int .i64 a0_1] 31 (0, 0)) (by (with_reducible repeat (first | refine blk_drewN ?_ _ | refine blk_drew ?_ | refine blk_alloc ?_ _)); exact BK135.out)) : gb141 ≠ gb135)); have n8_ := Aside0.mk ((by rw [hg]; exact Nat.ne_of_lt (blk_lt (g := gb136) (o := .cells #[.slice (some ad140) l1_0.length c1_0, .int .i64 a1_1] 35 (0, 0)) (by (with_reducible repeat (first | refine blk_drewN ?_ _ | refine blk_drew ?_ | refine blk_alloc ?_ _)); exact BK136.out)) : gb136 ≠ gb141)); have n9_ := Aside0.mk ((by rw [hg]; exact Nat.ne_of_gt (blk_lt (g := gb136) (o := .cells #[.slice (some ad140) l1_0.length c1_0, .int .i64 a1_1] 35 (0, 0)) (by (with_reducible repeat (first | refine blk_drewN ?_ _ | refine blk_drew ?_ | refine blk_alloc ?_ _)); exact BK136.out)) : gb141 ≠ gb136)); clear BK135; clear BK136; clear HB; have BK135 := n0_; have BK136 := n1_; have HB := n2_; have BK141 := n3_; have GW141 := n4_; have GE141 := n5_; have NB135_141 := n6_; have NB141_135 := n7_; have NB136_141 := n8_; have NB141_136 := n9_; clear n0_ n1_ n2_ n3_ n4_ n5_ n6_ n7_ n8_ n9_; clear hb hbox hg; have hnb41 := NB141_135.out; have hnc41 := NB135_141.out; have hnb42 := NB141_136.out; have hnc42 := NB136_141.out; have hcz43_0 : w40.cell? ⟨gb141, 0, none⟩ = some (.slice none 0 0) := (blk_cell BK141.out 0).trans rfl; have hcz43_1 : w40.cell? ⟨gb141, 1, none⟩ = some (.bool false) := (blk_cell BK141.out 1).trans rfl; have hcz43_2 : w40.cell? ⟨gb141, 2, none⟩ = some (.int .i64 0) := (blk_cell BK141.out 2).trans rfl; have hfz43_0 := blk_frozen BK141.out 0; have hfz43_1 := blk_frozen BK141.out 1; have hfz43_2 := blk_frozen BK141.out 2))
                  (try simp only [Act.put, List.setIfInBounds_toArray, List.set_cons_zero, List.set_cons_succ])
                  go_cut [66] (fun v66 wc => ∃ (kq : Nat) (x66_36 : Bool), v66 = .bool x66_36 ∧ Aside0 (spec_RegOk.j2 kq (l1_0.length : Int) x6_2 x66_36 l0_0 a0_1 l1_0 a1_1 ((rd_T95 l1_0 x6_2).f0) ((rd_T95 l1_0 x6_2).f1) ((rd_T95 l1_0 x6_2).f2) = some r) ∧ Aside0 (kq ≤ k2) ∧ Aside0 (wc.heap[gb135]? = some (.cells #[(.slice A0_0 l0_0.length c0_0), .int .i64 a0_1] 31 (0, 0))) ∧ Aside0 (wc.heap[gb136]? = some (.cells #[(.slice (some ad140) l1_0.length c1_0), .int .i64 a1_1] 35 (0, 0))) ∧ Aside0 (wc.heap[gb141]? = some (.cells #[(.slice A140_0 ((rd_T95 l1_0 x6_2).f0).length c140_0), .bool ((rd_T95 l1_0 x6_2).f1), .int .i64 ((rd_T95 l1_0 x6_2).f2)] 95 (0, 0))) ∧ Aside0 (Below w.heap.size w wc))
                  case first =>
                    have H := HC37.out
                    clear HC37
                    replace H := Option.bind_eq_some_iff.mp H
                    obtain ⟨t142, A440, H⟩ := H
                    replace H : (if t142 = true then ((spec_l1In.f ((rd_T95 l1_0 x6_2).f2) 0 60).bind fun t143 => (if t143 = true then (if ((rd_T95 l1_0 x6_2).f1 = true) then (spec_RegOk.j2 k2 (l1_0.length : Int) x6_2 false l0_0 a0_1 l1_0 a1_1 ((rd_T95 l1_0 x6_2).f0) ((rd_T95 l1_0 x6_2).f1) ((rd_T95 l1_0 x6_2).f2)) else (spec_RegOk.j2 k2 (l1_0.length : Int) x6_2 (((rd_T95 l1_0 x6_2).f2) != 0) l0_0 a0_1 l1_0 a1_1 ((rd_T95 l1_0 x6_2).f0) ((rd_T95 l1_0 x6_2).f1) ((rd_T95 l1_0 x6_2).f2))) else (spec_RegOk.j2 k2 (l1_0.length : Int) x6_2 true l0_0 a0_1 l1_0 a1_1 ((rd_T95 l1_0 x6_2).f0) ((rd_T95 l1_0 x6_2).f1) ((rd_T95 l1_0 x6_2).f2)))) else (spec_RegOk.j2 k2 (l1_0.length : Int) x6_2 true l0_0 a0_1 l1_0 a1_1 ((rd_T95 l1_0 x6_2).f0) ((rd_T95 l1_0 x6_2).f1) ((rd_T95 l1_0 x6_2).f2))) = some r := H
                    have A44 := Aside0.mk A440
                    clear A440
                    by_cases c45 : t142 = true
                    · subst c45
                      have H1 : ((spec_l1In.f ((rd_T95 l1_0 x6_2).f2) 0 60).bind fun t143 => (if t143 = true then (if ((rd_T95 l1_0 x6_2).f1 = true) then (spec_RegOk.j2 k2 (l1_0.length : Int) x6_2 false l0_0 a0_1 l1_0 a1_1 ((rd_T95 l1_0 x6_2).f0) ((rd_T95 l1_0 x6_2).f1) ((rd_T95 l1_0 x6_2).f2)) else (spec_RegOk.j2 k2 (l1_0.length : Int) x6_2 (((rd_T95 l1_0 x6_2).f2) != 0) l0_0 a0_1 l1_0 a1_1 ((rd_T95 l1_0 x6_2).f0) ((rd_T95 l1_0 x6_2).f1) ((rd_T95 l1_0 x6_2).f2))) else (spec_RegOk.j2 k2 (l1_0.length : Int) x6_2 true l0_0 a0_1 l1_0 a1_1 ((rd_T95 l1_0 x6_2).f0) ((rd_T95 l1_0 x6_2).f1) ((rd_T95 l1_0 x6_2).f2)))) = some r := by rw [if_pos rfl] at H; exact H
                      clear H
                      have H := H1
                      clear H1
                      replace H := Option.bind_eq_some_iff.mp H
                      obtain ⟨t143, A460, H⟩ := H
                      replace H : (if t143 = true then (if ((rd_T95 l1_0 x6_2).f1 = true) then (spec_RegOk.j2 k2 (l1_0.length : Int) x6_2 false l0_0 a0_1 l1_0 a1_1 ((rd_T95 l1_0 x6_2).f0) ((rd_T95 l1_0 x6_2).f1) ((rd_T95 l1_0 x6_2).f2)) else (spec_RegOk.j2 k2 (l1_0.length : Int) x6_2 (((rd_T95 l1_0 x6_2).f2) != 0) l0_0 a0_1 l1_0 a1_1 ((rd_T95 l1_0 x6_2).f0) ((rd_T95 l1_0 x6_2).f1) ((rd_T95 l1_0 x6_2).f2))) else (spec_RegOk.j2 k2 (l1_0.length : Int) x6_2 true l0_0 a0_1 l1_0 a1_1 ((rd_T95 l1_0 x6_2).f0) ((rd_T95 l1_0 x6_2).f1) ((rd_T95 l1_0 x6_2).f2))) = some r := H
                      have A46 := Aside0.mk A460
                      clear A460
                      by_cases c47 : t143 = true
                      · subst c47
                        have H1 : (if ((rd_T95 l1_0 x6_2).f1 = true) then (spec_RegOk.j2 k2 (l1_0.length : Int) x6_2 false l0_0 a0_1 l1_0 a1_1 ((rd_T95 l1_0 x6_2).f0) ((rd_T95 l1_0 x6_2).f1) ((rd_T95 l1_0 x6_2).f2)) else (spec_RegOk.j2 k2 (l1_0.length : Int) x6_2 (((rd_T95 l1_0 x6_2).f2) != 0) l0_0 a0_1 l1_0 a1_1 ((rd_T95 l1_0 x6_2).f0) ((rd_T95 l1_0 x6_2).f1) ((rd_T95 l1_0 x6_2).f2))) = some r := by rw [if_pos rfl] at H; exact H
                        clear H
                        have H := H1
                        clear H1
                        obtain ⟨bq48, hbq48⟩ : ∃ b_ : Bool, b_ = ((rd_T95 l1_0 x6_2).f1) := ⟨_, rfl⟩
                        replace H : (if (bq48 = true) then (spec_RegOk.j2 k2 (l1_0.length : Int) x6_2 false l0_0 a0_1 l1_0 a1_1 ((rd_T95 l1_0 x6_2).f0) bq48 ((rd_T95 l1_0 x6_2).f2)) else (spec_RegOk.j2 k2 (l1_0.length : Int) x6_2 (((rd_T95 l1_0 x6_2).f2) != 0) l0_0 a0_1 l1_0 a1_1 ((rd_T95 l1_0 x6_2).f0) bq48 ((rd_T95 l1_0 x6_2).f2))) = some r := by rw [← hbq48] at H; exact H
                        have Nbq48 := Aside0.mk hbq48
                        clear hbq48
                        (try rw [← Nbq48.out])
                        by_cases c49 : (bq48 = true)
                        · subst c49
                          have H1 : (spec_RegOk.j2 k2 (l1_0.length : Int) x6_2 false l0_0 a0_1 l1_0 a1_1 ((rd_T95 l1_0 x6_2).f0) true ((rd_T95 l1_0 x6_2).f2)) = some r := by rw [if_pos rfl] at H; exact H
                          clear H
                          have H := H1
                          clear H1
                          have H' := Aside0.mk H
                          clear H
                          have hnb50 := NB135_136.out
                          have hnc50 := NB136_135.out
                          have hnb51 := NB135_141.out
                          have hnc51 := NB141_135.out
                          have hcz52_0 : w40.cell? ⟨gb135, 0, none⟩ = some (.slice A0_0 l0_0.length c0_0) := (blk_cell BK135.out 0).trans rfl
                          have hcz52_1 : w40.cell? ⟨gb135, 1, none⟩ = some (.int .i64 a0_1) := (blk_cell BK135.out 1).trans rfl
                          have hfz52_0 := blk_frozen BK135.out 0
                          have hfz52_1 := blk_frozen BK135.out 1
                          have hnb53 := NB141_136.out
                          have hnc53 := NB136_141.out
                          have hcz54_0 : w40.cell? ⟨gb141, 0, none⟩ = some (.slice none 0 0) := (blk_cell BK141.out 0).trans rfl
                          have hcz54_1 : w40.cell? ⟨gb141, 1, none⟩ = some (.bool false) := (blk_cell BK141.out 1).trans rfl
                          have hcz54_2 : w40.cell? ⟨gb141, 2, none⟩ = some (.int .i64 0) := (blk_cell BK141.out 2).trans rfl
                          have hfz54_0 := blk_frozen BK141.out 0
                          have hfz54_1 := blk_frozen BK141.out 1
                          have hfz54_2 := blk_frozen BK141.out 2
                          go_wp2_with (first | ((with_reducible refine gate_callee (f := 54) rfl ?_); refine goesL_ (some 49) rfl rfl Try.func54 (by kernel_rfl) rfl #[.agg #[.slice A0_0 l0_0.length c0_0, .int .i64 a0_1], .slice A140_0 ((rd_T95 l1_0 x6_2).f0).length c140_0] rfl (by (try simp only [List.map_toArray, List.map_cons, List.map_nil]); first | done | rfl | (simp only [List.length_drop, List.length_take]; rfl)) ?_; (with_reducible refine (spec_Holds.calls k2 _ _ l0_0 a0_1 _ _ ((rd_T95 l1_0 x6_2).f0) true _ ?side1 ?side2 ?side3 ?side4 (by first | exact A44.out | (have h_ := A44.out; simp only [← Nbq48.out] at h_; exact h_))).mono ?_); (case side1 => exact Kd.C_below HR0_0.out (by repeat (first | (with_reducible first | exact HB.out | apply below_alloc | apply pw_below_drewN | apply below_drew1 | refine below_set ?_ GE135.out | refine below_set ?_ GE136.out | refine below_set ?_ GE141.out) | exact HB.out))); (case side2 => exact HC0_0.out); (case side3 => exact Kd.C_below HR140_0.out (by repeat (first | (with_reducible first | exact HB.out | apply below_alloc | apply pw_below_drewN | apply below_drew1 | refine below_set ?_ GE135.out | refine below_set ?_ GE136.out | refine below_set ?_ GE141.out) | exact HB.out))); (case side4 => exact HC140_0.out); rintro e w55 ⟨rfl, hb⟩; refine ⟨_, rfl, ?_⟩; have n0_ := Aside0.mk (blk_below (g := gb135) (o := .cells #[.slice A0_0 l0_0.length c0_0, .int .i64 a0_1] 31 (0, 0)) (by (with_reducible repeat (first | refine blk_drewN ?_ _ | refine blk_drew ?_ | refine blk_alloc ?_ _)); refine blk_far ?_ NB135_141.out _; (with_reducible repeat (first | refine blk_drewN ?_ _ | refine blk_drew ?_ | refine blk_alloc ?_ _)); refine blk_far ?_ NB135_141.out _; (with_reducible repeat (first | refine blk_drewN ?_ _ | refine blk_drew ?_ | refine blk_alloc ?_ _)); refine blk_far ?_ NB135_141.out _; (with_reducible repeat (first | refine blk_drewN ?_ _ | refine blk_drew ?_ | refine blk_alloc ?_ _)); exact BK135.out) hb); have n1_ := Aside0.mk (blk_below (g := gb136) (o := .cells #[.slice (some ad140) l1_0.length c1_0, .int .i64 a1_1] 35 (0, 0)) (by (with_reducible repeat (first | refine blk_drewN ?_ _ | refine blk_drew ?_ | refine blk_alloc ?_ _)); refine blk_far ?_ NB136_141.out _; (with_reducible repeat (first | refine blk_drewN ?_ _ | refine blk_drew ?_ | refine blk_alloc ?_ _)); refine blk_far ?_ NB136_141.out _; (with_reducible repeat (first | refine blk_drewN ?_ _ | refine blk_drew ?_ | refine blk_alloc ?_ _)); refine blk_far ?_ NB136_141.out _; (with_reducible repeat (first | refine blk_drewN ?_ _ | refine blk_drew ?_ | refine blk_alloc ?_ _)); exact BK136.out) hb); have n2_ := Aside0.mk (blk_below (g := gb141) (o := .cells #[.slice A140_0 ((rd_T95 l1_0 x6_2).f0).length c140_0, .bool true, .int .i64 ((rd_T95 l1_0 x6_2).f2)] 95 (0, 0)) (by (with_reducible repeat (first | refine blk_drewN ?_ _ | refine blk_drew ?_ | refine blk_alloc ?_ _)); refine blk_put (cs := #[.slice A140_0 ((rd_T95 l1_0 x6_2).f0).length c140_0, .bool (true), .int .i64 0]) ?_ 2 _ rfl; (with_reducible repeat (first | refine blk_drewN ?_ _ | refine blk_drew ?_ | refine blk_alloc ?_ _)); refine blk_put (cs := #[.slice A140_0 ((rd_T95 l1_0 x6_2).f0).length c140_0, .bool false, .int .i64 0]) ?_ 1 _ rfl; (with_reducible repeat (first | refine blk_drewN ?_ _ | refine blk_drew ?_ | refine blk_alloc ?_ _)); refine blk_put (cs := #[.slice none 0 0, .bool false, .int .i64 0]) ?_ 0 _ rfl; (with_reducible repeat (first | refine blk_drewN ?_ _ | refine blk_drew ?_ | refine blk_alloc ?_ _)); exact BK141.out) hb); have n3_ := Aside0.mk (below_step (by repeat (first | (with_reducible first | exact HB.out | apply below_alloc | apply pw_below_drewN | apply below_drew1 | refine below_set ?_ GE135.out | refine below_set ?_ GE136.out | refine below_set ?_ GE141.out) | exact HB.out)) hb); clear BK135; clear BK136; clear BK141; clear HB; have BK135 := n0_; have BK136 := n1_; have BK141 := n2_; have HB := n3_; clear n0_ n1_ n2_ n3_; (try clear hb); (try clear hb2); (try clear hk); (try clear hi); have hcz56_0 : w55.cell? ⟨gb141, 0, none⟩ = some (.slice A140_0 ((rd_T95 l1_0 x6_2).f0).length c140_0) := (blk_cell BK141.out 0).trans rfl; have hcz56_1 : w55.cell? ⟨gb141, 1, none⟩ = some (.bool true) := (blk_cell BK141.out 1).trans rfl; have hcz56_2 : w55.cell? ⟨gb141, 2, none⟩ = some (.int .i64 ((rd_T95 l1_0 x6_2).f2)) := (blk_cell BK141.out 2).trans rfl; have hfz56_0 := blk_frozen BK141.out 0; have hfz56_1 := blk_frozen BK141.out 1; have hfz56_2 := blk_frozen BK141.out 2) | (go_at_call 55; (with_reducible refine (spec_l1In.calls ((rd_T95 l1_0 x6_2).f2) 0 60 true _ (by first | exact A46.out | (have h_ := A46.out; simp only [← Nbq48.out] at h_; exact h_))).mono ?_); rintro e w' ⟨rfl, ⟨nd, rfl⟩⟩))
                          go_meet
                          case rel => first | exact ⟨_, (false), (by first | rfl | (simp; done) | (simp [*]; done)), H', ⟨by have := HJ2.out; have := HK2.out; first | omega | exact Nat.le_refl _⟩, ⟨by (with_reducible repeat (first | refine blk_drewN ?_ _ | refine blk_drew ?_ | refine blk_alloc ?_ _)); exact BK135.out⟩, ⟨by (with_reducible repeat (first | refine blk_drewN ?_ _ | refine blk_drew ?_ | refine blk_alloc ?_ _)); exact BK136.out⟩, ⟨by (with_reducible repeat (first | refine blk_drewN ?_ _ | refine blk_drew ?_ | refine blk_alloc ?_ _)); exact BK141.out⟩, ⟨by repeat (first | (with_reducible first | exact HB.out | apply below_alloc | apply pw_below_drewN | apply below_drew1 | refine below_set ?_ GE135.out | refine below_set ?_ GE136.out | refine below_set ?_ GE141.out) | exact HB.out)⟩⟩ | (simp only [← Nbq48.out]; exact ⟨_, (false), (by first | rfl | (simp; done) | (simp [*]; done)), H', ⟨by have := HJ2.out; have := HK2.out; first | omega | exact Nat.le_refl _⟩, ⟨by (with_reducible repeat (first | refine blk_drewN ?_ _ | refine blk_drew ?_ | refine blk_alloc ?_ _)); exact BK135.out⟩, ⟨by (with_reducible repeat (first | refine blk_drewN ?_ _ | refine blk_drew ?_ | refine blk_alloc ?_ _)); exact BK136.out⟩, ⟨by (with_reducible repeat (first | refine blk_drewN ?_ _ | refine blk_drew ?_ | refine blk_alloc ?_ _)); exact BK141.out⟩, ⟨by repeat (first | (with_reducible first | exact HB.out | apply below_alloc | apply pw_below_drewN | apply below_drew1 | refine below_set ?_ GE135.out | refine below_set ?_ GE136.out | refine below_set ?_ GE141.out) | exact HB.out)⟩⟩)
                        · replace c49 := Bool.eq_false_iff.mpr c49
                          subst c49
                          have H1 : (spec_RegOk.j2 k2 (l1_0.length : Int) x6_2 (((rd_T95 l1_0 x6_2).f2) != 0) l0_0 a0_1 l1_0 a1_1 ((rd_T95 l1_0 x6_2).f0) false ((rd_T95 l1_0 x6_2).f2)) = some r := by rw [if_neg (show ¬ (false = true) by decide)] at H; exact H
                          clear H
                          have H := H1
                          clear H1
                          have H' := Aside0.mk H
                          clear H
                          have hnb57 := NB135_136.out
                          have hnc57 := NB136_135.out
                          have hnb58 := NB135_141.out
                          have hnc58 := NB141_135.out
                          have hcz59_0 : w40.cell? ⟨gb135, 0, none⟩ = some (.slice A0_0 l0_0.length c0_0) := (blk_cell BK135.out 0).trans rfl
                          have hcz59_1 : w40.cell? ⟨gb135, 1, none⟩ = some (.int .i64 a0_1) := (blk_cell BK135.out 1).trans rfl
                          have hfz59_0 := blk_frozen BK135.out 0
                          have hfz59_1 := blk_frozen BK135.out 1
                          have hnb60 := NB141_136.out
                          have hnc60 := NB136_141.out
                          have hcz61_0 : w40.cell? ⟨gb141, 0, none⟩ = some (.slice none 0 0) := (blk_cell BK141.out 0).trans rfl
                          have hcz61_1 : w40.cell? ⟨gb141, 1, none⟩ = some (.bool false) := (blk_cell BK141.out 1).trans rfl
                          have hcz61_2 : w40.cell? ⟨gb141, 2, none⟩ = some (.int .i64 0) := (blk_cell BK141.out 2).trans rfl
                          have hfz61_0 := blk_frozen BK141.out 0
                          have hfz61_1 := blk_frozen BK141.out 1
                          have hfz61_2 := blk_frozen BK141.out 2
                          go_wp2_with (first | ((with_reducible refine gate_callee (f := 54) rfl ?_); refine goesL_ (some 49) rfl rfl Try.func54 (by kernel_rfl) rfl #[.agg #[.slice A0_0 l0_0.length c0_0, .int .i64 a0_1], .slice A140_0 ((rd_T95 l1_0 x6_2).f0).length c140_0] rfl (by (try simp only [List.map_toArray, List.map_cons, List.map_nil]); first | done | rfl | (simp only [List.length_drop, List.length_take]; rfl)) ?_; (with_reducible refine (spec_Holds.calls k2 _ _ l0_0 a0_1 _ _ ((rd_T95 l1_0 x6_2).f0) true _ ?side1 ?side2 ?side3 ?side4 (by first | exact A44.out | (have h_ := A44.out; simp only [← Nbq48.out] at h_; exact h_))).mono ?_); (case side1 => exact Kd.C_below HR0_0.out (by repeat (first | (with_reducible first | exact HB.out | apply below_alloc | apply pw_below_drewN | apply below_drew1 | refine below_set ?_ GE135.out | refine below_set ?_ GE136.out | refine below_set ?_ GE141.out) | exact HB.out))); (case side2 => exact HC0_0.out); (case side3 => exact Kd.C_below HR140_0.out (by repeat (first | (with_reducible first | exact HB.out | apply below_alloc | apply pw_below_drewN | apply below_drew1 | refine below_set ?_ GE135.out | refine below_set ?_ GE136.out | refine below_set ?_ GE141.out) | exact HB.out))); (case side4 => exact HC140_0.out); rintro e w62 ⟨rfl, hb⟩; refine ⟨_, rfl, ?_⟩; have n0_ := Aside0.mk (blk_below (g := gb135) (o := .cells #[.slice A0_0 l0_0.length c0_0, .int .i64 a0_1] 31 (0, 0)) (by (with_reducible repeat (first | refine blk_drewN ?_ _ | refine blk_drew ?_ | refine blk_alloc ?_ _)); refine blk_far ?_ NB135_141.out _; (with_reducible repeat (first | refine blk_drewN ?_ _ | refine blk_drew ?_ | refine blk_alloc ?_ _)); refine blk_far ?_ NB135_141.out _; (with_reducible repeat (first | refine blk_drewN ?_ _ | refine blk_drew ?_ | refine blk_alloc ?_ _)); refine blk_far ?_ NB135_141.out _; (with_reducible repeat (first | refine blk_drewN ?_ _ | refine blk_drew ?_ | refine blk_alloc ?_ _)); exact BK135.out) hb); have n1_ := Aside0.mk (blk_below (g := gb136) (o := .cells #[.slice (some ad140) l1_0.length c1_0, .int .i64 a1_1] 35 (0, 0)) (by (with_reducible repeat (first | refine blk_drewN ?_ _ | refine blk_drew ?_ | refine blk_alloc ?_ _)); refine blk_far ?_ NB136_141.out _; (with_reducible repeat (first | refine blk_drewN ?_ _ | refine blk_drew ?_ | refine blk_alloc ?_ _)); refine blk_far ?_ NB136_141.out _; (with_reducible repeat (first | refine blk_drewN ?_ _ | refine blk_drew ?_ | refine blk_alloc ?_ _)); refine blk_far ?_ NB136_141.out _; (with_reducible repeat (first | refine blk_drewN ?_ _ | refine blk_drew ?_ | refine blk_alloc ?_ _)); exact BK136.out) hb); have n2_ := Aside0.mk (blk_below (g := gb141) (o := .cells #[.slice A140_0 ((rd_T95 l1_0 x6_2).f0).length c140_0, .bool false, .int .i64 ((rd_T95 l1_0 x6_2).f2)] 95 (0, 0)) (by (with_reducible repeat (first | refine blk_drewN ?_ _ | refine blk_drew ?_ | refine blk_alloc ?_ _)); refine blk_put (cs := #[.slice A140_0 ((rd_T95 l1_0 x6_2).f0).length c140_0, .bool (false), .int .i64 0]) ?_ 2 _ rfl; (with_reducible repeat (first | refine blk_drewN ?_ _ | refine blk_drew ?_ | refine blk_alloc ?_ _)); refine blk_put (cs := #[.slice A140_0 ((rd_T95 l1_0 x6_2).f0).length c140_0, .bool false, .int .i64 0]) ?_ 1 _ rfl; (with_reducible repeat (first | refine blk_drewN ?_ _ | refine blk_drew ?_ | refine blk_alloc ?_ _)); refine blk_put (cs := #[.slice none 0 0, .bool false, .int .i64 0]) ?_ 0 _ rfl; (with_reducible repeat (first | refine blk_drewN ?_ _ | refine blk_drew ?_ | refine blk_alloc ?_ _)); exact BK141.out) hb); have n3_ := Aside0.mk (below_step (by repeat (first | (with_reducible first | exact HB.out | apply below_alloc | apply pw_below_drewN | apply below_drew1 | refine below_set ?_ GE135.out | refine below_set ?_ GE136.out | refine below_set ?_ GE141.out) | exact HB.out)) hb); clear BK135; clear BK136; clear BK141; clear HB; have BK135 := n0_; have BK136 := n1_; have BK141 := n2_; have HB := n3_; clear n0_ n1_ n2_ n3_; (try clear hb); (try clear hb2); (try clear hk); (try clear hi); have hcz63_0 : w62.cell? ⟨gb141, 0, none⟩ = some (.slice A140_0 ((rd_T95 l1_0 x6_2).f0).length c140_0) := (blk_cell BK141.out 0).trans rfl; have hcz63_1 : w62.cell? ⟨gb141, 1, none⟩ = some (.bool false) := (blk_cell BK141.out 1).trans rfl; have hcz63_2 : w62.cell? ⟨gb141, 2, none⟩ = some (.int .i64 ((rd_T95 l1_0 x6_2).f2)) := (blk_cell BK141.out 2).trans rfl; have hfz63_0 := blk_frozen BK141.out 0; have hfz63_1 := blk_frozen BK141.out 1; have hfz63_2 := blk_frozen BK141.out 2) | (go_at_call 55; (with_reducible refine (spec_l1In.calls ((rd_T95 l1_0 x6_2).f2) 0 60 true _ (by first | exact A46.out | (have h_ := A46.out; simp only [← Nbq48.out] at h_; exact h_))).mono ?_); rintro e w' ⟨rfl, ⟨nd, rfl⟩⟩))
                          go_meet
                          case rel => first | exact ⟨_, ((((rd_T95 l1_0 x6_2).f2) != 0)), (by first | rfl | (simp; done) | (simp [*]; done)), H', ⟨by have := HJ2.out; have := HK2.out; first | omega | exact Nat.le_refl _⟩, ⟨by (with_reducible repeat (first | refine blk_drewN ?_ _ | refine blk_drew ?_ | refine blk_alloc ?_ _)); exact BK135.out⟩, ⟨by (with_reducible repeat (first | refine blk_drewN ?_ _ | refine blk_drew ?_ | refine blk_alloc ?_ _)); exact BK136.out⟩, ⟨by (with_reducible repeat (first | refine blk_drewN ?_ _ | refine blk_drew ?_ | refine blk_alloc ?_ _)); exact BK141.out⟩, ⟨by repeat (first | (with_reducible first | exact HB.out | apply below_alloc | apply pw_below_drewN | apply below_drew1 | refine below_set ?_ GE135.out | refine below_set ?_ GE136.out | refine below_set ?_ GE141.out) | exact HB.out)⟩⟩ | (simp only [← Nbq48.out]; exact ⟨_, ((((rd_T95 l1_0 x6_2).f2) != 0)), (by first | rfl | (simp; done) | (simp [*]; done)), H', ⟨by have := HJ2.out; have := HK2.out; first | omega | exact Nat.le_refl _⟩, ⟨by (with_reducible repeat (first | refine blk_drewN ?_ _ | refine blk_drew ?_ | refine blk_alloc ?_ _)); exact BK135.out⟩, ⟨by (with_reducible repeat (first | refine blk_drewN ?_ _ | refine blk_drew ?_ | refine blk_alloc ?_ _)); exact BK136.out⟩, ⟨by (with_reducible repeat (first | refine blk_drewN ?_ _ | refine blk_drew ?_ | refine blk_alloc ?_ _)); exact BK141.out⟩, ⟨by repeat (first | (with_reducible first | exact HB.out | apply below_alloc | apply pw_below_drewN | apply below_drew1 | refine below_set ?_ GE135.out | refine below_set ?_ GE136.out | refine below_set ?_ GE141.out) | exact HB.out)⟩⟩)
                      · replace c47 := Bool.eq_false_iff.mpr c47
                        subst c47
                        have H1 : (spec_RegOk.j2 k2 (l1_0.length : Int) x6_2 true l0_0 a0_1 l1_0 a1_1 ((rd_T95 l1_0 x6_2).f0) ((rd_T95 l1_0 x6_2).f1) ((rd_T95 l1_0 x6_2).f2)) = some r := by rw [if_neg (show ¬ (false = true) by decide)] at H; exact H
                        clear H
                        have H := H1
                        clear H1
                        have H' := Aside0.mk H
                        clear H
                        have hnb64 := NB135_136.out
                        have hnc64 := NB136_135.out
                        have hnb65 := NB135_141.out
                        have hnc65 := NB141_135.out
                        have hcz66_0 : w40.cell? ⟨gb135, 0, none⟩ = some (.slice A0_0 l0_0.length c0_0) := (blk_cell BK135.out 0).trans rfl
                        have hcz66_1 : w40.cell? ⟨gb135, 1, none⟩ = some (.int .i64 a0_1) := (blk_cell BK135.out 1).trans rfl
                        have hfz66_0 := blk_frozen BK135.out 0
                        have hfz66_1 := blk_frozen BK135.out 1
                        have hnb67 := NB141_136.out
                        have hnc67 := NB136_141.out
                        have hcz68_0 : w40.cell? ⟨gb141, 0, none⟩ = some (.slice none 0 0) := (blk_cell BK141.out 0).trans rfl
                        have hcz68_1 : w40.cell? ⟨gb141, 1, none⟩ = some (.bool false) := (blk_cell BK141.out 1).trans rfl
                        have hcz68_2 : w40.cell? ⟨gb141, 2, none⟩ = some (.int .i64 0) := (blk_cell BK141.out 2).trans rfl
                        have hfz68_0 := blk_frozen BK141.out 0
                        have hfz68_1 := blk_frozen BK141.out 1
                        have hfz68_2 := blk_frozen BK141.out 2
                        go_wp2_with (first | ((with_reducible refine gate_callee (f := 54) rfl ?_); refine goesL_ (some 49) rfl rfl Try.func54 (by kernel_rfl) rfl #[.agg #[.slice A0_0 l0_0.length c0_0, .int .i64 a0_1], .slice A140_0 ((rd_T95 l1_0 x6_2).f0).length c140_0] rfl (by (try simp only [List.map_toArray, List.map_cons, List.map_nil]); first | done | rfl | (simp only [List.length_drop, List.length_take]; rfl)) ?_; (with_reducible refine (spec_Holds.calls k2 _ _ l0_0 a0_1 _ _ ((rd_T95 l1_0 x6_2).f0) true _ ?side1 ?side2 ?side3 ?side4 A44.out).mono ?_); (case side1 => exact Kd.C_below HR0_0.out (by repeat (first | (with_reducible first | exact HB.out | apply below_alloc | apply pw_below_drewN | apply below_drew1 | refine below_set ?_ GE135.out | refine below_set ?_ GE136.out | refine below_set ?_ GE141.out) | exact HB.out))); (case side2 => exact HC0_0.out); (case side3 => exact Kd.C_below HR140_0.out (by repeat (first | (with_reducible first | exact HB.out | apply below_alloc | apply pw_below_drewN | apply below_drew1 | refine below_set ?_ GE135.out | refine below_set ?_ GE136.out | refine below_set ?_ GE141.out) | exact HB.out))); (case side4 => exact HC140_0.out); rintro e w69 ⟨rfl, hb⟩; refine ⟨_, rfl, ?_⟩; have n0_ := Aside0.mk (blk_below (g := gb135) (o := .cells #[.slice A0_0 l0_0.length c0_0, .int .i64 a0_1] 31 (0, 0)) (by (with_reducible repeat (first | refine blk_drewN ?_ _ | refine blk_drew ?_ | refine blk_alloc ?_ _)); refine blk_far ?_ NB135_141.out _; (with_reducible repeat (first | refine blk_drewN ?_ _ | refine blk_drew ?_ | refine blk_alloc ?_ _)); refine blk_far ?_ NB135_141.out _; (with_reducible repeat (first | refine blk_drewN ?_ _ | refine blk_drew ?_ | refine blk_alloc ?_ _)); refine blk_far ?_ NB135_141.out _; (with_reducible repeat (first | refine blk_drewN ?_ _ | refine blk_drew ?_ | refine blk_alloc ?_ _)); exact BK135.out) hb); have n1_ := Aside0.mk (blk_below (g := gb136) (o := .cells #[.slice (some ad140) l1_0.length c1_0, .int .i64 a1_1] 35 (0, 0)) (by (with_reducible repeat (first | refine blk_drewN ?_ _ | refine blk_drew ?_ | refine blk_alloc ?_ _)); refine blk_far ?_ NB136_141.out _; (with_reducible repeat (first | refine blk_drewN ?_ _ | refine blk_drew ?_ | refine blk_alloc ?_ _)); refine blk_far ?_ NB136_141.out _; (with_reducible repeat (first | refine blk_drewN ?_ _ | refine blk_drew ?_ | refine blk_alloc ?_ _)); refine blk_far ?_ NB136_141.out _; (with_reducible repeat (first | refine blk_drewN ?_ _ | refine blk_drew ?_ | refine blk_alloc ?_ _)); exact BK136.out) hb); have n2_ := Aside0.mk (blk_below (g := gb141) (o := .cells #[.slice A140_0 ((rd_T95 l1_0 x6_2).f0).length c140_0, .bool ((rd_T95 l1_0 x6_2).f1), .int .i64 ((rd_T95 l1_0 x6_2).f2)] 95 (0, 0)) (by (with_reducible repeat (first | refine blk_drewN ?_ _ | refine blk_drew ?_ | refine blk_alloc ?_ _)); refine blk_put (cs := #[.slice A140_0 ((rd_T95 l1_0 x6_2).f0).length c140_0, .bool ((rd_T95 l1_0 x6_2).f1), .int .i64 0]) ?_ 2 _ rfl; (with_reducible repeat (first | refine blk_drewN ?_ _ | refine blk_drew ?_ | refine blk_alloc ?_ _)); refine blk_put (cs := #[.slice A140_0 ((rd_T95 l1_0 x6_2).f0).length c140_0, .bool false, .int .i64 0]) ?_ 1 _ rfl; (with_reducible repeat (first | refine blk_drewN ?_ _ | refine blk_drew ?_ | refine blk_alloc ?_ _)); refine blk_put (cs := #[.slice none 0 0, .bool false, .int .i64 0]) ?_ 0 _ rfl; (with_reducible repeat (first | refine blk_drewN ?_ _ | refine blk_drew ?_ | refine blk_alloc ?_ _)); exact BK141.out) hb); have n3_ := Aside0.mk (below_step (by repeat (first | (with_reducible first | exact HB.out | apply below_alloc | apply pw_below_drewN | apply below_drew1 | refine below_set ?_ GE135.out | refine below_set ?_ GE136.out | refine below_set ?_ GE141.out) | exact HB.out)) hb); clear BK135; clear BK136; clear BK141; clear HB; have BK135 := n0_; have BK136 := n1_; have BK141 := n2_; have HB := n3_; clear n0_ n1_ n2_ n3_; (try clear hb); (try clear hb2); (try clear hk); (try clear hi); have hcz70_0 : w69.cell? ⟨gb141, 0, none⟩ = some (.slice A140_0 ((rd_T95 l1_0 x6_2).f0).length c140_0) := (blk_cell BK141.out 0).trans rfl; have hcz70_1 : w69.cell? ⟨gb141, 1, none⟩ = some (.bool ((rd_T95 l1_0 x6_2).f1)) := (blk_cell BK141.out 1).trans rfl; have hcz70_2 : w69.cell? ⟨gb141, 2, none⟩ = some (.int .i64 ((rd_T95 l1_0 x6_2).f2)) := (blk_cell BK141.out 2).trans rfl; have hfz70_0 := blk_frozen BK141.out 0; have hfz70_1 := blk_frozen BK141.out 1; have hfz70_2 := blk_frozen BK141.out 2) | (go_at_call 55; (with_reducible refine (spec_l1In.calls ((rd_T95 l1_0 x6_2).f2) 0 60 false _ A46.out).mono ?_); rintro e w' ⟨rfl, ⟨nd, rfl⟩⟩))
                        go_meet
                        case rel => exact ⟨_, (true), (by first | rfl | (simp; done) | (simp [*]; done)), H', ⟨by have := HJ2.out; have := HK2.out; first | omega | exact Nat.le_refl _⟩, ⟨by (with_reducible repeat (first | refine blk_drewN ?_ _ | refine blk_drew ?_ | refine blk_alloc ?_ _)); exact BK135.out⟩, ⟨by (with_reducible repeat (first | refine blk_drewN ?_ _ | refine blk_drew ?_ | refine blk_alloc ?_ _)); exact BK136.out⟩, ⟨by (with_reducible repeat (first | refine blk_drewN ?_ _ | refine blk_drew ?_ | refine blk_alloc ?_ _)); exact BK141.out⟩, ⟨by repeat (first | (with_reducible first | exact HB.out | apply below_alloc | apply pw_below_drewN | apply below_drew1 | refine below_set ?_ GE135.out | refine below_set ?_ GE136.out | refine below_set ?_ GE141.out) | exact HB.out)⟩⟩
                    · replace c45 := Bool.eq_false_iff.mpr c45
                      subst c45
                      have H1 : (spec_RegOk.j2 k2 (l1_0.length : Int) x6_2 true l0_0 a0_1 l1_0 a1_1 ((rd_T95 l1_0 x6_2).f0) ((rd_T95 l1_0 x6_2).f1) ((rd_T95 l1_0 x6_2).f2)) = some r := by rw [if_neg (show ¬ (false = true) by decide)] at H; exact H
                      clear H
                      have H := H1
                      clear H1
                      have H' := Aside0.mk H
                      clear H
                      have hnb71 := NB135_136.out
                      have hnc71 := NB136_135.out
                      have hnb72 := NB135_141.out
                      have hnc72 := NB141_135.out
                      have hcz73_0 : w40.cell? ⟨gb135, 0, none⟩ = some (.slice A0_0 l0_0.length c0_0) := (blk_cell BK135.out 0).trans rfl
                      have hcz73_1 : w40.cell? ⟨gb135, 1, none⟩ = some (.int .i64 a0_1) := (blk_cell BK135.out 1).trans rfl
                      have hfz73_0 := blk_frozen BK135.out 0
                      have hfz73_1 := blk_frozen BK135.out 1
                      have hnb74 := NB141_136.out
                      have hnc74 := NB136_141.out
                      have hcz75_0 : w40.cell? ⟨gb141, 0, none⟩ = some (.slice none 0 0) := (blk_cell BK141.out 0).trans rfl
                      have hcz75_1 : w40.cell? ⟨gb141, 1, none⟩ = some (.bool false) := (blk_cell BK141.out 1).trans rfl
                      have hcz75_2 : w40.cell? ⟨gb141, 2, none⟩ = some (.int .i64 0) := (blk_cell BK141.out 2).trans rfl
                      have hfz75_0 := blk_frozen BK141.out 0
                      have hfz75_1 := blk_frozen BK141.out 1
                      have hfz75_2 := blk_frozen BK141.out 2
                      go_wp2_with (first | ((with_reducible refine gate_callee (f := 54) rfl ?_); refine goesL_ (some 49) rfl rfl Try.func54 (by kernel_rfl) rfl #[.agg #[.slice A0_0 l0_0.length c0_0, .int .i64 a0_1], .slice A140_0 ((rd_T95 l1_0 x6_2).f0).length c140_0] rfl (by (try simp only [List.map_toArray, List.map_cons, List.map_nil]); first | done | rfl | (simp only [List.length_drop, List.length_take]; rfl)) ?_; (with_reducible refine (spec_Holds.calls k2 _ _ l0_0 a0_1 _ _ ((rd_T95 l1_0 x6_2).f0) false _ ?side1 ?side2 ?side3 ?side4 A44.out).mono ?_); (case side1 => exact Kd.C_below HR0_0.out (by repeat (first | (with_reducible first | exact HB.out | apply below_alloc | apply pw_below_drewN | apply below_drew1 | refine below_set ?_ GE135.out | refine below_set ?_ GE136.out | refine below_set ?_ GE141.out) | exact HB.out))); (case side2 => exact HC0_0.out); (case side3 => exact Kd.C_below HR140_0.out (by repeat (first | (with_reducible first | exact HB.out | apply below_alloc | apply pw_below_drewN | apply below_drew1 | refine below_set ?_ GE135.out | refine below_set ?_ GE136.out | refine below_set ?_ GE141.out) | exact HB.out))); (case side4 => exact HC140_0.out); rintro e w76 ⟨rfl, hb⟩; refine ⟨_, rfl, ?_⟩; have n0_ := Aside0.mk (blk_below (g := gb135) (o := .cells #[.slice A0_0 l0_0.length c0_0, .int .i64 a0_1] 31 (0, 0)) (by (with_reducible repeat (first | refine blk_drewN ?_ _ | refine blk_drew ?_ | refine blk_alloc ?_ _)); refine blk_far ?_ NB135_141.out _; (with_reducible repeat (first | refine blk_drewN ?_ _ | refine blk_drew ?_ | refine blk_alloc ?_ _)); refine blk_far ?_ NB135_141.out _; (with_reducible repeat (first | refine blk_drewN ?_ _ | refine blk_drew ?_ | refine blk_alloc ?_ _)); refine blk_far ?_ NB135_141.out _; (with_reducible repeat (first | refine blk_drewN ?_ _ | refine blk_drew ?_ | refine blk_alloc ?_ _)); exact BK135.out) hb); have n1_ := Aside0.mk (blk_below (g := gb136) (o := .cells #[.slice (some ad140) l1_0.length c1_0, .int .i64 a1_1] 35 (0, 0)) (by (with_reducible repeat (first | refine blk_drewN ?_ _ | refine blk_drew ?_ | refine blk_alloc ?_ _)); refine blk_far ?_ NB136_141.out _; (with_reducible repeat (first | refine blk_drewN ?_ _ | refine blk_drew ?_ | refine blk_alloc ?_ _)); refine blk_far ?_ NB136_141.out _; (with_reducible repeat (first | refine blk_drewN ?_ _ | refine blk_drew ?_ | refine blk_alloc ?_ _)); refine blk_far ?_ NB136_141.out _; (with_reducible repeat (first | refine blk_drewN ?_ _ | refine blk_drew ?_ | refine blk_alloc ?_ _)); exact BK136.out) hb); have n2_ := Aside0.mk (blk_below (g := gb141) (o := .cells #[.slice A140_0 ((rd_T95 l1_0 x6_2).f0).length c140_0, .bool ((rd_T95 l1_0 x6_2).f1), .int .i64 ((rd_T95 l1_0 x6_2).f2)] 95 (0, 0)) (by (with_reducible repeat (first | refine blk_drewN ?_ _ | refine blk_drew ?_ | refine blk_alloc ?_ _)); refine blk_put (cs := #[.slice A140_0 ((rd_T95 l1_0 x6_2).f0).length c140_0, .bool ((rd_T95 l1_0 x6_2).f1), .int .i64 0]) ?_ 2 _ rfl; (with_reducible repeat (first | refine blk_drewN ?_ _ | refine blk_drew ?_ | refine blk_alloc ?_ _)); refine blk_put (cs := #[.slice A140_0 ((rd_T95 l1_0 x6_2).f0).length c140_0, .bool false, .int .i64 0]) ?_ 1 _ rfl; (with_reducible repeat (first | refine blk_drewN ?_ _ | refine blk_drew ?_ | refine blk_alloc ?_ _)); refine blk_put (cs := #[.slice none 0 0, .bool false, .int .i64 0]) ?_ 0 _ rfl; (with_reducible repeat (first | refine blk_drewN ?_ _ | refine blk_drew ?_ | refine blk_alloc ?_ _)); exact BK141.out) hb); have n3_ := Aside0.mk (below_step (by repeat (first | (with_reducible first | exact HB.out | apply below_alloc | apply pw_below_drewN | apply below_drew1 | refine below_set ?_ GE135.out | refine below_set ?_ GE136.out | refine below_set ?_ GE141.out) | exact HB.out)) hb); clear BK135; clear BK136; clear BK141; clear HB; have BK135 := n0_; have BK136 := n1_; have BK141 := n2_; have HB := n3_; clear n0_ n1_ n2_ n3_; (try clear hb); (try clear hb2); (try clear hk); (try clear hi)))
                      go_meet
                      case rel => exact ⟨_, (true), (by first | rfl | (simp; done) | (simp [*]; done)), H', ⟨by have := HJ2.out; have := HK2.out; first | omega | exact Nat.le_refl _⟩, ⟨by (with_reducible repeat (first | refine blk_drewN ?_ _ | refine blk_drew ?_ | refine blk_alloc ?_ _)); exact BK135.out⟩, ⟨by (with_reducible repeat (first | refine blk_drewN ?_ _ | refine blk_drew ?_ | refine blk_alloc ?_ _)); exact BK136.out⟩, ⟨by (with_reducible repeat (first | refine blk_drewN ?_ _ | refine blk_drew ?_ | refine blk_alloc ?_ _)); exact BK141.out⟩, ⟨by repeat (first | (with_reducible first | exact HB.out | apply below_alloc | apply pw_below_drewN | apply below_drew1 | refine below_set ?_ GE135.out | refine below_set ?_ GE136.out | refine below_set ?_ GE141.out) | exact HB.out)⟩⟩
                  case rest =>
                    clear HC37
                    try clear c1
                    try clear p1
                    try clear q1
                    try clear hx1
                    try clear c2
                    try clear p2
                    try clear c3
                    try clear c4
                    try clear q4
                    try clear c5
                    try clear c6
                    try clear c7
                    try clear c9
                    try clear c10
                    try clear c10b0
                    try clear c10b1
                    try clear c11
                    try clear c14
                    try clear c14b0
                    try clear c14b1
                    try clear p14
                    try clear q14
                    try clear hx14
                    try clear c15
                    try clear c20
                    try clear c22
                    try clear c26
                    try clear c30
                    try clear c33
                    try clear c34
                    try clear c34b0
                    try clear c35
                    try clear c35b0
                    try clear c36
                    try clear c36b0
                    try clear c38
                    try clear c41
                    try clear c42
                    try clear c45
                    try clear c47
                    try clear q48
                    try clear c49
                    try clear c50
                    try clear c51
                    try clear c53
                    try clear c54
                    try clear c57
                    try clear c58
                    try clear c60
                    try clear c64
                    try clear c65
                    try clear c67
                    try clear c71
                    try clear c72
                    try clear c74
                    try clear hcz12_0
                    try clear hcz12_1
                    try clear hcz16_0
                    try clear hcz16_1
                    try clear hcz18_0
                    try clear hcz18_1
                    try clear hcz23_0
                    try clear hcz23_1
                    try clear hcz25_0
                    try clear hcz25_1
                    try clear hcz27_0
                    try clear hcz27_1
                    try clear hcz29_0
                    try clear hcz29_1
                    try clear hcz31_0
                    try clear hcz31_1
                    try clear hcz39_0
                    try clear hcz39_1
                    try clear hcz43_0
                    try clear hcz43_1
                    try clear hcz43_2
                    try clear hcz52_0
                    try clear hcz52_1
                    try clear hcz54_0
                    try clear hcz54_1
                    try clear hcz54_2
                    try clear hcz56_0
                    try clear hcz56_1
                    try clear hcz56_2
                    try clear hcz59_0
                    try clear hcz59_1
                    try clear hcz61_0
                    try clear hcz61_1
                    try clear hcz61_2
                    try clear hcz63_0
                    try clear hcz63_1
                    try clear hcz63_2
                    try clear hcz66_0
                    try clear hcz66_1
                    try clear hcz68_0
                    try clear hcz68_1
                    try clear hcz68_2
                    try clear hcz70_0
                    try clear hcz70_1
                    try clear hcz70_2
                    try clear hcz73_0
                    try clear hcz73_1
                    try clear hcz75_0
                    try clear hcz75_1
                    try clear hcz75_2
                    try clear hcz7_0
                    try clear hcz7_1
                    try clear hfz12_0
                    try clear hfz12_1
                    try clear hfz16_0
                    try clear hfz16_1
                    try clear hfz18_0
                    try clear hfz18_1
                    try clear hfz23_0
                    try clear hfz23_1
                    try clear hfz25_0
                    try clear hfz25_1
                    try clear hfz27_0
                    try clear hfz27_1
                    try clear hfz29_0
                    try clear hfz29_1
                    try clear hfz31_0
                    try clear hfz31_1
                    try clear hfz39_0
                    try clear hfz39_1
                    try clear hfz43_0
                    try clear hfz43_1
                    try clear hfz43_2
                    try clear hfz52_0
                    try clear hfz52_1
                    try clear hfz54_0
                    try clear hfz54_1
                    try clear hfz54_2
                    try clear hfz56_0
                    try clear hfz56_1
                    try clear hfz56_2
                    try clear hfz59_0
                    try clear hfz59_1
                    try clear hfz61_0
                    try clear hfz61_1
                    try clear hfz61_2
                    try clear hfz63_0
                    try clear hfz63_1
                    try clear hfz63_2
                    try clear hfz66_0
                    try clear hfz66_1
                    try clear hfz68_0
                    try clear hfz68_1
                    try clear hfz68_2
                    try clear hfz70_0
                    try clear hfz70_1
                    try clear hfz70_2
                    try clear hfz73_0
                    try clear hfz73_1
                    try clear hfz75_0
                    try clear hfz75_1
                    try clear hfz75_2
                    try clear hfz7_0
                    try clear hfz7_1
                    try clear hx140_0
                    try clear hx140_1
                    try clear hx140_2
                    try clear p140
                    try clear p2
                    try clear q140
                    obtain ⟨kq, x66_36, rfl, HA, HJ36, BK135, BK136, BK141, HB⟩ := hcut
                    cases kq with
                    | zero => exact absurd HA.out (by simp [spec_RegOk.j2])
                    | succ kj36 =>
                      have H := HA.out
                      clear HA
                      simp only [spec_RegOk.j2] at H
                      by_cases c77 : x66_36 = true
                      · subst c77
                        have H1 : (some false) = some r := by rw [if_pos rfl] at H; exact H
                        clear H
                        have H := H1
                        clear H1
                        obtain rfl := Option.some.inj H
                        go_wp2
                        go_ret
                        exact ⟨by first | rfl | (simp [errW_none, errW_some] <;> rfl) | (simp [*, errW_none, errW_some] <;> rfl), by repeat (first | (with_reducible first | exact HB.out | apply below_alloc | apply pw_below_drewN | apply below_drew1 | refine below_set ?_ GE135.out | refine below_set ?_ GE136.out | refine below_set ?_ GE141.out) | exact HB.out)⟩
                      · replace c77 := Bool.eq_false_iff.mpr c77
                        subst c77
                        have H1 : (if ((rd_T95 l1_0 x6_2).f1) = true then (if x6_2 = (wrap64 ((l1_0.length : Int) - 1)) then (some false) else (if x6_2 > 0 then (if 0 ≤ (wrap64 (x6_2 - 1)) then (if (wrap64 (x6_2 - 1)) < (l1_0.length : Int) then (if ((rd_T95 l1_0 (wrap64 (x6_2 - 1))).f1 = true) then (spec_RegOk.l0 kj36 (l1_0.length : Int) (wrap64 (x6_2 + 1)) l0_0 a0_1 l1_0 a1_1) else (some false)) else (none)) else (none)) else (spec_RegOk.l0 kj36 (l1_0.length : Int) (wrap64 (x6_2 + 1)) l0_0 a0_1 l1_0 a1_1))) else (spec_RegOk.l0 kj36 (l1_0.length : Int) (wrap64 (x6_2 + 1)) l0_0 a0_1 l1_0 a1_1)) = some r := by rw [if_neg (show ¬ (false = true) by decide)] at H; exact H
                        clear H
                        have H := H1
                        clear H1
                        by_cases c78 : ((rd_T95 l1_0 x6_2).f1) = true
                        · rw [if_pos c78] at H
                          have c78b0 : ((rd_T95 l1_0 x6_2).f1) = true := c78
                          clear c78
                          by_cases c79 : x6_2 = (wrap64 ((l1_0.length : Int) - 1))
                          · rw [if_pos c79] at H
                            have c79b0 : (x6_2 == (wrap64 ((l1_0.length : Int) - 1))) = true := beq_iff_eq.mpr c79
                            have c79b1 : (x6_2 != (wrap64 ((l1_0.length : Int) - 1))) = false := bne_eq_false_iff_eq.mpr c79
                            clear c79
                            obtain rfl := Option.some.inj H
                            have hnb80 := NB141_135.out
                            have hnc80 := NB135_141.out
                            have hnb81 := NB141_136.out
                            have hnc81 := NB136_141.out
                            have hcz82_0 : wc.cell? ⟨gb141, 0, none⟩ = some (.slice A140_0 ((rd_T95 l1_0 x6_2).f0).length c140_0) := (blk_cell BK141.out 0).trans rfl
                            have hcz82_1 : wc.cell? ⟨gb141, 1, none⟩ = some (.bool ((rd_T95 l1_0 x6_2).f1)) := (blk_cell BK141.out 1).trans rfl
                            have hcz82_2 : wc.cell? ⟨gb141, 2, none⟩ = some (.int .i64 ((rd_T95 l1_0 x6_2).f2)) := (blk_cell BK141.out 2).trans rfl
                            have hfz82_0 := blk_frozen BK141.out 0
                            have hfz82_1 := blk_frozen BK141.out 1
                            have hfz82_2 := blk_frozen BK141.out 2
                            go_wp2
                            go_ret
                            exact ⟨by first | rfl | (simp [errW_none, errW_some] <;> rfl) | (simp [*, errW_none, errW_some] <;> rfl), by repeat (first | (with_reducible first | exact HB.out | apply below_alloc | apply pw_below_drewN | apply below_drew1 | refine below_set ?_ GE135.out | refine below_set ?_ GE136.out | refine below_set ?_ GE141.out) | exact HB.out)⟩
                          · rw [if_neg c79] at H
                            have c79b0 : (x6_2 == (wrap64 ((l1_0.length : Int) - 1))) = false := beq_eq_false_iff_ne.mpr c79
                            have c79b1 : (x6_2 != (wrap64 ((l1_0.length : Int) - 1))) = true := bne_iff_ne.mpr c79
                            by_cases c83 : x6_2 > 0
                            · rw [if_pos c83] at H
                              have c83b0 : decide (0 < x6_2) = true := decide_eq_true c83
                              clear c83
                              obtain ⟨ji84, hji84⟩ : ∃ j_ : Int, (wrap64 (x6_2 - 1)) = j_ := ⟨_, rfl⟩
                              replace H : (if 0 ≤ (ji84) then (if (ji84) < (l1_0.length : Int) then (if ((rd_T95 l1_0 (ji84)).f1 = true) then (spec_RegOk.l0 kj36 (l1_0.length : Int) (wrap64 (x6_2 + 1)) l0_0 a0_1 l1_0 a1_1) else (some false)) else (none)) else (none)) = some r := by first | (rw [hji84] at H; exact H) | (simp only [hji84] at H ⊢; exact H)
                              have hji84w : (IntKind.i64.wrap (x6_2 - 1)) = ji84 := (i64_w _).trans hji84
                              by_cases c85 : 0 ≤ (ji84)
                              · rw [if_pos c85] at H
                                have c85b0 : decide (0 ≤ (ji84)) = true := decide_eq_true c85
                                clear c85
                                by_cases c86 : (ji84) < (l1_0.length : Int)
                                · rw [if_pos c86] at H
                                  have c86b0 : decide ((ji84) < (l1_0.length : Int)) = true := decide_eq_true c86
                                  clear c86
                                  obtain ⟨bq87, hbq87⟩ : ∃ b_ : Bool, b_ = ((rd_T95 l1_0 (ji84)).f1) := ⟨_, rfl⟩
                                  replace H : (if (bq87 = true) then (spec_RegOk.l0 kj36 (l1_0.length : Int) (wrap64 (x6_2 + 1)) l0_0 a0_1 l1_0 a1_1) else (some false)) = some r := by rw [← hbq87] at H; exact H
                                  have Nbq87 := Aside0.mk hbq87
                                  clear hbq87
                                  by_cases c88 : (bq87 = true)
                                  · subst c88
                                    have H1 : (spec_RegOk.l0 kj36 (l1_0.length : Int) (wrap64 (x6_2 + 1)) l0_0 a0_1 l1_0 a1_1) = some r := by rw [if_pos rfl] at H; exact H
                                    clear H
                                    have H := H1
                                    clear H1
                                    have H' := Aside0.mk H
                                    clear H
                                    have hnb89 := NB141_135.out
                                    have hnc89 := NB135_141.out
                                    have hnb90 := NB141_136.out
                                    have hnc90 := NB136_141.out
                                    have hcz91_0 : wc.cell? ⟨gb141, 0, none⟩ = some (.slice A140_0 ((rd_T95 l1_0 x6_2).f0).length c140_0) := (blk_cell BK141.out 0).trans rfl
                                    have hcz91_1 : wc.cell? ⟨gb141, 1, none⟩ = some (.bool ((rd_T95 l1_0 x6_2).f1)) := (blk_cell BK141.out 1).trans rfl
                                    have hcz91_2 : wc.cell? ⟨gb141, 2, none⟩ = some (.int .i64 ((rd_T95 l1_0 x6_2).f2)) := (blk_cell BK141.out 2).trans rfl
                                    have hfz91_0 := blk_frozen BK141.out 0
                                    have hfz91_1 := blk_frozen BK141.out 1
                                    have hfz91_2 := blk_frozen BK141.out 2
                                    have hnb92 := NB136_135.out
                                    have hnc92 := NB135_136.out
                                    have hcz93_0 : wc.cell? ⟨gb136, 0, none⟩ = some (.slice (some ad140) l1_0.length c1_0) := (blk_cell BK136.out 0).trans rfl
                                    have hcz93_1 : wc.cell? ⟨gb136, 1, none⟩ = some (.int .i64 a1_1) := (blk_cell BK136.out 1).trans rfl
                                    have hfz93_0 := blk_frozen BK136.out 0
                                    have hfz93_1 := blk_frozen BK136.out 1
                                    have p144 : 0 ≤ ((ji84) : Int) := of_decide_eq_true (by first | (with_reducible assumption) | assumption)
                                    have q144 : (ji84) < (l1_0.length : Int) := of_decide_eq_true (by first | (with_reducible assumption) | assumption)
                                    obtain ⟨ad144, A144_0, c144_0, e144, hx144_0, hx144_1, hx144_2, hl144_0, hi144_0⟩ := at_T95 HR1_0.out (ji84) p144 q144
                                    (try rw [← Nbq87.out] at hx144_1)
                                    obtain rfl : ad140 = ad144 := (by injection e144)
                                    replace hx144_0 := (HB.out.cell (World.block_lt_of_cell? w _ hx144_0)).trans hx144_0
                                    replace hx144_1 := (HB.out.cell (World.block_lt_of_cell? w _ hx144_1)).trans hx144_1
                                    replace hx144_2 := (HB.out.cell (World.block_lt_of_cell? w _ hx144_2)).trans hx144_2
                                    have HR144_0 := Aside0.mk hi144_0
                                    have HC144_0 := Aside0.mk hl144_0
                                    clear hi144_0 hl144_0
                                    replace p144 := eq_true p144
                                    replace q144 := eq_true q144
                                    go_wp2
                                    go_roundg kj36
                                    case measure => have := HJ2.out; have := HK2.out; have := HJ36.out; omega
                                    case rel => first | exact ⟨(wrap64 (x6_2 + 1)), (by first | rfl | (simp; done) | (simp [*]; done)), H', ⟨by have := HJ2.out; have := HK2.out; have := HJ36.out; omega⟩, ⟨by (with_reducible repeat (first | refine blk_drewN ?_ _ | refine blk_drew ?_ | refine blk_alloc ?_ _)); exact BK135.out⟩, ⟨by (with_reducible repeat (first | refine blk_drewN ?_ _ | refine blk_drew ?_ | refine blk_alloc ?_ _)); exact BK136.out⟩, ⟨by repeat (first | (with_reducible first | exact HB.out | apply below_alloc | apply pw_below_drewN | apply below_drew1 | refine below_set ?_ GE135.out | refine below_set ?_ GE136.out | refine below_set ?_ GE141.out) | exact HB.out)⟩⟩ | (simp only [← Nbq87.out]; exact ⟨(wrap64 (x6_2 + 1)), (by first | rfl | (simp; done) | (simp [*]; done)), H', ⟨by have := HJ2.out; have := HK2.out; have := HJ36.out; omega⟩, ⟨by (with_reducible repeat (first | refine blk_drewN ?_ _ | refine blk_drew ?_ | refine blk_alloc ?_ _)); exact BK135.out⟩, ⟨by (with_reducible repeat (first | refine blk_drewN ?_ _ | refine blk_drew ?_ | refine blk_alloc ?_ _)); exact BK136.out⟩, ⟨by repeat (first | (with_reducible first | exact HB.out | apply below_alloc | apply pw_below_drewN | apply below_drew1 | refine below_set ?_ GE135.out | refine below_set ?_ GE136.out | refine below_set ?_ GE141.out) | exact HB.out)⟩⟩)
                                  · replace c88 := Bool.eq_false_iff.mpr c88
                                    subst c88
                                    have H1 : (some false) = some r := by rw [if_neg (show ¬ (false = true) by decide)] at H; exact H
                                    clear H
                                    have H := H1
                                    clear H1
                                    obtain rfl := Option.some.inj H
                                    have hnb94 := NB141_135.out
                                    have hnc94 := NB135_141.out
                                    have hnb95 := NB141_136.out
                                    have hnc95 := NB136_141.out
                                    have hcz96_0 : wc.cell? ⟨gb141, 0, none⟩ = some (.slice A140_0 ((rd_T95 l1_0 x6_2).f0).length c140_0) := (blk_cell BK141.out 0).trans rfl
                                    have hcz96_1 : wc.cell? ⟨gb141, 1, none⟩ = some (.bool ((rd_T95 l1_0 x6_2).f1)) := (blk_cell BK141.out 1).trans rfl
                                    have hcz96_2 : wc.cell? ⟨gb141, 2, none⟩ = some (.int .i64 ((rd_T95 l1_0 x6_2).f2)) := (blk_cell BK141.out 2).trans rfl
                                    have hfz96_0 := blk_frozen BK141.out 0
                                    have hfz96_1 := blk_frozen BK141.out 1
                                    have hfz96_2 := blk_frozen BK141.out 2
                                    have hnb97 := NB136_135.out
                                    have hnc97 := NB135_136.out
                                    have hcz98_0 : wc.cell? ⟨gb136, 0, none⟩ = some (.slice (some ad140) l1_0.length c1_0) := (blk_cell BK136.out 0).trans rfl
                                    have hcz98_1 : wc.cell? ⟨gb136, 1, none⟩ = some (.int .i64 a1_1) := (blk_cell BK136.out 1).trans rfl
                                    have hfz98_0 := blk_frozen BK136.out 0
                                    have hfz98_1 := blk_frozen BK136.out 1
                                    have p144 : 0 ≤ ((ji84) : Int) := of_decide_eq_true (by first | (with_reducible assumption) | assumption)
                                    have q144 : (ji84) < (l1_0.length : Int) := of_decide_eq_true (by first | (with_reducible assumption) | assumption)
                                    obtain ⟨ad144, A144_0, c144_0, e144, hx144_0, hx144_1, hx144_2, hl144_0, hi144_0⟩ := at_T95 HR1_0.out (ji84) p144 q144
                                    (try rw [← Nbq87.out] at hx144_1)
                                    obtain rfl : ad140 = ad144 := (by injection e144)
                                    replace hx144_0 := (HB.out.cell (World.block_lt_of_cell? w _ hx144_0)).trans hx144_0
                                    replace hx144_1 := (HB.out.cell (World.block_lt_of_cell? w _ hx144_1)).trans hx144_1
                                    replace hx144_2 := (HB.out.cell (World.block_lt_of_cell? w _ hx144_2)).trans hx144_2
                                    have HR144_0 := Aside0.mk hi144_0
                                    have HC144_0 := Aside0.mk hl144_0
                                    clear hi144_0 hl144_0
                                    replace p144 := eq_true p144
                                    replace q144 := eq_true q144
                                    go_wp2
                                    go_ret
                                    exact ⟨by first | rfl | (simp [errW_none, errW_some] <;> rfl) | (simp only [← hji84]; first | rfl | (simp [errW_none, errW_some] <;> rfl)) | (simp [*, errW_none, errW_some] <;> rfl), by repeat (first | (with_reducible first | exact HB.out | apply below_alloc | apply pw_below_drewN | apply below_drew1 | refine below_set ?_ GE135.out | refine below_set ?_ GE136.out | refine below_set ?_ GE141.out) | exact HB.out)⟩
                                · rw [if_neg c86] at H
                                  exact absurd H (by simp)
                              · rw [if_neg c85] at H
                                exact absurd H (by simp)
                            · rw [if_neg c83] at H
                              have c83b0 : decide (0 < x6_2) = false := decide_eq_false c83
                              clear c83
                              have H' := Aside0.mk H
                              clear H
                              have hnb99 := NB141_135.out
                              have hnc99 := NB135_141.out
                              have hnb100 := NB141_136.out
                              have hnc100 := NB136_141.out
                              have hcz101_0 : wc.cell? ⟨gb141, 0, none⟩ = some (.slice A140_0 ((rd_T95 l1_0 x6_2).f0).length c140_0) := (blk_cell BK141.out 0).trans rfl
                              have hcz101_1 : wc.cell? ⟨gb141, 1, none⟩ = some (.bool ((rd_T95 l1_0 x6_2).f1)) := (blk_cell BK141.out 1).trans rfl
                              have hcz101_2 : wc.cell? ⟨gb141, 2, none⟩ = some (.int .i64 ((rd_T95 l1_0 x6_2).f2)) := (blk_cell BK141.out 2).trans rfl
                              have hfz101_0 := blk_frozen BK141.out 0
                              have hfz101_1 := blk_frozen BK141.out 1
                              have hfz101_2 := blk_frozen BK141.out 2
                              go_wp2
                              go_roundg kj36
                              case measure => have := HJ2.out; have := HK2.out; have := HJ36.out; omega
                              case rel => exact ⟨(wrap64 (x6_2 + 1)), (by first | rfl | (simp; done) | (simp [*]; done)), H', ⟨by have := HJ2.out; have := HK2.out; have := HJ36.out; omega⟩, ⟨by (with_reducible repeat (first | refine blk_drewN ?_ _ | refine blk_drew ?_ | refine blk_alloc ?_ _)); exact BK135.out⟩, ⟨by (with_reducible repeat (first | refine blk_drewN ?_ _ | refine blk_drew ?_ | refine blk_alloc ?_ _)); exact BK136.out⟩, ⟨by repeat (first | (with_reducible first | exact HB.out | apply below_alloc | apply pw_below_drewN | apply below_drew1 | refine below_set ?_ GE135.out | refine below_set ?_ GE136.out | refine below_set ?_ GE141.out) | exact HB.out)⟩⟩
                        · rw [if_neg c78] at H
                          have c78b0 : ((rd_T95 l1_0 x6_2).f1) = false := by simpa using c78
                          clear c78
                          have H' := Aside0.mk H
                          clear H
                          have hnb102 := NB141_135.out
                          have hnc102 := NB135_141.out
                          have hnb103 := NB141_136.out
                          have hnc103 := NB136_141.out
                          have hcz104_0 : wc.cell? ⟨gb141, 0, none⟩ = some (.slice A140_0 ((rd_T95 l1_0 x6_2).f0).length c140_0) := (blk_cell BK141.out 0).trans rfl
                          have hcz104_1 : wc.cell? ⟨gb141, 1, none⟩ = some (.bool ((rd_T95 l1_0 x6_2).f1)) := (blk_cell BK141.out 1).trans rfl
                          have hcz104_2 : wc.cell? ⟨gb141, 2, none⟩ = some (.int .i64 ((rd_T95 l1_0 x6_2).f2)) := (blk_cell BK141.out 2).trans rfl
                          have hfz104_0 := blk_frozen BK141.out 0
                          have hfz104_1 := blk_frozen BK141.out 1
                          have hfz104_2 := blk_frozen BK141.out 2
                          go_wp2
                          go_roundg kj36
                          case measure => have := HJ2.out; have := HK2.out; have := HJ36.out; omega
                          case rel => exact ⟨(wrap64 (x6_2 + 1)), (by first | rfl | (simp; done) | (simp [*]; done)), H', ⟨by have := HJ2.out; have := HK2.out; have := HJ36.out; omega⟩, ⟨by (with_reducible repeat (first | refine blk_drewN ?_ _ | refine blk_drew ?_ | refine blk_alloc ?_ _)); exact BK135.out⟩, ⟨by (with_reducible repeat (first | refine blk_drewN ?_ _ | refine blk_drew ?_ | refine blk_alloc ?_ _)); exact BK136.out⟩, ⟨by repeat (first | (with_reducible first | exact HB.out | apply below_alloc | apply pw_below_drewN | apply below_drew1 | refine below_set ?_ GE135.out | refine below_set ?_ GE136.out | refine below_set ?_ GE141.out) | exact HB.out)⟩⟩
                · rw [if_neg c36] at H
                  exact absurd H (by simp)
              · rw [if_neg c35] at H
                exact absurd H (by simp)
            · rw [if_neg c34] at H
              have c34b0 : decide (x6_2 < (l1_0.length : Int)) = false := decide_eq_false c34
              clear c34
              obtain rfl := Option.some.inj H
              go_wp2
              go_ret
              exact ⟨by first | rfl | (simp [errW_none, errW_some] <;> rfl) | (simp [*, errW_none, errW_some] <;> rfl), by repeat (first | (with_reducible first | exact HB.out | apply below_alloc | apply pw_below_drewN | apply below_drew1 | refine below_set ?_ GE135.out | refine below_set ?_ GE136.out) | exact HB.out)⟩

end Go.Proofs.Ytdkdhciogedoiab.PFnExactRegOk
