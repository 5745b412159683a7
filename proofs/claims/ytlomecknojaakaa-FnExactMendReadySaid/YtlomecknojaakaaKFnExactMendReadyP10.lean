-- Written by wip/gen/pack.py of this repo. Lean checks it.
import Derived.Test.YtlomecknojaakaaKFnExactMendReadyP0
import Derived.Test.YtlomecknojaakaaKFnExactMendReadyP6
import Derived.Test.YtlomecknojaakaaKFnExactMendReadyP7
import Derived.Test.YtlomecknojaakaaKFnExactMendReadyP9
import Derived.Test.YtlomecknojaakaaKFnExactMendReadyD
namespace Go.Proofs.Ytlomecknojaakaa.PFnExactMendReady
open Go.RowKit Go.Proofs.YtlomecknojaakaaW.PrintWords Go.Proofs.YtlomecknojaakaaW.PrintLast Go.Proofs.YtlomecknojaakaaW.PrintMore Go.Proofs.YtlomecknojaakaaW.Sq
attribute [local go_sem] max2_int min2_int max_two min_two max_three min_three max_four min_four
set_option linter.unusedVariables false
set_option linter.unusedSimpArgs false
mutual
def impl_MendOk.l0 : Nat → List (List Int) → Int → Int → List Int → Int → Int → Int → List Int → List (S81) → Bool → List (List Int) → Option (Bool)
  | 0, _, _, _, _, _, _, _, _, _, _, _ => none
  | k + 1, x10, x11, x12, x274000, x274001, x275000, x275001, x275002, x275003, x275004, x275005 => if x12 < x11 then (if 0 ≤ x12 then (if x12 < (x10.length : Int) then ((impl_NodesOk.f k x274000 x274001 (rd_L4 x10 x12)).bind fun t276 => (if t276 = true then (impl_MendOk.l0 k x10 x11 (wrap64 (x12 + 1)) x274000 x274001 x275000 x275001 x275002 x275003 x275004 x275005) else (some false))) else (none)) else (none)) else (if x275004 = true then ((impl_lastOff.f x275000 x275001 x275002 x275003 x275004 x275005).bind fun t277 => (impl_MendOk.j1 k t277 x274000 x274001 x275000 x275001 x275002 x275003 x275004 x275005)) else (impl_MendOk.j1 k 0 x274000 x274001 x275000 x275001 x275002 x275003 x275004 x275005))
def impl_MendOk.j1 : Nat → Int → List Int → Int → Int → Int → List Int → List (S81) → Bool → List (List Int) → Option (Bool)
  | 0, _, _, _, _, _, _, _, _, _ => none
  | k + 1, x7, x274000, x274001, x275000, x275001, x275002, x275003, x275004, x275005 => (impl_isEpoch.f x275001).bind fun t278 => (if t278 = true then ((impl_within.f x275000 (wrap64 (x275001 + 1)) 30).bind fun t279 => ((impl_ConfigOk.f k x274000 x274001).bind fun t280 => (if t280 = true then (if t279 = true then ((impl_NodesOk.f k x274000 x274001 x275002).bind fun t281 => (if t281 = true then ((impl_seenOk.f k x275000 x275001 x275002 x275003 x275004 x275005).bind fun t282 => (if t282 = true then (some ((x275005.length : Int) == x7)) else (some false))) else (some false))) else (some false)) else (some false)))) else ((impl_ConfigOk.f k x274000 x274001).bind fun t283 => (if t283 = true then (some false) else (some false))))
end
def impl_MendOk.f (k : Nat) (l0_0 : List Int) (a0_1 : Int) (a1_0 : Int) (a1_1 : Int) (l1_2 : List Int) (l1_3 : List (S81)) (a1_4 : Bool) (l1_5 : List (List Int)) : Option (Bool) := impl_MendOk.l0 k l1_5 (l1_5.length : Int) 0 l0_0 a0_1 a1_0 a1_1 l1_2 l1_3 a1_4 l1_5
theorem impl_MendOk.mono_l : ∀ k, (∀ y0 y1 y2 y3 y4 y5 y6 y7 y8 y9 y10, LeO (impl_MendOk.l0 k y0 y1 y2 y3 y4 y5 y6 y7 y8 y9 y10) (impl_MendOk.l0 (k + 1) y0 y1 y2 y3 y4 y5 y6 y7 y8 y9 y10)) ∧ (∀ y0 y1 y2 y3 y4 y5 y6 y7 y8, LeO (impl_MendOk.j1 k y0 y1 y2 y3 y4 y5 y6 y7 y8) (impl_MendOk.j1 (k + 1) y0 y1 y2 y3 y4 y5 y6 y7 y8))
  | 0 => ⟨fun _ _ _ _ _ _ _ _ _ _ _ r h => by simp [impl_MendOk.l0] at h, fun _ _ _ _ _ _ _ _ _ r h => by simp [impl_MendOk.j1] at h⟩
  | k + 1 => by
    obtain ⟨ih0, ih1⟩ := impl_MendOk.mono_l k
    refine ⟨?_, ?_⟩
    · intro y0 y1 y2 y3 y4 y5 y6 y7 y8 y9 y10
      unfold impl_MendOk.l0
      repeat' first
      | (with_reducible exact ih0 _ _ _ _ _ _ _ _ _ _ _)
      | (with_reducible exact ih1 _ _ _ _ _ _ _ _ _)
      | (with_reducible exact impl_ConfigOk.mono _ _ _)
      | (with_reducible exact impl_NodesOk.mono _ _ _ _)
      | (with_reducible exact impl_seenOk.mono _ _ _ _ _ _ _)
      | (with_reducible exact LeO.refl _)
      | (with_reducible exact LeO.none _)
      | (with_reducible refine LeO.ite ?_ ?_)
      | (with_reducible refine LeO.bind ?_ (fun _ => ?_))
      | exact ih0 _ _ _ _ _ _ _ _ _ _ _
      | exact ih1 _ _ _ _ _ _ _ _ _
      | exact impl_ConfigOk.mono _ _ _
      | exact impl_NodesOk.mono _ _ _ _
      | exact impl_seenOk.mono _ _ _ _ _ _ _
      | exact LeO.none _
      | refine LeO.ite ?_ ?_
      | refine LeO.bind ?_ (fun _ => ?_)
    intro y0 y1 y2 y3 y4 y5 y6 y7 y8
    unfold impl_MendOk.j1
    repeat' first
    | (with_reducible exact ih0 _ _ _ _ _ _ _ _ _ _ _)
    | (with_reducible exact ih1 _ _ _ _ _ _ _ _ _)
    | (with_reducible exact impl_ConfigOk.mono _ _ _)
    | (with_reducible exact impl_NodesOk.mono _ _ _ _)
    | (with_reducible exact impl_seenOk.mono _ _ _ _ _ _ _)
    | (with_reducible exact LeO.refl _)
    | (with_reducible exact LeO.none _)
    | (with_reducible refine LeO.ite ?_ ?_)
    | (with_reducible refine LeO.bind ?_ (fun _ => ?_))
    | exact ih0 _ _ _ _ _ _ _ _ _ _ _
    | exact ih1 _ _ _ _ _ _ _ _ _
    | exact impl_ConfigOk.mono _ _ _
    | exact impl_NodesOk.mono _ _ _ _
    | exact impl_seenOk.mono _ _ _ _ _ _ _
    | exact LeO.none _
    | refine LeO.ite ?_ ?_
    | refine LeO.bind ?_ (fun _ => ?_)
theorem impl_MendOk.mono : ∀ a0 a1 a2 a3 a4 a5 a6 a7 k, LeO (impl_MendOk.f k a0 a1 a2 a3 a4 a5 a6 a7) (impl_MendOk.f (k + 1) a0 a1 a2 a3 a4 a5 a6 a7) := by
  intro a0 a1 a2 a3 a4 a5 a6 a7 k
  obtain ⟨ih0, ih1⟩ := impl_MendOk.mono_l k
  unfold impl_MendOk.f
  repeat' first
      | (with_reducible exact ih0 _ _ _ _ _ _ _ _ _ _ _)
      | (with_reducible exact ih1 _ _ _ _ _ _ _ _ _)
      | (with_reducible exact impl_ConfigOk.mono _ _ _)
      | (with_reducible exact impl_NodesOk.mono _ _ _ _)
      | (with_reducible exact impl_seenOk.mono _ _ _ _ _ _ _)
      | (with_reducible exact LeO.refl _)
      | (with_reducible exact LeO.none _)
      | (with_reducible refine LeO.ite ?_ ?_)
      | (with_reducible refine LeO.bind ?_ (fun _ => ?_))
      | exact ih0 _ _ _ _ _ _ _ _ _ _ _
      | exact ih1 _ _ _ _ _ _ _ _ _
      | exact impl_ConfigOk.mono _ _ _
      | exact impl_NodesOk.mono _ _ _ _
      | exact impl_seenOk.mono _ _ _ _ _ _ _
      | exact LeO.none _
      | refine LeO.ite ?_ ?_
      | refine LeO.bind ?_ (fun _ => ?_)
set_option maxHeartbeats 8000000 in
set_option maxRecDepth 100000 in
theorem impl_MendOk.calls (k : Nat) (A0_0 : Option Addr) (c0_0 : Nat) (l0_0 : List Int) (a0_1 : Int) (a1_0 : Int) (a1_1 : Int) (A1_2 : Option Addr) (c1_2 : Nat) (l1_2 : List Int) (A1_3 : Option Addr) (c1_3 : Nat) (l1_3 : List (S81)) (a1_4 : Bool) (A1_5 : Option Addr) (c1_5 : Nat) (l1_5 : List (List Int)) (r : Bool) (w : World) (hr0_0 : Kd.C (Kd.int .i64) w A0_0 l0_0.length l0_0) (hc0_0 : l0_0.length ≤ c0_0) (hr1_2 : Kd.C (Kd.int .i64) w A1_2 l1_2.length l1_2) (hc1_2 : l1_2.length ≤ c1_2) (hr1_3 : Kd.C k81 w A1_3 l1_3.length l1_3) (hc1_3 : l1_3.length ≤ c1_3) (hr1_5 : Kd.C (Kd.slice 3 (Kd.int .i64)) w A1_5 l1_5.length l1_5) (hc1_5 : l1_5.length ≤ c1_5) (h : impl_MendOk.f k l0_0 a0_1 a1_0 a1_1 l1_2 l1_3 a1_4 l1_5 = some r) :
    Calls Try.prog 60 #[.agg #[.slice A0_0 l0_0.length c0_0, .int .i64 a0_1], .agg #[.int .i64 a1_0, .int .i64 a1_1, .slice A1_2 l1_2.length c1_2, .slice A1_3 l1_3.length c1_3, .bool a1_4, .slice A1_5 l1_5.length c1_5]] w fun e w' => e = .returned (.bool r) ∧ Below w.heap.size w w' := by
  have hu32 := Try.underlying32
  have hu36 := Try.underlying36
  have HR0_0 := Aside0.mk hr0_0
  have HC0_0 := Aside0.mk hc0_0
  clear hr0_0 hc0_0
  have HR1_2 := Aside0.mk hr1_2
  have HC1_2 := Aside0.mk hc1_2
  clear hr1_2 hc1_2
  have HR1_3 := Aside0.mk hr1_3
  have HC1_3 := Aside0.mk hc1_3
  clear hr1_3 hc1_3
  have HR1_5 := Aside0.mk hr1_5
  have HC1_5 := Aside0.mk hc1_5
  clear hr1_5 hc1_5
  have HB := Aside0.mk (Below.refl w.heap.size w)
  have H : (impl_MendOk.l0 k l1_5 (l1_5.length : Int) 0 l0_0 a0_1 a1_0 a1_1 l1_2 l1_3 a1_4 l1_5) = some r := h
  clear h
  have H' := Aside0.mk H
  clear H
  go_enter Try.func60, Try.ntmps60
  go_wp2_with (first | ((with_reducible refine gate_dst (N := 2) rfl ?_); (try (refine gate_guard (by rfl) ?_; dsimp only)); refine box_event kr_ (N := 2) kr_ (cs := #[.slice A0_0 l0_0.length c0_0, .int .i64 a0_1]) (t := 32) ks_ ?_; intro gb273 hg w1 hbox hb; have n0_ := Aside0.mk (below_step dz0 hb); have n1_ := Aside0.mk (hbox); have n2_ := Aside0.mk ((by rw [hg]; exact (below_size dz0) : w.heap.size ≤ gb273)); have n3_ := Aside0.mk ((by rw [hg]; exact (below_size dz0) : w.heap.size ≤ gb273)); clear HB; have HB := n0_; have BK273 := n1_; have GW273 := n2_; have GE273 := n3_; clear n0_ n1_ n2_ n3_; clear hb hbox hg) | ((with_reducible refine gate_dst (N := 3) rfl ?_); (try (refine gate_guard (by rfl) ?_; dsimp only)); refine box_event kr_ (N := 3) kr_ (cs := #[.int .i64 a1_0, .int .i64 a1_1, .slice A1_2 l1_2.length c1_2, .slice A1_3 l1_3.length c1_3, .bool a1_4, .slice A1_5 l1_5.length c1_5]) (t := 36) ks_ ?_; intro gb274 hg w2 hbox hb; have n0_ := (bkb_ BK273 hb); have n1_ := Aside0.mk (below_step dz44 hb); have n2_ := Aside0.mk (hbox); have n3_ := Aside0.mk ((by rw [hg]; exact (below_size dz44) : w.heap.size ≤ gb274)); have n4_ := Aside0.mk ((by rw [hg]; exact (below_size dz44) : w.heap.size ≤ gb274)); have n5_ := Aside0.mk ((by rw [hg]; exact Nat.ne_of_lt (blk_lt (g := gb273) (o := .cells #[.slice A0_0 l0_0.length c0_0, .int .i64 a0_1] 32 (0, 0)) dz63) : gb273 ≠ gb274)); have n6_ := Aside0.mk ((by rw [hg]; exact Nat.ne_of_gt (blk_lt (g := gb273) (o := .cells #[.slice A0_0 l0_0.length c0_0, .int .i64 a0_1] 32 (0, 0)) dz63) : gb274 ≠ gb273)); clear BK273; clear HB; have BK273 := n0_; have HB := n1_; have BK274 := n2_; have GW274 := n3_; have GE274 := n4_; have NB273_274 := n5_; have NB274_273 := n6_; clear n0_ n1_ n2_ n3_ n4_ n5_ n6_; clear hb hbox hg; have hnb5 := NB274_273.out; have hnc5 := NB273_274.out; have hcz6_0 : w2.cell? ⟨gb274, 0, none⟩ = some (.int .i64 a1_0) := (blk_cell BK274.out 0).trans rfl; have hcz6_1 : w2.cell? ⟨gb274, 1, none⟩ = some (.int .i64 a1_1) := (blk_cell BK274.out 1).trans rfl; have hcz6_2 : w2.cell? ⟨gb274, 2, none⟩ = some (.slice A1_2 l1_2.length c1_2) := (blk_cell BK274.out 2).trans rfl; have hcz6_3 : w2.cell? ⟨gb274, 3, none⟩ = some (.slice A1_3 l1_3.length c1_3) := (blk_cell BK274.out 3).trans rfl; have hcz6_4 : w2.cell? ⟨gb274, 4, none⟩ = some (.bool a1_4) := (blk_cell BK274.out 4).trans rfl; have hcz6_5 : w2.cell? ⟨gb274, 5, none⟩ = some (.slice A1_5 l1_5.length c1_5) := (blk_cell BK274.out 5).trans rfl; have hfz6_0 := blk_frozen BK274.out 0; have hfz6_1 := blk_frozen BK274.out 1; have hfz6_2 := blk_frozen BK274.out 2; have hfz6_3 := blk_frozen BK274.out 3; have hfz6_4 := blk_frozen BK274.out 4; have hfz6_5 := blk_frozen BK274.out 5))
  go_loopg [12] k (fun kq v12 w' => ∃ (x12_1 : Int), v12 = .int .i64 x12_1 ∧ Aside0 (impl_MendOk.l0 kq l1_5 (l1_5.length : Int) x12_1 l0_0 a0_1 a1_0 a1_1 l1_2 l1_3 a1_4 l1_5 = some r) ∧ Aside0 (kq ≤ k) ∧ Aside0 (w'.heap[gb273]? = some (.cells #[(.slice A0_0 l0_0.length c0_0), .int .i64 a0_1] 32 (0, 0))) ∧ Aside0 (w'.heap[gb274]? = some (.cells #[.int .i64 a1_0, .int .i64 a1_1, (.slice A1_2 l1_2.length c1_2), (.slice A1_3 l1_3.length c1_3), .bool a1_4, (.slice A1_5 l1_5.length c1_5)] 36 (0, 0))) ∧ Aside0 (Below w.heap.size w w'))
  case atStart => exact ⟨(0), dz3, H', ⟨Nat.le_refl _⟩, ⟨by (with_reducible repeat (first | refine blk_drewN ?_ _ | refine blk_drew ?_ | refine blk_alloc ?_ _)); exact BK273.out⟩, ⟨by (with_reducible repeat (first | refine blk_drewN ?_ _ | refine blk_drew ?_ | refine blk_alloc ?_ _)); exact BK274.out⟩, ⟨by repeat (first | (with_reducible first | exact HB.out | apply below_alloc | apply pw_below_drewN | apply below_drew1 | refine below_set ?_ GE273.out | refine below_set ?_ GE274.out) | exact HB.out)⟩⟩
  case round =>
    clear H'
    try clear c1
    try clear p2
    try clear c5
    try clear c6
    try clear hcz6_0
    try clear hcz6_1
    try clear hcz6_2
    try clear hcz6_3
    try clear hcz6_4
    try clear hcz6_5
    try clear hfz6_0
    try clear hfz6_1
    try clear hfz6_2
    try clear hfz6_3
    try clear hfz6_4
    try clear hfz6_5
    obtain ⟨x12_1, rfl, HA, HK1, BK273, BK274, HB⟩ := hrel
    cases gk with
    | zero => exact absurd HA.out (by simp [impl_MendOk.l0])
    | succ k1 =>
      have H := HA.out
      clear HA
      simp only [impl_MendOk.l0] at H
      by_cases c7 : x12_1 < (l1_5.length : Int)
      · rw [if_pos c7] at H
        have c7b0 : decide (x12_1 < (l1_5.length : Int)) = true := decide_eq_true c7
        clear c7
        by_cases c8 : 0 ≤ x12_1
        · rw [if_pos c8] at H
          have c8b0 : decide (0 ≤ x12_1) = true := decide_eq_true c8
          clear c8
          by_cases c9 : x12_1 < (l1_5.length : Int)
          · rw [if_pos c9] at H
            have c9b0 : decide (x12_1 < (l1_5.length : Int)) = true := decide_eq_true c9
            clear c9
            replace H := Option.bind_eq_some_iff.mp H
            obtain ⟨t276, A100, H⟩ := H
            replace H : (if t276 = true then (impl_MendOk.l0 k1 l1_5 (l1_5.length : Int) (wrap64 (x12_1 + 1)) l0_0 a0_1 a1_0 a1_1 l1_2 l1_3 a1_4 l1_5) else (some false)) = some r := H
            have A10 := Aside0.mk A100
            clear A100
            by_cases c11 : t276 = true
            · subst c11
              have H1 : (impl_MendOk.l0 k1 l1_5 (l1_5.length : Int) (wrap64 (x12_1 + 1)) l0_0 a0_1 a1_0 a1_1 l1_2 l1_3 a1_4 l1_5) = some r := by rw [if_pos rfl] at H; exact H
              clear H
              have H := H1
              clear H1
              have H' := Aside0.mk H
              clear H
              have p275 : 0 ≤ (x12_1 : Int) := of_decide_eq_true dz1
              have q275 : x12_1 < (l1_5.length : Int) := of_decide_eq_true dz1
              obtain ⟨ad275, A275_0, c275_0, e275, hx275_0, hl275_0, hi275_0⟩ := at_L4 HR1_5.out x12_1 p275 q275
              cases e275
              replace hx275_0 := (HB.out.cell (World.block_lt_of_cell? w _ hx275_0)).trans hx275_0
              have HR275_0 := Aside0.mk hi275_0
              have HC275_0 := Aside0.mk hl275_0
              clear hi275_0 hl275_0
              replace p275 := eq_true p275
              replace q275 := eq_true q275
              have hnb12 := NB273_274.out
              have hnc12 := NB274_273.out
              have hcz13_0 : wr.cell? ⟨gb273, 0, none⟩ = some (.slice A0_0 l0_0.length c0_0) := (blk_cell BK273.out 0).trans rfl
              have hcz13_1 : wr.cell? ⟨gb273, 1, none⟩ = some (.int .i64 a0_1) := (blk_cell BK273.out 1).trans rfl
              have hfz13_0 := blk_frozen BK273.out 0
              have hfz13_1 := blk_frozen BK273.out 1
              go_wp2_with (first | ((with_reducible refine gate_callee (f := 91) rfl ?_); refine goesL_ (some 18) rfl rfl Try.func91 (by kernel_rfl) rfl #[.agg #[.slice A0_0 l0_0.length c0_0, .int .i64 a0_1], .slice A275_0 (rd_L4 l1_5 x12_1).length c275_0] rfl dz2 ?_; (with_reducible refine (impl_NodesOk.calls k1 _ _ l0_0 a0_1 _ _ (rd_L4 l1_5 x12_1) true _ ?side1 ?side2 ?side3 ?side4 A10.out).mono ?_); (case side1 => repeat (first | exact (Kd.C_below HR0_0.out HB.out) | (with_reducible refine Kd.C_alloc ?_ _) | (with_reducible refine Kd.C_drewN ?_ _) | (with_reducible refine Kd.C_drew ?_))); (case side2 => exact HC0_0.out); (case side3 => repeat (first | exact (Kd.C_below HR275_0.out HB.out) | (with_reducible refine Kd.C_alloc ?_ _) | (with_reducible refine Kd.C_drewN ?_ _) | (with_reducible refine Kd.C_drew ?_))); (case side4 => exact HC275_0.out); rintro e w14 ⟨rfl, hb⟩; refine ⟨_, rfl, ?_⟩; have n0_ := (bkb_ BK273 hb); have n1_ := (bkb_ BK274 hb); have n2_ := Aside0.mk (below_step dz8 hb); clear BK273; clear BK274; clear HB; have BK273 := n0_; have BK274 := n1_; have HB := n2_; clear n0_ n1_ n2_; (try clear hb); (try clear hb2); (try clear hk); (try clear hi)))
              go_roundg k1
              case measure => have := HK1.out; omega
              case rel => exact ⟨(wrap64 (x12_1 + 1)), dz3, H', ⟨by have := HK1.out; omega⟩, ⟨by (with_reducible repeat (first | refine blk_drewN ?_ _ | refine blk_drew ?_ | refine blk_alloc ?_ _)); exact BK273.out⟩, ⟨by (with_reducible repeat (first | refine blk_drewN ?_ _ | refine blk_drew ?_ | refine blk_alloc ?_ _)); exact BK274.out⟩, ⟨by repeat (first | (with_reducible first | exact HB.out | apply below_alloc | apply pw_below_drewN | apply below_drew1 | refine below_set ?_ GE273.out | refine below_set ?_ GE274.out) | exact HB.out)⟩⟩
            replace c11 := Bool.eq_false_iff.mpr c11
            subst c11
            have H1 : (some false) = some r := by rw [if_neg (show ¬ (false = true) by decide)] at H; exact H
            clear H
            have H := H1
            clear H1
            obtain rfl := Option.some.inj H
            have p275 : 0 ≤ (x12_1 : Int) := of_decide_eq_true dz1
            have q275 : x12_1 < (l1_5.length : Int) := of_decide_eq_true dz1
            obtain ⟨ad275, A275_0, c275_0, e275, hx275_0, hl275_0, hi275_0⟩ := at_L4 HR1_5.out x12_1 p275 q275
            cases e275
            replace hx275_0 := (HB.out.cell (World.block_lt_of_cell? w _ hx275_0)).trans hx275_0
            have HR275_0 := Aside0.mk hi275_0
            have HC275_0 := Aside0.mk hl275_0
            clear hi275_0 hl275_0
            replace p275 := eq_true p275
            replace q275 := eq_true q275
            have hnb15 := NB273_274.out
            have hnc15 := NB274_273.out
            have hcz16_0 : wr.cell? ⟨gb273, 0, none⟩ = some (.slice A0_0 l0_0.length c0_0) := (blk_cell BK273.out 0).trans rfl
            have hcz16_1 : wr.cell? ⟨gb273, 1, none⟩ = some (.int .i64 a0_1) := (blk_cell BK273.out 1).trans rfl
            have hfz16_0 := blk_frozen BK273.out 0
            have hfz16_1 := blk_frozen BK273.out 1
            go_wp2_with (first | ((with_reducible refine gate_callee (f := 91) rfl ?_); refine goesL_ (some 18) rfl rfl Try.func91 (by kernel_rfl) rfl #[.agg #[.slice A0_0 l0_0.length c0_0, .int .i64 a0_1], .slice A275_0 (rd_L4 l1_5 x12_1).length c275_0] rfl dz2 ?_; (with_reducible refine (impl_NodesOk.calls k1 _ _ l0_0 a0_1 _ _ (rd_L4 l1_5 x12_1) false _ ?side1 ?side2 ?side3 ?side4 A10.out).mono ?_); (case side1 => repeat (first | exact (Kd.C_below HR0_0.out HB.out) | (with_reducible refine Kd.C_alloc ?_ _) | (with_reducible refine Kd.C_drewN ?_ _) | (with_reducible refine Kd.C_drew ?_))); (case side2 => exact HC0_0.out); (case side3 => repeat (first | exact (Kd.C_below HR275_0.out HB.out) | (with_reducible refine Kd.C_alloc ?_ _) | (with_reducible refine Kd.C_drewN ?_ _) | (with_reducible refine Kd.C_drew ?_))); (case side4 => exact HC275_0.out); rintro e w17 ⟨rfl, hb⟩; refine ⟨_, rfl, ?_⟩; have n0_ := (bkb_ BK273 hb); have n1_ := (bkb_ BK274 hb); have n2_ := Aside0.mk (below_step dz8 hb); clear BK273; clear BK274; clear HB; have BK273 := n0_; have BK274 := n1_; have HB := n2_; clear n0_ n1_ n2_; (try clear hb); (try clear hb2); (try clear hk); (try clear hi)))
            go_ret
            exact dz102
          rw [if_neg c9] at H
          exact absurd H (by simp)
        rw [if_neg c8] at H
        exact absurd H (by simp)
      rw [if_neg c7] at H
      have c7b0 : decide (x12_1 < (l1_5.length : Int)) = false := decide_eq_false c7
      clear c7
      have HC18 := Aside0.mk H
      clear H
      have hnb19 := NB274_273.out
      have hnc19 := NB273_274.out
      have hcz20_0 : wr.cell? ⟨gb274, 0, none⟩ = some (.int .i64 a1_0) := (blk_cell BK274.out 0).trans rfl
      have hcz20_1 : wr.cell? ⟨gb274, 1, none⟩ = some (.int .i64 a1_1) := (blk_cell BK274.out 1).trans rfl
      have hcz20_2 : wr.cell? ⟨gb274, 2, none⟩ = some (.slice A1_2 l1_2.length c1_2) := (blk_cell BK274.out 2).trans rfl
      have hcz20_3 : wr.cell? ⟨gb274, 3, none⟩ = some (.slice A1_3 l1_3.length c1_3) := (blk_cell BK274.out 3).trans rfl
      have hcz20_4 : wr.cell? ⟨gb274, 4, none⟩ = some (.bool a1_4) := (blk_cell BK274.out 4).trans rfl
      have hcz20_5 : wr.cell? ⟨gb274, 5, none⟩ = some (.slice A1_5 l1_5.length c1_5) := (blk_cell BK274.out 5).trans rfl
      have hfz20_0 := blk_frozen BK274.out 0
      have hfz20_1 := blk_frozen BK274.out 1
      have hfz20_2 := blk_frozen BK274.out 2
      have hfz20_3 := blk_frozen BK274.out 3
      have hfz20_4 := blk_frozen BK274.out 4
      have hfz20_5 := blk_frozen BK274.out 5
      go_upto_if 22 with (fail)
      go_cut [7] (fun v7 wc => ∃ (kq : Nat) (x7_17 : Int), v7 = .int .i64 x7_17 ∧ Aside0 (impl_MendOk.j1 kq x7_17 l0_0 a0_1 a1_0 a1_1 l1_2 l1_3 a1_4 l1_5 = some r) ∧ Aside0 (kq ≤ k1) ∧ Aside0 (wc.heap[gb273]? = some (.cells #[(.slice A0_0 l0_0.length c0_0), .int .i64 a0_1] 32 (0, 0))) ∧ Aside0 (wc.heap[gb274]? = some (.cells #[.int .i64 a1_0, .int .i64 a1_1, (.slice A1_2 l1_2.length c1_2), (.slice A1_3 l1_3.length c1_3), .bool a1_4, (.slice A1_5 l1_5.length c1_5)] 36 (0, 0))) ∧ Aside0 (Below w.heap.size w wc))
      case first =>
        have H := HC18.out
        clear HC18
        by_cases c21 : a1_4 = true
        · subst c21
          have H1 : ((impl_lastOff.f a1_0 a1_1 l1_2 l1_3 true l1_5).bind fun t277 => (impl_MendOk.j1 k1 t277 l0_0 a0_1 a1_0 a1_1 l1_2 l1_3 true l1_5)) = some r := by rw [if_pos rfl] at H; exact H
          clear H
          have H := H1
          clear H1
          replace H := Option.bind_eq_some_iff.mp H
          obtain ⟨t277, A220, H⟩ := H
          replace H : (impl_MendOk.j1 k1 t277 l0_0 a0_1 a1_0 a1_1 l1_2 l1_3 true l1_5) = some r := H
          have A22 := Aside0.mk A220
          clear A220
          have H' := Aside0.mk H
          clear H
          have hnb23 := NB274_273.out
          have hnc23 := NB273_274.out
          have hcz24_0 : wr.cell? ⟨gb274, 0, none⟩ = some (.int .i64 a1_0) := (blk_cell BK274.out 0).trans rfl
          have hcz24_1 : wr.cell? ⟨gb274, 1, none⟩ = some (.int .i64 a1_1) := (blk_cell BK274.out 1).trans rfl
          have hcz24_2 : wr.cell? ⟨gb274, 2, none⟩ = some (.slice A1_2 l1_2.length c1_2) := (blk_cell BK274.out 2).trans rfl
          have hcz24_3 : wr.cell? ⟨gb274, 3, none⟩ = some (.slice A1_3 l1_3.length c1_3) := (blk_cell BK274.out 3).trans rfl
          have hcz24_4 : wr.cell? ⟨gb274, 4, none⟩ = some (.bool true) := (blk_cell BK274.out 4).trans rfl
          have hcz24_5 : wr.cell? ⟨gb274, 5, none⟩ = some (.slice A1_5 l1_5.length c1_5) := (blk_cell BK274.out 5).trans rfl
          have hfz24_0 := blk_frozen BK274.out 0
          have hfz24_1 := blk_frozen BK274.out 1
          have hfz24_2 := blk_frozen BK274.out 2
          have hfz24_3 := blk_frozen BK274.out 3
          have hfz24_4 := blk_frozen BK274.out 4
          have hfz24_5 := blk_frozen BK274.out 5
          go_wp2_with (first | ((with_reducible refine gate_callee (f := 114) rfl ?_); refine goesL_ (some 24) rfl rfl Try.func114 (by kernel_rfl) rfl #[.agg #[.int .i64 a1_0, .int .i64 a1_1, .slice A1_2 l1_2.length c1_2, .slice A1_3 l1_3.length c1_3, .bool true, .slice A1_5 l1_5.length c1_5]] rfl dz2 ?_; (with_reducible refine (impl_lastOff.calls a1_0 a1_1 _ _ l1_2 _ _ l1_3 true _ _ l1_5 t277 _ ?side1 ?side2 ?side3 ?side4 ?side5 ?side6 A22.out).mono ?_); (case side1 => repeat (first | exact (Kd.C_below HR1_2.out HB.out) | (with_reducible refine Kd.C_alloc ?_ _) | (with_reducible refine Kd.C_drewN ?_ _) | (with_reducible refine Kd.C_drew ?_))); (case side2 => exact HC1_2.out); (case side3 => repeat (first | exact (Kd.C_below HR1_3.out HB.out) | (with_reducible refine Kd.C_alloc ?_ _) | (with_reducible refine Kd.C_drewN ?_ _) | (with_reducible refine Kd.C_drew ?_))); (case side4 => exact HC1_3.out); (case side5 => repeat (first | exact (Kd.C_below HR1_5.out HB.out) | (with_reducible refine Kd.C_alloc ?_ _) | (with_reducible refine Kd.C_drewN ?_ _) | (with_reducible refine Kd.C_drew ?_))); (case side6 => exact HC1_5.out); rintro e w25 ⟨rfl, hb⟩; refine ⟨_, rfl, ?_⟩; have n0_ := (bkb_ BK273 hb); have n1_ := (bkb_ BK274 hb); have n2_ := Aside0.mk (below_step dz8 hb); clear BK273; clear BK274; clear HB; have BK273 := n0_; have BK274 := n1_; have HB := n2_; clear n0_ n1_ n2_; (try clear hb); (try clear hb2); (try clear hk); (try clear hi)))
          go_meet
          case rel => exact ⟨_, (t277), dz3, H', ⟨by have := HK1.out; first | omega | exact Nat.le_refl _⟩, ⟨by (with_reducible repeat (first | refine blk_drewN ?_ _ | refine blk_drew ?_ | refine blk_alloc ?_ _)); exact BK273.out⟩, ⟨by (with_reducible repeat (first | refine blk_drewN ?_ _ | refine blk_drew ?_ | refine blk_alloc ?_ _)); exact BK274.out⟩, ⟨by repeat (first | (with_reducible first | exact HB.out | apply below_alloc | apply pw_below_drewN | apply below_drew1 | refine below_set ?_ GE273.out | refine below_set ?_ GE274.out) | exact HB.out)⟩⟩
        replace c21 := Bool.eq_false_iff.mpr c21
        subst c21
        have H1 : (impl_MendOk.j1 k1 0 l0_0 a0_1 a1_0 a1_1 l1_2 l1_3 false l1_5) = some r := by rw [if_neg (show ¬ (false = true) by decide)] at H; exact H
        clear H
        have H := H1
        clear H1
        have H' := Aside0.mk H
        clear H
        go_wp2
        go_meet
        case rel => exact ⟨_, (0), dz3, H', ⟨by have := HK1.out; first | omega | exact Nat.le_refl _⟩, ⟨by (with_reducible repeat (first | refine blk_drewN ?_ _ | refine blk_drew ?_ | refine blk_alloc ?_ _)); exact BK273.out⟩, ⟨by (with_reducible repeat (first | refine blk_drewN ?_ _ | refine blk_drew ?_ | refine blk_alloc ?_ _)); exact BK274.out⟩, ⟨by repeat (first | (with_reducible first | exact HB.out | apply below_alloc | apply pw_below_drewN | apply below_drew1 | refine below_set ?_ GE273.out | refine below_set ?_ GE274.out) | exact HB.out)⟩⟩
      case rest =>
        clear HC18
        try clear c1
        try clear c2
        try clear p2
        try clear q2
        try clear hx2
        try clear c5
        try clear c6
        try clear p6
        try clear c7
        try clear c7b0
        try clear c8
        try clear c8b0
        try clear c9
        try clear c9b0
        try clear c11
        try clear c12
        try clear c15
        try clear c19
        try clear c21
        try clear c23
        try clear hcz13_0
        try clear hcz13_1
        try clear hcz16_0
        try clear hcz16_1
        try clear hcz20_0
        try clear hcz20_1
        try clear hcz20_2
        try clear hcz20_3
        try clear hcz20_4
        try clear hcz20_5
        try clear hcz24_0
        try clear hcz24_1
        try clear hcz24_2
        try clear hcz24_3
        try clear hcz24_4
        try clear hcz24_5
        try clear hcz6_0
        try clear hcz6_1
        try clear hcz6_2
        try clear hcz6_3
        try clear hcz6_4
        try clear hcz6_5
        try clear hfz13_0
        try clear hfz13_1
        try clear hfz16_0
        try clear hfz16_1
        try clear hfz20_0
        try clear hfz20_1
        try clear hfz20_2
        try clear hfz20_3
        try clear hfz20_4
        try clear hfz20_5
        try clear hfz24_0
        try clear hfz24_1
        try clear hfz24_2
        try clear hfz24_3
        try clear hfz24_4
        try clear hfz24_5
        try clear hfz6_0
        try clear hfz6_1
        try clear hfz6_2
        try clear hfz6_3
        try clear hfz6_4
        try clear hfz6_5
        try clear hx275_0
        try clear p2
        try clear p275
        try clear q275
        obtain ⟨kq, x7_17, rfl, HA, HJ17, BK273, BK274, HB⟩ := hcut
        cases kq with
        | zero => exact absurd HA.out (by simp [impl_MendOk.j1])
        | succ kj17 =>
          have H := HA.out
          clear HA
          simp only [impl_MendOk.j1] at H
          replace H := Option.bind_eq_some_iff.mp H
          obtain ⟨t278, A260, H⟩ := H
          replace H : (if t278 = true then ((impl_within.f a1_0 (wrap64 (a1_1 + 1)) 30).bind fun t279 => ((impl_ConfigOk.f kj17 l0_0 a0_1).bind fun t280 => (if t280 = true then (if t279 = true then ((impl_NodesOk.f kj17 l0_0 a0_1 l1_2).bind fun t281 => (if t281 = true then ((impl_seenOk.f kj17 a1_0 a1_1 l1_2 l1_3 a1_4 l1_5).bind fun t282 => (if t282 = true then (some ((l1_5.length : Int) == x7_17)) else (some false))) else (some false))) else (some false)) else (some false)))) else ((impl_ConfigOk.f kj17 l0_0 a0_1).bind fun t283 => (if t283 = true then (some false) else (some false)))) = some r := H
          have A26 := Aside0.mk A260
          clear A260
          by_cases c27 : t278 = true
          · subst c27
            have H1 : ((impl_within.f a1_0 (wrap64 (a1_1 + 1)) 30).bind fun t279 => ((impl_ConfigOk.f kj17 l0_0 a0_1).bind fun t280 => (if t280 = true then (if t279 = true then ((impl_NodesOk.f kj17 l0_0 a0_1 l1_2).bind fun t281 => (if t281 = true then ((impl_seenOk.f kj17 a1_0 a1_1 l1_2 l1_3 a1_4 l1_5).bind fun t282 => (if t282 = true then (some ((l1_5.length : Int) == x7_17)) else (some false))) else (some false))) else (some false)) else (some false)))) = some r := by rw [if_pos rfl] at H; exact H
            clear H
            have H := H1
            clear H1
            replace H := Option.bind_eq_some_iff.mp H
            obtain ⟨t279, A280, H⟩ := H
            replace H : ((impl_ConfigOk.f kj17 l0_0 a0_1).bind fun t280 => (if t280 = true then (if t279 = true then ((impl_NodesOk.f kj17 l0_0 a0_1 l1_2).bind fun t281 => (if t281 = true then ((impl_seenOk.f kj17 a1_0 a1_1 l1_2 l1_3 a1_4 l1_5).bind fun t282 => (if t282 = true then (some ((l1_5.length : Int) == x7_17)) else (some false))) else (some false))) else (some false)) else (some false))) = some r := H
            have A28 := Aside0.mk A280
            clear A280
            replace H := Option.bind_eq_some_iff.mp H
            obtain ⟨t280, A290, H⟩ := H
            replace H : (if t280 = true then (if t279 = true then ((impl_NodesOk.f kj17 l0_0 a0_1 l1_2).bind fun t281 => (if t281 = true then ((impl_seenOk.f kj17 a1_0 a1_1 l1_2 l1_3 a1_4 l1_5).bind fun t282 => (if t282 = true then (some ((l1_5.length : Int) == x7_17)) else (some false))) else (some false))) else (some false)) else (some false)) = some r := H
            have A29 := Aside0.mk A290
            clear A290
            by_cases c30 : t280 = true
            · subst c30
              have H1 : (if t279 = true then ((impl_NodesOk.f kj17 l0_0 a0_1 l1_2).bind fun t281 => (if t281 = true then ((impl_seenOk.f kj17 a1_0 a1_1 l1_2 l1_3 a1_4 l1_5).bind fun t282 => (if t282 = true then (some ((l1_5.length : Int) == x7_17)) else (some false))) else (some false))) else (some false)) = some r := by rw [if_pos rfl] at H; exact H
              clear H
              have H := H1
              clear H1
              by_cases c31 : t279 = true
              · subst c31
                have H1 : ((impl_NodesOk.f kj17 l0_0 a0_1 l1_2).bind fun t281 => (if t281 = true then ((impl_seenOk.f kj17 a1_0 a1_1 l1_2 l1_3 a1_4 l1_5).bind fun t282 => (if t282 = true then (some ((l1_5.length : Int) == x7_17)) else (some false))) else (some false))) = some r := by rw [if_pos rfl] at H; exact H
                clear H
                have H := H1
                clear H1
                replace H := Option.bind_eq_some_iff.mp H
                obtain ⟨t281, A320, H⟩ := H
                replace H : (if t281 = true then ((impl_seenOk.f kj17 a1_0 a1_1 l1_2 l1_3 a1_4 l1_5).bind fun t282 => (if t282 = true then (some ((l1_5.length : Int) == x7_17)) else (some false))) else (some false)) = some r := H
                have A32 := Aside0.mk A320
                clear A320
                by_cases c33 : t281 = true
                · subst c33
                  have H1 : ((impl_seenOk.f kj17 a1_0 a1_1 l1_2 l1_3 a1_4 l1_5).bind fun t282 => (if t282 = true then (some ((l1_5.length : Int) == x7_17)) else (some false))) = some r := by rw [if_pos rfl] at H; exact H
                  clear H
                  have H := H1
                  clear H1
                  replace H := Option.bind_eq_some_iff.mp H
                  obtain ⟨t282, A340, H⟩ := H
                  replace H : (if t282 = true then (some ((l1_5.length : Int) == x7_17)) else (some false)) = some r := H
                  have A34 := Aside0.mk A340
                  clear A340
                  by_cases c35 : t282 = true
                  · subst c35
                    have H1 : (some ((l1_5.length : Int) == x7_17)) = some r := by rw [if_pos rfl] at H; exact H
                    clear H
                    have H := H1
                    clear H1
                    obtain rfl := Option.some.inj H
                    have hnb36 := NB274_273.out
                    have hnc36 := NB273_274.out
                    have hcz37_0 : wc.cell? ⟨gb274, 0, none⟩ = some (.int .i64 a1_0) := (blk_cell BK274.out 0).trans rfl
                    have hcz37_1 : wc.cell? ⟨gb274, 1, none⟩ = some (.int .i64 a1_1) := (blk_cell BK274.out 1).trans rfl
                    have hcz37_2 : wc.cell? ⟨gb274, 2, none⟩ = some (.slice A1_2 l1_2.length c1_2) := (blk_cell BK274.out 2).trans rfl
                    have hcz37_3 : wc.cell? ⟨gb274, 3, none⟩ = some (.slice A1_3 l1_3.length c1_3) := (blk_cell BK274.out 3).trans rfl
                    have hcz37_4 : wc.cell? ⟨gb274, 4, none⟩ = some (.bool a1_4) := (blk_cell BK274.out 4).trans rfl
                    have hcz37_5 : wc.cell? ⟨gb274, 5, none⟩ = some (.slice A1_5 l1_5.length c1_5) := (blk_cell BK274.out 5).trans rfl
                    have hfz37_0 := blk_frozen BK274.out 0
                    have hfz37_1 := blk_frozen BK274.out 1
                    have hfz37_2 := blk_frozen BK274.out 2
                    have hfz37_3 := blk_frozen BK274.out 3
                    have hfz37_4 := blk_frozen BK274.out 4
                    have hfz37_5 := blk_frozen BK274.out 5
                    go_wp2_with (first | ((with_reducible refine gate_callee (f := 96) rfl ?_); refine goesL_ (some 27) rfl rfl Try.func96 (by kernel_rfl) rfl #[.int .i64 a1_1] rfl dz2 ?_; (with_reducible refine (impl_isEpoch.calls a1_1 true _ A26.out).mono ?_); rintro e w' ⟨rfl, ⟨nd, rfl⟩⟩; refine ⟨_, rfl, ?_⟩) | (go_at_call 86; (with_reducible refine (impl_within.calls a1_0 (wrap64 (a1_1 + 1)) 30 true _ A28.out).mono ?_); rintro e w' ⟨rfl, ⟨nd, rfl⟩⟩; have hcz38_0 : wc.cell? ⟨gb273, 0, none⟩ = some (.slice A0_0 l0_0.length c0_0) := (blk_cell BK273.out 0).trans rfl; have hcz38_1 : wc.cell? ⟨gb273, 1, none⟩ = some (.int .i64 a0_1) := (blk_cell BK273.out 1).trans rfl; have hfz38_0 := blk_frozen BK273.out 0; have hfz38_1 := blk_frozen BK273.out 1) | ((with_reducible refine gate_callee (f := 95) rfl ?_); refine goesL_ (some 37) rfl rfl Try.func95 (by kernel_rfl) rfl #[.agg #[.slice A0_0 l0_0.length c0_0, .int .i64 a0_1]] rfl dz2 ?_; (with_reducible refine (impl_ConfigOk.calls kj17 _ _ l0_0 a0_1 true _ ?side1 ?side2 A29.out).mono ?_); (case side1 => repeat (first | exact (Kd.C_below HR0_0.out dz8) | (with_reducible refine Kd.C_alloc ?_ _) | (with_reducible refine Kd.C_drewN ?_ _) | (with_reducible refine Kd.C_drew ?_))); (case side2 => exact HC0_0.out); rintro e w39 ⟨rfl, hb⟩; refine ⟨_, rfl, ?_⟩; have n0_ := (bkb_ BK273 hb); have n1_ := (bkb_ BK274 hb); have n2_ := Aside0.mk (below_step dz8 hb); clear BK273; clear BK274; clear HB; have BK273 := n0_; have BK274 := n1_; have HB := n2_; clear n0_ n1_ n2_; (try clear hb); (try clear hb2); (try clear hk); (try clear hi); have hcz40_0 : w39.cell? ⟨gb273, 0, none⟩ = some (.slice A0_0 l0_0.length c0_0) := (blk_cell BK273.out 0).trans rfl; have hcz40_1 : w39.cell? ⟨gb273, 1, none⟩ = some (.int .i64 a0_1) := (blk_cell BK273.out 1).trans rfl; have hfz40_0 := blk_frozen BK273.out 0; have hfz40_1 := blk_frozen BK273.out 1; have hcz41_0 : w39.cell? ⟨gb274, 0, none⟩ = some (.int .i64 a1_0) := (blk_cell BK274.out 0).trans rfl; have hcz41_1 : w39.cell? ⟨gb274, 1, none⟩ = some (.int .i64 a1_1) := (blk_cell BK274.out 1).trans rfl; have hcz41_2 : w39.cell? ⟨gb274, 2, none⟩ = some (.slice A1_2 l1_2.length c1_2) := (blk_cell BK274.out 2).trans rfl; have hcz41_3 : w39.cell? ⟨gb274, 3, none⟩ = some (.slice A1_3 l1_3.length c1_3) := (blk_cell BK274.out 3).trans rfl; have hcz41_4 : w39.cell? ⟨gb274, 4, none⟩ = some (.bool a1_4) := (blk_cell BK274.out 4).trans rfl; have hcz41_5 : w39.cell? ⟨gb274, 5, none⟩ = some (.slice A1_5 l1_5.length c1_5) := (blk_cell BK274.out 5).trans rfl; have hfz41_0 := blk_frozen BK274.out 0; have hfz41_1 := blk_frozen BK274.out 1; have hfz41_2 := blk_frozen BK274.out 2; have hfz41_3 := blk_frozen BK274.out 3; have hfz41_4 := blk_frozen BK274.out 4; have hfz41_5 := blk_frozen BK274.out 5) | (go_at_call 91; (with_reducible refine (impl_NodesOk.calls kj17 _ _ l0_0 a0_1 _ _ l1_2 true _ ?side1 ?side2 ?side3 ?side4 A32.out).mono ?_); (case side1 => repeat (first | exact (Kd.C_below HR0_0.out HB.out) | (with_reducible refine Kd.C_alloc ?_ _) | (with_reducible refine Kd.C_drewN ?_ _) | (with_reducible refine Kd.C_drew ?_))); (case side2 => exact HC0_0.out); (case side3 => repeat (first | exact (Kd.C_below HR1_2.out HB.out) | (with_reducible refine Kd.C_alloc ?_ _) | (with_reducible refine Kd.C_drewN ?_ _) | (with_reducible refine Kd.C_drew ?_))); (case side4 => exact HC1_2.out); rintro e w42 ⟨rfl, hb⟩; have n0_ := (bkb_ BK273 hb); have n1_ := (bkb_ BK274 hb); have n2_ := Aside0.mk (below_step dz8 hb); clear BK273; clear BK274; clear HB; have BK273 := n0_; have BK274 := n1_; have HB := n2_; clear n0_ n1_ n2_; (try clear hb); (try clear hb2); (try clear hk); (try clear hi); have hcz43_0 : w42.cell? ⟨gb274, 0, none⟩ = some (.int .i64 a1_0) := (blk_cell BK274.out 0).trans rfl; have hcz43_1 : w42.cell? ⟨gb274, 1, none⟩ = some (.int .i64 a1_1) := (blk_cell BK274.out 1).trans rfl; have hcz43_2 : w42.cell? ⟨gb274, 2, none⟩ = some (.slice A1_2 l1_2.length c1_2) := (blk_cell BK274.out 2).trans rfl; have hcz43_3 : w42.cell? ⟨gb274, 3, none⟩ = some (.slice A1_3 l1_3.length c1_3) := (blk_cell BK274.out 3).trans rfl; have hcz43_4 : w42.cell? ⟨gb274, 4, none⟩ = some (.bool a1_4) := (blk_cell BK274.out 4).trans rfl; have hcz43_5 : w42.cell? ⟨gb274, 5, none⟩ = some (.slice A1_5 l1_5.length c1_5) := (blk_cell BK274.out 5).trans rfl; have hfz43_0 := blk_frozen BK274.out 0; have hfz43_1 := blk_frozen BK274.out 1; have hfz43_2 := blk_frozen BK274.out 2; have hfz43_3 := blk_frozen BK274.out 3; have hfz43_4 := blk_frozen BK274.out 4; have hfz43_5 := blk_frozen BK274.out 5) | (go_at_call 115; (with_reducible refine (impl_seenOk.calls kj17 a1_0 a1_1 _ _ l1_2 _ _ l1_3 a1_4 _ _ l1_5 true _ ?side1 ?side2 ?side3 ?side4 ?side5 ?side6 A34.out).mono ?_); (case side1 => repeat (first | exact (Kd.C_below HR1_2.out HB.out) | (with_reducible refine Kd.C_alloc ?_ _) | (with_reducible refine Kd.C_drewN ?_ _) | (with_reducible refine Kd.C_drew ?_))); (case side2 => exact HC1_2.out); (case side3 => repeat (first | exact (Kd.C_below HR1_3.out HB.out) | (with_reducible refine Kd.C_alloc ?_ _) | (with_reducible refine Kd.C_drewN ?_ _) | (with_reducible refine Kd.C_drew ?_))); (case side4 => exact HC1_3.out); (case side5 => repeat (first | exact (Kd.C_below HR1_5.out HB.out) | (with_reducible refine Kd.C_alloc ?_ _) | (with_reducible refine Kd.C_drewN ?_ _) | (with_reducible refine Kd.C_drew ?_))); (case side6 => exact HC1_5.out); rintro e w44 ⟨rfl, hb⟩; have n0_ := (bkb_ BK273 hb); have n1_ := (bkb_ BK274 hb); have n2_ := Aside0.mk (below_step dz8 hb); clear BK273; clear BK274; clear HB; have BK273 := n0_; have BK274 := n1_; have HB := n2_; clear n0_ n1_ n2_; (try clear hb); (try clear hb2); (try clear hk); (try clear hi); have hcz45_0 : w44.cell? ⟨gb274, 0, none⟩ = some (.int .i64 a1_0) := (blk_cell BK274.out 0).trans rfl; have hcz45_1 : w44.cell? ⟨gb274, 1, none⟩ = some (.int .i64 a1_1) := (blk_cell BK274.out 1).trans rfl; have hcz45_2 : w44.cell? ⟨gb274, 2, none⟩ = some (.slice A1_2 l1_2.length c1_2) := (blk_cell BK274.out 2).trans rfl; have hcz45_3 : w44.cell? ⟨gb274, 3, none⟩ = some (.slice A1_3 l1_3.length c1_3) := (blk_cell BK274.out 3).trans rfl; have hcz45_4 : w44.cell? ⟨gb274, 4, none⟩ = some (.bool a1_4) := (blk_cell BK274.out 4).trans rfl; have hcz45_5 : w44.cell? ⟨gb274, 5, none⟩ = some (.slice A1_5 l1_5.length c1_5) := (blk_cell BK274.out 5).trans rfl; have hfz45_0 := blk_frozen BK274.out 0; have hfz45_1 := blk_frozen BK274.out 1; have hfz45_2 := blk_frozen BK274.out 2; have hfz45_3 := blk_frozen BK274.out 3; have hfz45_4 := blk_frozen BK274.out 4; have hfz45_5 := blk_frozen BK274.out 5))
                    go_ret
                    exact dz102
                  replace c35 := Bool.eq_false_iff.mpr c35
                  subst c35
                  have H1 : (some false) = some r := by rw [if_neg (show ¬ (false = true) by decide)] at H; exact H
                  clear H
                  have H := H1
                  clear H1
                  obtain rfl := Option.some.inj H
                  have hnb46 := NB274_273.out
                  have hnc46 := NB273_274.out
                  have hcz47_0 : wc.cell? ⟨gb274, 0, none⟩ = some (.int .i64 a1_0) := (blk_cell BK274.out 0).trans rfl
                  have hcz47_1 : wc.cell? ⟨gb274, 1, none⟩ = some (.int .i64 a1_1) := (blk_cell BK274.out 1).trans rfl
                  have hcz47_2 : wc.cell? ⟨gb274, 2, none⟩ = some (.slice A1_2 l1_2.length c1_2) := (blk_cell BK274.out 2).trans rfl
                  have hcz47_3 : wc.cell? ⟨gb274, 3, none⟩ = some (.slice A1_3 l1_3.length c1_3) := (blk_cell BK274.out 3).trans rfl
                  have hcz47_4 : wc.cell? ⟨gb274, 4, none⟩ = some (.bool a1_4) := (blk_cell BK274.out 4).trans rfl
                  have hcz47_5 : wc.cell? ⟨gb274, 5, none⟩ = some (.slice A1_5 l1_5.length c1_5) := (blk_cell BK274.out 5).trans rfl
                  have hfz47_0 := blk_frozen BK274.out 0
                  have hfz47_1 := blk_frozen BK274.out 1
                  have hfz47_2 := blk_frozen BK274.out 2
                  have hfz47_3 := blk_frozen BK274.out 3
                  have hfz47_4 := blk_frozen BK274.out 4
                  have hfz47_5 := blk_frozen BK274.out 5
                  go_wp2_with (first | ((with_reducible refine gate_callee (f := 96) rfl ?_); refine goesL_ (some 27) rfl rfl Try.func96 (by kernel_rfl) rfl #[.int .i64 a1_1] rfl dz2 ?_; (with_reducible refine (impl_isEpoch.calls a1_1 true _ A26.out).mono ?_); rintro e w' ⟨rfl, ⟨nd, rfl⟩⟩; refine ⟨_, rfl, ?_⟩) | (go_at_call 86; (with_reducible refine (impl_within.calls a1_0 (wrap64 (a1_1 + 1)) 30 true _ A28.out).mono ?_); rintro e w' ⟨rfl, ⟨nd, rfl⟩⟩; have hcz48_0 : wc.cell? ⟨gb273, 0, none⟩ = some (.slice A0_0 l0_0.length c0_0) := (blk_cell BK273.out 0).trans rfl; have hcz48_1 : wc.cell? ⟨gb273, 1, none⟩ = some (.int .i64 a0_1) := (blk_cell BK273.out 1).trans rfl; have hfz48_0 := blk_frozen BK273.out 0; have hfz48_1 := blk_frozen BK273.out 1) | ((with_reducible refine gate_callee (f := 95) rfl ?_); refine goesL_ (some 37) rfl rfl Try.func95 (by kernel_rfl) rfl #[.agg #[.slice A0_0 l0_0.length c0_0, .int .i64 a0_1]] rfl dz2 ?_; (with_reducible refine (impl_ConfigOk.calls kj17 _ _ l0_0 a0_1 true _ ?side1 ?side2 A29.out).mono ?_); (case side1 => repeat (first | exact (Kd.C_below HR0_0.out dz8) | (with_reducible refine Kd.C_alloc ?_ _) | (with_reducible refine Kd.C_drewN ?_ _) | (with_reducible refine Kd.C_drew ?_))); (case side2 => exact HC0_0.out); rintro e w49 ⟨rfl, hb⟩; refine ⟨_, rfl, ?_⟩; have n0_ := (bkb_ BK273 hb); have n1_ := (bkb_ BK274 hb); have n2_ := Aside0.mk (below_step dz8 hb); clear BK273; clear BK274; clear HB; have BK273 := n0_; have BK274 := n1_; have HB := n2_; clear n0_ n1_ n2_; (try clear hb); (try clear hb2); (try clear hk); (try clear hi); have hcz50_0 : w49.cell? ⟨gb273, 0, none⟩ = some (.slice A0_0 l0_0.length c0_0) := (blk_cell BK273.out 0).trans rfl; have hcz50_1 : w49.cell? ⟨gb273, 1, none⟩ = some (.int .i64 a0_1) := (blk_cell BK273.out 1).trans rfl; have hfz50_0 := blk_frozen BK273.out 0; have hfz50_1 := blk_frozen BK273.out 1; have hcz51_0 : w49.cell? ⟨gb274, 0, none⟩ = some (.int .i64 a1_0) := (blk_cell BK274.out 0).trans rfl; have hcz51_1 : w49.cell? ⟨gb274, 1, none⟩ = some (.int .i64 a1_1) := (blk_cell BK274.out 1).trans rfl; have hcz51_2 : w49.cell? ⟨gb274, 2, none⟩ = some (.slice A1_2 l1_2.length c1_2) := (blk_cell BK274.out 2).trans rfl; have hcz51_3 : w49.cell? ⟨gb274, 3, none⟩ = some (.slice A1_3 l1_3.length c1_3) := (blk_cell BK274.out 3).trans rfl; have hcz51_4 : w49.cell? ⟨gb274, 4, none⟩ = some (.bool a1_4) := (blk_cell BK274.out 4).trans rfl; have hcz51_5 : w49.cell? ⟨gb274, 5, none⟩ = some (.slice A1_5 l1_5.length c1_5) := (blk_cell BK274.out 5).trans rfl; have hfz51_0 := blk_frozen BK274.out 0; have hfz51_1 := blk_frozen BK274.out 1; have hfz51_2 := blk_frozen BK274.out 2; have hfz51_3 := blk_frozen BK274.out 3; have hfz51_4 := blk_frozen BK274.out 4; have hfz51_5 := blk_frozen BK274.out 5) | (go_at_call 91; (with_reducible refine (impl_NodesOk.calls kj17 _ _ l0_0 a0_1 _ _ l1_2 true _ ?side1 ?side2 ?side3 ?side4 A32.out).mono ?_); (case side1 => repeat (first | exact (Kd.C_below HR0_0.out HB.out) | (with_reducible refine Kd.C_alloc ?_ _) | (with_reducible refine Kd.C_drewN ?_ _) | (with_reducible refine Kd.C_drew ?_))); (case side2 => exact HC0_0.out); (case side3 => repeat (first | exact (Kd.C_below HR1_2.out HB.out) | (with_reducible refine Kd.C_alloc ?_ _) | (with_reducible refine Kd.C_drewN ?_ _) | (with_reducible refine Kd.C_drew ?_))); (case side4 => exact HC1_2.out); rintro e w52 ⟨rfl, hb⟩; have n0_ := (bkb_ BK273 hb); have n1_ := (bkb_ BK274 hb); have n2_ := Aside0.mk (below_step dz8 hb); clear BK273; clear BK274; clear HB; have BK273 := n0_; have BK274 := n1_; have HB := n2_; clear n0_ n1_ n2_; (try clear hb); (try clear hb2); (try clear hk); (try clear hi); have hcz53_0 : w52.cell? ⟨gb274, 0, none⟩ = some (.int .i64 a1_0) := (blk_cell BK274.out 0).trans rfl; have hcz53_1 : w52.cell? ⟨gb274, 1, none⟩ = some (.int .i64 a1_1) := (blk_cell BK274.out 1).trans rfl; have hcz53_2 : w52.cell? ⟨gb274, 2, none⟩ = some (.slice A1_2 l1_2.length c1_2) := (blk_cell BK274.out 2).trans rfl; have hcz53_3 : w52.cell? ⟨gb274, 3, none⟩ = some (.slice A1_3 l1_3.length c1_3) := (blk_cell BK274.out 3).trans rfl; have hcz53_4 : w52.cell? ⟨gb274, 4, none⟩ = some (.bool a1_4) := (blk_cell BK274.out 4).trans rfl; have hcz53_5 : w52.cell? ⟨gb274, 5, none⟩ = some (.slice A1_5 l1_5.length c1_5) := (blk_cell BK274.out 5).trans rfl; have hfz53_0 := blk_frozen BK274.out 0; have hfz53_1 := blk_frozen BK274.out 1; have hfz53_2 := blk_frozen BK274.out 2; have hfz53_3 := blk_frozen BK274.out 3; have hfz53_4 := blk_frozen BK274.out 4; have hfz53_5 := blk_frozen BK274.out 5) | (go_at_call 115; (with_reducible refine (impl_seenOk.calls kj17 a1_0 a1_1 _ _ l1_2 _ _ l1_3 a1_4 _ _ l1_5 false _ ?side1 ?side2 ?side3 ?side4 ?side5 ?side6 A34.out).mono ?_); (case side1 => repeat (first | exact (Kd.C_below HR1_2.out HB.out) | (with_reducible refine Kd.C_alloc ?_ _) | (with_reducible refine Kd.C_drewN ?_ _) | (with_reducible refine Kd.C_drew ?_))); (case side2 => exact HC1_2.out); (case side3 => repeat (first | exact (Kd.C_below HR1_3.out HB.out) | (with_reducible refine Kd.C_alloc ?_ _) | (with_reducible refine Kd.C_drewN ?_ _) | (with_reducible refine Kd.C_drew ?_))); (case side4 => exact HC1_3.out); (case side5 => repeat (first | exact (Kd.C_below HR1_5.out HB.out) | (with_reducible refine Kd.C_alloc ?_ _) | (with_reducible refine Kd.C_drewN ?_ _) | (with_reducible refine Kd.C_drew ?_))); (case side6 => exact HC1_5.out); rintro e w54 ⟨rfl, hb⟩; have n0_ := (bkb_ BK273 hb); have n1_ := (bkb_ BK274 hb); have n2_ := Aside0.mk (below_step dz8 hb); clear BK273; clear BK274; clear HB; have BK273 := n0_; have BK274 := n1_; have HB := n2_; clear n0_ n1_ n2_; (try clear hb); (try clear hb2); (try clear hk); (try clear hi)))
                  go_ret
                  exact dz102
                replace c33 := Bool.eq_false_iff.mpr c33
                subst c33
                have H1 : (some false) = some r := by rw [if_neg (show ¬ (false = true) by decide)] at H; exact H
                clear H
                have H := H1
                clear H1
                obtain rfl := Option.some.inj H
                have hnb55 := NB274_273.out
                have hnc55 := NB273_274.out
                have hcz56_0 : wc.cell? ⟨gb274, 0, none⟩ = some (.int .i64 a1_0) := (blk_cell BK274.out 0).trans rfl
                have hcz56_1 : wc.cell? ⟨gb274, 1, none⟩ = some (.int .i64 a1_1) := (blk_cell BK274.out 1).trans rfl
                have hcz56_2 : wc.cell? ⟨gb274, 2, none⟩ = some (.slice A1_2 l1_2.length c1_2) := (blk_cell BK274.out 2).trans rfl
                have hcz56_3 : wc.cell? ⟨gb274, 3, none⟩ = some (.slice A1_3 l1_3.length c1_3) := (blk_cell BK274.out 3).trans rfl
                have hcz56_4 : wc.cell? ⟨gb274, 4, none⟩ = some (.bool a1_4) := (blk_cell BK274.out 4).trans rfl
                have hcz56_5 : wc.cell? ⟨gb274, 5, none⟩ = some (.slice A1_5 l1_5.length c1_5) := (blk_cell BK274.out 5).trans rfl
                have hfz56_0 := blk_frozen BK274.out 0
                have hfz56_1 := blk_frozen BK274.out 1
                have hfz56_2 := blk_frozen BK274.out 2
                have hfz56_3 := blk_frozen BK274.out 3
                have hfz56_4 := blk_frozen BK274.out 4
                have hfz56_5 := blk_frozen BK274.out 5
                go_wp2_with (first | ((with_reducible refine gate_callee (f := 96) rfl ?_); refine goesL_ (some 27) rfl rfl Try.func96 (by kernel_rfl) rfl #[.int .i64 a1_1] rfl dz2 ?_; (with_reducible refine (impl_isEpoch.calls a1_1 true _ A26.out).mono ?_); rintro e w' ⟨rfl, ⟨nd, rfl⟩⟩; refine ⟨_, rfl, ?_⟩) | (go_at_call 86; (with_reducible refine (impl_within.calls a1_0 (wrap64 (a1_1 + 1)) 30 true _ A28.out).mono ?_); rintro e w' ⟨rfl, ⟨nd, rfl⟩⟩; have hcz57_0 : wc.cell? ⟨gb273, 0, none⟩ = some (.slice A0_0 l0_0.length c0_0) := (blk_cell BK273.out 0).trans rfl; have hcz57_1 : wc.cell? ⟨gb273, 1, none⟩ = some (.int .i64 a0_1) := (blk_cell BK273.out 1).trans rfl; have hfz57_0 := blk_frozen BK273.out 0; have hfz57_1 := blk_frozen BK273.out 1) | ((with_reducible refine gate_callee (f := 95) rfl ?_); refine goesL_ (some 37) rfl rfl Try.func95 (by kernel_rfl) rfl #[.agg #[.slice A0_0 l0_0.length c0_0, .int .i64 a0_1]] rfl dz2 ?_; (with_reducible refine (impl_ConfigOk.calls kj17 _ _ l0_0 a0_1 true _ ?side1 ?side2 A29.out).mono ?_); (case side1 => repeat (first | exact (Kd.C_below HR0_0.out dz8) | (with_reducible refine Kd.C_alloc ?_ _) | (with_reducible refine Kd.C_drewN ?_ _) | (with_reducible refine Kd.C_drew ?_))); (case side2 => exact HC0_0.out); rintro e w58 ⟨rfl, hb⟩; refine ⟨_, rfl, ?_⟩; have n0_ := (bkb_ BK273 hb); have n1_ := (bkb_ BK274 hb); have n2_ := Aside0.mk (below_step dz8 hb); clear BK273; clear BK274; clear HB; have BK273 := n0_; have BK274 := n1_; have HB := n2_; clear n0_ n1_ n2_; (try clear hb); (try clear hb2); (try clear hk); (try clear hi); have hcz59_0 : w58.cell? ⟨gb273, 0, none⟩ = some (.slice A0_0 l0_0.length c0_0) := (blk_cell BK273.out 0).trans rfl; have hcz59_1 : w58.cell? ⟨gb273, 1, none⟩ = some (.int .i64 a0_1) := (blk_cell BK273.out 1).trans rfl; have hfz59_0 := blk_frozen BK273.out 0; have hfz59_1 := blk_frozen BK273.out 1; have hcz60_0 : w58.cell? ⟨gb274, 0, none⟩ = some (.int .i64 a1_0) := (blk_cell BK274.out 0).trans rfl; have hcz60_1 : w58.cell? ⟨gb274, 1, none⟩ = some (.int .i64 a1_1) := (blk_cell BK274.out 1).trans rfl; have hcz60_2 : w58.cell? ⟨gb274, 2, none⟩ = some (.slice A1_2 l1_2.length c1_2) := (blk_cell BK274.out 2).trans rfl; have hcz60_3 : w58.cell? ⟨gb274, 3, none⟩ = some (.slice A1_3 l1_3.length c1_3) := (blk_cell BK274.out 3).trans rfl; have hcz60_4 : w58.cell? ⟨gb274, 4, none⟩ = some (.bool a1_4) := (blk_cell BK274.out 4).trans rfl; have hcz60_5 : w58.cell? ⟨gb274, 5, none⟩ = some (.slice A1_5 l1_5.length c1_5) := (blk_cell BK274.out 5).trans rfl; have hfz60_0 := blk_frozen BK274.out 0; have hfz60_1 := blk_frozen BK274.out 1; have hfz60_2 := blk_frozen BK274.out 2; have hfz60_3 := blk_frozen BK274.out 3; have hfz60_4 := blk_frozen BK274.out 4; have hfz60_5 := blk_frozen BK274.out 5) | (go_at_call 91; (with_reducible refine (impl_NodesOk.calls kj17 _ _ l0_0 a0_1 _ _ l1_2 false _ ?side1 ?side2 ?side3 ?side4 A32.out).mono ?_); (case side1 => repeat (first | exact (Kd.C_below HR0_0.out HB.out) | (with_reducible refine Kd.C_alloc ?_ _) | (with_reducible refine Kd.C_drewN ?_ _) | (with_reducible refine Kd.C_drew ?_))); (case side2 => exact HC0_0.out); (case side3 => repeat (first | exact (Kd.C_below HR1_2.out HB.out) | (with_reducible refine Kd.C_alloc ?_ _) | (with_reducible refine Kd.C_drewN ?_ _) | (with_reducible refine Kd.C_drew ?_))); (case side4 => exact HC1_2.out); rintro e w61 ⟨rfl, hb⟩; have n0_ := (bkb_ BK273 hb); have n1_ := (bkb_ BK274 hb); have n2_ := Aside0.mk (below_step dz8 hb); clear BK273; clear BK274; clear HB; have BK273 := n0_; have BK274 := n1_; have HB := n2_; clear n0_ n1_ n2_; (try clear hb); (try clear hb2); (try clear hk); (try clear hi)))
                go_ret
                exact dz102
              replace c31 := Bool.eq_false_iff.mpr c31
              subst c31
              have H1 : (some false) = some r := by rw [if_neg (show ¬ (false = true) by decide)] at H; exact H
              clear H
              have H := H1
              clear H1
              obtain rfl := Option.some.inj H
              have hnb62 := NB274_273.out
              have hnc62 := NB273_274.out
              have hcz63_0 : wc.cell? ⟨gb274, 0, none⟩ = some (.int .i64 a1_0) := (blk_cell BK274.out 0).trans rfl
              have hcz63_1 : wc.cell? ⟨gb274, 1, none⟩ = some (.int .i64 a1_1) := (blk_cell BK274.out 1).trans rfl
              have hcz63_2 : wc.cell? ⟨gb274, 2, none⟩ = some (.slice A1_2 l1_2.length c1_2) := (blk_cell BK274.out 2).trans rfl
              have hcz63_3 : wc.cell? ⟨gb274, 3, none⟩ = some (.slice A1_3 l1_3.length c1_3) := (blk_cell BK274.out 3).trans rfl
              have hcz63_4 : wc.cell? ⟨gb274, 4, none⟩ = some (.bool a1_4) := (blk_cell BK274.out 4).trans rfl
              have hcz63_5 : wc.cell? ⟨gb274, 5, none⟩ = some (.slice A1_5 l1_5.length c1_5) := (blk_cell BK274.out 5).trans rfl
              have hfz63_0 := blk_frozen BK274.out 0
              have hfz63_1 := blk_frozen BK274.out 1
              have hfz63_2 := blk_frozen BK274.out 2
              have hfz63_3 := blk_frozen BK274.out 3
              have hfz63_4 := blk_frozen BK274.out 4
              have hfz63_5 := blk_frozen BK274.out 5
              go_wp2_with (first | ((with_reducible refine gate_callee (f := 96) rfl ?_); refine goesL_ (some 27) rfl rfl Try.func96 (by kernel_rfl) rfl #[.int .i64 a1_1] rfl dz2 ?_; (with_reducible refine (impl_isEpoch.calls a1_1 true _ A26.out).mono ?_); rintro e w' ⟨rfl, ⟨nd, rfl⟩⟩; refine ⟨_, rfl, ?_⟩) | (go_at_call 86; (with_reducible refine (impl_within.calls a1_0 (wrap64 (a1_1 + 1)) 30 false _ A28.out).mono ?_); rintro e w' ⟨rfl, ⟨nd, rfl⟩⟩; have hcz64_0 : wc.cell? ⟨gb273, 0, none⟩ = some (.slice A0_0 l0_0.length c0_0) := (blk_cell BK273.out 0).trans rfl; have hcz64_1 : wc.cell? ⟨gb273, 1, none⟩ = some (.int .i64 a0_1) := (blk_cell BK273.out 1).trans rfl; have hfz64_0 := blk_frozen BK273.out 0; have hfz64_1 := blk_frozen BK273.out 1) | ((with_reducible refine gate_callee (f := 95) rfl ?_); refine goesL_ (some 37) rfl rfl Try.func95 (by kernel_rfl) rfl #[.agg #[.slice A0_0 l0_0.length c0_0, .int .i64 a0_1]] rfl dz2 ?_; (with_reducible refine (impl_ConfigOk.calls kj17 _ _ l0_0 a0_1 true _ ?side1 ?side2 A29.out).mono ?_); (case side1 => repeat (first | exact (Kd.C_below HR0_0.out dz8) | (with_reducible refine Kd.C_alloc ?_ _) | (with_reducible refine Kd.C_drewN ?_ _) | (with_reducible refine Kd.C_drew ?_))); (case side2 => exact HC0_0.out); rintro e w65 ⟨rfl, hb⟩; refine ⟨_, rfl, ?_⟩; have n0_ := (bkb_ BK273 hb); have n1_ := (bkb_ BK274 hb); have n2_ := Aside0.mk (below_step dz8 hb); clear BK273; clear BK274; clear HB; have BK273 := n0_; have BK274 := n1_; have HB := n2_; clear n0_ n1_ n2_; (try clear hb); (try clear hb2); (try clear hk); (try clear hi)))
              go_ret
              exact dz102
            replace c30 := Bool.eq_false_iff.mpr c30
            subst c30
            have H1 : (some false) = some r := by rw [if_neg (show ¬ (false = true) by decide)] at H; exact H
            clear H
            have H := H1
            clear H1
            obtain rfl := Option.some.inj H
            have hnb66 := NB274_273.out
            have hnc66 := NB273_274.out
            have hcz67_0 : wc.cell? ⟨gb274, 0, none⟩ = some (.int .i64 a1_0) := (blk_cell BK274.out 0).trans rfl
            have hcz67_1 : wc.cell? ⟨gb274, 1, none⟩ = some (.int .i64 a1_1) := (blk_cell BK274.out 1).trans rfl
            have hcz67_2 : wc.cell? ⟨gb274, 2, none⟩ = some (.slice A1_2 l1_2.length c1_2) := (blk_cell BK274.out 2).trans rfl
            have hcz67_3 : wc.cell? ⟨gb274, 3, none⟩ = some (.slice A1_3 l1_3.length c1_3) := (blk_cell BK274.out 3).trans rfl
            have hcz67_4 : wc.cell? ⟨gb274, 4, none⟩ = some (.bool a1_4) := (blk_cell BK274.out 4).trans rfl
            have hcz67_5 : wc.cell? ⟨gb274, 5, none⟩ = some (.slice A1_5 l1_5.length c1_5) := (blk_cell BK274.out 5).trans rfl
            have hfz67_0 := blk_frozen BK274.out 0
            have hfz67_1 := blk_frozen BK274.out 1
            have hfz67_2 := blk_frozen BK274.out 2
            have hfz67_3 := blk_frozen BK274.out 3
            have hfz67_4 := blk_frozen BK274.out 4
            have hfz67_5 := blk_frozen BK274.out 5
            go_wp2_with (first | ((with_reducible refine gate_callee (f := 96) rfl ?_); refine goesL_ (some 27) rfl rfl Try.func96 (by kernel_rfl) rfl #[.int .i64 a1_1] rfl dz2 ?_; (with_reducible refine (impl_isEpoch.calls a1_1 true _ A26.out).mono ?_); rintro e w' ⟨rfl, ⟨nd, rfl⟩⟩; refine ⟨_, rfl, ?_⟩) | (go_at_call 86; (with_reducible refine (impl_within.calls a1_0 (wrap64 (a1_1 + 1)) 30 t279 _ A28.out).mono ?_); rintro e w' ⟨rfl, ⟨nd, rfl⟩⟩; have hcz68_0 : wc.cell? ⟨gb273, 0, none⟩ = some (.slice A0_0 l0_0.length c0_0) := (blk_cell BK273.out 0).trans rfl; have hcz68_1 : wc.cell? ⟨gb273, 1, none⟩ = some (.int .i64 a0_1) := (blk_cell BK273.out 1).trans rfl; have hfz68_0 := blk_frozen BK273.out 0; have hfz68_1 := blk_frozen BK273.out 1) | ((with_reducible refine gate_callee (f := 95) rfl ?_); refine goesL_ (some 37) rfl rfl Try.func95 (by kernel_rfl) rfl #[.agg #[.slice A0_0 l0_0.length c0_0, .int .i64 a0_1]] rfl dz2 ?_; (with_reducible refine (impl_ConfigOk.calls kj17 _ _ l0_0 a0_1 false _ ?side1 ?side2 A29.out).mono ?_); (case side1 => repeat (first | exact (Kd.C_below HR0_0.out dz8) | (with_reducible refine Kd.C_alloc ?_ _) | (with_reducible refine Kd.C_drewN ?_ _) | (with_reducible refine Kd.C_drew ?_))); (case side2 => exact HC0_0.out); rintro e w69 ⟨rfl, hb⟩; refine ⟨_, rfl, ?_⟩; have n0_ := (bkb_ BK273 hb); have n1_ := (bkb_ BK274 hb); have n2_ := Aside0.mk (below_step dz8 hb); clear BK273; clear BK274; clear HB; have BK273 := n0_; have BK274 := n1_; have HB := n2_; clear n0_ n1_ n2_; (try clear hb); (try clear hb2); (try clear hk); (try clear hi)))
            go_ret
            exact dz102
          replace c27 := Bool.eq_false_iff.mpr c27
          subst c27
          have H1 : ((impl_ConfigOk.f kj17 l0_0 a0_1).bind fun t283 => (if t283 = true then (some false) else (some false))) = some r := by rw [if_neg (show ¬ (false = true) by decide)] at H; exact H
          clear H
          have H := H1
          clear H1
          replace H := Option.bind_eq_some_iff.mp H
          obtain ⟨t283, A700, H⟩ := H
          replace H : (if t283 = true then (some false) else (some false)) = some r := H
          have A70 := Aside0.mk A700
          clear A700
          by_cases c71 : t283 = true
          · subst c71
            have H1 : (some false) = some r := by rw [if_pos rfl] at H; exact H
            clear H
            have H := H1
            clear H1
            obtain rfl := Option.some.inj H
            have hnb72 := NB274_273.out
            have hnc72 := NB273_274.out
            have hcz73_0 : wc.cell? ⟨gb274, 0, none⟩ = some (.int .i64 a1_0) := (blk_cell BK274.out 0).trans rfl
            have hcz73_1 : wc.cell? ⟨gb274, 1, none⟩ = some (.int .i64 a1_1) := (blk_cell BK274.out 1).trans rfl
            have hcz73_2 : wc.cell? ⟨gb274, 2, none⟩ = some (.slice A1_2 l1_2.length c1_2) := (blk_cell BK274.out 2).trans rfl
            have hcz73_3 : wc.cell? ⟨gb274, 3, none⟩ = some (.slice A1_3 l1_3.length c1_3) := (blk_cell BK274.out 3).trans rfl
            have hcz73_4 : wc.cell? ⟨gb274, 4, none⟩ = some (.bool a1_4) := (blk_cell BK274.out 4).trans rfl
            have hcz73_5 : wc.cell? ⟨gb274, 5, none⟩ = some (.slice A1_5 l1_5.length c1_5) := (blk_cell BK274.out 5).trans rfl
            have hfz73_0 := blk_frozen BK274.out 0
            have hfz73_1 := blk_frozen BK274.out 1
            have hfz73_2 := blk_frozen BK274.out 2
            have hfz73_3 := blk_frozen BK274.out 3
            have hfz73_4 := blk_frozen BK274.out 4
            have hfz73_5 := blk_frozen BK274.out 5
            go_wp2_with (first | ((with_reducible refine gate_callee (f := 96) rfl ?_); refine goesL_ (some 27) rfl rfl Try.func96 (by kernel_rfl) rfl #[.int .i64 a1_1] rfl dz2 ?_; (with_reducible refine (impl_isEpoch.calls a1_1 false _ A26.out).mono ?_); rintro e w' ⟨rfl, ⟨nd, rfl⟩⟩; refine ⟨_, rfl, ?_⟩; have hcz74_0 : wc.cell? ⟨gb273, 0, none⟩ = some (.slice A0_0 l0_0.length c0_0) := (blk_cell BK273.out 0).trans rfl; have hcz74_1 : wc.cell? ⟨gb273, 1, none⟩ = some (.int .i64 a0_1) := (blk_cell BK273.out 1).trans rfl; have hfz74_0 := blk_frozen BK273.out 0; have hfz74_1 := blk_frozen BK273.out 1) | ((with_reducible refine gate_callee (f := 95) rfl ?_); refine goesL_ (some 37) rfl rfl Try.func95 (by kernel_rfl) rfl #[.agg #[.slice A0_0 l0_0.length c0_0, .int .i64 a0_1]] rfl dz2 ?_; (with_reducible refine (impl_ConfigOk.calls kj17 _ _ l0_0 a0_1 true _ ?side1 ?side2 A70.out).mono ?_); (case side1 => repeat (first | exact (Kd.C_below HR0_0.out dz8) | (with_reducible refine Kd.C_alloc ?_ _) | (with_reducible refine Kd.C_drewN ?_ _) | (with_reducible refine Kd.C_drew ?_))); (case side2 => exact HC0_0.out); rintro e w75 ⟨rfl, hb⟩; refine ⟨_, rfl, ?_⟩; have n0_ := (bkb_ BK273 hb); have n1_ := (bkb_ BK274 hb); have n2_ := Aside0.mk (below_step dz8 hb); clear BK273; clear BK274; clear HB; have BK273 := n0_; have BK274 := n1_; have HB := n2_; clear n0_ n1_ n2_; (try clear hb); (try clear hb2); (try clear hk); (try clear hi)))
            go_ret
            exact dz102
          replace c71 := Bool.eq_false_iff.mpr c71
          subst c71
          have H1 : (some false) = some r := by rw [if_neg (show ¬ (false = true) by decide)] at H; exact H
          clear H
          have H := H1
          clear H1
          obtain rfl := Option.some.inj H
          have hnb76 := NB274_273.out
          have hnc76 := NB273_274.out
          have hcz77_0 : wc.cell? ⟨gb274, 0, none⟩ = some (.int .i64 a1_0) := (blk_cell BK274.out 0).trans rfl
          have hcz77_1 : wc.cell? ⟨gb274, 1, none⟩ = some (.int .i64 a1_1) := (blk_cell BK274.out 1).trans rfl
          have hcz77_2 : wc.cell? ⟨gb274, 2, none⟩ = some (.slice A1_2 l1_2.length c1_2) := (blk_cell BK274.out 2).trans rfl
          have hcz77_3 : wc.cell? ⟨gb274, 3, none⟩ = some (.slice A1_3 l1_3.length c1_3) := (blk_cell BK274.out 3).trans rfl
          have hcz77_4 : wc.cell? ⟨gb274, 4, none⟩ = some (.bool a1_4) := (blk_cell BK274.out 4).trans rfl
          have hcz77_5 : wc.cell? ⟨gb274, 5, none⟩ = some (.slice A1_5 l1_5.length c1_5) := (blk_cell BK274.out 5).trans rfl
          have hfz77_0 := blk_frozen BK274.out 0
          have hfz77_1 := blk_frozen BK274.out 1
          have hfz77_2 := blk_frozen BK274.out 2
          have hfz77_3 := blk_frozen BK274.out 3
          have hfz77_4 := blk_frozen BK274.out 4
          have hfz77_5 := blk_frozen BK274.out 5
          go_wp2_with (first | ((with_reducible refine gate_callee (f := 96) rfl ?_); refine goesL_ (some 27) rfl rfl Try.func96 (by kernel_rfl) rfl #[.int .i64 a1_1] rfl dz2 ?_; (with_reducible refine (impl_isEpoch.calls a1_1 false _ A26.out).mono ?_); rintro e w' ⟨rfl, ⟨nd, rfl⟩⟩; refine ⟨_, rfl, ?_⟩; have hcz78_0 : wc.cell? ⟨gb273, 0, none⟩ = some (.slice A0_0 l0_0.length c0_0) := (blk_cell BK273.out 0).trans rfl; have hcz78_1 : wc.cell? ⟨gb273, 1, none⟩ = some (.int .i64 a0_1) := (blk_cell BK273.out 1).trans rfl; have hfz78_0 := blk_frozen BK273.out 0; have hfz78_1 := blk_frozen BK273.out 1) | ((with_reducible refine gate_callee (f := 95) rfl ?_); refine goesL_ (some 37) rfl rfl Try.func95 (by kernel_rfl) rfl #[.agg #[.slice A0_0 l0_0.length c0_0, .int .i64 a0_1]] rfl dz2 ?_; (with_reducible refine (impl_ConfigOk.calls kj17 _ _ l0_0 a0_1 false _ ?side1 ?side2 A70.out).mono ?_); (case side1 => repeat (first | exact (Kd.C_below HR0_0.out dz8) | (with_reducible refine Kd.C_alloc ?_ _) | (with_reducible refine Kd.C_drewN ?_ _) | (with_reducible refine Kd.C_drew ?_))); (case side2 => exact HC0_0.out); rintro e w79 ⟨rfl, hb⟩; refine ⟨_, rfl, ?_⟩; have n0_ := (bkb_ BK273 hb); have n1_ := (bkb_ BK274 hb); have n2_ := Aside0.mk (below_step dz8 hb); clear BK273; clear BK274; clear HB; have BK273 := n0_; have BK274 := n1_; have HB := n2_; clear n0_ n1_ n2_; (try clear hb); (try clear hb2); (try clear hk); (try clear hi)))
          go_ret
          exact dz102
end Go.Proofs.Ytlomecknojaakaa.PFnExactMendReady
