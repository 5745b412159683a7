-- Written by wip/gen/pack.py of this repo. Lean checks it.
import Derived.Test.YtdkdhciogedoiabKFnAddedP0
import Derived.Test.YtdkdhciogedoiabKFnAddedP2
import Derived.Test.YtdkdhciogedoiabKFnAddedP3
import Derived.Test.YtdkdhciogedoiabKFnAddedD
namespace Go.Proofs.Ytdkdhciogedoiab.PFnAdded
open Go.RowKit Go.Proofs.YtdkdhciogedoiabW.PrintWords Go.Proofs.YtdkdhciogedoiabW.PrintLast Go.Proofs.YtdkdhciogedoiabW.PrintMore Go.Proofs.YtdkdhciogedoiabW.Sq
attribute [local go_sem] max2_int min2_int max_two min_two max_three min_three max_four min_four
set_option linter.unusedVariables false
set_option linter.unusedSimpArgs false
mutual
def spec_WriterOk.j0 : Nat → Bool → List Int → Int → Int → List (S50) → Option (Bool)
 | 0, _, _, _, _, _ => none
 | k + 1, x22, x201000, x201001, x202000, x202001 => if x22 = true then (some false) else (spec_WriterOk.l0 k 0 0 x201000 x201001 x202000 x202001)
def spec_WriterOk.l0 : Nat → Int → Int → List Int → Int → Int → List (S50) → Option (Bool)
 | 0, _, _, _, _, _, _ => none
 | k + 1, x5, x6, x201000, x201001, x202000, x202001 => if x6 < (x202001.length : Int) then (if 0 ≤ x6 then (if (((rd_T50 x202001 x6).f0).size : Int) > 40 then (spec_WriterOk.j2 k x5 x6 true x201000 x201001 x202000 x202001 ((rd_T50 x202001 x6).f0) ((rd_T50 x202001 x6).f1) ((rd_T50 x202001 x6).f2)) else ((spec_NodesOk.f k x201000 x201001 ((rd_T50 x202001 x6).f1)).bind fun t206 => (if t206 = true then ((spec_Holds.f k x201000 x201001 ((rd_T50 x202001 x6).f1)).bind fun t207 => (spec_WriterOk.j2 k x5 x6 (t207 != ((rd_T50 x202001 x6).f2)) x201000 x201001 x202000 x202001 ((rd_T50 x202001 x6).f0) ((rd_T50 x202001 x6).f1) ((rd_T50 x202001 x6).f2))) else (spec_WriterOk.j2 k x5 x6 true x201000 x201001 x202000 x202001 ((rd_T50 x202001 x6).f0) ((rd_T50 x202001 x6).f1) ((rd_T50 x202001 x6).f2))))) else (none)) else (some (decide (x5 ≤ 6)))
def spec_WriterOk.j2 : Nat → Int → Int → Bool → List Int → Int → Int → List (S50) → ByteArray → List Int → Bool → Option (Bool)
 | 0, _, _, _, _, _, _, _, _, _, _ => none
 | k + 1, x5, x6, x54, x201000, x201001, x202000, x202001, x206000, x206001, x206002 => if x54 = true then (some false) else (if x206002 = true then (spec_WriterOk.l0 k x5 (wrap64 (x6 + 1)) x201000 x201001 x202000 x202001) else (spec_WriterOk.l0 k (wrap64 (x5 + 1)) (wrap64 (x6 + 1)) x201000 x201001 x202000 x202001))
end
def spec_WriterOk.f (k : Nat) (l0_0 : List Int) (a0_1 : Int) (a1_0 : Int) (l1_1 : List (S50)) : Option (Bool) := (spec_ConfigOk.f k l0_0 a0_1).bind fun t202 => (if t202 = true then ((spec_l1In.f a1_0 1 30).bind fun t203 => (if t203 = true then (spec_WriterOk.j0 k (decide ((l1_1.length : Int) > 60)) l0_0 a0_1 a1_0 l1_1) else (spec_WriterOk.j0 k true l0_0 a0_1 a1_0 l1_1))) else (spec_WriterOk.j0 k true l0_0 a0_1 a1_0 l1_1))
def spec_WriterOk.T8 : Bool × List (List Nat × List Nat) := (true, [([], []), ([0], [0]), ([1], [1]), ([2], [2]), ([3], [3]), ([4], [4]), ([4], [4]), ([6, 4], [4, 6]), ([5, 7, 4, 4], [4, 5, 7]), ([8, 4], [4, 8]), ([4, 9], [4, 9]), ([10, 8], [10]), ([11], [11]), ([11], [11]), ([13, 11], [11, 13]), ([12, 14, 11, 11], [11, 12, 14]), ([11], [11]), ([16, 11], [11, 16]), ([15, 17, 11], [11, 15, 17]), ([11, 18], [11, 18])])
def spec_WriterOk.B8 : List Nat := [0, 1, 3, 7, 15, 31, 31, 95, 255, 511, 1023, 2047, 4095, 4095, 12287, 32767, 4095, 69631, 262143, 524287]
theorem spec_WriterOk.tab8 : rtab .any (opsOf Try.f70 8) = spec_WriterOk.T8 := by kernel_rfl
theorem spec_WriterOk.bits8 : waitsOk spec_WriterOk.T8.2 spec_WriterOk.B8 = true := by kernel_rfl
set_option maxHeartbeats 8000000 in
set_option maxRecDepth 100000 in
theorem spec_WriterOk.calls (k : Nat) (A0_0 : Option Addr) (c0_0 : Nat) (l0_0 : List Int) (a0_1 : Int) (a1_0 : Int) (A1_1 : Option Addr) (c1_1 : Nat) (l1_1 : List (S50)) (r : Bool) (w : World) (hr0_0 : Kd.C (Kd.int .i64) w A0_0 l0_0.length l0_0) (hc0_0 : l0_0.length ≤ c0_0) (hr1_1 : Kd.C k50 w A1_1 l1_1.length l1_1) (hc1_1 : l1_1.length ≤ c1_1) (h : spec_WriterOk.f k l0_0 a0_1 a1_0 l1_1 = some r) :
  Calls Try.prog 70 #[.agg #[.slice A0_0 l0_0.length c0_0, .int .i64 a0_1], .agg #[.int .i64 a1_0, .slice A1_1 l1_1.length c1_1]] w fun e w' => e = .returned (.bool r) ∧ Below w.heap.size w w' := by
 have hu31 := Try.underlying31
 have hu44 := Try.underlying44
 have hu50 := Try.underlying50
 have HR0_0 := Aside0.mk hr0_0
 have HC0_0 := Aside0.mk hc0_0
 clear hr0_0 hc0_0
 have HR1_1 := Aside0.mk hr1_1
 have HC1_1 := Aside0.mk hc1_1
 clear hr1_1 hc1_1
 have HB := Aside0.mk (Below.refl w.heap.size w)
 have H : ((spec_ConfigOk.f k l0_0 a0_1).bind fun t202 => (if t202 = true then ((spec_l1In.f a1_0 1 30).bind fun t203 => (if t203 = true then (spec_WriterOk.j0 k (decide ((l1_1.length : Int) > 60)) l0_0 a0_1 a1_0 l1_1) else (spec_WriterOk.j0 k true l0_0 a0_1 a1_0 l1_1))) else (spec_WriterOk.j0 k true l0_0 a0_1 a1_0 l1_1))) = some r := h
 clear h
 have HC3 := Aside0.mk H
 clear H
 go_enter Try.func70, Try.ntmps70
 go_upto_region 1 with (first | ((with_reducible refine gate_dst (N := 2) rfl ?_); (try (refine gate_guard (by rfl) ?_; dsimp only)); refine box_event kr_ (N := 2) kr_ (cs := #[.slice A0_0 l0_0.length c0_0, .int .i64 a0_1]) (t := 31) ks_ ?_; intro gb200 hg w1 hbox hb; have BK200 := Aside0.mk (hbox); have GW200 : Aside0 (w.heap.size ≤ gb200) := szl_ hg dz2; have GE200 : Aside0 (w.heap.size ≤ gb200) := szl_ hg dz2; replace HB := Aside0.mk (below_step dz2 hb); clear hb hbox hg) | ((with_reducible refine gate_dst (N := 3) rfl ?_); (try (refine gate_guard (by rfl) ?_; dsimp only)); refine box_event kr_ (N := 3) kr_ (cs := #[.int .i64 a1_0, .slice A1_1 l1_1.length c1_1]) (t := 44) ks_ ?_; intro gb201 hg w5 hbox hb; have BK201 := Aside0.mk (hbox); have GW201 : Aside0 (w.heap.size ≤ gb201) := szl_ hg dz105; have GE201 : Aside0 (w.heap.size ≤ gb201) := szl_ hg dz105; replace HB := Aside0.mk (below_step dz105 hb); have NB200_201 := (nbl_ hg BK200); have NB201_200 := (nbr_ hg BK200); replace BK200 := (bkb_ BK200 hb); clear hb hbox hg))
 (try simp only [Act.put, List.setIfInBounds_toArray, List.set_cons_zero, List.set_cons_succ])
 go_cut [22] (fun v22 wc => ∃ (kq : Nat) (x22_2 : Bool), v22 = .bool x22_2 ∧ Aside0 (spec_WriterOk.j0 kq x22_2 l0_0 a0_1 a1_0 l1_1 = some r) ∧ Aside0 (kq ≤ k) ∧ Aside0 (wc.heap[gb200]? = some (.cells #[(.slice A0_0 l0_0.length c0_0), .int .i64 a0_1] 31 (0, 0))) ∧ Aside0 (wc.heap[gb201]? = some (.cells #[.int .i64 a1_0, (.slice A1_1 l1_1.length c1_1)] 44 (0, 0))) ∧ Aside0 (Below w.heap.size w wc))
 case first =>
  have H := HC3.out
  clear HC3
  replace H := Option.bind_eq_some_iff.mp H
  obtain ⟨t202, A60, H⟩ := H
  replace H : (if t202 = true then ((spec_l1In.f a1_0 1 30).bind fun t203 => (if t203 = true then (spec_WriterOk.j0 k (decide ((l1_1.length : Int) > 60)) l0_0 a0_1 a1_0 l1_1) else (spec_WriterOk.j0 k true l0_0 a0_1 a1_0 l1_1))) else (spec_WriterOk.j0 k true l0_0 a0_1 a1_0 l1_1)) = some r := H
  have A6 := Aside0.mk A60
  clear A60
  by_cases c7 : t202 = true
  ·subst c7
   have H1 : ((spec_l1In.f a1_0 1 30).bind fun t203 => (if t203 = true then (spec_WriterOk.j0 k (decide ((l1_1.length : Int) > 60)) l0_0 a0_1 a1_0 l1_1) else (spec_WriterOk.j0 k true l0_0 a0_1 a1_0 l1_1))) = some r := by rw [if_pos rfl] at H; exact H
   clear H
   have H := H1
   clear H1
   replace H := Option.bind_eq_some_iff.mp H
   obtain ⟨t203, A80, H⟩ := H
   replace H : (if t203 = true then (spec_WriterOk.j0 k (decide ((l1_1.length : Int) > 60)) l0_0 a0_1 a1_0 l1_1) else (spec_WriterOk.j0 k true l0_0 a0_1 a1_0 l1_1)) = some r := H
   have A8 := Aside0.mk A80
   clear A80
   by_cases c9 : t203 = true
   ·subst c9
    have H1 : (spec_WriterOk.j0 k (decide ((l1_1.length : Int) > 60)) l0_0 a0_1 a1_0 l1_1) = some r := by rw [if_pos rfl] at H; exact H
    clear H
    have H := H1
    clear H1
    have H' := Aside0.mk H
    clear H
    have hnb10 := NB200_201.out
    have hnc10 := NB201_200.out
    obtain ⟨hcz11_0, hcz11_1, hfz11_0, hfz11_1⟩ := cz2_ BK200
    go_wp2_with (first | ((with_reducible refine gate_callee (f := 51) rfl ?_); refine goesL_ (some 9) rfl rfl Try.func51 (by kernel_rfl) rfl #[.agg #[.slice A0_0 l0_0.length c0_0, .int .i64 a0_1]] rfl dz1 ?_; (with_reducible refine (spec_ConfigOk.calls k _ _ l0_0 a0_1 true _ ?side1 ?side2 A6.out).mono ?_); (case side1 => exact dz462); (case side2 => exact HC0_0.out); rintro e w12 ⟨rfl, hb⟩; refine ⟨_, rfl, ?_⟩; replace BK200 := (bkb_ BK200 hb); replace BK201 := (bkb_ BK201 hb); replace HB := Aside0.mk (below_step dz50 hb); (try clear hb); (try clear hb2); (try clear hk); (try clear hi); obtain ⟨hcz13_0, hcz13_1, hfz13_0, hfz13_1⟩ := cz2_ BK201) | (go_at_call 55; (with_reducible refine (spec_l1In.calls a1_0 1 30 true _ A8.out).mono ?_); rintro e w' ⟨rfl, ⟨nd, rfl⟩⟩))
    go_meet
    case rel => exact ⟨_, (decide ((l1_1.length : Int) > 60)), dz3, H', ⟨by first | omega | exact Nat.le_refl _⟩, ⟨by (with_reducible repeat (first | refine blk_drewN ?_ _ | refine blk_drew ?_ | refine blk_alloc ?_ _)); exact BK200.out⟩, ⟨by (with_reducible repeat (first | refine blk_drewN ?_ _ | refine blk_drew ?_ | refine blk_alloc ?_ _)); exact BK201.out⟩, ⟨by repeat (first | (with_reducible first | exact HB.out | apply below_alloc | apply pw_below_drewN | apply below_drew1 | refine below_set ?_ GE200.out | refine below_set ?_ GE201.out) | exact HB.out)⟩⟩
   replace c9 := Bool.eq_false_iff.mpr c9
   subst c9
   have H1 : (spec_WriterOk.j0 k true l0_0 a0_1 a1_0 l1_1) = some r := by rw [if_neg (show ¬ (false = true) by decide)] at H; exact H
   clear H
   have H := H1
   clear H1
   have H' := Aside0.mk H
   clear H
   have hnb14 := NB200_201.out
   have hnc14 := NB201_200.out
   obtain ⟨hcz15_0, hcz15_1, hfz15_0, hfz15_1⟩ := cz2_ BK200
   go_wp2_with (first | ((with_reducible refine gate_callee (f := 51) rfl ?_); refine goesL_ (some 9) rfl rfl Try.func51 (by kernel_rfl) rfl #[.agg #[.slice A0_0 l0_0.length c0_0, .int .i64 a0_1]] rfl dz1 ?_; (with_reducible refine (spec_ConfigOk.calls k _ _ l0_0 a0_1 true _ ?side1 ?side2 A6.out).mono ?_); (case side1 => exact dz462); (case side2 => exact HC0_0.out); rintro e w16 ⟨rfl, hb⟩; refine ⟨_, rfl, ?_⟩; replace BK200 := (bkb_ BK200 hb); replace BK201 := (bkb_ BK201 hb); replace HB := Aside0.mk (below_step dz50 hb); (try clear hb); (try clear hb2); (try clear hk); (try clear hi); obtain ⟨hcz17_0, hcz17_1, hfz17_0, hfz17_1⟩ := cz2_ BK201) | (go_at_call 55; (with_reducible refine (spec_l1In.calls a1_0 1 30 false _ A8.out).mono ?_); rintro e w' ⟨rfl, ⟨nd, rfl⟩⟩))
   go_meet
   case rel => exact ⟨_, (true), dz3, H', ⟨by first | omega | exact Nat.le_refl _⟩, ⟨by (with_reducible repeat (first | refine blk_drewN ?_ _ | refine blk_drew ?_ | refine blk_alloc ?_ _)); exact BK200.out⟩, ⟨by (with_reducible repeat (first | refine blk_drewN ?_ _ | refine blk_drew ?_ | refine blk_alloc ?_ _)); exact BK201.out⟩, ⟨by repeat (first | (with_reducible first | exact HB.out | apply below_alloc | apply pw_below_drewN | apply below_drew1 | refine below_set ?_ GE200.out | refine below_set ?_ GE201.out) | exact HB.out)⟩⟩
  replace c7 := Bool.eq_false_iff.mpr c7
  subst c7
  have H1 : (spec_WriterOk.j0 k true l0_0 a0_1 a1_0 l1_1) = some r := by rw [if_neg (show ¬ (false = true) by decide)] at H; exact H
  clear H
  have H := H1
  clear H1
  have H' := Aside0.mk H
  clear H
  have hnb18 := NB200_201.out
  have hnc18 := NB201_200.out
  obtain ⟨hcz19_0, hcz19_1, hfz19_0, hfz19_1⟩ := cz2_ BK200
  go_wp2_with (first | ((with_reducible refine gate_callee (f := 51) rfl ?_); refine goesL_ (some 9) rfl rfl Try.func51 (by kernel_rfl) rfl #[.agg #[.slice A0_0 l0_0.length c0_0, .int .i64 a0_1]] rfl dz1 ?_; (with_reducible refine (spec_ConfigOk.calls k _ _ l0_0 a0_1 false _ ?side1 ?side2 A6.out).mono ?_); (case side1 => exact dz462); (case side2 => exact HC0_0.out); rintro e w20 ⟨rfl, hb⟩; refine ⟨_, rfl, ?_⟩; replace BK200 := (bkb_ BK200 hb); replace BK201 := (bkb_ BK201 hb); replace HB := Aside0.mk (below_step dz50 hb); (try clear hb); (try clear hb2); (try clear hk); (try clear hi)))
  go_meet
  case rel => exact ⟨_, (true), dz3, H', ⟨by first | omega | exact Nat.le_refl _⟩, ⟨by (with_reducible repeat (first | refine blk_drewN ?_ _ | refine blk_drew ?_ | refine blk_alloc ?_ _)); exact BK200.out⟩, ⟨by (with_reducible repeat (first | refine blk_drewN ?_ _ | refine blk_drew ?_ | refine blk_alloc ?_ _)); exact BK201.out⟩, ⟨by repeat (first | (with_reducible first | exact HB.out | apply below_alloc | apply pw_below_drewN | apply below_drew1 | refine below_set ?_ GE200.out | refine below_set ?_ GE201.out) | exact HB.out)⟩⟩
 case rest =>
  clear HC3
  try clear c1
  try clear p2
  try clear c5
  try clear c7
  try clear c9
  try clear c10
  try clear c14
  try clear c18
  try clear hcz11_0
  try clear hcz11_1
  try clear hcz13_0
  try clear hcz13_1
  try clear hcz15_0
  try clear hcz15_1
  try clear hcz17_0
  try clear hcz17_1
  try clear hcz19_0
  try clear hcz19_1
  try clear hfz11_0
  try clear hfz11_1
  try clear hfz13_0
  try clear hfz13_1
  try clear hfz15_0
  try clear hfz15_1
  try clear hfz17_0
  try clear hfz17_1
  try clear hfz19_0
  try clear hfz19_1
  obtain ⟨kq, x22_2, rfl, HA, HJ2, BK200, BK201, HB⟩ := hcut
  cases kq with
  | zero => exact absurd HA.out (by simp [spec_WriterOk.j0])
  | succ kj2 =>
   have H := HA.out
   clear HA
   simp only [spec_WriterOk.j0] at H
   by_cases c21 : x22_2 = true
   ·subst c21
    have H1 : (some false) = some r := by rw [if_pos rfl] at H; exact H
    clear H
    have H := H1
    clear H1
    obtain rfl := Option.some.inj H
    go_wp2
    go_ret
    exact dz509
   replace c21 := Bool.eq_false_iff.mpr c21
   subst c21
   have H1 : (spec_WriterOk.l0 kj2 0 0 l0_0 a0_1 a1_0 l1_1) = some r := by rw [if_neg (show ¬ (false = true) by decide)] at H; exact H
   clear H
   have H := H1
   clear H1
   have H' := Aside0.mk H
   clear H
   go_wp2
   go_loopg [5, 6] kj2 (fun kq v5 v6 w' => ∃ (x5_2 : Int) (x6_2 : Int), v5 = .int .i64 x5_2 ∧ v6 = .int .i64 x6_2 ∧ Aside0 (spec_WriterOk.l0 kq x5_2 x6_2 l0_0 a0_1 a1_0 l1_1 = some r) ∧ Aside0 (kq ≤ kj2) ∧ Aside0 (w'.heap[gb200]? = some (.cells #[(.slice A0_0 l0_0.length c0_0), .int .i64 a0_1] 31 (0, 0))) ∧ Aside0 (w'.heap[gb201]? = some (.cells #[.int .i64 a1_0, (.slice A1_1 l1_1.length c1_1)] 44 (0, 0))) ∧ Aside0 (Below w.heap.size w w'))
   case atStart => exact ⟨(0), (0), dz3, dz3, H', ⟨Nat.le_refl _⟩, ⟨by (with_reducible repeat (first | refine blk_drewN ?_ _ | refine blk_drew ?_ | refine blk_alloc ?_ _)); exact BK200.out⟩, ⟨by (with_reducible repeat (first | refine blk_drewN ?_ _ | refine blk_drew ?_ | refine blk_alloc ?_ _)); exact BK201.out⟩, ⟨by repeat (first | (with_reducible first | exact HB.out | apply below_alloc | apply pw_below_drewN | apply below_drew1 | refine below_set ?_ GE200.out | refine below_set ?_ GE201.out) | exact HB.out)⟩⟩
   case round =>
    clear H'
    try clear c1
    try clear c2
    try clear p2
    try clear c5
    try clear c7
    try clear c9
    try clear c10
    try clear c14
    try clear c18
    try clear c21
    try clear hcz11_0
    try clear hcz11_1
    try clear hcz13_0
    try clear hcz13_1
    try clear hcz15_0
    try clear hcz15_1
    try clear hcz17_0
    try clear hcz17_1
    try clear hcz19_0
    try clear hcz19_1
    try clear hfz11_0
    try clear hfz11_1
    try clear hfz13_0
    try clear hfz13_1
    try clear hfz15_0
    try clear hfz15_1
    try clear hfz17_0
    try clear hfz17_1
    try clear hfz19_0
    try clear hfz19_1
    try clear p2
    obtain ⟨x5_2, x6_2, rfl, rfl, HA, HK2, BK200, BK201, HB⟩ := hrel
    cases gk with
    | zero => exact absurd HA.out (by simp [spec_WriterOk.l0])
    | succ k2 =>
     have H := HA.out
     clear HA
     simp only [spec_WriterOk.l0] at H
     by_cases c22 : x6_2 < (l1_1.length : Int)
     ·rw [if_pos c22] at H
      have c22b0 : decide (x6_2 < (l1_1.length : Int)) = true := decide_eq_true c22
      clear c22
      by_cases c23 : 0 ≤ x6_2
      ·rw [if_pos c23] at H
       have c23b0 : decide (0 ≤ x6_2) = true := decide_eq_true c23
       clear c23
       have HC24 := Aside0.mk H
       clear H
       have hnb25 := NB201_200.out
       have hnc25 := NB200_201.out
       obtain ⟨hcz26_0, hcz26_1, hfz26_0, hfz26_1⟩ := cz2_ BK201
       have p204 : 0 ≤ (x6_2 : Int) := of_decide_eq_true dz0
       have q204 : x6_2 < (l1_1.length : Int) := of_decide_eq_true dz0
       obtain ⟨ad204, A204_1, c204_1, e204, hx204_0, hx204_1, hx204_2, hl204_1, hi204_1⟩ := at_T50 HR1_1.out x6_2 p204 q204
       cases e204
       replace hx204_0 := hxl_ HB hx204_0
       replace hx204_1 := hxl_ HB hx204_1
       replace hx204_2 := hxl_ HB hx204_2
       have HR204_1 := Aside0.mk hi204_1
       have HC204_1 := Aside0.mk hl204_1
       clear hi204_1 hl204_1
       replace p204 := eq_true p204
       replace q204 := eq_true q204
       go_upto_region 8 with (first | ((with_reducible refine gate_dst (N := 7) rfl ?_); (try (refine gate_guard (by rfl) ?_; dsimp only)); refine box_event kr_ (N := 7) kr_ (cs := #[.string (⟨#[]⟩ : ByteArray), .slice none 0 0, .bool false]) (t := 50) ks_ ?_; intro gb205 hg w27 hbox hb; have BK205 := Aside0.mk (hbox); have GW205 : Aside0 (w.heap.size ≤ gb205) := szl_ hg dz50; have GE205 : Aside0 (w.heap.size ≤ gb205) := szl_ hg dz50; replace HB := Aside0.mk (below_step dz50 hb); have NB200_205 := (nbl_ hg BK200); have NB205_200 := (nbr_ hg BK200); replace BK200 := (bkb_ BK200 hb); have NB201_205 := (nbl_ hg BK201); have NB205_201 := (nbr_ hg BK201); replace BK201 := (bkb_ BK201 hb); clear hb hbox hg; have hnb28 := NB205_200.out; have hnc28 := NB200_205.out; have hnb29 := NB205_201.out; have hnc29 := NB201_205.out; obtain ⟨hcz30_0, hcz30_1, hcz30_2, hfz30_0, hfz30_1, hfz30_2⟩ := cz3_ BK205))
       (try simp only [Act.put, List.setIfInBounds_toArray, List.set_cons_zero, List.set_cons_succ])
       go_cut [54] (fun v54 wc => ∃ (kq : Nat) (x54_23 : Bool), v54 = .bool x54_23 ∧ Aside0 (spec_WriterOk.j2 kq x5_2 x6_2 x54_23 l0_0 a0_1 a1_0 l1_1 ((rd_T50 l1_1 x6_2).f0) ((rd_T50 l1_1 x6_2).f1) ((rd_T50 l1_1 x6_2).f2) = some r) ∧ Aside0 (kq ≤ k2) ∧ Aside0 (wc.heap[gb200]? = some (.cells #[(.slice A0_0 l0_0.length c0_0), .int .i64 a0_1] 31 (0, 0))) ∧ Aside0 (wc.heap[gb201]? = some (.cells #[.int .i64 a1_0, (.slice (some ad204) l1_1.length c1_1)] 44 (0, 0))) ∧ Aside0 (wc.heap[gb205]? = some (.cells #[.string ((rd_T50 l1_1 x6_2).f0), (.slice A204_1 ((rd_T50 l1_1 x6_2).f1).length c204_1), .bool ((rd_T50 l1_1 x6_2).f2)] 50 (0, 0))) ∧ Aside0 (Below w.heap.size w wc))
       case first =>
        have H := HC24.out
        clear HC24
        by_cases c31 : (((rd_T50 l1_1 x6_2).f0).size : Int) > 40
        ·rw [if_pos c31] at H
         have c31b0 : decide (40 < (((rd_T50 l1_1 x6_2).f0).size : Int)) = true := decide_eq_true c31
         have c31b1 : decide (40 < ((rd_T50 l1_1 x6_2).f0).size) = true := decide_eq_true (by omega)
         clear c31
         (first | rw [c31b0] | (simp only [i64_w, i32_w]; rw [c31b0]) | skip)
         have H' := Aside0.mk H
         clear H
         try go_wp2
         have n0_ : Aside0 ((((w27.setCell ⟨gb205, 0, none⟩ (.string ((rd_T50 l1_1 x6_2).f0))).setCell ⟨gb205, 1, none⟩ (.slice A204_1 ((rd_T50 l1_1 x6_2).f1).length c204_1)).setCell ⟨gb205, 2, none⟩ (.bool ((rd_T50 l1_1 x6_2).f2))).heap[gb200]? = some (.cells #[.slice A0_0 l0_0.length c0_0, .int .i64 a0_1] 31 (0, 0))) := ⟨by (with_reducible repeat (first | refine blk_drewN ?_ _ | refine blk_drew ?_ | refine blk_alloc ?_ _)); refine blk_far ?_ NB200_205.out _; (with_reducible repeat (first | refine blk_drewN ?_ _ | refine blk_drew ?_ | refine blk_alloc ?_ _)); refine blk_far ?_ NB200_205.out _; (with_reducible repeat (first | refine blk_drewN ?_ _ | refine blk_drew ?_ | refine blk_alloc ?_ _)); refine blk_far ?_ NB200_205.out _; (with_reducible repeat (first | refine blk_drewN ?_ _ | refine blk_drew ?_ | refine blk_alloc ?_ _)); exact BK200.out⟩
         have n1_ : Aside0 ((((w27.setCell ⟨gb205, 0, none⟩ (.string ((rd_T50 l1_1 x6_2).f0))).setCell ⟨gb205, 1, none⟩ (.slice A204_1 ((rd_T50 l1_1 x6_2).f1).length c204_1)).setCell ⟨gb205, 2, none⟩ (.bool ((rd_T50 l1_1 x6_2).f2))).heap[gb201]? = some (.cells #[.int .i64 a1_0, .slice (some ad204) l1_1.length c1_1] 44 (0, 0))) := ⟨by (with_reducible repeat (first | refine blk_drewN ?_ _ | refine blk_drew ?_ | refine blk_alloc ?_ _)); refine blk_far ?_ NB201_205.out _; (with_reducible repeat (first | refine blk_drewN ?_ _ | refine blk_drew ?_ | refine blk_alloc ?_ _)); refine blk_far ?_ NB201_205.out _; (with_reducible repeat (first | refine blk_drewN ?_ _ | refine blk_drew ?_ | refine blk_alloc ?_ _)); refine blk_far ?_ NB201_205.out _; (with_reducible repeat (first | refine blk_drewN ?_ _ | refine blk_drew ?_ | refine blk_alloc ?_ _)); exact BK201.out⟩
         have n2_ : Aside0 ((((w27.setCell ⟨gb205, 0, none⟩ (.string ((rd_T50 l1_1 x6_2).f0))).setCell ⟨gb205, 1, none⟩ (.slice A204_1 ((rd_T50 l1_1 x6_2).f1).length c204_1)).setCell ⟨gb205, 2, none⟩ (.bool ((rd_T50 l1_1 x6_2).f2))).heap[gb205]? = some (.cells #[.string ((rd_T50 l1_1 x6_2).f0), .slice A204_1 ((rd_T50 l1_1 x6_2).f1).length c204_1, .bool ((rd_T50 l1_1 x6_2).f2)] 50 (0, 0))) := ⟨by (with_reducible repeat (first | refine blk_drewN ?_ _ | refine blk_drew ?_ | refine blk_alloc ?_ _)); refine blk_put (cs := #[.string ((rd_T50 l1_1 x6_2).f0), .slice A204_1 ((rd_T50 l1_1 x6_2).f1).length c204_1, .bool false]) ?_ 2 _ rfl; (with_reducible repeat (first | refine blk_drewN ?_ _ | refine blk_drew ?_ | refine blk_alloc ?_ _)); refine blk_put (cs := #[.string ((rd_T50 l1_1 x6_2).f0), .slice none 0 0, .bool false]) ?_ 1 _ rfl; (with_reducible repeat (first | refine blk_drewN ?_ _ | refine blk_drew ?_ | refine blk_alloc ?_ _)); refine blk_put (cs := #[.string (⟨#[]⟩ : ByteArray), .slice none 0 0, .bool false]) ?_ 0 _ rfl; (with_reducible repeat (first | refine blk_drewN ?_ _ | refine blk_drew ?_ | refine blk_alloc ?_ _)); exact BK205.out⟩
         have n3_ : Aside0 (Below w.heap.size w (((w27.setCell ⟨gb205, 0, none⟩ (.string ((rd_T50 l1_1 x6_2).f0))).setCell ⟨gb205, 1, none⟩ (.slice A204_1 ((rd_T50 l1_1 x6_2).f1).length c204_1)).setCell ⟨gb205, 2, none⟩ (.bool ((rd_T50 l1_1 x6_2).f2)))) := ⟨by repeat (first | (with_reducible first | exact HB.out | apply below_alloc | apply pw_below_drewN | apply below_drew1 | refine below_set ?_ GE200.out | refine below_set ?_ GE201.out | refine below_set ?_ GE205.out) | exact HB.out)⟩
         (try clear BK200)
         (try clear BK201)
         (try clear BK205)
         (try clear HB)
         generalize (((w27.setCell ⟨gb205, 0, none⟩ (.string ((rd_T50 l1_1 x6_2).f0))).setCell ⟨gb205, 1, none⟩ (.slice A204_1 ((rd_T50 l1_1 x6_2).f1).length c204_1)).setCell ⟨gb205, 2, none⟩ (.bool ((rd_T50 l1_1 x6_2).f2))) = w32 at n0_ n1_ n2_ n3_ ⊢
         have BK200 := n0_
         have BK201 := n1_
         have BK205 := n2_
         have HB := n3_
         clear n0_ n1_ n2_ n3_
         replace BK200 := Aside0.mk (blk_drew BK200.out)
         replace BK201 := Aside0.mk (blk_drew BK201.out)
         replace BK205 := Aside0.mk (blk_drew BK205.out)
         replace HB := Aside0.mk (below_drew1 HB.out)
         refine start_ (n := 20) (S := fun w' => w'.cell? ⟨gb205, 0, none⟩ = some (.string ((rd_T50 l1_1 x6_2).f0)) ∧ w'.cell? ⟨gb205, 1, none⟩ = some (.slice A204_1 ((rd_T50 l1_1 x6_2).f1).length c204_1) ∧ w'.cell? ⟨gb205, 2, none⟩ = some (.bool ((rd_T50 l1_1 x6_2).f2))) (ds := []) (fl_ 0 20) (by kernel_rfl) rfl rfl ⟨(blk_cell BK205.out 0).trans rfl, (blk_cell BK205.out 1).trans rfl, (blk_cell BK205.out 2).trans rfl⟩ (fun hHeld => ?_); refine with_tabW spec_WriterOk.tab8 spec_WriterOk.bits8 (fun HT_ HW_ => ?_)
         generalize w32.drew = w33 at BK200 BK201 BK205 HB hHeld ⊢
         refine pure_ (i := 0) (N := some 35) (v := ?_) (a' := ?_) (fl_ 1 19) rfl rfl (any_of HT_.out (by kernel_rfl)) (fun _ _ _ h => h) (Or.inl ⟨by rfl, ?_⟩) ?_ ?_
         rotate_left
         ·exact dz489
         rotate_left
         ·exact dz490
         refine take_ (i := 1) (N := some 36) (v := ?_) (a' := ?_) (fl_ 2 18) rfl rfl (take_ofW HT_.out HW_.out (by kernel_rfl)) (fun _ _ _ h => h) (Or.inl ⟨by rfl, ?_⟩) hHeld ?_ ?_
         rotate_left
         ·rintro w' ⟨s0, s1, s2⟩
          go_simp
          with_reducible rfl
         rotate_left
         ·exact dz490
         refine pure_ (i := 2) (N := some 37) (v := ?_) (a' := ?_) (fl_ 3 17) rfl rfl (any_of HT_.out (by kernel_rfl)) (fun _ _ _ h => h) (Or.inl ⟨by rfl, ?_⟩) ?_ ?_
         rotate_left
         ·exact dz489
         rotate_left
         ·exact dz490
         refine pure_ (i := 3) (N := some 38) (v := ?_) (a' := ?_) (fl_ 4 16) rfl rfl (any_of HT_.out (by kernel_rfl)) (fun _ _ _ h => h) (Or.inl ⟨by rfl, ?_⟩) ?_ ?_
         rotate_left
         ·exact dz489
         rotate_left
         ·exact dz490
         refine pure_ (i := 4) (N := some 39) (v := ?_) (a' := ?_) (fl_ 5 15) rfl rfl (any_of HT_.out (by kernel_rfl)) (fun _ _ _ h => h) (Or.inl ⟨by rfl, ?_⟩) ?_ ?_
         rotate_left
         ·exact dz489
         rotate_left
         ·exact dz490
         refine pure_ (i := 5) (N := some 40) (v := undef) (a' := ?_) (fl_ 6 14) rfl rfl (any_of HT_.out (by kernel_rfl)) (fun _ _ _ h => h) (Or.inr ⟨by rfl, rfl⟩) ?_ ?_
         rotate_left
         ·exact dz490
         refine pure_ (i := 6) (N := some 41) (v := undef) (a' := ?_) (fl_ 7 13) rfl rfl (any_of HT_.out (by kernel_rfl)) (fun _ _ _ h => h) (Or.inr ⟨by rfl, rfl⟩) ?_ ?_
         rotate_left
         ·exact dz490
         refine pure_ (i := 7) (N := some 42) (v := undef) (a' := ?_) (fl_ 8 12) rfl rfl (any_of HT_.out (by kernel_rfl)) (fun _ _ _ h => h) (Or.inr ⟨by rfl, rfl⟩) ?_ ?_
         rotate_left
         ·exact dz490
         refine pure_ (i := 8) (N := some 43) (v := undef) (a' := ?_) (fl_ 9 11) rfl rfl (any_of HT_.out (by kernel_rfl)) (fun _ _ _ h => h) (Or.inr ⟨by rfl, rfl⟩) ?_ ?_
         rotate_left
         ·exact dz490
         refine pure_ (i := 9) (N := some 44) (v := undef) (a' := ?_) (fl_ 10 10) rfl rfl (any_of HT_.out (by kernel_rfl)) (fun _ _ _ h => h) (Or.inr ⟨by rfl, rfl⟩) ?_ ?_
         rotate_left
         ·exact dz490
         refine pure_ (i := 10) (N := some 45) (v := ?_) (a' := ?_) (fl_ 11 9) rfl rfl (any_of HT_.out (by kernel_rfl)) (fun _ _ _ h => h) (Or.inl ⟨by rfl, ?_⟩) ?_ ?_
         rotate_left
         ·exact dz489
         rotate_left
         ·exact dz490
         refine pure_ (i := 11) (N := some 46) (v := ?_) (a' := ?_) (fl_ 12 8) rfl rfl (any_of HT_.out (by kernel_rfl)) (fun _ _ _ h => h) (Or.inl ⟨by rfl, ?_⟩) ?_ ?_
         rotate_left
         ·exact dz489
         rotate_left
         ·exact dz490
         refine pure_ (i := 12) (N := some 47) (v := undef) (a' := ?_) (fl_ 13 7) rfl rfl (any_of HT_.out (by kernel_rfl)) (fun _ _ _ h => h) (Or.inr ⟨by rfl, rfl⟩) ?_ ?_
         rotate_left
         ·exact dz490
         refine pure_ (i := 13) (N := some 48) (v := undef) (a' := ?_) (fl_ 14 6) rfl rfl (any_of HT_.out (by kernel_rfl)) (fun _ _ _ h => h) (Or.inr ⟨by rfl, rfl⟩) ?_ ?_
         rotate_left
         ·exact dz490
         refine pure_ (i := 14) (N := some 49) (v := undef) (a' := ?_) (fl_ 15 5) rfl rfl (any_of HT_.out (by kernel_rfl)) (fun _ _ _ h => h) (Or.inr ⟨by rfl, rfl⟩) ?_ ?_
         rotate_left
         ·exact dz490
         refine pure_ (i := 15) (N := some 50) (v := undef) (a' := ?_) (fl_ 16 4) rfl rfl (any_of HT_.out (by kernel_rfl)) (fun _ _ _ h => h) (Or.inr ⟨by rfl, rfl⟩) ?_ ?_
         rotate_left
         ·exact dz490
         refine pure_ (i := 16) (N := some 51) (v := undef) (a' := ?_) (fl_ 17 3) rfl rfl (any_of HT_.out (by kernel_rfl)) (fun _ _ _ h => h) (Or.inr ⟨by rfl, rfl⟩) ?_ ?_
         rotate_left
         ·exact dz490
         refine pure_ (i := 17) (N := some 52) (v := undef) (a' := ?_) (fl_ 18 2) rfl rfl (any_of HT_.out (by kernel_rfl)) (fun _ _ _ h => h) (Or.inr ⟨by rfl, rfl⟩) ?_ ?_
         rotate_left
         ·exact dz490
         refine pure_ (i := 18) (N := some 53) (v := undef) (a' := ?_) (fl_ 19 1) rfl rfl (any_of HT_.out (by kernel_rfl)) (fun _ _ _ h => h) (Or.inr ⟨by rfl, rfl⟩) ?_ ?_
         rotate_left
         ·exact dz490
         refine pure_ (i := 19) (N := some 54) (v := ?_) (a' := ?_) (fl_ 20 0) rfl rfl (any_of HT_.out (by kernel_rfl)) (fun _ _ _ h => h) (Or.inl ⟨by rfl, ?_⟩) ?_ ?_
         rotate_left
         ·exact dz489
         rotate_left
         ·exact dz490
         refine done_ (done_of HT_.out (by kernel_rfl)) ?_
         try go_wp2
         go_meet
         case rel => exact ⟨_, (true), dz3, H', ⟨by have := HJ2.out; have := HK2.out; first | omega | exact Nat.le_refl _⟩, ⟨by (with_reducible repeat (first | refine blk_drewN ?_ _ | refine blk_drew ?_ | refine blk_alloc ?_ _)); exact BK200.out⟩, ⟨by (with_reducible repeat (first | refine blk_drewN ?_ _ | refine blk_drew ?_ | refine blk_alloc ?_ _)); exact BK201.out⟩, ⟨by (with_reducible repeat (first | refine blk_drewN ?_ _ | refine blk_drew ?_ | refine blk_alloc ?_ _)); exact BK205.out⟩, ⟨by repeat (first | (with_reducible first | exact HB.out | apply below_alloc | apply pw_below_drewN | apply below_drew1 | refine below_set ?_ GE200.out | refine below_set ?_ GE201.out | refine below_set ?_ GE205.out) | exact HB.out)⟩⟩
        rw [if_neg c31] at H
        have c31b0 : decide (40 < (((rd_T50 l1_1 x6_2).f0).size : Int)) = false := decide_eq_false c31
        have c31b1 : decide (40 < ((rd_T50 l1_1 x6_2).f0).size) = false := decide_eq_false (by omega)
        clear c31
        (first | rw [c31b0] | (simp only [i64_w, i32_w]; rw [c31b0]) | skip)
        replace H := Option.bind_eq_some_iff.mp H
        obtain ⟨t206, A340, H⟩ := H
        replace H : (if t206 = true then ((spec_Holds.f k2 l0_0 a0_1 ((rd_T50 l1_1 x6_2).f1)).bind fun t207 => (spec_WriterOk.j2 k2 x5_2 x6_2 (t207 != ((rd_T50 l1_1 x6_2).f2)) l0_0 a0_1 a1_0 l1_1 ((rd_T50 l1_1 x6_2).f0) ((rd_T50 l1_1 x6_2).f1) ((rd_T50 l1_1 x6_2).f2))) else (spec_WriterOk.j2 k2 x5_2 x6_2 true l0_0 a0_1 a1_0 l1_1 ((rd_T50 l1_1 x6_2).f0) ((rd_T50 l1_1 x6_2).f1) ((rd_T50 l1_1 x6_2).f2))) = some r := H
        have A34 := Aside0.mk A340
        clear A340
        by_cases c35 : t206 = true
        ·subst c35
         have H1 : ((spec_Holds.f k2 l0_0 a0_1 ((rd_T50 l1_1 x6_2).f1)).bind fun t207 => (spec_WriterOk.j2 k2 x5_2 x6_2 (t207 != ((rd_T50 l1_1 x6_2).f2)) l0_0 a0_1 a1_0 l1_1 ((rd_T50 l1_1 x6_2).f0) ((rd_T50 l1_1 x6_2).f1) ((rd_T50 l1_1 x6_2).f2))) = some r := by rw [if_pos rfl] at H; exact H
         clear H
         have H := H1
         clear H1
         replace H := Option.bind_eq_some_iff.mp H
         obtain ⟨t207, A360, H⟩ := H
         replace H : (spec_WriterOk.j2 k2 x5_2 x6_2 (t207 != ((rd_T50 l1_1 x6_2).f2)) l0_0 a0_1 a1_0 l1_1 ((rd_T50 l1_1 x6_2).f0) ((rd_T50 l1_1 x6_2).f1) ((rd_T50 l1_1 x6_2).f2)) = some r := H
         have A36 := Aside0.mk A360
         clear A360
         have H' := Aside0.mk H
         clear H
         try go_wp2
         have n0_ : Aside0 ((((w27.setCell ⟨gb205, 0, none⟩ (.string ((rd_T50 l1_1 x6_2).f0))).setCell ⟨gb205, 1, none⟩ (.slice A204_1 ((rd_T50 l1_1 x6_2).f1).length c204_1)).setCell ⟨gb205, 2, none⟩ (.bool ((rd_T50 l1_1 x6_2).f2))).heap[gb200]? = some (.cells #[.slice A0_0 l0_0.length c0_0, .int .i64 a0_1] 31 (0, 0))) := ⟨by (with_reducible repeat (first | refine blk_drewN ?_ _ | refine blk_drew ?_ | refine blk_alloc ?_ _)); refine blk_far ?_ NB200_205.out _; (with_reducible repeat (first | refine blk_drewN ?_ _ | refine blk_drew ?_ | refine blk_alloc ?_ _)); refine blk_far ?_ NB200_205.out _; (with_reducible repeat (first | refine blk_drewN ?_ _ | refine blk_drew ?_ | refine blk_alloc ?_ _)); refine blk_far ?_ NB200_205.out _; (with_reducible repeat (first | refine blk_drewN ?_ _ | refine blk_drew ?_ | refine blk_alloc ?_ _)); exact BK200.out⟩
         have n1_ : Aside0 ((((w27.setCell ⟨gb205, 0, none⟩ (.string ((rd_T50 l1_1 x6_2).f0))).setCell ⟨gb205, 1, none⟩ (.slice A204_1 ((rd_T50 l1_1 x6_2).f1).length c204_1)).setCell ⟨gb205, 2, none⟩ (.bool ((rd_T50 l1_1 x6_2).f2))).heap[gb201]? = some (.cells #[.int .i64 a1_0, .slice (some ad204) l1_1.length c1_1] 44 (0, 0))) := ⟨by (with_reducible repeat (first | refine blk_drewN ?_ _ | refine blk_drew ?_ | refine blk_alloc ?_ _)); refine blk_far ?_ NB201_205.out _; (with_reducible repeat (first | refine blk_drewN ?_ _ | refine blk_drew ?_ | refine blk_alloc ?_ _)); refine blk_far ?_ NB201_205.out _; (with_reducible repeat (first | refine blk_drewN ?_ _ | refine blk_drew ?_ | refine blk_alloc ?_ _)); refine blk_far ?_ NB201_205.out _; (with_reducible repeat (first | refine blk_drewN ?_ _ | refine blk_drew ?_ | refine blk_alloc ?_ _)); exact BK201.out⟩
         have n2_ : Aside0 ((((w27.setCell ⟨gb205, 0, none⟩ (.string ((rd_T50 l1_1 x6_2).f0))).setCell ⟨gb205, 1, none⟩ (.slice A204_1 ((rd_T50 l1_1 x6_2).f1).length c204_1)).setCell ⟨gb205, 2, none⟩ (.bool ((rd_T50 l1_1 x6_2).f2))).heap[gb205]? = some (.cells #[.string ((rd_T50 l1_1 x6_2).f0), .slice A204_1 ((rd_T50 l1_1 x6_2).f1).length c204_1, .bool ((rd_T50 l1_1 x6_2).f2)] 50 (0, 0))) := ⟨by (with_reducible repeat (first | refine blk_drewN ?_ _ | refine blk_drew ?_ | refine blk_alloc ?_ _)); refine blk_put (cs := #[.string ((rd_T50 l1_1 x6_2).f0), .slice A204_1 ((rd_T50 l1_1 x6_2).f1).length c204_1, .bool false]) ?_ 2 _ rfl; (with_reducible repeat (first | refine blk_drewN ?_ _ | refine blk_drew ?_ | refine blk_alloc ?_ _)); refine blk_put (cs := #[.string ((rd_T50 l1_1 x6_2).f0), .slice none 0 0, .bool false]) ?_ 1 _ rfl; (with_reducible repeat (first | refine blk_drewN ?_ _ | refine blk_drew ?_ | refine blk_alloc ?_ _)); refine blk_put (cs := #[.string (⟨#[]⟩ : ByteArray), .slice none 0 0, .bool false]) ?_ 0 _ rfl; (with_reducible repeat (first | refine blk_drewN ?_ _ | refine blk_drew ?_ | refine blk_alloc ?_ _)); exact BK205.out⟩
         have n3_ : Aside0 (Below w.heap.size w (((w27.setCell ⟨gb205, 0, none⟩ (.string ((rd_T50 l1_1 x6_2).f0))).setCell ⟨gb205, 1, none⟩ (.slice A204_1 ((rd_T50 l1_1 x6_2).f1).length c204_1)).setCell ⟨gb205, 2, none⟩ (.bool ((rd_T50 l1_1 x6_2).f2)))) := ⟨by repeat (first | (with_reducible first | exact HB.out | apply below_alloc | apply pw_below_drewN | apply below_drew1 | refine below_set ?_ GE200.out | refine below_set ?_ GE201.out | refine below_set ?_ GE205.out) | exact HB.out)⟩
         (try clear BK200)
         (try clear BK201)
         (try clear BK205)
         (try clear HB)
         generalize (((w27.setCell ⟨gb205, 0, none⟩ (.string ((rd_T50 l1_1 x6_2).f0))).setCell ⟨gb205, 1, none⟩ (.slice A204_1 ((rd_T50 l1_1 x6_2).f1).length c204_1)).setCell ⟨gb205, 2, none⟩ (.bool ((rd_T50 l1_1 x6_2).f2))) = w37 at n0_ n1_ n2_ n3_ ⊢
         have BK200 := n0_
         have BK201 := n1_
         have BK205 := n2_
         have HB := n3_
         clear n0_ n1_ n2_ n3_
         replace BK200 := Aside0.mk (blk_drew BK200.out)
         replace BK201 := Aside0.mk (blk_drew BK201.out)
         replace BK205 := Aside0.mk (blk_drew BK205.out)
         replace HB := Aside0.mk (below_drew1 HB.out)
         refine start_ (n := 20) (S := fun w' => w'.cell? ⟨gb205, 0, none⟩ = some (.string ((rd_T50 l1_1 x6_2).f0)) ∧ w'.cell? ⟨gb205, 1, none⟩ = some (.slice A204_1 ((rd_T50 l1_1 x6_2).f1).length c204_1) ∧ w'.cell? ⟨gb205, 2, none⟩ = some (.bool ((rd_T50 l1_1 x6_2).f2)) ∧ w'.cell? ⟨gb200, 0, none⟩ = some (.slice A0_0 l0_0.length c0_0) ∧ w'.cell? ⟨gb200, 1, none⟩ = some (.int .i64 a0_1)) (ds := []) (fl_ 0 20) (by kernel_rfl) rfl rfl ⟨(blk_cell BK205.out 0).trans rfl, (blk_cell BK205.out 1).trans rfl, (blk_cell BK205.out 2).trans rfl, (blk_cell BK200.out 0).trans rfl, (blk_cell BK200.out 1).trans rfl⟩ (fun hHeld => ?_); refine with_tabW spec_WriterOk.tab8 spec_WriterOk.bits8 (fun HT_ HW_ => ?_)
         generalize w37.drew = w38 at BK200 BK201 BK205 HB hHeld ⊢
         refine pure_ (i := 0) (N := some 35) (v := ?_) (a' := ?_) (fl_ 1 19) rfl rfl (any_of HT_.out (by kernel_rfl)) (fun _ _ _ h => h) (Or.inl ⟨by rfl, ?_⟩) ?_ ?_
         rotate_left
         ·exact dz489
         rotate_left
         ·exact dz490
         refine take_ (i := 1) (N := some 36) (v := ?_) (a' := ?_) (fl_ 2 18) rfl rfl (take_ofW HT_.out HW_.out (by kernel_rfl)) (fun _ _ _ h => h) (Or.inl ⟨by rfl, ?_⟩) hHeld ?_ ?_
         rotate_left
         ·exact dz494
         rotate_left
         ·exact dz490
         refine pure_ (i := 2) (N := some 37) (v := ?_) (a' := ?_) (fl_ 3 17) rfl rfl (any_of HT_.out (by kernel_rfl)) (fun _ _ _ h => h) (Or.inl ⟨by rfl, ?_⟩) ?_ ?_
         rotate_left
         ·exact dz489
         rotate_left
         ·exact dz490
         refine pure_ (i := 3) (N := some 38) (v := ?_) (a' := ?_) (fl_ 4 16) rfl rfl (any_of HT_.out (by kernel_rfl)) (fun _ _ _ h => h) (Or.inl ⟨by rfl, ?_⟩) ?_ ?_
         rotate_left
         ·exact dz489
         rotate_left
         ·exact dz490
         refine pure_ (i := 4) (N := some 39) (v := ?_) (a' := ?_) (fl_ 5 15) rfl rfl (any_of HT_.out (by kernel_rfl)) (fun _ _ _ h => h) (Or.inl ⟨by rfl, ?_⟩) ?_ ?_
         rotate_left
         ·exact dz489
         rotate_left
         ·exact dz490
         refine pure_ (i := 6) (N := some 41) (v := ?_) (a' := ?_) #[true, true, true, true, true, false, true, false, false, false, false, false, false, false, false, false, false, false, false, false] rfl rfl (any_of HT_.out (by kernel_rfl)) (fun _ _ _ h => h) (Or.inl ⟨by rfl, ?_⟩) ?_ ?_
         rotate_left
         ·exact dz489
         rotate_left
         ·exact dz490
         refine take_ (i := 5) (N := some 40) (v := ?_) (a' := ?_) (fl_ 7 13) rfl rfl (take_ofW HT_.out HW_.out (by kernel_rfl)) (fun _ _ _ h => h) (Or.inl ⟨by rfl, ?_⟩) hHeld ?_ ?_
         rotate_left
         ·exact dz494
         rotate_left
         ·exact dz490
         refine take_ (i := 7) (N := some 42) (v := ?_) (a' := ?_) (fl_ 8 12) rfl rfl (take_ofW HT_.out HW_.out (by kernel_rfl)) (fun _ _ _ h => h) (Or.inl ⟨by rfl, ?_⟩) hHeld ?_ ?_
         rotate_left
         ·exact dz494
         rotate_left
         ·exact dz490
         refine one_ (i := 8) (N := some 43) (fl_ 9 11) rfl rfl (one_of HT_.out (by kernel_rfl)) (by decide) (fun K hK => ?_)
         refine goes_ Try.func79 (by kernel_rfl) rfl #[.agg #[.slice A0_0 l0_0.length c0_0, .int .i64 a0_1], .slice A204_1 ((rd_T50 l1_1 x6_2).f1).length c204_1] (by rfl) rfl rfl dz1 ?_
         with_reducible refine (spec_NodesOk.calls k2 _ _ l0_0 a0_1 _ _ ((rd_T50 l1_1 x6_2).f1) true _ ?side1 ?side2 ?side3 ?side4 A34.out).mono ?_
         (case side1 => exact dz462)
         (case side2 => exact HC0_0.out)
         (case side3 => exact dz464)
         (case side4 => exact HC204_1.out)
         rintro e w39 ⟨rfl, hb⟩
         refine ⟨_, rfl, ?_⟩
         replace BK200 := (bkb_ BK200 hb)
         replace BK201 := (bkb_ BK201 hb)
         replace BK205 := (bkb_ BK205 hb)
         replace HB := Aside0.mk (below_step dz106 hb)
         (try clear hb)
         (try clear hb2)
         (try clear hk)
         (try clear hi)
         refine hK.out _ _ ⟨(blk_cell BK205.out 0).trans rfl, (blk_cell BK205.out 1).trans rfl, (blk_cell BK205.out 2).trans rfl, (blk_cell BK200.out 0).trans rfl, (blk_cell BK200.out 1).trans rfl⟩ (fun hHeld => ?_)
         clear hK K
         refine norm_ (a' := ?_) ?_ ?_
         rotate_left
         ·exact dz495
         refine pure_ (i := 9) (N := some 44) (v := ?_) (a' := ?_) (fl_ 10 10) rfl rfl (any_of HT_.out (by kernel_rfl)) (fun _ _ _ h => h) (Or.inl ⟨by rfl, ?_⟩) ?_ ?_
         rotate_left
         ·exact dz489
         rotate_left
         ·exact dz490
         refine pure_ (i := 10) (N := some 45) (v := ?_) (a' := ?_) (fl_ 11 9) rfl rfl (any_of HT_.out (by kernel_rfl)) (fun _ _ _ h => h) (Or.inl ⟨by rfl, ?_⟩) ?_ ?_
         rotate_left
         ·exact dz489
         rotate_left
         ·exact dz490
         refine pure_ (i := 11) (N := some 46) (v := ?_) (a' := ?_) (fl_ 12 8) rfl rfl (any_of HT_.out (by kernel_rfl)) (fun _ _ _ h => h) (Or.inl ⟨by rfl, ?_⟩) ?_ ?_
         rotate_left
         ·exact dz489
         rotate_left
         ·exact dz490
         refine pure_ (i := 13) (N := some 48) (v := ?_) (a' := ?_) #[true, true, true, true, true, true, true, true, true, true, true, true, false, true, false, false, false, false, false, false] rfl rfl (any_of HT_.out (by kernel_rfl)) (fun _ _ _ h => h) (Or.inl ⟨by rfl, ?_⟩) ?_ ?_
         rotate_left
         ·exact dz489
         rotate_left
         ·exact dz490
         refine pure_ (i := 16) (N := some 51) (v := ?_) (a' := ?_) #[true, true, true, true, true, true, true, true, true, true, true, true, false, true, false, false, true, false, false, false] rfl rfl (any_of HT_.out (by kernel_rfl)) (fun _ _ _ h => h) (Or.inl ⟨by rfl, ?_⟩) ?_ ?_
         rotate_left
         ·exact dz489
         rotate_left
         ·exact dz490
         refine take_ (i := 12) (N := some 47) (v := ?_) (a' := ?_) #[true, true, true, true, true, true, true, true, true, true, true, true, true, true, false, false, true, false, false, false] rfl rfl (take_ofW HT_.out HW_.out (by kernel_rfl)) (fun _ _ _ h => h) (Or.inl ⟨by rfl, ?_⟩) hHeld ?_ ?_
         rotate_left
         ·exact dz494
         rotate_left
         ·exact dz490
         refine take_ (i := 14) (N := some 49) (v := ?_) (a' := ?_) #[true, true, true, true, true, true, true, true, true, true, true, true, true, true, true, false, true, false, false, false] rfl rfl (take_ofW HT_.out HW_.out (by kernel_rfl)) (fun _ _ _ h => h) (Or.inl ⟨by rfl, ?_⟩) hHeld ?_ ?_
         rotate_left
         ·exact dz494
         rotate_left
         ·exact dz490
         refine take_ (i := 17) (N := some 52) (v := ?_) (a' := ?_) #[true, true, true, true, true, true, true, true, true, true, true, true, true, true, true, false, true, true, false, false] rfl rfl (take_ofW HT_.out HW_.out (by kernel_rfl)) (fun _ _ _ h => h) (Or.inl ⟨by rfl, ?_⟩) hHeld ?_ ?_
         rotate_left
         ·exact dz494
         rotate_left
         ·exact dz490
         refine one_ (i := 15) (N := some 50) (fl_ 18 2) rfl rfl (one_of HT_.out (by kernel_rfl)) (by decide) (fun K hK => ?_)
         refine goes_ Try.func54 (by kernel_rfl) rfl #[.agg #[.slice A0_0 l0_0.length c0_0, .int .i64 a0_1], .slice A204_1 ((rd_T50 l1_1 x6_2).f1).length c204_1] (by rfl) rfl rfl dz1 ?_
         with_reducible refine (spec_Holds.calls k2 _ _ l0_0 a0_1 _ _ ((rd_T50 l1_1 x6_2).f1) t207 _ ?side1 ?side2 ?side3 ?side4 A36.out).mono ?_
         (case side1 => exact dz462)
         (case side2 => exact HC0_0.out)
         (case side3 => exact dz464)
         (case side4 => exact HC204_1.out)
         rintro e w40 ⟨rfl, hb⟩
         refine ⟨_, rfl, ?_⟩
         replace BK200 := (bkb_ BK200 hb)
         replace BK201 := (bkb_ BK201 hb)
         replace BK205 := (bkb_ BK205 hb)
         replace HB := Aside0.mk (below_step dz106 hb)
         (try clear hb)
         (try clear hb2)
         (try clear hk)
         (try clear hi)
         refine hK.out _ _ ⟨(blk_cell BK205.out 0).trans rfl, (blk_cell BK205.out 1).trans rfl, (blk_cell BK205.out 2).trans rfl, (blk_cell BK200.out 0).trans rfl, (blk_cell BK200.out 1).trans rfl⟩ (fun hHeld => ?_)
         clear hK K
         refine norm_ (a' := ?_) ?_ ?_
         rotate_left
         ·show Act.put _ (some 50) _ = _
          simp only [Act.put, List.setIfInBounds_toArray, List.set_cons_zero, List.set_cons_succ, i64_w, i32_w]
          rfl
         refine pure_ (i := 18) (N := some 53) (v := ?_) (a' := ?_) (fl_ 19 1) rfl rfl (any_of HT_.out (by kernel_rfl)) (fun _ _ _ h => h) (Or.inl ⟨by rfl, ?_⟩) ?_ ?_
         rotate_left
         ·exact dz489
         rotate_left
         ·exact dz490
         refine pure_ (i := 19) (N := some 54) (v := ?_) (a' := ?_) (fl_ 20 0) rfl rfl (any_of HT_.out (by kernel_rfl)) (fun _ _ _ h => h) (Or.inl ⟨by rfl, ?_⟩) ?_ ?_
         rotate_left
         ·exact dz489
         rotate_left
         ·exact dz490
         refine done_ (done_of HT_.out (by kernel_rfl)) ?_
         try go_wp2
         go_meet
         case rel => exact ⟨_, ((t207 != ((rd_T50 l1_1 x6_2).f2))), dz3, H', ⟨by have := HJ2.out; have := HK2.out; first | omega | exact Nat.le_refl _⟩, ⟨by (with_reducible repeat (first | refine blk_drewN ?_ _ | refine blk_drew ?_ | refine blk_alloc ?_ _)); exact BK200.out⟩, ⟨by (with_reducible repeat (first | refine blk_drewN ?_ _ | refine blk_drew ?_ | refine blk_alloc ?_ _)); exact BK201.out⟩, ⟨by (with_reducible repeat (first | refine blk_drewN ?_ _ | refine blk_drew ?_ | refine blk_alloc ?_ _)); exact BK205.out⟩, ⟨by repeat (first | (with_reducible first | exact HB.out | apply below_alloc | apply pw_below_drewN | apply below_drew1 | refine below_set ?_ GE200.out | refine below_set ?_ GE201.out | refine below_set ?_ GE205.out) | exact HB.out)⟩⟩
        replace c35 := Bool.eq_false_iff.mpr c35
        subst c35
        have H1 : (spec_WriterOk.j2 k2 x5_2 x6_2 true l0_0 a0_1 a1_0 l1_1 ((rd_T50 l1_1 x6_2).f0) ((rd_T50 l1_1 x6_2).f1) ((rd_T50 l1_1 x6_2).f2)) = some r := by rw [if_neg (show ¬ (false = true) by decide)] at H; exact H
        clear H
        have H := H1
        clear H1
        have H' := Aside0.mk H
        clear H
        try go_wp2
        have n0_ : Aside0 ((((w27.setCell ⟨gb205, 0, none⟩ (.string ((rd_T50 l1_1 x6_2).f0))).setCell ⟨gb205, 1, none⟩ (.slice A204_1 ((rd_T50 l1_1 x6_2).f1).length c204_1)).setCell ⟨gb205, 2, none⟩ (.bool ((rd_T50 l1_1 x6_2).f2))).heap[gb200]? = some (.cells #[.slice A0_0 l0_0.length c0_0, .int .i64 a0_1] 31 (0, 0))) := ⟨by (with_reducible repeat (first | refine blk_drewN ?_ _ | refine blk_drew ?_ | refine blk_alloc ?_ _)); refine blk_far ?_ NB200_205.out _; (with_reducible repeat (first | refine blk_drewN ?_ _ | refine blk_drew ?_ | refine blk_alloc ?_ _)); refine blk_far ?_ NB200_205.out _; (with_reducible repeat (first | refine blk_drewN ?_ _ | refine blk_drew ?_ | refine blk_alloc ?_ _)); refine blk_far ?_ NB200_205.out _; (with_reducible repeat (first | refine blk_drewN ?_ _ | refine blk_drew ?_ | refine blk_alloc ?_ _)); exact BK200.out⟩
        have n1_ : Aside0 ((((w27.setCell ⟨gb205, 0, none⟩ (.string ((rd_T50 l1_1 x6_2).f0))).setCell ⟨gb205, 1, none⟩ (.slice A204_1 ((rd_T50 l1_1 x6_2).f1).length c204_1)).setCell ⟨gb205, 2, none⟩ (.bool ((rd_T50 l1_1 x6_2).f2))).heap[gb201]? = some (.cells #[.int .i64 a1_0, .slice (some ad204) l1_1.length c1_1] 44 (0, 0))) := ⟨by (with_reducible repeat (first | refine blk_drewN ?_ _ | refine blk_drew ?_ | refine blk_alloc ?_ _)); refine blk_far ?_ NB201_205.out _; (with_reducible repeat (first | refine blk_drewN ?_ _ | refine blk_drew ?_ | refine blk_alloc ?_ _)); refine blk_far ?_ NB201_205.out _; (with_reducible repeat (first | refine blk_drewN ?_ _ | refine blk_drew ?_ | refine blk_alloc ?_ _)); refine blk_far ?_ NB201_205.out _; (with_reducible repeat (first | refine blk_drewN ?_ _ | refine blk_drew ?_ | refine blk_alloc ?_ _)); exact BK201.out⟩
        have n2_ : Aside0 ((((w27.setCell ⟨gb205, 0, none⟩ (.string ((rd_T50 l1_1 x6_2).f0))).setCell ⟨gb205, 1, none⟩ (.slice A204_1 ((rd_T50 l1_1 x6_2).f1).length c204_1)).setCell ⟨gb205, 2, none⟩ (.bool ((rd_T50 l1_1 x6_2).f2))).heap[gb205]? = some (.cells #[.string ((rd_T50 l1_1 x6_2).f0), .slice A204_1 ((rd_T50 l1_1 x6_2).f1).length c204_1, .bool ((rd_T50 l1_1 x6_2).f2)] 50 (0, 0))) := ⟨by (with_reducible repeat (first | refine blk_drewN ?_ _ | refine blk_drew ?_ | refine blk_alloc ?_ _)); refine blk_put (cs := #[.string ((rd_T50 l1_1 x6_2).f0), .slice A204_1 ((rd_T50 l1_1 x6_2).f1).length c204_1, .bool false]) ?_ 2 _ rfl; (with_reducible repeat (first | refine blk_drewN ?_ _ | refine blk_drew ?_ | refine blk_alloc ?_ _)); refine blk_put (cs := #[.string ((rd_T50 l1_1 x6_2).f0), .slice none 0 0, .bool false]) ?_ 1 _ rfl; (with_reducible repeat (first | refine blk_drewN ?_ _ | refine blk_drew ?_ | refine blk_alloc ?_ _)); refine blk_put (cs := #[.string (⟨#[]⟩ : ByteArray), .slice none 0 0, .bool false]) ?_ 0 _ rfl; (with_reducible repeat (first | refine blk_drewN ?_ _ | refine blk_drew ?_ | refine blk_alloc ?_ _)); exact BK205.out⟩
        have n3_ : Aside0 (Below w.heap.size w (((w27.setCell ⟨gb205, 0, none⟩ (.string ((rd_T50 l1_1 x6_2).f0))).setCell ⟨gb205, 1, none⟩ (.slice A204_1 ((rd_T50 l1_1 x6_2).f1).length c204_1)).setCell ⟨gb205, 2, none⟩ (.bool ((rd_T50 l1_1 x6_2).f2)))) := ⟨by repeat (first | (with_reducible first | exact HB.out | apply below_alloc | apply pw_below_drewN | apply below_drew1 | refine below_set ?_ GE200.out | refine below_set ?_ GE201.out | refine below_set ?_ GE205.out) | exact HB.out)⟩
        (try clear BK200)
        (try clear BK201)
        (try clear BK205)
        (try clear HB)
        generalize (((w27.setCell ⟨gb205, 0, none⟩ (.string ((rd_T50 l1_1 x6_2).f0))).setCell ⟨gb205, 1, none⟩ (.slice A204_1 ((rd_T50 l1_1 x6_2).f1).length c204_1)).setCell ⟨gb205, 2, none⟩ (.bool ((rd_T50 l1_1 x6_2).f2))) = w41 at n0_ n1_ n2_ n3_ ⊢
        have BK200 := n0_
        have BK201 := n1_
        have BK205 := n2_
        have HB := n3_
        clear n0_ n1_ n2_ n3_
        replace BK200 := Aside0.mk (blk_drew BK200.out)
        replace BK201 := Aside0.mk (blk_drew BK201.out)
        replace BK205 := Aside0.mk (blk_drew BK205.out)
        replace HB := Aside0.mk (below_drew1 HB.out)
        refine start_ (n := 20) (S := fun w' => w'.cell? ⟨gb205, 0, none⟩ = some (.string ((rd_T50 l1_1 x6_2).f0)) ∧ w'.cell? ⟨gb205, 1, none⟩ = some (.slice A204_1 ((rd_T50 l1_1 x6_2).f1).length c204_1) ∧ w'.cell? ⟨gb205, 2, none⟩ = some (.bool ((rd_T50 l1_1 x6_2).f2)) ∧ w'.cell? ⟨gb200, 0, none⟩ = some (.slice A0_0 l0_0.length c0_0) ∧ w'.cell? ⟨gb200, 1, none⟩ = some (.int .i64 a0_1)) (ds := []) (fl_ 0 20) (by kernel_rfl) rfl rfl ⟨(blk_cell BK205.out 0).trans rfl, (blk_cell BK205.out 1).trans rfl, (blk_cell BK205.out 2).trans rfl, (blk_cell BK200.out 0).trans rfl, (blk_cell BK200.out 1).trans rfl⟩ (fun hHeld => ?_); refine with_tabW spec_WriterOk.tab8 spec_WriterOk.bits8 (fun HT_ HW_ => ?_)
        generalize w41.drew = w42 at BK200 BK201 BK205 HB hHeld ⊢
        refine pure_ (i := 0) (N := some 35) (v := ?_) (a' := ?_) (fl_ 1 19) rfl rfl (any_of HT_.out (by kernel_rfl)) (fun _ _ _ h => h) (Or.inl ⟨by rfl, ?_⟩) ?_ ?_
        rotate_left
        ·exact dz489
        rotate_left
        ·exact dz490
        refine take_ (i := 1) (N := some 36) (v := ?_) (a' := ?_) (fl_ 2 18) rfl rfl (take_ofW HT_.out HW_.out (by kernel_rfl)) (fun _ _ _ h => h) (Or.inl ⟨by rfl, ?_⟩) hHeld ?_ ?_
        rotate_left
        ·exact dz494
        rotate_left
        ·exact dz490
        refine pure_ (i := 2) (N := some 37) (v := ?_) (a' := ?_) (fl_ 3 17) rfl rfl (any_of HT_.out (by kernel_rfl)) (fun _ _ _ h => h) (Or.inl ⟨by rfl, ?_⟩) ?_ ?_
        rotate_left
        ·exact dz489
        rotate_left
        ·exact dz490
        refine pure_ (i := 3) (N := some 38) (v := ?_) (a' := ?_) (fl_ 4 16) rfl rfl (any_of HT_.out (by kernel_rfl)) (fun _ _ _ h => h) (Or.inl ⟨by rfl, ?_⟩) ?_ ?_
        rotate_left
        ·exact dz489
        rotate_left
        ·exact dz490
        refine pure_ (i := 4) (N := some 39) (v := ?_) (a' := ?_) (fl_ 5 15) rfl rfl (any_of HT_.out (by kernel_rfl)) (fun _ _ _ h => h) (Or.inl ⟨by rfl, ?_⟩) ?_ ?_
        rotate_left
        ·exact dz489
        rotate_left
        ·exact dz490
        refine pure_ (i := 6) (N := some 41) (v := ?_) (a' := ?_) #[true, true, true, true, true, false, true, false, false, false, false, false, false, false, false, false, false, false, false, false] rfl rfl (any_of HT_.out (by kernel_rfl)) (fun _ _ _ h => h) (Or.inl ⟨by rfl, ?_⟩) ?_ ?_
        rotate_left
        ·exact dz489
        rotate_left
        ·exact dz490
        refine take_ (i := 5) (N := some 40) (v := ?_) (a' := ?_) (fl_ 7 13) rfl rfl (take_ofW HT_.out HW_.out (by kernel_rfl)) (fun _ _ _ h => h) (Or.inl ⟨by rfl, ?_⟩) hHeld ?_ ?_
        rotate_left
        ·exact dz494
        rotate_left
        ·exact dz490
        refine take_ (i := 7) (N := some 42) (v := ?_) (a' := ?_) (fl_ 8 12) rfl rfl (take_ofW HT_.out HW_.out (by kernel_rfl)) (fun _ _ _ h => h) (Or.inl ⟨by rfl, ?_⟩) hHeld ?_ ?_
        rotate_left
        ·exact dz494
        rotate_left
        ·exact dz490
        refine one_ (i := 8) (N := some 43) (fl_ 9 11) rfl rfl (one_of HT_.out (by kernel_rfl)) (by decide) (fun K hK => ?_)
        refine goes_ Try.func79 (by kernel_rfl) rfl #[.agg #[.slice A0_0 l0_0.length c0_0, .int .i64 a0_1], .slice A204_1 ((rd_T50 l1_1 x6_2).f1).length c204_1] (by rfl) rfl rfl dz1 ?_
        with_reducible refine (spec_NodesOk.calls k2 _ _ l0_0 a0_1 _ _ ((rd_T50 l1_1 x6_2).f1) false _ ?side1 ?side2 ?side3 ?side4 A34.out).mono ?_
        (case side1 => exact dz462)
        (case side2 => exact HC0_0.out)
        (case side3 => exact dz464)
        (case side4 => exact HC204_1.out)
        rintro e w43 ⟨rfl, hb⟩
        refine ⟨_, rfl, ?_⟩
        replace BK200 := (bkb_ BK200 hb)
        replace BK201 := (bkb_ BK201 hb)
        replace BK205 := (bkb_ BK205 hb)
        replace HB := Aside0.mk (below_step dz106 hb)
        (try clear hb)
        (try clear hb2)
        (try clear hk)
        (try clear hi)
        refine hK.out _ _ ⟨(blk_cell BK205.out 0).trans rfl, (blk_cell BK205.out 1).trans rfl, (blk_cell BK205.out 2).trans rfl, (blk_cell BK200.out 0).trans rfl, (blk_cell BK200.out 1).trans rfl⟩ (fun hHeld => ?_)
        clear hK K
        refine norm_ (a' := ?_) ?_ ?_
        rotate_left
        ·exact dz495
        refine pure_ (i := 9) (N := some 44) (v := ?_) (a' := ?_) (fl_ 10 10) rfl rfl (any_of HT_.out (by kernel_rfl)) (fun _ _ _ h => h) (Or.inl ⟨by rfl, ?_⟩) ?_ ?_
        rotate_left
        ·exact dz489
        rotate_left
        ·exact dz490
        refine pure_ (i := 10) (N := some 45) (v := ?_) (a' := ?_) (fl_ 11 9) rfl rfl (any_of HT_.out (by kernel_rfl)) (fun _ _ _ h => h) (Or.inl ⟨by rfl, ?_⟩) ?_ ?_
        rotate_left
        ·exact dz489
        rotate_left
        ·exact dz490
        refine pure_ (i := 11) (N := some 46) (v := ?_) (a' := ?_) (fl_ 12 8) rfl rfl (any_of HT_.out (by kernel_rfl)) (fun _ _ _ h => h) (Or.inl ⟨by rfl, ?_⟩) ?_ ?_
        rotate_left
        ·exact dz489
        rotate_left
        ·exact dz490
        refine pure_ (i := 12) (N := some 47) (v := undef) (a' := ?_) (fl_ 13 7) rfl rfl (any_of HT_.out (by kernel_rfl)) (fun _ _ _ h => h) (Or.inr ⟨by rfl, rfl⟩) ?_ ?_
        rotate_left
        ·exact dz490
        refine pure_ (i := 13) (N := some 48) (v := undef) (a' := ?_) (fl_ 14 6) rfl rfl (any_of HT_.out (by kernel_rfl)) (fun _ _ _ h => h) (Or.inr ⟨by rfl, rfl⟩) ?_ ?_
        rotate_left
        ·exact dz490
        refine pure_ (i := 14) (N := some 49) (v := undef) (a' := ?_) (fl_ 15 5) rfl rfl (any_of HT_.out (by kernel_rfl)) (fun _ _ _ h => h) (Or.inr ⟨by rfl, rfl⟩) ?_ ?_
        rotate_left
        ·exact dz490
        refine pure_ (i := 15) (N := some 50) (v := undef) (a' := ?_) (fl_ 16 4) rfl rfl (any_of HT_.out (by kernel_rfl)) (fun _ _ _ h => h) (Or.inr ⟨by rfl, rfl⟩) ?_ ?_
        rotate_left
        ·exact dz490
        refine pure_ (i := 16) (N := some 51) (v := undef) (a' := ?_) (fl_ 17 3) rfl rfl (any_of HT_.out (by kernel_rfl)) (fun _ _ _ h => h) (Or.inr ⟨by rfl, rfl⟩) ?_ ?_
        rotate_left
        ·exact dz490
        refine pure_ (i := 17) (N := some 52) (v := undef) (a' := ?_) (fl_ 18 2) rfl rfl (any_of HT_.out (by kernel_rfl)) (fun _ _ _ h => h) (Or.inr ⟨by rfl, rfl⟩) ?_ ?_
        rotate_left
        ·exact dz490
        refine pure_ (i := 18) (N := some 53) (v := undef) (a' := ?_) (fl_ 19 1) rfl rfl (any_of HT_.out (by kernel_rfl)) (fun _ _ _ h => h) (Or.inr ⟨by rfl, rfl⟩) ?_ ?_
        rotate_left
        ·exact dz490
        refine pure_ (i := 19) (N := some 54) (v := ?_) (a' := ?_) (fl_ 20 0) rfl rfl (any_of HT_.out (by kernel_rfl)) (fun _ _ _ h => h) (Or.inl ⟨by rfl, ?_⟩) ?_ ?_
        rotate_left
        ·exact dz489
        rotate_left
        ·exact dz490
        refine done_ (done_of HT_.out (by kernel_rfl)) ?_
        try go_wp2
        go_meet
        case rel => exact ⟨_, (true), dz3, H', ⟨by have := HJ2.out; have := HK2.out; first | omega | exact Nat.le_refl _⟩, ⟨by (with_reducible repeat (first | refine blk_drewN ?_ _ | refine blk_drew ?_ | refine blk_alloc ?_ _)); exact BK200.out⟩, ⟨by (with_reducible repeat (first | refine blk_drewN ?_ _ | refine blk_drew ?_ | refine blk_alloc ?_ _)); exact BK201.out⟩, ⟨by (with_reducible repeat (first | refine blk_drewN ?_ _ | refine blk_drew ?_ | refine blk_alloc ?_ _)); exact BK205.out⟩, ⟨by repeat (first | (with_reducible first | exact HB.out | apply below_alloc | apply pw_below_drewN | apply below_drew1 | refine below_set ?_ GE200.out | refine below_set ?_ GE201.out | refine below_set ?_ GE205.out) | exact HB.out)⟩⟩
       case rest =>
        clear HC24
        try clear c1
        try clear c2
        try clear p2
        try clear c3
        try clear c5
        try clear c7
        try clear c20
        try clear c31
        try clear c31b0
        try clear c31b1
        try clear c35
        obtain ⟨kq, x54_23, rfl, HA, HJ23, BK200, BK201, BK205, HB⟩ := hcut
        cases kq with
        | zero => exact absurd HA.out (by simp [spec_WriterOk.j2])
        | succ kj23 =>
         have H := HA.out
         clear HA
         simp only [spec_WriterOk.j2] at H
         by_cases c44 : x54_23 = true
         ·subst c44
          have H1 : (some false) = some r := by rw [if_pos rfl] at H; exact H
          clear H
          have H := H1
          clear H1
          obtain rfl := Option.some.inj H
          go_wp2
          go_ret
          exact ⟨by first | rfl | (simp [errW_none, errW_some] <;> rfl) | (simp [*, errW_none, errW_some] <;> rfl), by repeat (first | (with_reducible first | exact HB.out | apply below_alloc | apply pw_below_drewN | apply below_drew1 | refine below_set ?_ GE200.out | refine below_set ?_ GE201.out | refine below_set ?_ GE205.out) | exact HB.out)⟩
         replace c44 := Bool.eq_false_iff.mpr c44
         subst c44
         have H1 : (if ((rd_T50 l1_1 x6_2).f2) = true then (spec_WriterOk.l0 kj23 x5_2 (wrap64 (x6_2 + 1)) l0_0 a0_1 a1_0 l1_1) else (spec_WriterOk.l0 kj23 (wrap64 (x5_2 + 1)) (wrap64 (x6_2 + 1)) l0_0 a0_1 a1_0 l1_1)) = some r := by rw [if_neg (show ¬ (false = true) by decide)] at H; exact H
         clear H
         have H := H1
         clear H1
         by_cases c45 : ((rd_T50 l1_1 x6_2).f2) = true
         ·rw [if_pos c45] at H
          have c45b0 : ((rd_T50 l1_1 x6_2).f2) = true := c45
          clear c45
          have H' := Aside0.mk H
          clear H
          have hnb46 := NB205_200.out
          have hnc46 := NB200_205.out
          have hnb47 := NB205_201.out
          have hnc47 := NB201_205.out
          obtain ⟨hcz48_0, hcz48_1, hcz48_2, hfz48_0, hfz48_1, hfz48_2⟩ := cz3_ BK205
          go_wp2
          go_roundg kj23
          case measure => have := HJ2.out; have := HK2.out; have := HJ23.out; omega
          case rel => exact ⟨(x5_2), (wrap64 (x6_2 + 1)), dz3, dz3, H', ⟨by have := HJ2.out; have := HK2.out; have := HJ23.out; omega⟩, ⟨by (with_reducible repeat (first | refine blk_drewN ?_ _ | refine blk_drew ?_ | refine blk_alloc ?_ _)); exact BK200.out⟩, ⟨by (with_reducible repeat (first | refine blk_drewN ?_ _ | refine blk_drew ?_ | refine blk_alloc ?_ _)); exact BK201.out⟩, ⟨by repeat (first | (with_reducible first | exact HB.out | apply below_alloc | apply pw_below_drewN | apply below_drew1 | refine below_set ?_ GE200.out | refine below_set ?_ GE201.out | refine below_set ?_ GE205.out) | exact HB.out)⟩⟩
         rw [if_neg c45] at H
         have c45b0 : ((rd_T50 l1_1 x6_2).f2) = false := by simpa using c45
         clear c45
         have H' := Aside0.mk H
         clear H
         have hnb49 := NB205_200.out
         have hnc49 := NB200_205.out
         have hnb50 := NB205_201.out
         have hnc50 := NB201_205.out
         obtain ⟨hcz51_0, hcz51_1, hcz51_2, hfz51_0, hfz51_1, hfz51_2⟩ := cz3_ BK205
         go_wp2
         go_roundg kj23
         case measure => have := HJ2.out; have := HK2.out; have := HJ23.out; omega
         case rel => exact ⟨(wrap64 (x5_2 + 1)), (wrap64 (x6_2 + 1)), dz3, dz3, H', ⟨by have := HJ2.out; have := HK2.out; have := HJ23.out; omega⟩, ⟨by (with_reducible repeat (first | refine blk_drewN ?_ _ | refine blk_drew ?_ | refine blk_alloc ?_ _)); exact BK200.out⟩, ⟨by (with_reducible repeat (first | refine blk_drewN ?_ _ | refine blk_drew ?_ | refine blk_alloc ?_ _)); exact BK201.out⟩, ⟨by repeat (first | (with_reducible first | exact HB.out | apply below_alloc | apply pw_below_drewN | apply below_drew1 | refine below_set ?_ GE200.out | refine below_set ?_ GE201.out | refine below_set ?_ GE205.out) | exact HB.out)⟩⟩
      rw [if_neg c23] at H
      exact absurd H (by simp)
     rw [if_neg c22] at H
     have c22b0 : decide (x6_2 < (l1_1.length : Int)) = false := decide_eq_false c22
     clear c22
     obtain rfl := Option.some.inj H
     have hnb52 := NB201_200.out
     have hnc52 := NB200_201.out
     obtain ⟨hcz53_0, hcz53_1, hfz53_0, hfz53_1⟩ := cz2_ BK201
     go_wp2
     go_ret
     exact dz509
end Go.Proofs.Ytdkdhciogedoiab.PFnAdded
