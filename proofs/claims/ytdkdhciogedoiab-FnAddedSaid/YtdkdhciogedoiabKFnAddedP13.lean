-- Written by wip/gen/pack.py of this repo. Lean checks it.
import Derived.Test.YtdkdhciogedoiabKFnAddedP0
import Derived.Test.YtdkdhciogedoiabKFnAddedP12
import Derived.Test.YtdkdhciogedoiabKFnAddedD
namespace Go.Proofs.Ytdkdhciogedoiab.PFnAdded
open Go.RowKit Go.Proofs.YtdkdhciogedoiabW.PrintWords Go.Proofs.YtdkdhciogedoiabW.PrintLast Go.Proofs.YtdkdhciogedoiabW.PrintMore Go.Proofs.YtdkdhciogedoiabW.Sq
attribute [local go_sem] max2_int min2_int max_two min_two max_three min_three max_four min_four
set_option linter.unusedVariables false
set_option linter.unusedSimpArgs false
def impl_copyInts.f (l0 : List Int) : Option (List Int) := (some (([] : List Int) : List Int)).bind fun y431 => (if y431.length + l0.length < 17592186044416 then (some (y431 ++ l0)) else (none))
set_option maxHeartbeats 8000000 in
set_option maxRecDepth 100000 in
theorem impl_copyInts.calls (A0 : Option Addr) (c0 : Nat) (l0 : List Int) (r : List Int) (w : World) (hr0 : Kd.C (Kd.int .i64) w A0 l0.length l0) (hc0 : l0.length ≤ c0) (h : impl_copyInts.f l0 = some r) :
  Calls Try.prog 102 #[.slice A0 l0.length c0] w fun e w' => ∃ v0_ : Value, e = .returned (v0_) ∧ Kd.R (Kd.int .i64) 3 w' w.heap.size (fun _ => True) v0_ r ∧ Below w.heap.size w w' := by
 have HR0 := Aside0.mk hr0
 have HC0 := Aside0.mk hc0
 clear hr0 hc0
 have HB := Aside0.mk (Below.refl w.heap.size w)
 have H : ((some (([] : List Int) : List Int)).bind fun y431 => (if y431.length + l0.length < 17592186044416 then (some (y431 ++ l0)) else (none))) = some r := h
 clear h
 obtain ⟨y431, hy431⟩ : ∃ y_ : List Int, y_ = (([] : List Int)) := ⟨_, rfl⟩
 replace H : (if y431.length + l0.length < 17592186044416 then (some (y431 ++ l0)) else (none)) = some r := by first | (rw [hy431]; with_reducible exact H) | (have H2_ := (Option.bind_some _ _).symm.trans H; rw [hy431]; with_reducible exact H2_) | (have H2_ := (Option.bind_some _ _).symm.trans H; with_reducible exact H2_) | with_reducible exact H | (rw [hy431]; exact H) | exact H
 have Ny431 := Aside0.mk hy431
 clear hy431
 by_cases c2 : y431.length + l0.length < 17592186044416
 ·rw [if_pos c2] at H
  have LMc2 := Aside0.mk c2
  clear c2
  obtain ⟨y434, hy434⟩ : ∃ y_ : List Int, y_ = (y431 ++ l0) := ⟨_, rfl⟩
  replace H : (some y434) = some r := by first | (rw [hy434]; with_reducible exact H) | (have H2_ := (Option.bind_some _ _).symm.trans H; rw [hy434]; with_reducible exact H2_) | (have H2_ := (Option.bind_some _ _).symm.trans H; with_reducible exact H2_) | with_reducible exact H | (rw [hy434]; exact H) | exact H
  have Ny434 := Aside0.mk hy434
  clear hy434
  obtain rfl := Option.some.inj H
  go_enter Try.func102, Try.ntmps102
  go_wp2_with (first | ((with_reducible refine gate_dst (N := 3) rfl ?_); refine Kd.R_lit (Kd.int .i64) _ 3 ?hg (N := 3) ?hd (xs := ([] : List Int)) (inner := []) (ok := fun _ => True) (okp := fun _ => True) ?hr ?hp (fun _ hk => hk) trivial (Below.refl _ _) (Nat.le_refl _) (by simp) ?_; (case hd => rfl); (case hg => rfl); (case hr => first | (go_simp; done) | (go_simp; rfl)); (case hp => exact (Reps.none _ _)); intro v432 w1 ho4 hb hg_ hnew_; clear hg_ hnew_; (first | rw [← Ny431.out] at ho4 | (simp only [Int.reduceToNat] at ho4; rw [← Ny431.out] at ho4)); have HO433 := Aside0.mk (Kd.R_lower ho4 (below_size dz2)); replace HB := Aside0.mk (below_step dz2 hb); clear hb ho4) | ((with_reducible refine gate_builtin (b := .append) (xs := #[.tmp 3, .tmp 4]) rfl ?_); at_builtin; refine Kd.R_append_rows (Kd.int .i64) (w0 := w) w.heap.size rfl (.tmp 3) (.tmp 4) 22 3 (.int .i64 0) 8 rfl Try.underlying22 info3 rfl (by decide) (by omega) v432 y431 l0 _ _ _ (fun _ => True) (fun _ => False) rfl rfl ?aO ?aR (fun _ _ h => h) (fun _ h => h.elim) ?aF ?aB ?aS ?aL ?_; (case aR => repeat (first | exact (Kd.C_below HR0.out HB.out) | (with_reducible refine Kd.C_alloc ?_ _) | (with_reducible refine Kd.C_drewN ?_ _) | (with_reducible refine Kd.C_drew ?_))); (case aB => exact dz2); (case aF => exact (fun _ _ => trivial)); (case aO => exact (by (with_reducible repeat (first | apply Kd.R_alloc | apply Kd.R_drewN | apply Kd.R_drew)); exact HO433.out)); (case aS => exact (below_size dz2)); (case aL => have := LMc2.out; omega); intro v435 w2 ho hb hg hat; rw [← Ny434.out] at ho; replace HB := Aside0.mk (hb); have HO436 := Aside0.mk (ho); clear HO433; clear ho hb hg hat))
  go_ret
  exact ⟨_, by first | rfl | (simp [errW_none, errW_some] <;> rfl) | (simp [*, errW_none, errW_some] <;> rfl), by (with_reducible repeat (first | apply Kd.R_alloc | apply Kd.R_drewN | apply Kd.R_drew)); exact HO436.out, by repeat (first | (with_reducible first | exact HB.out | apply below_alloc | apply pw_below_drewN | apply below_drew1) | exact HB.out)⟩
 rw [if_neg c2] at H
 exact absurd H (by simp)
def impl_copyWriter.l0 : Nat → List (S50) → Int → Int → Int → List (S50) → Option (Int × (List (S50)))
 | 0, _, _, _, _, _ => none
 | k + 1, x10, x11, x12, x440000, x440001 => if x12 < x11 then (if 0 ≤ x12 then (if x12 < (x10.length : Int) then ((impl_copyInts.f ((rd_T50 x10 x12).f1)).bind fun t442 => (if x440001.length < 2932031007402 then (impl_copyWriter.l0 k x10 x11 (wrap64 (x12 + 1)) x440000 (x440001 ++ [(⟨(rd_T50 x10 x12).f0, t442, (rd_T50 x10 x12).f2⟩ : S50)])) else (none))) else (none)) else (none)) else (some (x440000, x440001))
def impl_copyWriter.f (k : Nat) (a0_0 : Int) (l0_1 : List (S50)) : Option (Int × (List (S50))) := impl_copyWriter.l0 k l0_1 (l0_1.length : Int) 0 a0_0 ([] : List (S50))
set_option maxHeartbeats 8000000 in
set_option maxRecDepth 100000 in
theorem impl_copyWriter.calls (k : Nat) (a0_0 : Int) (A0_1 : Option Addr) (c0_1 : Nat) (l0_1 : List (S50)) (r1 : Int) (r2 : List (S50)) (w : World) (hr0_1 : Kd.C k50 w A0_1 l0_1.length l0_1) (hc0_1 : l0_1.length ≤ c0_1) (h : impl_copyWriter.f k a0_0 l0_1 = some (r1, r2)) :
  Calls Try.prog 68 #[.agg #[.int .i64 a0_0, .slice A0_1 l0_1.length c0_1]] w fun e w' => ∃ v1_ : Value, e = .returned (.agg #[.int .i64 r1, v1_]) ∧ Kd.S k50 50 w' w.heap.size (fun _ => True) v1_ r2 ∧ Below w.heap.size w w' := by
 have hu44 := Try.underlying44
 have hu50 := Try.underlying50
 have HR0_1 := Aside0.mk hr0_1
 have HC0_1 := Aside0.mk hc0_1
 clear hr0_1 hc0_1
 have HB := Aside0.mk (Below.refl w.heap.size w)
 have H : (impl_copyWriter.l0 k l0_1 (l0_1.length : Int) 0 a0_0 ([] : List (S50))) = some (r1, r2) := h
 clear h
 have H' := Aside0.mk H
 clear H
 go_enter Try.func68, Try.ntmps68
 go_wp2_with (first | ((with_reducible refine gate_dst (N := 1) rfl ?_); refine box_event kr_ (N := 1) kr_ (cs := #[.int .i64 a0_0, .slice A0_1 l0_1.length c0_1]) (t := 44) ks_ ?_; intro gb437 hg w1 hbox hb; have BK437 := Aside0.mk (hbox); have GW437 : Aside0 (w.heap.size ≤ gb437) := szl_ hg dz2; have GE437 : Aside0 (w.heap.size ≤ gb437) := szl_ hg dz2; replace HB := Aside0.mk (below_step dz2 hb); clear hb hbox hg) | ((with_reducible refine gate_dst (N := 2) rfl ?_); refine box_event kr_ (N := 2) kr_ (cs := #[.int .i64 0, .slice none 0 0]) (t := 44) ks_ ?_; intro gb438 hg w2 hbox hb; have BK438 := Aside0.mk (hbox); have GW438 : Aside0 (w.heap.size ≤ gb438) := szl_ hg dz117; have GE438 : Aside0 (w.heap.size ≤ gb438) := szl_ hg dz117; replace HB := Aside0.mk (below_step dz117 hb); have NB437_438 := (nbl_ hg BK437); have NB438_437 := (nbr_ hg BK437); replace BK437 := (bkb_ BK437 hb); clear hb hbox hg; have hnb4 := NB437_438.out; have hnc4 := NB438_437.out; obtain ⟨hcz5_0, hcz5_1, hfz5_0, hfz5_1⟩ := cz2_ BK437) | ((with_reducible refine gate_dst (N := 3) rfl ?_); refine box_event kr_ (N := 3) kr_ (cs := #[.int .i64 0, .slice none 0 0]) (t := 44) ks_ ?_; intro gb439 hg w3 hbox hb; have BK439 := Aside0.mk (hbox); have GW439 : Aside0 (w.heap.size ≤ gb439) := szl_ hg dz118; have GE439 : Aside0 (w.heap.size ≤ gb439) := szl_ hg dz118; replace HB := Aside0.mk (below_step dz118 hb); have NB437_439 := (nbl_ hg BK437); have NB439_437 := (nbr_ hg BK437); replace BK437 := (bkb_ BK437 hb); have NB438_439 := (nbl_ hg BK438); have NB439_438 := (nbr_ hg BK438); replace BK438 := (bkb_ BK438 hb); clear hb hbox hg; have hnb7 := NB439_437.out; have hnc7 := NB437_439.out; have hnb8 := NB439_438.out; have hnc8 := NB438_439.out; obtain ⟨hcz9_0, hcz9_1, hfz9_0, hfz9_1⟩ := cz2_ BK439; obtain ⟨hcz10_0, hcz10_1, hfz10_0, hfz10_1⟩ := cz2_ BK437))
 go_loopg [12] k (fun kq v12 w' => ∃ (x12_1 : Int) (x440001_1 : List (S50)) (u440001 : Value), v12 = .int .i64 x12_1 ∧ Aside0 (impl_copyWriter.l0 kq l0_1 (l0_1.length : Int) x12_1 a0_0 x440001_1 = some (r1, r2)) ∧ Aside0 (kq ≤ k) ∧ Aside0 (Kd.S k50 50 w' w.heap.size (fun _ => True) u440001 x440001_1) ∧ Aside0 (w'.heap[gb437]? = some (.cells #[.int .i64 a0_0, (.slice A0_1 l0_1.length c0_1)] 44 (0, 0))) ∧ Aside0 (w'.heap[gb438]? = some (.cells #[.int .i64 0, (.slice none 0 0)] 44 (0, 0))) ∧ Aside0 (w'.heap[gb439]? = some (.cells #[.int .i64 a0_0, u440001] 44 (0, 0))) ∧ Aside0 (Below w.heap.size w w'))
 case atStart => exact ⟨(0), (([] : List (S50))), (.slice none 0 0), dz3, H', ⟨Nat.le_refl _⟩, ⟨by first | exact Kd.S_nil _ _ _ _ _ | exact Kd.N_nil _ _ _ _ _ | exact Kd.V_nil _ _ _ _ _ | exact Kd.Q_nil _ _ _ _ _ | exact Kd.R_nil _ _ _ _ _⟩, ⟨by (with_reducible repeat (first | refine blk_drewN ?_ _ | refine blk_drew ?_ | refine blk_alloc ?_ _)); refine blk_far ?_ NB437_439.out _; (with_reducible repeat (first | refine blk_drewN ?_ _ | refine blk_drew ?_ | refine blk_alloc ?_ _)); refine blk_far ?_ NB437_439.out _; (with_reducible repeat (first | refine blk_drewN ?_ _ | refine blk_drew ?_ | refine blk_alloc ?_ _)); exact BK437.out⟩, ⟨by (with_reducible repeat (first | refine blk_drewN ?_ _ | refine blk_drew ?_ | refine blk_alloc ?_ _)); refine blk_far ?_ NB438_439.out _; (with_reducible repeat (first | refine blk_drewN ?_ _ | refine blk_drew ?_ | refine blk_alloc ?_ _)); refine blk_far ?_ NB438_439.out _; (with_reducible repeat (first | refine blk_drewN ?_ _ | refine blk_drew ?_ | refine blk_alloc ?_ _)); exact BK438.out⟩, ⟨by (with_reducible repeat (first | refine blk_drewN ?_ _ | refine blk_drew ?_ | refine blk_alloc ?_ _)); refine blk_put (cs := #[.int .i64 a0_0, .slice none 0 0]) ?_ 1 _ rfl; (with_reducible repeat (first | refine blk_drewN ?_ _ | refine blk_drew ?_ | refine blk_alloc ?_ _)); refine blk_put (cs := #[.int .i64 0, .slice none 0 0]) ?_ 0 _ rfl; (with_reducible repeat (first | refine blk_drewN ?_ _ | refine blk_drew ?_ | refine blk_alloc ?_ _)); exact BK439.out⟩, ⟨by repeat (first | (with_reducible first | exact HB.out | apply below_alloc | apply pw_below_drewN | apply below_drew1 | refine below_set ?_ GE437.out | refine below_set ?_ GE438.out | refine below_set ?_ GE439.out) | exact HB.out)⟩⟩
 case round =>
  clear H'
  try clear p2
  try clear c4
  try clear c6
  try clear c7
  try clear c8
  try clear hcz10_0
  try clear hcz10_1
  try clear hcz5_0
  try clear hcz5_1
  try clear hcz9_0
  try clear hcz9_1
  try clear hfz10_0
  try clear hfz10_1
  try clear hfz5_0
  try clear hfz5_1
  try clear hfz9_0
  try clear hfz9_1
  obtain ⟨x12_1, x440001_1, u440001, rfl, HA, HK1, HO_440001, BK437, BK438, BK439, HB⟩ := hrel
  cases gk with
  | zero => exact absurd HA.out (by simp [impl_copyWriter.l0])
  | succ k1 =>
   have H := HA.out
   clear HA
   simp only [impl_copyWriter.l0] at H
   by_cases c11 : x12_1 < (l0_1.length : Int)
   ·rw [if_pos c11] at H
    have c11b0 : decide (x12_1 < (l0_1.length : Int)) = true := decide_eq_true c11
    clear c11
    by_cases c12 : 0 ≤ x12_1
    ·rw [if_pos c12] at H
     have c12b0 : decide (0 ≤ x12_1) = true := decide_eq_true c12
     clear c12
     by_cases c13 : x12_1 < (l0_1.length : Int)
     ·rw [if_pos c13] at H
      have c13b0 : decide (x12_1 < (l0_1.length : Int)) = true := decide_eq_true c13
      clear c13
      replace H := Option.bind_eq_some_iff.mp H
      obtain ⟨t442, A140, H⟩ := H
      replace H : (if x440001_1.length < 2932031007402 then (impl_copyWriter.l0 k1 l0_1 (l0_1.length : Int) (wrap64 (x12_1 + 1)) a0_0 (x440001_1 ++ [(⟨(rd_T50 l0_1 x12_1).f0, t442, (rd_T50 l0_1 x12_1).f2⟩ : S50)])) else (none)) = some (r1, r2) := H
      have A14 := Aside0.mk A140
      clear A140
      by_cases c15 : x440001_1.length < 2932031007402
      ·rw [if_pos c15] at H
       have LMc15 := Aside0.mk c15
       clear c15
       obtain ⟨y445, hy445⟩ : ∃ y_ : List (S50), y_ = (x440001_1 ++ [(⟨(rd_T50 l0_1 x12_1).f0, t442, (rd_T50 l0_1 x12_1).f2⟩ : S50)]) := ⟨_, rfl⟩
       replace H : (impl_copyWriter.l0 k1 l0_1 (l0_1.length : Int) (wrap64 (x12_1 + 1)) a0_0 y445) = some (r1, r2) := by first | (rw [hy445]; with_reducible exact H) | (have H2_ := (Option.bind_some _ _).symm.trans H; rw [hy445]; with_reducible exact H2_) | (have H2_ := (Option.bind_some _ _).symm.trans H; with_reducible exact H2_) | with_reducible exact H | (rw [hy445]; exact H) | exact H
       have Ny445 := Aside0.mk hy445
       clear hy445
       have H' := Aside0.mk H
       clear H
       have p440 : 0 ≤ (x12_1 : Int) := of_decide_eq_true dz0
       have q440 : x12_1 < (l0_1.length : Int) := of_decide_eq_true dz0
       obtain ⟨ad440, A440_1, c440_1, e440, hx440_0, hx440_1, hx440_2, hl440_1, hi440_1⟩ := at_T50 HR0_1.out x12_1 p440 q440
       cases e440
       replace hx440_0 := hxl_ HB hx440_0
       replace hx440_1 := hxl_ HB hx440_1
       replace hx440_2 := hxl_ HB hx440_2
       have HR440_1 := Aside0.mk hi440_1
       have HC440_1 := Aside0.mk hl440_1
       clear hi440_1 hl440_1
       replace p440 := eq_true p440
       replace q440 := eq_true q440
       go_wp2_with (first | ((with_reducible refine gate_dst (N := 5) rfl ?_); refine box_event kr_ (N := 5) kr_ (cs := #[.string (⟨#[]⟩ : ByteArray), .slice none 0 0, .bool false]) (t := 50) ks_ ?_; intro gb441 hg w16 hbox hb; replace HO_440001 := Aside0.mk (Kd.S_below (Kd.S_elderB (by (with_reducible repeat (first | apply Kd.S_alloc | apply Kd.S_drewN | apply Kd.S_drew)); exact HO_440001.out) gb441 (Nat.le_of_eq hg.symm)) hb); have BK441 := Aside0.mk (hbox); have GW441 : Aside0 (w.heap.size ≤ gb441) := szl_ hg dz119; have GE441 : Aside0 (w.heap.size ≤ gb441) := szl_ hg dz119; replace HB := Aside0.mk (below_step dz119 hb); have NB437_441 := (nbl_ hg BK437); have NB441_437 := (nbr_ hg BK437); replace BK437 := (bkb_ BK437 hb); have NB438_441 := (nbl_ hg BK438); have NB441_438 := (nbr_ hg BK438); replace BK438 := (bkb_ BK438 hb); have NB439_441 := (nbl_ hg BK439); have NB441_439 := (nbr_ hg BK439); replace BK439 := (bkb_ BK439 hb); clear hb hbox hg; have hnb17 := NB441_437.out; have hnc17 := NB437_441.out; have hnb18 := NB441_438.out; have hnc18 := NB438_441.out; have hnb19 := NB441_439.out; have hnc19 := NB439_441.out; obtain ⟨hcz20_0, hcz20_1, hcz20_2, hfz20_0, hfz20_1, hfz20_2⟩ := cz3_ BK441) | ((with_reducible refine gate_callee (f := 102) rfl ?_); refine goesL_ (some 18) rfl rfl Try.func102 (by kernel_rfl) rfl #[.slice A440_1 ((rd_T50 l0_1 x12_1).f1).length c440_1] rfl dz1 ?_; (with_reducible refine (impl_copyInts.calls _ _ ((rd_T50 l0_1 x12_1).f1) t442 _ ?side1 ?side2 A14.out).mono ?_); (case side1 => exact Kd.C_below HR440_1.out dz64); (case side2 => exact HC440_1.out); rintro e w21 ⟨v443, rfl, ho0, hb⟩; refine ⟨_, rfl, ?_⟩; replace HO_440001 := Aside0.mk (Kd.S_elder' (by (with_reducible repeat (first | apply Kd.S_alloc | apply Kd.S_drewN | apply Kd.S_drew)); exact (Kd.S_mono (Kd.S_far (p := ⟨gb441, 2, none⟩) (Kd.S_far (p := ⟨gb441, 1, none⟩) (Kd.S_far (p := ⟨gb441, 0, none⟩) (Kd.S_mono HO_440001.out (fun k_ hk => (⟨hk, hk.2⟩ : _ ∧ k_ ≠ gb441))) (fun _ hk => hk.2) (.string ((rd_T50 l0_1 x12_1).f0))) (fun _ hk => hk.2) (.slice A440_1 ((rd_T50 l0_1 x12_1).f1).length c440_1)) (fun _ hk => hk.2) (.bool ((rd_T50 l0_1 x12_1).f2))) (fun _ h_ => h_.1))) (Kd.R_base ho0) hb); have HO444 := Aside0.mk (Kd.R_lower ho0 (below_size dz64)); replace BK437 := Aside0.mk (blk_below (g := gb437) (o := .cells #[.int .i64 a0_0, .slice (some ad440) l0_1.length c0_1] 44 (0, 0)) (by (with_reducible repeat (first | refine blk_drewN ?_ _ | refine blk_drew ?_ | refine blk_alloc ?_ _)); refine blk_far ?_ NB437_441.out _; (with_reducible repeat (first | refine blk_drewN ?_ _ | refine blk_drew ?_ | refine blk_alloc ?_ _)); refine blk_far ?_ NB437_441.out _; (with_reducible repeat (first | refine blk_drewN ?_ _ | refine blk_drew ?_ | refine blk_alloc ?_ _)); refine blk_far ?_ NB437_441.out _; (with_reducible repeat (first | refine blk_drewN ?_ _ | refine blk_drew ?_ | refine blk_alloc ?_ _)); exact BK437.out) hb); replace BK438 := Aside0.mk (blk_below (g := gb438) (o := .cells #[.int .i64 0, .slice none 0 0] 44 (0, 0)) (by (with_reducible repeat (first | refine blk_drewN ?_ _ | refine blk_drew ?_ | refine blk_alloc ?_ _)); refine blk_far ?_ NB438_441.out _; (with_reducible repeat (first | refine blk_drewN ?_ _ | refine blk_drew ?_ | refine blk_alloc ?_ _)); refine blk_far ?_ NB438_441.out _; (with_reducible repeat (first | refine blk_drewN ?_ _ | refine blk_drew ?_ | refine blk_alloc ?_ _)); refine blk_far ?_ NB438_441.out _; (with_reducible repeat (first | refine blk_drewN ?_ _ | refine blk_drew ?_ | refine blk_alloc ?_ _)); exact BK438.out) hb); replace BK439 := Aside0.mk (blk_below (g := gb439) (o := .cells #[.int .i64 a0_0, u440001] 44 (0, 0)) (by (with_reducible repeat (first | refine blk_drewN ?_ _ | refine blk_drew ?_ | refine blk_alloc ?_ _)); refine blk_far ?_ NB439_441.out _; (with_reducible repeat (first | refine blk_drewN ?_ _ | refine blk_drew ?_ | refine blk_alloc ?_ _)); refine blk_far ?_ NB439_441.out _; (with_reducible repeat (first | refine blk_drewN ?_ _ | refine blk_drew ?_ | refine blk_alloc ?_ _)); refine blk_far ?_ NB439_441.out _; (with_reducible repeat (first | refine blk_drewN ?_ _ | refine blk_drew ?_ | refine blk_alloc ?_ _)); exact BK439.out) hb); replace BK441 := Aside0.mk (blk_below (g := gb441) (o := .cells #[.string ((rd_T50 l0_1 x12_1).f0), .slice A440_1 ((rd_T50 l0_1 x12_1).f1).length c440_1, .bool ((rd_T50 l0_1 x12_1).f2)] 50 (0, 0)) (by (with_reducible repeat (first | refine blk_drewN ?_ _ | refine blk_drew ?_ | refine blk_alloc ?_ _)); refine blk_put (cs := #[.string ((rd_T50 l0_1 x12_1).f0), .slice A440_1 ((rd_T50 l0_1 x12_1).f1).length c440_1, .bool false]) ?_ 2 _ rfl; (with_reducible repeat (first | refine blk_drewN ?_ _ | refine blk_drew ?_ | refine blk_alloc ?_ _)); refine blk_put (cs := #[.string ((rd_T50 l0_1 x12_1).f0), .slice none 0 0, .bool false]) ?_ 1 _ rfl; (with_reducible repeat (first | refine blk_drewN ?_ _ | refine blk_drew ?_ | refine blk_alloc ?_ _)); refine blk_put (cs := #[.string (⟨#[]⟩ : ByteArray), .slice none 0 0, .bool false]) ?_ 0 _ rfl; (with_reducible repeat (first | refine blk_drewN ?_ _ | refine blk_drew ?_ | refine blk_alloc ?_ _)); exact BK441.out) hb); replace HB := Aside0.mk (below_step dz64 hb); (try clear hb); (try clear hb2); (try clear hk); (try clear hi); (try clear ho0); obtain ⟨Ao22, co22, eo22⟩ := Kd.R_slice HO444.out; subst eo22; obtain ⟨hcz23_0, hcz23_1, hcz23_2, hfz23_0, hfz23_1, hfz23_2⟩ := cz3_ BK441) | ((with_reducible refine gate_store (t := 22) (p := 19) rfl ?_); refine store_event (t := 22) (p := 19) (v := ?vo_w24) (w1 := (w21.setCell ⟨gb441, 1, none⟩ (.slice Ao22 t442.length co22))) ?hg ?ho ?hn ?hr ?_; (case ho => rfl); (case hg => rfl); (case hn => rfl); (case hr => first | (go_simp; done) | (go_simp; rfl)); intro w24 hw; replace HO_440001 : Aside0 (Kd.S k50 50 w24 w.heap.size (fun k_ => some k_ ≠ (.slice Ao22 t442.length co22 : Value).ownBlock ∧ k_ ≠ gb441) u440001 x440001_1) := ⟨(by rw [hw]; exact (by (with_reducible repeat (first | apply Kd.S_alloc | apply Kd.S_drewN | apply Kd.S_drew)); exact Kd.S_mono (Kd.S_far (p := ⟨gb441, 1, none⟩) (Kd.S_mono HO_440001.out (fun k_ hk => (⟨hk, hk.1.2⟩ : _ ∧ k_ ≠ gb441))) (fun _ hk => hk.2) (.slice Ao22 t442.length co22)) (fun _ hk => ⟨hk.1.2, hk.1.1.2⟩)))⟩; replace HO444 : Aside0 (Kd.R (Kd.int .i64) 3 w24 w.heap.size (fun _ => True) (.slice Ao22 t442.length co22) t442) := ⟨(by rw [hw]; exact (by (with_reducible repeat (first | apply Kd.R_alloc | apply Kd.R_drewN | apply Kd.R_drew)); exact Kd.R_mono (Kd.R_far (p := ⟨gb441, 1, none⟩) (Kd.R_types HO444.out BK441.out (by decide)) (fun _ hk => hk.2) (.slice Ao22 t442.length co22)) (fun _ hk => trivial)))⟩; replace BK437 : Aside0 (w24.heap[gb437]? = some (.cells #[.int .i64 a0_0, .slice (some ad440) l0_1.length c0_1] 44 (0, 0))) := ⟨(by rw [hw]; exact (by (with_reducible repeat (first | refine blk_drewN ?_ _ | refine blk_drew ?_ | refine blk_alloc ?_ _)); refine blk_far ?_ NB437_441.out _; (with_reducible repeat (first | refine blk_drewN ?_ _ | refine blk_drew ?_ | refine blk_alloc ?_ _)); exact BK437.out))⟩; replace BK438 : Aside0 (w24.heap[gb438]? = some (.cells #[.int .i64 0, .slice none 0 0] 44 (0, 0))) := ⟨(by rw [hw]; exact (by (with_reducible repeat (first | refine blk_drewN ?_ _ | refine blk_drew ?_ | refine blk_alloc ?_ _)); refine blk_far ?_ NB438_441.out _; (with_reducible repeat (first | refine blk_drewN ?_ _ | refine blk_drew ?_ | refine blk_alloc ?_ _)); exact BK438.out))⟩; replace BK439 : Aside0 (w24.heap[gb439]? = some (.cells #[.int .i64 a0_0, u440001] 44 (0, 0))) := ⟨(by rw [hw]; exact (by (with_reducible repeat (first | refine blk_drewN ?_ _ | refine blk_drew ?_ | refine blk_alloc ?_ _)); refine blk_far ?_ NB439_441.out _; (with_reducible repeat (first | refine blk_drewN ?_ _ | refine blk_drew ?_ | refine blk_alloc ?_ _)); exact BK439.out))⟩; replace BK441 : Aside0 (w24.heap[gb441]? = some (.cells #[.string ((rd_T50 l0_1 x12_1).f0), .slice Ao22 t442.length co22, .bool ((rd_T50 l0_1 x12_1).f2)] 50 (0, 0))) := ⟨(by rw [hw]; exact (by (with_reducible repeat (first | refine blk_drewN ?_ _ | refine blk_drew ?_ | refine blk_alloc ?_ _)); refine blk_put (cs := #[.string ((rd_T50 l0_1 x12_1).f0), .slice A440_1 ((rd_T50 l0_1 x12_1).f1).length c440_1, .bool ((rd_T50 l0_1 x12_1).f2)]) ?_ 1 _ rfl; (with_reducible repeat (first | refine blk_drewN ?_ _ | refine blk_drew ?_ | refine blk_alloc ?_ _)); exact BK441.out))⟩; replace HB : Aside0 (Below w.heap.size w w24) := ⟨(by rw [hw]; exact dz64)⟩; clear hw; have hnb25 := NB439_437.out; have hnc25 := NB437_439.out; have hnb26 := NB439_438.out; have hnc26 := NB438_439.out; obtain ⟨hcz27_0, hcz27_1, hfz27_0, hfz27_1⟩ := cz2_ BK439; obtain ⟨hcz28_0, hcz28_1, hcz28_2, hfz28_0, hfz28_1, hfz28_2⟩ := cz3_ BK441) | ((with_reducible refine gate_builtin (b := .append) (xs := #[.tmp 21, .tmp 23]) rfl ?_); at_builtin; refine Kd.S_append k50 (w0 := w) w.heap.size rfl (.tmp 21) (.tmp 23) 42 50 (.agg #[(.string ⟨#[]⟩), (.slice none 0 0), (.bool false)]) 48 rfl Try.underlying42 info50 rfl (by decide) (by omega) u440001 x440001_1 (⟨(rd_T50 l0_1 x12_1).f0, t442, (rd_T50 l0_1 x12_1).f2⟩ : S50) [.string ((rd_T50 l0_1 x12_1).f0), .slice Ao22 t442.length co22, .bool ((rd_T50 l0_1 x12_1).f2)] (fun k_ => k_ ≠ gb441) (fun k_ => some k_ = (.slice Ao22 t442.length co22 : Value).ownBlock) rfl rfl ?aP (fun k_ hk_ => ((Kd.R_mono (ok' := fun k_ => ((fun k_ => k_ ≠ gb441)) k_ ∧ some k_ ≠ (u440001 : Value).ownBlock) (Kd.R_types (Kd.R_apart' (HO444.out) (Kd.S_typed HO_440001.out) (by decide)) BK441.out (by decide)) (fun k_ hk => ⟨hk.2, hk.1.2⟩))).1 k_ hk_.symm) ?aF ?aO ?aB ?aS ?aL ?_; (case aP => exact k50_mkM _ _ _ (⟨(rd_T50 l0_1 x12_1).f0, t442, (rd_T50 l0_1 x12_1).f2⟩ : S50) (Kd.R_mono (Kd.R_tight rfl (Kd.R_mono (ok' := fun k_ => ((fun k_ => k_ ≠ gb441)) k_ ∧ some k_ ≠ (u440001 : Value).ownBlock) (Kd.R_types (Kd.R_apart' (HO444.out) (Kd.S_typed HO_440001.out) (by decide)) BK441.out (by decide)) (fun k_ hk => ⟨hk.2, hk.1.2⟩))) (fun _ h_ => h_))); (case aB => exact dz64); (case aF => exact (fun k_ hk => Kd.freshB (g := gb441) (o := .cells #[.string ((rd_T50 l0_1 x12_1).f0), .slice Ao22 t442.length co22, .bool ((rd_T50 l0_1 x12_1).f2)] 50 (0, 0)) dz164 k_ hk)); (case aO => exact (by (with_reducible repeat (first | apply Kd.S_alloc | apply Kd.S_drewN | apply Kd.S_drew)); exact Kd.S_mono HO_440001.out (fun k_ hk => ⟨hk.2, fun e_ => hk.1 e_⟩))); (case aS => exact (below_size dz64)); (case aL => have := LMc15.out; omega); intro v446 w29 ho hb hg hat; rw [← Ny445.out] at ho; replace BK437 := Aside0.mk (blk_grown (g := gb437) (o := .cells #[.int .i64 a0_0, .slice (some ad440) l0_1.length c0_1] 44 (0, 0)) (by (with_reducible repeat (first | refine blk_drewN ?_ _ | refine blk_drew ?_ | refine blk_alloc ?_ _)); exact BK437.out) hg (Kd.S_ne HO_440001.out BK437.out (by decide))); replace BK438 := Aside0.mk (blk_grown (g := gb438) (o := .cells #[.int .i64 0, .slice none 0 0] 44 (0, 0)) (by (with_reducible repeat (first | refine blk_drewN ?_ _ | refine blk_drew ?_ | refine blk_alloc ?_ _)); exact BK438.out) hg (Kd.S_ne HO_440001.out BK438.out (by decide))); replace BK439 := Aside0.mk (blk_grown (g := gb439) (o := .cells #[.int .i64 a0_0, u440001] 44 (0, 0)) (by (with_reducible repeat (first | refine blk_drewN ?_ _ | refine blk_drew ?_ | refine blk_alloc ?_ _)); exact BK439.out) hg (Kd.S_ne HO_440001.out BK439.out (by decide))); replace BK441 := Aside0.mk (blk_grown (g := gb441) (o := .cells #[.string ((rd_T50 l0_1 x12_1).f0), .slice Ao22 t442.length co22, .bool ((rd_T50 l0_1 x12_1).f2)] 50 (0, 0)) dz164 hg (Kd.S_away HO_440001.out (fun _ hk => hk.2))); replace HB := Aside0.mk (hb); have HO447 := Aside0.mk (ho); clear HO_440001; clear HO444; clear ho hb hg hat; obtain ⟨Ao30, co30, eo30⟩ := Kd.S_slice HO447.out; subst eo30; obtain ⟨hcz31_0, hcz31_1, hfz31_0, hfz31_1⟩ := cz2_ BK439))
       go_roundg k1
       case measure => have := HK1.out; omega
       case rel => exact ⟨(wrap64 (x12_1 + 1)), (y445), (.slice Ao30 y445.length co30), dz3, H', ⟨by have := HK1.out; omega⟩, ⟨by (with_reducible repeat (first | apply Kd.S_alloc | apply Kd.S_drewN | apply Kd.S_drew)); exact Kd.S_mono (Kd.S_far (p := ⟨gb439, 1, none⟩) (Kd.S_types HO447.out BK439.out (by decide)) (fun _ hk => hk.2) (.slice Ao30 y445.length co30)) (fun _ hk => trivial)⟩, ⟨by (with_reducible repeat (first | refine blk_drewN ?_ _ | refine blk_drew ?_ | refine blk_alloc ?_ _)); refine blk_far ?_ NB437_439.out _; (with_reducible repeat (first | refine blk_drewN ?_ _ | refine blk_drew ?_ | refine blk_alloc ?_ _)); exact BK437.out⟩, ⟨by (with_reducible repeat (first | refine blk_drewN ?_ _ | refine blk_drew ?_ | refine blk_alloc ?_ _)); refine blk_far ?_ NB438_439.out _; (with_reducible repeat (first | refine blk_drewN ?_ _ | refine blk_drew ?_ | refine blk_alloc ?_ _)); exact BK438.out⟩, ⟨by (with_reducible repeat (first | refine blk_drewN ?_ _ | refine blk_drew ?_ | refine blk_alloc ?_ _)); refine blk_put (cs := #[.int .i64 a0_0, u440001]) ?_ 1 _ rfl; (with_reducible repeat (first | refine blk_drewN ?_ _ | refine blk_drew ?_ | refine blk_alloc ?_ _)); exact BK439.out⟩, ⟨by repeat (first | (with_reducible first | exact HB.out | apply below_alloc | apply pw_below_drewN | apply below_drew1 | refine below_set ?_ GE437.out | refine below_set ?_ GE438.out | refine below_set ?_ GE439.out | refine below_set ?_ GE441.out) | exact HB.out)⟩⟩
      rw [if_neg c15] at H
      exact absurd H (by simp)
     rw [if_neg c13] at H
     exact absurd H (by simp)
    rw [if_neg c12] at H
    exact absurd H (by simp)
   rw [if_neg c11] at H
   have c11b0 : decide (x12_1 < (l0_1.length : Int)) = false := decide_eq_false c11
   clear c11
   simp only [Option.some.injEq, Prod.mk.injEq] at H
   obtain ⟨rfl, rfl⟩ := H
   have hnb32 := NB439_437.out
   have hnc32 := NB437_439.out
   have hnb33 := NB439_438.out
   have hnc33 := NB438_439.out
   obtain ⟨hcz34_0, hcz34_1, hfz34_0, hfz34_1⟩ := cz2_ BK439
   have hnb35 := NB438_437.out
   have hnc35 := NB437_438.out
   obtain ⟨hcz36_0, hcz36_1, hfz36_0, hfz36_1⟩ := cz2_ BK438
   obtain ⟨Ao37, co37, eo37⟩ := Kd.S_slice HO_440001.out
   subst eo37
   go_wp2
   refine bodyPost_ret (results_cell_row rfl _ _ gb438 44 #[.int .i64 a0_0, .slice Ao37 x440001_1.length co37] (0, 0) _ rfl (by (with_reducible repeat (first | refine blk_drewN ?_ _ | refine blk_drew ?_ | refine blk_alloc ?_ _)); refine blk_put (cs := #[.int .i64 a0_0, .slice none 0 0]) ?_ 1 _ rfl; (with_reducible repeat (first | refine blk_drewN ?_ _ | refine blk_drew ?_ | refine blk_alloc ?_ _)); refine blk_put (cs := #[.int .i64 0, .slice none 0 0]) ?_ 0 _ rfl; (with_reducible repeat (first | refine blk_drewN ?_ _ | refine blk_drew ?_ | refine blk_alloc ?_ _)); exact BK438.out) Try.underlying44 rfl (by kernel_rfl)) rfl ?_
   exact ⟨_, by first | rfl | (simp [errW_none, errW_some] <;> rfl) | (simp [*, errW_none, errW_some] <;> rfl), by (with_reducible repeat (first | apply Kd.S_alloc | apply Kd.S_drewN | apply Kd.S_drew)); exact Kd.S_mono (Kd.S_far (p := ⟨gb438, 1, none⟩) (Kd.S_far (p := ⟨gb438, 0, none⟩) (Kd.S_types HO_440001.out BK438.out (by decide)) (fun _ hk => hk.2) (.int .i64 a0_0)) (fun _ hk => hk.2) (.slice Ao37 x440001_1.length co37)) (fun _ hk => trivial), by repeat (first | (with_reducible first | exact HB.out | apply below_alloc | apply pw_below_drewN | apply below_drew1 | refine below_set ?_ GE437.out | refine below_set ?_ GE438.out | refine below_set ?_ GE439.out) | exact HB.out)⟩
def impl_writerAsWas.f (k : Nat) (l0_0 : List Int) (a0_1 : Int) (a1_0 : Int) (l1_1 : List (S50)) : Option (Int × (List (S50))) := (impl_WriterOk.f k l0_0 a0_1 a1_0 l1_1).bind fun t451 => (if t451 = true then ((impl_copyWriter.f k a1_0 l1_1).bind fun bt452 => (some (bt452.1, bt452.2))) else (some (0, ([] : List (S50)))))
set_option maxHeartbeats 8000000 in
set_option maxRecDepth 100000 in
theorem impl_writerAsWas.calls (k : Nat) (A0_0 : Option Addr) (c0_0 : Nat) (l0_0 : List Int) (a0_1 : Int) (a1_0 : Int) (A1_1 : Option Addr) (c1_1 : Nat) (l1_1 : List (S50)) (r1 : Int) (r2 : List (S50)) (w : World) (hr0_0 : Kd.C (Kd.int .i64) w A0_0 l0_0.length l0_0) (hc0_0 : l0_0.length ≤ c0_0) (hr1_1 : Kd.C k50 w A1_1 l1_1.length l1_1) (hc1_1 : l1_1.length ≤ c1_1) (h : impl_writerAsWas.f k l0_0 a0_1 a1_0 l1_1 = some (r1, r2)) :
  Calls Try.prog 69 #[.agg #[.slice A0_0 l0_0.length c0_0, .int .i64 a0_1], .agg #[.int .i64 a1_0, .slice A1_1 l1_1.length c1_1]] w fun e w' => ∃ v1_ : Value, e = .returned (.agg #[.int .i64 r1, v1_]) ∧ Kd.S k50 50 w' w.heap.size (fun _ => True) v1_ r2 ∧ Below w.heap.size w w' := by
 have hu31 := Try.underlying31
 have hu44 := Try.underlying44
 have HR0_0 := Aside0.mk hr0_0
 have HC0_0 := Aside0.mk hc0_0
 clear hr0_0 hc0_0
 have HR1_1 := Aside0.mk hr1_1
 have HC1_1 := Aside0.mk hc1_1
 clear hr1_1 hc1_1
 have HB := Aside0.mk (Below.refl w.heap.size w)
 have H : ((impl_WriterOk.f k l0_0 a0_1 a1_0 l1_1).bind fun t451 => (if t451 = true then ((impl_copyWriter.f k a1_0 l1_1).bind fun bt452 => (some (bt452.1, bt452.2))) else (some (0, ([] : List (S50)))))) = some (r1, r2) := h
 clear h
 replace H := Option.bind_eq_some_iff.mp H
 obtain ⟨t451, A30, H⟩ := H
 replace H : (if t451 = true then ((impl_copyWriter.f k a1_0 l1_1).bind fun bt452 => (some (bt452.1, bt452.2))) else (some (0, ([] : List (S50))))) = some (r1, r2) := H
 have A3 := Aside0.mk A30
 clear A30
 by_cases c4 : t451 = true
 ·subst c4
  have H1 : ((impl_copyWriter.f k a1_0 l1_1).bind fun bt452 => (some (bt452.1, bt452.2))) = some (r1, r2) := by rw [if_pos rfl] at H; exact H
  clear H
  have H := H1
  clear H1
  replace H := Option.bind_eq_some_iff.mp H
  obtain ⟨⟨t452, t453⟩, A50, H⟩ := H
  replace H : (some (t452, t453)) = some (r1, r2) := H
  have A5 := Aside0.mk A50
  clear A50
  simp only [Option.some.injEq, Prod.mk.injEq] at H
  obtain ⟨rfl, rfl⟩ := H
  go_enter Try.func69, Try.ntmps69
  go_wp2_with (first | ((with_reducible refine gate_dst (N := 2) rfl ?_); refine box_event kr_ (N := 2) kr_ (cs := #[.slice A0_0 l0_0.length c0_0, .int .i64 a0_1]) (t := 31) ks_ ?_; intro gb448 hg w1 hbox hb; have BK448 := Aside0.mk (hbox); have GW448 : Aside0 (w.heap.size ≤ gb448) := szl_ hg dz2; have GE448 : Aside0 (w.heap.size ≤ gb448) := szl_ hg dz2; replace HB := Aside0.mk (below_step dz2 hb); clear hb hbox hg) | ((with_reducible refine gate_dst (N := 3) rfl ?_); refine box_event kr_ (N := 3) kr_ (cs := #[.int .i64 a1_0, .slice A1_1 l1_1.length c1_1]) (t := 44) ks_ ?_; intro gb449 hg w2 hbox hb; have BK449 := Aside0.mk (hbox); have GW449 : Aside0 (w.heap.size ≤ gb449) := szl_ hg dz65; have GE449 : Aside0 (w.heap.size ≤ gb449) := szl_ hg dz65; replace HB := Aside0.mk (below_step dz65 hb); have NB448_449 := (nbl_ hg BK448); have NB449_448 := (nbr_ hg BK448); replace BK448 := (bkb_ BK448 hb); clear hb hbox hg) | ((with_reducible refine gate_dst (N := 4) rfl ?_); refine box_event kr_ (N := 4) kr_ (cs := #[.int .i64 0, .slice none 0 0]) (t := 44) ks_ ?_; intro gb450 hg w3 hbox hb; have BK450 := Aside0.mk (hbox); have GW450 : Aside0 (w.heap.size ≤ gb450) := szl_ hg dz66; have GE450 : Aside0 (w.heap.size ≤ gb450) := szl_ hg dz66; replace HB := Aside0.mk (below_step dz66 hb); have NB448_450 := (nbl_ hg BK448); have NB450_448 := (nbr_ hg BK448); replace BK448 := (bkb_ BK448 hb); have NB449_450 := (nbl_ hg BK449); have NB450_449 := (nbr_ hg BK449); replace BK449 := (bkb_ BK449 hb); clear hb hbox hg; have hnb9 := NB448_449.out; have hnc9 := NB449_448.out; have hnb10 := NB448_450.out; have hnc10 := NB450_448.out; obtain ⟨hcz11_0, hcz11_1, hfz11_0, hfz11_1⟩ := cz2_ BK448; have hnb12 := NB449_450.out; have hnc12 := NB450_449.out; obtain ⟨hcz13_0, hcz13_1, hfz13_0, hfz13_1⟩ := cz2_ BK449) | ((with_reducible refine gate_callee (f := 22) rfl ?_); refine goesL_ (some 7) rfl rfl Try.func22 (by kernel_rfl) rfl #[.agg #[.slice A0_0 l0_0.length c0_0, .int .i64 a0_1], .agg #[.int .i64 a1_0, .slice A1_1 l1_1.length c1_1]] rfl dz1 ?_; (with_reducible refine (impl_WriterOk.calls k _ _ l0_0 a0_1 a1_0 _ _ l1_1 true _ ?side1 ?side2 ?side3 ?side4 A3.out).mono ?_); (case side1 => exact dz462); (case side2 => exact HC0_0.out); (case side3 => exact dz465); (case side4 => exact HC1_1.out); rintro e w4 ⟨rfl, hb⟩; refine ⟨_, rfl, ?_⟩; replace BK448 := (bkb_ BK448 hb); replace BK449 := (bkb_ BK449 hb); replace BK450 := (bkb_ BK450 hb); replace HB := Aside0.mk (below_step dz96 hb); (try clear hb); (try clear hb2); (try clear hk); (try clear hi); obtain ⟨hcz15_0, hcz15_1, hfz15_0, hfz15_1⟩ := cz2_ BK449) | ((with_reducible refine gate_callee (f := 68) rfl ?_); refine goesL_ (some 11) rfl rfl Try.func68 (by kernel_rfl) rfl #[.agg #[.int .i64 a1_0, .slice A1_1 l1_1.length c1_1]] rfl dz1 ?_; (with_reducible refine (impl_copyWriter.calls k a1_0 _ _ l1_1 t452 t453 _ ?side1 ?side2 A5.out).mono ?_); (case side1 => exact dz465); (case side2 => exact HC1_1.out); rintro e w5 ⟨v454, rfl, ho0, hb⟩; refine ⟨_, rfl, ?_⟩; have HO455 := Aside0.mk (Kd.S_lower ho0 (below_size dz96)); replace BK448 := (bkb_ BK448 hb); replace BK449 := (bkb_ BK449 hb); replace BK450 := (bkb_ BK450 hb); replace HB := Aside0.mk (below_step dz96 hb); (try clear hb); (try clear hb2); (try clear hk); (try clear hi); (try clear ho0); obtain ⟨hcz17_0, hcz17_1, hfz17_0, hfz17_1⟩ := cz2_ BK450; obtain ⟨Ao18, co18, eo18⟩ := Kd.S_slice HO455.out; subst eo18))
  refine bodyPost_ret (results_cell_row rfl _ _ gb450 44 #[.int .i64 t452, .slice Ao18 t453.length co18] (0, 0) _ rfl (by (with_reducible repeat (first | refine blk_drewN ?_ _ | refine blk_drew ?_ | refine blk_alloc ?_ _)); refine blk_put (cs := #[.int .i64 t452, .slice none 0 0]) ?_ 1 _ rfl; (with_reducible repeat (first | refine blk_drewN ?_ _ | refine blk_drew ?_ | refine blk_alloc ?_ _)); refine blk_put (cs := #[.int .i64 0, .slice none 0 0]) ?_ 0 _ rfl; (with_reducible repeat (first | refine blk_drewN ?_ _ | refine blk_drew ?_ | refine blk_alloc ?_ _)); exact BK450.out) Try.underlying44 rfl (by kernel_rfl)) rfl ?_
  exact ⟨_, by first | rfl | (simp [errW_none, errW_some] <;> rfl) | (simp [*, errW_none, errW_some] <;> rfl), by (with_reducible repeat (first | apply Kd.S_alloc | apply Kd.S_drewN | apply Kd.S_drew)); exact Kd.S_mono (Kd.S_far (p := ⟨gb450, 1, none⟩) (Kd.S_far (p := ⟨gb450, 0, none⟩) (Kd.S_types HO455.out BK450.out (by decide)) (fun _ hk => hk.2) (.int .i64 t452)) (fun _ hk => hk.2) (.slice Ao18 t453.length co18)) (fun _ hk => trivial), by repeat (first | (with_reducible first | exact HB.out | apply below_alloc | apply pw_below_drewN | apply below_drew1 | refine below_set ?_ GE448.out | refine below_set ?_ GE449.out | refine below_set ?_ GE450.out) | exact HB.out)⟩
 replace c4 := Bool.eq_false_iff.mpr c4
 subst c4
 have H1 : (some (0, ([] : List (S50)))) = some (r1, r2) := by rw [if_neg (show ¬ (false = true) by decide)] at H; exact H
 clear H
 have H := H1
 clear H1
 simp only [Option.some.injEq, Prod.mk.injEq] at H
 obtain ⟨rfl, rfl⟩ := H
 go_enter Try.func69, Try.ntmps69
 go_wp2_with (first | ((with_reducible refine gate_dst (N := 2) rfl ?_); refine box_event kr_ (N := 2) kr_ (cs := #[.slice A0_0 l0_0.length c0_0, .int .i64 a0_1]) (t := 31) ks_ ?_; intro gb448 hg w1 hbox hb; have BK448 := Aside0.mk (hbox); have GW448 : Aside0 (w.heap.size ≤ gb448) := szl_ hg dz2; have GE448 : Aside0 (w.heap.size ≤ gb448) := szl_ hg dz2; replace HB := Aside0.mk (below_step dz2 hb); clear hb hbox hg) | ((with_reducible refine gate_dst (N := 3) rfl ?_); refine box_event kr_ (N := 3) kr_ (cs := #[.int .i64 a1_0, .slice A1_1 l1_1.length c1_1]) (t := 44) ks_ ?_; intro gb449 hg w2 hbox hb; have BK449 := Aside0.mk (hbox); have GW449 : Aside0 (w.heap.size ≤ gb449) := szl_ hg dz65; have GE449 : Aside0 (w.heap.size ≤ gb449) := szl_ hg dz65; replace HB := Aside0.mk (below_step dz65 hb); have NB448_449 := (nbl_ hg BK448); have NB449_448 := (nbr_ hg BK448); replace BK448 := (bkb_ BK448 hb); clear hb hbox hg) | ((with_reducible refine gate_dst (N := 4) rfl ?_); refine box_event kr_ (N := 4) kr_ (cs := #[.int .i64 0, .slice none 0 0]) (t := 44) ks_ ?_; intro gb450 hg w3 hbox hb; have BK450 := Aside0.mk (hbox); have GW450 : Aside0 (w.heap.size ≤ gb450) := szl_ hg dz66; have GE450 : Aside0 (w.heap.size ≤ gb450) := szl_ hg dz66; replace HB := Aside0.mk (below_step dz66 hb); have NB448_450 := (nbl_ hg BK448); have NB450_448 := (nbr_ hg BK448); replace BK448 := (bkb_ BK448 hb); have NB449_450 := (nbl_ hg BK449); have NB450_449 := (nbr_ hg BK449); replace BK449 := (bkb_ BK449 hb); clear hb hbox hg; have hnb22 := NB448_449.out; have hnc22 := NB449_448.out; have hnb23 := NB448_450.out; have hnc23 := NB450_448.out; obtain ⟨hcz24_0, hcz24_1, hfz24_0, hfz24_1⟩ := cz2_ BK448; have hnb25 := NB449_450.out; have hnc25 := NB450_449.out; obtain ⟨hcz26_0, hcz26_1, hfz26_0, hfz26_1⟩ := cz2_ BK449) | ((with_reducible refine gate_callee (f := 22) rfl ?_); refine goesL_ (some 7) rfl rfl Try.func22 (by kernel_rfl) rfl #[.agg #[.slice A0_0 l0_0.length c0_0, .int .i64 a0_1], .agg #[.int .i64 a1_0, .slice A1_1 l1_1.length c1_1]] rfl dz1 ?_; (with_reducible refine (impl_WriterOk.calls k _ _ l0_0 a0_1 a1_0 _ _ l1_1 false _ ?side1 ?side2 ?side3 ?side4 A3.out).mono ?_); (case side1 => exact dz462); (case side2 => exact HC0_0.out); (case side3 => exact dz465); (case side4 => exact HC1_1.out); rintro e w4 ⟨rfl, hb⟩; refine ⟨_, rfl, ?_⟩; replace BK448 := (bkb_ BK448 hb); replace BK449 := (bkb_ BK449 hb); replace BK450 := (bkb_ BK450 hb); replace HB := Aside0.mk (below_step dz96 hb); (try clear hb); (try clear hb2); (try clear hk); (try clear hi); obtain ⟨hcz28_0, hcz28_1, hfz28_0, hfz28_1⟩ := cz2_ BK450))
 refine bodyPost_ret (results_cell_row rfl _ _ gb450 44 #[.int .i64 0, .slice none 0 0] (0, 0) _ rfl (by (with_reducible repeat (first | refine blk_drewN ?_ _ | refine blk_drew ?_ | refine blk_alloc ?_ _)); refine blk_put (cs := #[.int .i64 0, .slice none 0 0]) ?_ 1 _ rfl; (with_reducible repeat (first | refine blk_drewN ?_ _ | refine blk_drew ?_ | refine blk_alloc ?_ _)); refine blk_put (cs := #[.int .i64 0, .slice none 0 0]) ?_ 0 _ rfl; (with_reducible repeat (first | refine blk_drewN ?_ _ | refine blk_drew ?_ | refine blk_alloc ?_ _)); exact BK450.out) Try.underlying44 rfl (by kernel_rfl)) rfl ?_
 exact ⟨_, by first | rfl | (simp [errW_none, errW_some] <;> rfl) | (simp [*, errW_none, errW_some] <;> rfl), by first | exact Kd.S_nil _ _ _ _ _ | exact Kd.N_nil _ _ _ _ _ | exact Kd.V_nil _ _ _ _ _ | exact Kd.Q_nil _ _ _ _ _ | exact Kd.R_nil _ _ _ _ _, by repeat (first | (with_reducible first | exact HB.out | apply below_alloc | apply pw_below_drewN | apply below_drew1 | refine below_set ?_ GE448.out | refine below_set ?_ GE449.out | refine below_set ?_ GE450.out) | exact HB.out)⟩
def impl_WriterAdd.f (k : Nat) (l0_0 : List Int) (a0_1 : Int) (a1_0 : Int) (l1_1 : List (S50)) (a2 : ByteArray) : Option (Int × (List (S50)) × Int × Bool) := (impl_copyWriter.f k a1_0 l1_1).bind fun bt459 => (if bt459.2.length < 2932031007402 then ((some (bt459.2 ++ [(⟨a2, ([] : List Int), false⟩ : S50)] : List (S50))).bind fun y464 => ((impl_WriterOk.f k l0_0 a0_1 a1_0 l1_1).bind fun t467 => (if t467 = true then ((impl_WriterOk.f k l0_0 a0_1 bt459.1 y464).bind fun t468 => (if t468 = true then (some (bt459.1, y464, (y464.length : Int), true)) else ((impl_writerAsWas.f k l0_0 a0_1 a1_0 l1_1).bind fun bt469 => (some (bt469.1, bt469.2, 0, false))))) else ((impl_writerAsWas.f k l0_0 a0_1 a1_0 l1_1).bind fun bt473 => (some (bt473.1, bt473.2, 0, false)))))) else (none))
set_option maxHeartbeats 8000000 in
set_option maxRecDepth 100000 in
theorem impl_WriterAdd.calls (k : Nat) (A0_0 : Option Addr) (c0_0 : Nat) (l0_0 : List Int) (a0_1 : Int) (a1_0 : Int) (A1_1 : Option Addr) (c1_1 : Nat) (l1_1 : List (S50)) (a2 : ByteArray) (r1 : Int) (r2 : List (S50)) (r3 : Int) (r4 : Bool) (w : World) (hr0_0 : Kd.C (Kd.int .i64) w A0_0 l0_0.length l0_0) (hc0_0 : l0_0.length ≤ c0_0) (hr1_1 : Kd.C k50 w A1_1 l1_1.length l1_1) (hc1_1 : l1_1.length ≤ c1_1) (h : impl_WriterAdd.f k l0_0 a0_1 a1_0 l1_1 a2 = some (r1, r2, r3, r4)) :
  Calls Try.prog 19 #[.agg #[.slice A0_0 l0_0.length c0_0, .int .i64 a0_1], .agg #[.int .i64 a1_0, .slice A1_1 l1_1.length c1_1], .string a2] w fun e w' => ∃ v1_ : Value, e = .returned (.tuple #[.agg #[.int .i64 r1, v1_], .int .i64 r3, .bool r4]) ∧ Kd.S k50 50 w' w.heap.size (fun _ => True) v1_ r2 ∧ Below w.heap.size w w' := by
 have hu31 := Try.underlying31
 have hu44 := Try.underlying44
 have hu50 := Try.underlying50
 have HR0_0 := Aside0.mk hr0_0
 have HC0_0 := Aside0.mk hc0_0
 clear hr0_0 hc0_0
 have HR1_1 := Aside0.mk hr1_1
 have HC1_1 := Aside0.mk hc1_1
 clear hr1_1 hc1_1
 have HB := Aside0.mk (Below.refl w.heap.size w)
 have H : ((impl_copyWriter.f k a1_0 l1_1).bind fun bt459 => (if bt459.2.length < 2932031007402 then ((some (bt459.2 ++ [(⟨a2, ([] : List Int), false⟩ : S50)] : List (S50))).bind fun y464 => ((impl_WriterOk.f k l0_0 a0_1 a1_0 l1_1).bind fun t467 => (if t467 = true then ((impl_WriterOk.f k l0_0 a0_1 bt459.1 y464).bind fun t468 => (if t468 = true then (some (bt459.1, y464, (y464.length : Int), true)) else ((impl_writerAsWas.f k l0_0 a0_1 a1_0 l1_1).bind fun bt469 => (some (bt469.1, bt469.2, 0, false))))) else ((impl_writerAsWas.f k l0_0 a0_1 a1_0 l1_1).bind fun bt473 => (some (bt473.1, bt473.2, 0, false)))))) else (none))) = some (r1, r2, r3, r4) := h
 clear h
 replace H := Option.bind_eq_some_iff.mp H
 obtain ⟨⟨t459, t460⟩, A40, H⟩ := H
 replace H : (if t460.length < 2932031007402 then ((some (t460 ++ [(⟨a2, ([] : List Int), false⟩ : S50)] : List (S50))).bind fun y464 => ((impl_WriterOk.f k l0_0 a0_1 a1_0 l1_1).bind fun t467 => (if t467 = true then ((impl_WriterOk.f k l0_0 a0_1 t459 y464).bind fun t468 => (if t468 = true then (some (t459, y464, (y464.length : Int), true)) else ((impl_writerAsWas.f k l0_0 a0_1 a1_0 l1_1).bind fun bt469 => (some (bt469.1, bt469.2, 0, false))))) else ((impl_writerAsWas.f k l0_0 a0_1 a1_0 l1_1).bind fun bt473 => (some (bt473.1, bt473.2, 0, false)))))) else (none)) = some (r1, r2, r3, r4) := H
 have A4 := Aside0.mk A40
 clear A40
 by_cases c5 : t460.length < 2932031007402
 ·rw [if_pos c5] at H
  have LMc5 := Aside0.mk c5
  clear c5
  obtain ⟨y464, hy464⟩ : ∃ y_ : List (S50), y_ = (t460 ++ [(⟨a2, ([] : List Int), false⟩ : S50)]) := ⟨_, rfl⟩
  replace H : ((impl_WriterOk.f k l0_0 a0_1 a1_0 l1_1).bind fun t467 => (if t467 = true then ((impl_WriterOk.f k l0_0 a0_1 t459 y464).bind fun t468 => (if t468 = true then (some (t459, y464, (y464.length : Int), true)) else ((impl_writerAsWas.f k l0_0 a0_1 a1_0 l1_1).bind fun bt469 => (some (bt469.1, bt469.2, 0, false))))) else ((impl_writerAsWas.f k l0_0 a0_1 a1_0 l1_1).bind fun bt473 => (some (bt473.1, bt473.2, 0, false))))) = some (r1, r2, r3, r4) := by first | (rw [hy464]; with_reducible exact H) | (have H2_ := (Option.bind_some _ _).symm.trans H; rw [hy464]; with_reducible exact H2_) | (have H2_ := (Option.bind_some _ _).symm.trans H; with_reducible exact H2_) | with_reducible exact H | (rw [hy464]; exact H) | exact H
  have Ny464 := Aside0.mk hy464
  clear hy464
  replace H := Option.bind_eq_some_iff.mp H
  obtain ⟨t467, A60, H⟩ := H
  replace H : (if t467 = true then ((impl_WriterOk.f k l0_0 a0_1 t459 y464).bind fun t468 => (if t468 = true then (some (t459, y464, (y464.length : Int), true)) else ((impl_writerAsWas.f k l0_0 a0_1 a1_0 l1_1).bind fun bt469 => (some (bt469.1, bt469.2, 0, false))))) else ((impl_writerAsWas.f k l0_0 a0_1 a1_0 l1_1).bind fun bt473 => (some (bt473.1, bt473.2, 0, false)))) = some (r1, r2, r3, r4) := H
  have A6 := Aside0.mk A60
  clear A60
  by_cases c7 : t467 = true
  ·subst c7
   have H1 : ((impl_WriterOk.f k l0_0 a0_1 t459 y464).bind fun t468 => (if t468 = true then (some (t459, y464, (y464.length : Int), true)) else ((impl_writerAsWas.f k l0_0 a0_1 a1_0 l1_1).bind fun bt469 => (some (bt469.1, bt469.2, 0, false))))) = some (r1, r2, r3, r4) := by rw [if_pos rfl] at H; exact H
   clear H
   have H := H1
   clear H1
   replace H := Option.bind_eq_some_iff.mp H
   obtain ⟨t468, A80, H⟩ := H
   replace H : (if t468 = true then (some (t459, y464, (y464.length : Int), true)) else ((impl_writerAsWas.f k l0_0 a0_1 a1_0 l1_1).bind fun bt469 => (some (bt469.1, bt469.2, 0, false)))) = some (r1, r2, r3, r4) := H
   have A8 := Aside0.mk A80
   clear A80
   by_cases c9 : t468 = true
   ·subst c9
    have H1 : (some (t459, y464, (y464.length : Int), true)) = some (r1, r2, r3, r4) := by rw [if_pos rfl] at H; exact H
    clear H
    have H := H1
    clear H1
    simp only [Option.some.injEq, Prod.mk.injEq] at H
    obtain ⟨rfl, rfl, rfl, rfl⟩ := H
    go_enter Try.func19, Try.ntmps19
    try go_wp2_with (first | ((with_reducible refine gate_dst (N := 3) rfl ?_); refine box_event kr_ (N := 3) kr_ (cs := #[.slice A0_0 l0_0.length c0_0, .int .i64 a0_1]) (t := 31) ks_ ?_; intro gb456 hg w1 hbox hb; have BK456 := Aside0.mk (hbox); have GW456 : Aside0 (w.heap.size ≤ gb456) := szl_ hg dz2; have GE456 : Aside0 (w.heap.size ≤ gb456) := szl_ hg dz2; replace HB := Aside0.mk (below_step dz2 hb); clear hb hbox hg) | ((with_reducible refine gate_dst (N := 4) rfl ?_); refine box_event kr_ (N := 4) kr_ (cs := #[.int .i64 a1_0, .slice A1_1 l1_1.length c1_1]) (t := 44) ks_ ?_; intro gb457 hg w2 hbox hb; have BK457 := Aside0.mk (hbox); have GW457 : Aside0 (w.heap.size ≤ gb457) := szl_ hg dz41; have GE457 : Aside0 (w.heap.size ≤ gb457) := szl_ hg dz41; replace HB := Aside0.mk (below_step dz41 hb); have NB456_457 := (nbl_ hg BK456); have NB457_456 := (nbr_ hg BK456); replace BK456 := (bkb_ BK456 hb); clear hb hbox hg) | ((with_reducible refine gate_dst (N := 6) rfl ?_); refine box_event kr_ (N := 6) kr_ (cs := #[.int .i64 0, .slice none 0 0]) (t := 44) ks_ ?_; intro gb458 hg w3 hbox hb; have BK458 := Aside0.mk (hbox); have GW458 : Aside0 (w.heap.size ≤ gb458) := szl_ hg dz42; have GE458 : Aside0 (w.heap.size ≤ gb458) := szl_ hg dz42; replace HB := Aside0.mk (below_step dz42 hb); have NB456_458 := (nbl_ hg BK456); have NB458_456 := (nbr_ hg BK456); replace BK456 := (bkb_ BK456 hb); have NB457_458 := (nbl_ hg BK457); have NB458_457 := (nbr_ hg BK457); replace BK457 := (bkb_ BK457 hb); clear hb hbox hg; have hnb13 := NB457_456.out; have hnc13 := NB456_457.out; have hnb14 := NB457_458.out; have hnc14 := NB458_457.out; obtain ⟨hcz15_0, hcz15_1, hfz15_0, hfz15_1⟩ := cz2_ BK457) | ((with_reducible refine gate_callee (f := 68) rfl ?_); refine goesL_ (some 11) rfl rfl Try.func68 (by kernel_rfl) rfl #[.agg #[.int .i64 a1_0, .slice A1_1 l1_1.length c1_1]] rfl dz1 ?_; (with_reducible refine (impl_copyWriter.calls k a1_0 _ _ l1_1 t459 t460 _ ?side1 ?side2 A4.out).mono ?_); (case side1 => exact dz465); (case side2 => exact HC1_1.out); rintro e w4 ⟨v461, rfl, ho0, hb⟩; refine ⟨_, rfl, ?_⟩; have HO462 := Aside0.mk (Kd.S_lower ho0 (below_size dz20)); replace BK456 := (bkb_ BK456 hb); replace BK457 := (bkb_ BK457 hb); replace BK458 := (bkb_ BK458 hb); replace HB := Aside0.mk (below_step dz20 hb); (try clear hb); (try clear hb2); (try clear hk); (try clear hi); (try clear ho0)) | ((with_reducible refine gate_dst (N := 9) rfl ?_); refine box_event kr_ (N := 9) kr_ (cs := #[.int .i64 0, .slice none 0 0]) (t := 44) ks_ ?_; intro gb463 hg w5 hbox hb; replace HO462 := (sbb_ HO462 hb); have BK463 := Aside0.mk (hbox); have GW463 : Aside0 (w.heap.size ≤ gb463) := szl_ hg dz20; have GE463 : Aside0 (w.heap.size ≤ gb463) := szl_ hg dz20; replace HB := Aside0.mk (below_step dz20 hb); have NB456_463 := (nbl_ hg BK456); have NB463_456 := (nbr_ hg BK456); replace BK456 := (bkb_ BK456 hb); have NB457_463 := (nbl_ hg BK457); have NB463_457 := (nbr_ hg BK457); replace BK457 := (bkb_ BK457 hb); have NB458_463 := (nbl_ hg BK458); have NB463_458 := (nbr_ hg BK458); replace BK458 := (bkb_ BK458 hb); clear hb hbox hg; have hnb18 := NB463_456.out; have hnc18 := NB456_463.out; have hnb19 := NB463_457.out; have hnc19 := NB457_463.out; have hnb20 := NB463_458.out; have hnc20 := NB458_463.out; obtain ⟨hcz21_0, hcz21_1, hfz21_0, hfz21_1⟩ := cz2_ BK463; obtain ⟨Ao22, co22, eo22⟩ := Kd.S_slice HO462.out; subst eo22) | ((with_reducible refine gate_builtin (b := .append) (xs := #[.tmp 13, .tmp 16]) rfl ?_); at_builtin; refine Kd.S_append k50 (w0 := w) w.heap.size rfl (.tmp 13) (.tmp 16) 42 50 (.agg #[(.string ⟨#[]⟩), (.slice none 0 0), (.bool false)]) 48 rfl Try.underlying42 info50 rfl (by decide) (by omega) (.slice Ao22 t460.length co22) t460 (⟨a2, ([] : List Int), false⟩ : S50) [.string a2, .slice none 0 0, .bool false] (fun _ => True) (fun _ => False) rfl dz69 ?aP (fun k_ hk_ => hk_.elim) ?aF ?aO ?aB ?aS ?aL ?_; (case aP => exact k50_mkM _ _ _ (⟨a2, ([] : List Int), false⟩ : S50) (Kd.R_nil _ _ _ _ _)); (case aB => exact dz9); (case aF => exact (fun _ _ => trivial)); (case aO => exact (by (with_reducible repeat (first | apply Kd.S_alloc | apply Kd.S_drewN | apply Kd.S_drew)); exact Kd.S_mono (Kd.S_far (p := ⟨gb463, 1, none⟩) (Kd.S_far (p := ⟨gb463, 0, none⟩) (Kd.S_types HO462.out BK463.out (by decide)) (fun _ hk => hk.2) (.int .i64 t459)) (fun _ hk => hk.2) (.slice Ao22 t460.length co22)) (fun k_ hk => ⟨trivial, fun e_ => e_⟩))); (case aS => exact (below_size dz9)); (case aL => have := LMc5.out; omega); intro v465 w6 ho hb hg hat; rw [← Ny464.out] at ho; replace BK456 := Aside0.mk (blk_grown (g := gb456) (o := .cells #[.slice A0_0 l0_0.length c0_0, .int .i64 a0_1] 31 (0, 0)) dz120 hg (Kd.S_ne HO462.out BK456.out (by decide))); replace BK457 := Aside0.mk (blk_grown (g := gb457) (o := .cells #[.int .i64 a1_0, .slice A1_1 l1_1.length c1_1] 44 (0, 0)) dz121 hg (Kd.S_ne HO462.out BK457.out (by decide))); replace BK458 := Aside0.mk (blk_grown (g := gb458) (o := .cells #[.int .i64 0, .slice none 0 0] 44 (0, 0)) dz122 hg (Kd.S_ne HO462.out BK458.out (by decide))); replace BK463 := Aside0.mk (blk_grown (g := gb463) (o := .cells #[.int .i64 t459, .slice Ao22 t460.length co22] 44 (0, 0)) dz123 hg (Kd.S_ne HO462.out BK463.out (by decide))); replace HB := Aside0.mk (hb); have HO466 := Aside0.mk (ho); clear HO462; clear ho hb hg hat; obtain ⟨Ao24, co24, eo24⟩ := Kd.S_slice HO466.out; subst eo24; obtain ⟨hcz25_0, hcz25_1, hfz25_0, hfz25_1⟩ := cz2_ BK463; have hnb26 := NB456_458.out; have hnc26 := NB458_456.out; obtain ⟨hcz27_0, hcz27_1, hfz27_0, hfz27_1⟩ := cz2_ BK456; obtain ⟨hcz28_0, hcz28_1, hfz28_0, hfz28_1⟩ := cz2_ BK457) | ((with_reducible refine gate_callee (f := 22) rfl ?_); refine goesL_ (some 21) rfl rfl Try.func22 (by kernel_rfl) rfl #[.agg #[.slice A0_0 l0_0.length c0_0, .int .i64 a0_1], .agg #[.int .i64 a1_0, .slice A1_1 l1_1.length c1_1]] rfl dz1 ?_; (with_reducible refine (impl_WriterOk.calls k _ _ l0_0 a0_1 a1_0 _ _ l1_1 true _ ?side1 ?side2 ?side3 ?side4 A6.out).mono ?_); (case side1 => exact Kd.C_below HR0_0.out dz9); (case side2 => exact HC0_0.out); (case side3 => exact Kd.C_below HR1_1.out dz9); (case side4 => exact HC1_1.out); rintro e w7 ⟨rfl, hb⟩; refine ⟨_, rfl, ?_⟩; replace HO466 := Aside0.mk (Kd.S_below (by (with_reducible repeat (first | apply Kd.S_alloc | apply Kd.S_drewN | apply Kd.S_drew)); exact (Kd.S_mono (Kd.S_far (p := ⟨gb463, 1, none⟩) (Kd.S_types HO466.out BK463.out (by decide)) (fun _ hk => hk.2) (.slice Ao24 y464.length co24)) (fun _ h_ => h_.1))) hb); replace BK456 := Aside0.mk (blk_below (g := gb456) (o := .cells #[.slice A0_0 l0_0.length c0_0, .int .i64 a0_1] 31 (0, 0)) dz124 hb); replace BK457 := Aside0.mk (blk_below (g := gb457) (o := .cells #[.int .i64 a1_0, .slice A1_1 l1_1.length c1_1] 44 (0, 0)) dz125 hb); replace BK458 := Aside0.mk (blk_below (g := gb458) (o := .cells #[.int .i64 0, .slice none 0 0] 44 (0, 0)) dz126 hb); replace BK463 := Aside0.mk (blk_below (g := gb463) (o := .cells #[.int .i64 t459, .slice Ao24 y464.length co24] 44 (0, 0)) (by (with_reducible repeat (first | refine blk_drewN ?_ _ | refine blk_drew ?_ | refine blk_alloc ?_ _)); refine blk_put (cs := #[.int .i64 t459, .slice Ao22 t460.length co22]) ?_ 1 _ rfl; (with_reducible repeat (first | refine blk_drewN ?_ _ | refine blk_drew ?_ | refine blk_alloc ?_ _)); exact BK463.out) hb); replace HB := Aside0.mk (below_step dz9 hb); (try clear hb); (try clear hb2); (try clear hk); (try clear hi); obtain ⟨hcz30_0, hcz30_1, hfz30_0, hfz30_1⟩ := cz2_ BK456; obtain ⟨hcz31_0, hcz31_1, hfz31_0, hfz31_1⟩ := cz2_ BK463) | (go_at_call 22; (with_reducible refine (impl_WriterOk.calls k _ _ l0_0 a0_1 t459 _ _ y464 true _ ?side1 ?side2 ?side3 ?side4 A8.out).mono ?_); (case side1 => exact dz462); (case side2 => exact HC0_0.out); (case side3 => repeat (first | exact (Kd.S_reads' HO466.out).2.2 | (with_reducible refine Kd.C_alloc ?_ _) | (with_reducible refine Kd.C_drewN ?_ _) | (with_reducible refine Kd.C_drew ?_))); (case side4 => exact (Kd.S_reads' HO466.out).2.1); rintro e w8 ⟨rfl, hb⟩; replace HO466 := (sbb_ HO466 hb); replace BK456 := (bkb_ BK456 hb); replace BK457 := (bkb_ BK457 hb); replace BK458 := (bkb_ BK458 hb); replace BK463 := (bkb_ BK463 hb); replace HB := Aside0.mk (below_step dz9 hb); (try clear hb); (try clear hb2); (try clear hk); (try clear hi)))
    replace HO466 := Aside0.mk (Kd.S_drew HO466.out)
    replace BK456 := Aside0.mk (blk_drew BK456.out)
    replace BK457 := Aside0.mk (blk_drew BK457.out)
    replace BK458 := Aside0.mk (blk_drew BK458.out)
    replace BK463 := Aside0.mk (blk_drew BK463.out)
    replace HB := Aside0.mk (below_drew1 HB.out)
    refine start_ (n := 7) (S := fun w' => w'.cell? ⟨gb463, 0, none⟩ = some (.int .i64 t459) ∧ w'.cell? ⟨gb463, 1, none⟩ = some (.slice Ao24 y464.length co24)) (ds := []) (fl_ 0 7) (by kernel_rfl) rfl rfl ⟨(blk_cell BK463.out 0).trans rfl, (blk_cell BK463.out 1).trans rfl⟩ (fun hHeld => ?_)
    generalize w8.drew = w33 at HO466 BK456 BK457 BK458 BK463 HB hHeld ⊢
    refine pure_ (i := 1) (N := some 33) (v := ?_) (a' := ?_) #[false, true, false, false, false, false, false] rfl rfl (by kernel_rfl) (fun _ _ _ h => h) (Or.inl ⟨by rfl, ?_⟩) ?_ ?_
    rotate_left
    ·exact dz489
    rotate_left
    ·exact dz490
    refine take_ (i := 0) (N := some 32) (v := ?_) (a' := ?_) (fl_ 2 5) rfl rfl (by kernel_rfl) (fun _ _ _ h => h) (Or.inl ⟨by rfl, ?_⟩) hHeld ?_ ?_
    rotate_left
    ·exact dz491
    rotate_left
    ·exact dz490
    refine take_ (i := 2) (N := some 34) (v := ?_) (a' := ?_) (fl_ 3 4) rfl rfl (by kernel_rfl) (fun _ _ _ h => h) (Or.inl ⟨by rfl, ?_⟩) hHeld ?_ ?_
    rotate_left
    ·exact dz491
    rotate_left
    ·exact dz490
    refine pure_ (i := 3) (N := some 35) (v := ?_) (a' := ?_) (fl_ 4 3) rfl rfl (by kernel_rfl) (fun _ _ _ h => h) (Or.inl ⟨by rfl, ?_⟩) ?_ ?_
    rotate_left
    ·exact dz489
    rotate_left
    ·exact dz490
    refine one_ (i := 4) (N := none) (fl_ 5 2) rfl rfl (by kernel_rfl) (by decide) (fun K hK => ?_)
    have hs34 : w33.cell? ⟨gb458, 0, none⟩ = some (.int .i64 0) := (blk_cell BK458.out 0).trans rfl
    have hfs34 := blk_frozen BK458.out 0
    have hns34_0 := NB456_458.out
    have hns34_1 := NB457_458.out
    have hns34_3 := NB463_458.out
    have hms34_0 := NB458_456.out
    have hms34_1 := NB458_457.out
    have hms34_3 := NB458_463.out
    have hs35 : w33.cell? ⟨gb458, 1, none⟩ = some (.slice none 0 0) := (blk_cell BK458.out 1).trans rfl
    have hfs35 := blk_frozen BK458.out 1
    have hns35_0 := NB456_458.out
    have hns35_1 := NB457_458.out
    have hns35_3 := NB463_458.out
    have hms35_0 := NB458_456.out
    have hms35_1 := NB458_457.out
    have hms35_3 := NB458_463.out
    refine skip_ (w1 := ?_) (by rfl) rfl ?_ ?_
    rotate_left
    ·go_simp
     rfl
    refine hK.out _ _ ⟨((cell_far (p := ⟨gb458, _, none⟩) NB463_458.out _).trans (((cell_far (p := ⟨gb458, _, none⟩) NB463_458.out _).trans (hHeld.1)))), ((cell_far (p := ⟨gb458, _, none⟩) NB463_458.out _).trans (((cell_far (p := ⟨gb458, _, none⟩) NB463_458.out _).trans (hHeld.2))))⟩ (fun hHeld => ?_)
    clear hK K
    refine pure_ (i := 5) (N := some 7) (v := ?_) (a' := ?_) (fl_ 6 1) rfl rfl (by kernel_rfl) (fun _ _ _ h => h) (Or.inl ⟨by rfl, ?_⟩) ?_ ?_
    rotate_left
    ·exact dz489
    rotate_left
    ·exact dz490
    refine pure_ (i := 6) (N := some 8) (v := ?_) (a' := ?_) (fl_ 7 0) rfl rfl (by kernel_rfl) (fun _ _ _ h => h) (Or.inl ⟨by rfl, ?_⟩) ?_ ?_
    rotate_left
    ·exact dz489
    rotate_left
    ·exact dz490
    refine done_ (by kernel_rfl) ?_
    try go_wp2
    refine bodyPost_ret (results_ctt rfl _ _ gb458 44 #[.int .i64 t459, .slice Ao24 y464.length co24] (0, 0) _ rfl (by (with_reducible repeat (first | refine blk_drewN ?_ _ | refine blk_drew ?_ | refine blk_alloc ?_ _)); refine blk_put (cs := #[.int .i64 t459, .slice none 0 0]) ?_ 1 _ rfl; (with_reducible repeat (first | refine blk_drewN ?_ _ | refine blk_drew ?_ | refine blk_alloc ?_ _)); refine blk_put (cs := #[.int .i64 0, .slice none 0 0]) ?_ 0 _ rfl; (with_reducible repeat (first | refine blk_drewN ?_ _ | refine blk_drew ?_ | refine blk_alloc ?_ _)); exact BK458.out) Try.underlying44 rfl (by kernel_rfl)) rfl ?_
    exact ⟨_, by first | rfl | (simp [errW_none, errW_some] <;> rfl) | (simp [*, errW_none, errW_some] <;> rfl), by (with_reducible repeat (first | apply Kd.S_alloc | apply Kd.S_drewN | apply Kd.S_drew)); exact Kd.S_mono (Kd.S_far (p := ⟨gb458, 1, none⟩) (Kd.S_far (p := ⟨gb458, 0, none⟩) (Kd.S_types HO466.out BK458.out (by decide)) (fun _ hk => hk.2) (.int .i64 t459)) (fun _ hk => hk.2) (.slice Ao24 y464.length co24)) (fun _ hk => trivial), by repeat (first | (with_reducible first | exact HB.out | apply below_alloc | apply pw_below_drewN | apply below_drew1 | refine below_set ?_ GE456.out | refine below_set ?_ GE457.out | refine below_set ?_ GE458.out | refine below_set ?_ GE463.out) | exact HB.out)⟩
   replace c9 := Bool.eq_false_iff.mpr c9
   subst c9
   have H1 : ((impl_writerAsWas.f k l0_0 a0_1 a1_0 l1_1).bind fun bt469 => (some (bt469.1, bt469.2, 0, false))) = some (r1, r2, r3, r4) := by rw [if_neg (show ¬ (false = true) by decide)] at H; exact H
   clear H
   have H := H1
   clear H1
   replace H := Option.bind_eq_some_iff.mp H
   obtain ⟨⟨t469, t470⟩, A360, H⟩ := H
   replace H : (some (t469, t470, 0, false)) = some (r1, r2, r3, r4) := H
   have A36 := Aside0.mk A360
   clear A360
   simp only [Option.some.injEq, Prod.mk.injEq] at H
   obtain ⟨rfl, rfl, rfl, rfl⟩ := H
   go_enter Try.func19, Try.ntmps19
   go_wp2_with (first | ((with_reducible refine gate_dst (N := 3) rfl ?_); refine box_event kr_ (N := 3) kr_ (cs := #[.slice A0_0 l0_0.length c0_0, .int .i64 a0_1]) (t := 31) ks_ ?_; intro gb456 hg w1 hbox hb; have BK456 := Aside0.mk (hbox); have GW456 : Aside0 (w.heap.size ≤ gb456) := szl_ hg dz2; have GE456 : Aside0 (w.heap.size ≤ gb456) := szl_ hg dz2; replace HB := Aside0.mk (below_step dz2 hb); clear hb hbox hg) | ((with_reducible refine gate_dst (N := 4) rfl ?_); refine box_event kr_ (N := 4) kr_ (cs := #[.int .i64 a1_0, .slice A1_1 l1_1.length c1_1]) (t := 44) ks_ ?_; intro gb457 hg w2 hbox hb; have BK457 := Aside0.mk (hbox); have GW457 : Aside0 (w.heap.size ≤ gb457) := szl_ hg dz41; have GE457 : Aside0 (w.heap.size ≤ gb457) := szl_ hg dz41; replace HB := Aside0.mk (below_step dz41 hb); have NB456_457 := (nbl_ hg BK456); have NB457_456 := (nbr_ hg BK456); replace BK456 := (bkb_ BK456 hb); clear hb hbox hg) | ((with_reducible refine gate_dst (N := 6) rfl ?_); refine box_event kr_ (N := 6) kr_ (cs := #[.int .i64 0, .slice none 0 0]) (t := 44) ks_ ?_; intro gb458 hg w3 hbox hb; have BK458 := Aside0.mk (hbox); have GW458 : Aside0 (w.heap.size ≤ gb458) := szl_ hg dz42; have GE458 : Aside0 (w.heap.size ≤ gb458) := szl_ hg dz42; replace HB := Aside0.mk (below_step dz42 hb); have NB456_458 := (nbl_ hg BK456); have NB458_456 := (nbr_ hg BK456); replace BK456 := (bkb_ BK456 hb); have NB457_458 := (nbl_ hg BK457); have NB458_457 := (nbr_ hg BK457); replace BK457 := (bkb_ BK457 hb); clear hb hbox hg; have hnb40 := NB457_456.out; have hnc40 := NB456_457.out; have hnb41 := NB457_458.out; have hnc41 := NB458_457.out; obtain ⟨hcz42_0, hcz42_1, hfz42_0, hfz42_1⟩ := cz2_ BK457) | ((with_reducible refine gate_callee (f := 68) rfl ?_); refine goesL_ (some 11) rfl rfl Try.func68 (by kernel_rfl) rfl #[.agg #[.int .i64 a1_0, .slice A1_1 l1_1.length c1_1]] rfl dz1 ?_; (with_reducible refine (impl_copyWriter.calls k a1_0 _ _ l1_1 t459 t460 _ ?side1 ?side2 A4.out).mono ?_); (case side1 => exact dz465); (case side2 => exact HC1_1.out); rintro e w4 ⟨v461, rfl, ho0, hb⟩; refine ⟨_, rfl, ?_⟩; have HO462 := Aside0.mk (Kd.S_lower ho0 (below_size dz20)); replace BK456 := (bkb_ BK456 hb); replace BK457 := (bkb_ BK457 hb); replace BK458 := (bkb_ BK458 hb); replace HB := Aside0.mk (below_step dz20 hb); (try clear hb); (try clear hb2); (try clear hk); (try clear hi); (try clear ho0)) | ((with_reducible refine gate_dst (N := 9) rfl ?_); refine box_event kr_ (N := 9) kr_ (cs := #[.int .i64 0, .slice none 0 0]) (t := 44) ks_ ?_; intro gb463 hg w5 hbox hb; replace HO462 := (sbb_ HO462 hb); have BK463 := Aside0.mk (hbox); have GW463 : Aside0 (w.heap.size ≤ gb463) := szl_ hg dz20; have GE463 : Aside0 (w.heap.size ≤ gb463) := szl_ hg dz20; replace HB := Aside0.mk (below_step dz20 hb); have NB456_463 := (nbl_ hg BK456); have NB463_456 := (nbr_ hg BK456); replace BK456 := (bkb_ BK456 hb); have NB457_463 := (nbl_ hg BK457); have NB463_457 := (nbr_ hg BK457); replace BK457 := (bkb_ BK457 hb); have NB458_463 := (nbl_ hg BK458); have NB463_458 := (nbr_ hg BK458); replace BK458 := (bkb_ BK458 hb); clear hb hbox hg; have hnb45 := NB463_456.out; have hnc45 := NB456_463.out; have hnb46 := NB463_457.out; have hnc46 := NB457_463.out; have hnb47 := NB463_458.out; have hnc47 := NB458_463.out; obtain ⟨hcz48_0, hcz48_1, hfz48_0, hfz48_1⟩ := cz2_ BK463; obtain ⟨Ao49, co49, eo49⟩ := Kd.S_slice HO462.out; subst eo49) | ((with_reducible refine gate_builtin (b := .append) (xs := #[.tmp 13, .tmp 16]) rfl ?_); at_builtin; refine Kd.S_append k50 (w0 := w) w.heap.size rfl (.tmp 13) (.tmp 16) 42 50 (.agg #[(.string ⟨#[]⟩), (.slice none 0 0), (.bool false)]) 48 rfl Try.underlying42 info50 rfl (by decide) (by omega) (.slice Ao49 t460.length co49) t460 (⟨a2, ([] : List Int), false⟩ : S50) [.string a2, .slice none 0 0, .bool false] (fun _ => True) (fun _ => False) rfl dz69 ?aP (fun k_ hk_ => hk_.elim) ?aF ?aO ?aB ?aS ?aL ?_; (case aP => exact k50_mkM _ _ _ (⟨a2, ([] : List Int), false⟩ : S50) (Kd.R_nil _ _ _ _ _)); (case aB => exact dz9); (case aF => exact (fun _ _ => trivial)); (case aO => exact (by (with_reducible repeat (first | apply Kd.S_alloc | apply Kd.S_drewN | apply Kd.S_drew)); exact Kd.S_mono (Kd.S_far (p := ⟨gb463, 1, none⟩) (Kd.S_far (p := ⟨gb463, 0, none⟩) (Kd.S_types HO462.out BK463.out (by decide)) (fun _ hk => hk.2) (.int .i64 t459)) (fun _ hk => hk.2) (.slice Ao49 t460.length co49)) (fun k_ hk => ⟨trivial, fun e_ => e_⟩))); (case aS => exact (below_size dz9)); (case aL => have := LMc5.out; omega); intro v465 w6 ho hb hg hat; rw [← Ny464.out] at ho; replace BK456 := Aside0.mk (blk_grown (g := gb456) (o := .cells #[.slice A0_0 l0_0.length c0_0, .int .i64 a0_1] 31 (0, 0)) dz120 hg (Kd.S_ne HO462.out BK456.out (by decide))); replace BK457 := Aside0.mk (blk_grown (g := gb457) (o := .cells #[.int .i64 a1_0, .slice A1_1 l1_1.length c1_1] 44 (0, 0)) dz121 hg (Kd.S_ne HO462.out BK457.out (by decide))); replace BK458 := Aside0.mk (blk_grown (g := gb458) (o := .cells #[.int .i64 0, .slice none 0 0] 44 (0, 0)) dz122 hg (Kd.S_ne HO462.out BK458.out (by decide))); replace BK463 := Aside0.mk (blk_grown (g := gb463) (o := .cells #[.int .i64 t459, .slice Ao49 t460.length co49] 44 (0, 0)) dz123 hg (Kd.S_ne HO462.out BK463.out (by decide))); replace HB := Aside0.mk (hb); have HO466 := Aside0.mk (ho); clear HO462; clear ho hb hg hat; obtain ⟨Ao51, co51, eo51⟩ := Kd.S_slice HO466.out; subst eo51; obtain ⟨hcz52_0, hcz52_1, hfz52_0, hfz52_1⟩ := cz2_ BK463; have hnb53 := NB456_458.out; have hnc53 := NB458_456.out; obtain ⟨hcz54_0, hcz54_1, hfz54_0, hfz54_1⟩ := cz2_ BK456; obtain ⟨hcz55_0, hcz55_1, hfz55_0, hfz55_1⟩ := cz2_ BK457) | ((with_reducible refine gate_callee (f := 22) rfl ?_); refine goesL_ (some 21) rfl rfl Try.func22 (by kernel_rfl) rfl #[.agg #[.slice A0_0 l0_0.length c0_0, .int .i64 a0_1], .agg #[.int .i64 a1_0, .slice A1_1 l1_1.length c1_1]] rfl dz1 ?_; (with_reducible refine (impl_WriterOk.calls k _ _ l0_0 a0_1 a1_0 _ _ l1_1 true _ ?side1 ?side2 ?side3 ?side4 A6.out).mono ?_); (case side1 => exact Kd.C_below HR0_0.out dz9); (case side2 => exact HC0_0.out); (case side3 => exact Kd.C_below HR1_1.out dz9); (case side4 => exact HC1_1.out); rintro e w7 ⟨rfl, hb⟩; refine ⟨_, rfl, ?_⟩; replace HO466 := Aside0.mk (Kd.S_below (by (with_reducible repeat (first | apply Kd.S_alloc | apply Kd.S_drewN | apply Kd.S_drew)); exact (Kd.S_mono (Kd.S_far (p := ⟨gb463, 1, none⟩) (Kd.S_types HO466.out BK463.out (by decide)) (fun _ hk => hk.2) (.slice Ao51 y464.length co51)) (fun _ h_ => h_.1))) hb); replace BK456 := Aside0.mk (blk_below (g := gb456) (o := .cells #[.slice A0_0 l0_0.length c0_0, .int .i64 a0_1] 31 (0, 0)) dz124 hb); replace BK457 := Aside0.mk (blk_below (g := gb457) (o := .cells #[.int .i64 a1_0, .slice A1_1 l1_1.length c1_1] 44 (0, 0)) dz125 hb); replace BK458 := Aside0.mk (blk_below (g := gb458) (o := .cells #[.int .i64 0, .slice none 0 0] 44 (0, 0)) dz126 hb); replace BK463 := Aside0.mk (blk_below (g := gb463) (o := .cells #[.int .i64 t459, .slice Ao51 y464.length co51] 44 (0, 0)) (by (with_reducible repeat (first | refine blk_drewN ?_ _ | refine blk_drew ?_ | refine blk_alloc ?_ _)); refine blk_put (cs := #[.int .i64 t459, .slice Ao49 t460.length co49]) ?_ 1 _ rfl; (with_reducible repeat (first | refine blk_drewN ?_ _ | refine blk_drew ?_ | refine blk_alloc ?_ _)); exact BK463.out) hb); replace HB := Aside0.mk (below_step dz9 hb); (try clear hb); (try clear hb2); (try clear hk); (try clear hi); obtain ⟨hcz57_0, hcz57_1, hfz57_0, hfz57_1⟩ := cz2_ BK456; obtain ⟨hcz58_0, hcz58_1, hfz58_0, hfz58_1⟩ := cz2_ BK463) | (go_at_call 22; (with_reducible refine (impl_WriterOk.calls k _ _ l0_0 a0_1 t459 _ _ y464 false _ ?side1 ?side2 ?side3 ?side4 A8.out).mono ?_); (case side1 => exact dz462); (case side2 => exact HC0_0.out); (case side3 => repeat (first | exact (Kd.S_reads' HO466.out).2.2 | (with_reducible refine Kd.C_alloc ?_ _) | (with_reducible refine Kd.C_drewN ?_ _) | (with_reducible refine Kd.C_drew ?_))); (case side4 => exact (Kd.S_reads' HO466.out).2.1); rintro e w8 ⟨rfl, hb⟩; replace HO466 := (sbb_ HO466 hb); replace BK456 := (bkb_ BK456 hb); replace BK457 := (bkb_ BK457 hb); replace BK458 := (bkb_ BK458 hb); replace BK463 := (bkb_ BK463 hb); replace HB := Aside0.mk (below_step dz9 hb); (try clear hb); (try clear hb2); (try clear hk); (try clear hi); obtain ⟨hcz60_0, hcz60_1, hfz60_0, hfz60_1⟩ := cz2_ BK456; obtain ⟨hcz61_0, hcz61_1, hfz61_0, hfz61_1⟩ := cz2_ BK457) | ((with_reducible refine gate_callee (f := 69) rfl ?_); refine goesL_ (some 31) rfl rfl Try.func69 (by kernel_rfl) rfl #[.agg #[.slice A0_0 l0_0.length c0_0, .int .i64 a0_1], .agg #[.int .i64 a1_0, .slice A1_1 l1_1.length c1_1]] rfl dz1 ?_; (with_reducible refine (impl_writerAsWas.calls k _ _ l0_0 a0_1 a1_0 _ _ l1_1 t469 t470 _ ?side1 ?side2 ?side3 ?side4 A36.out).mono ?_); (case side1 => exact dz462); (case side2 => exact HC0_0.out); (case side3 => exact dz465); (case side4 => exact HC1_1.out); rintro e w9 ⟨v471, rfl, ho0, hb⟩; refine ⟨_, rfl, ?_⟩; have HO472 := Aside0.mk (Kd.S_lower (Kd.S_new' ho0 (Kd.S_lt dz97)) (below_size dz9)); replace HO466 := Aside0.mk (Kd.S_elder' dz97 (Kd.S_base ho0) hb); replace BK456 := (bkb_ BK456 hb); replace BK457 := (bkb_ BK457 hb); replace BK458 := (bkb_ BK458 hb); replace BK463 := (bkb_ BK463 hb); replace HB := Aside0.mk (below_step dz9 hb); (try clear hb); (try clear hb2); (try clear hk); (try clear hi); (try clear ho0); obtain ⟨hcz63_0, hcz63_1, hfz63_0, hfz63_1⟩ := cz2_ BK458; obtain ⟨Ao64, co64, eo64⟩ := Kd.S_slice HO472.out; subst eo64))
   refine bodyPost_ret (results_ctt rfl _ _ gb458 44 #[.int .i64 t469, .slice Ao64 t470.length co64] (0, 0) _ rfl (by (with_reducible repeat (first | refine blk_drewN ?_ _ | refine blk_drew ?_ | refine blk_alloc ?_ _)); refine blk_put (cs := #[.int .i64 t469, .slice none 0 0]) ?_ 1 _ rfl; (with_reducible repeat (first | refine blk_drewN ?_ _ | refine blk_drew ?_ | refine blk_alloc ?_ _)); refine blk_put (cs := #[.int .i64 0, .slice none 0 0]) ?_ 0 _ rfl; (with_reducible repeat (first | refine blk_drewN ?_ _ | refine blk_drew ?_ | refine blk_alloc ?_ _)); exact BK458.out) Try.underlying44 rfl (by kernel_rfl)) rfl ?_
   exact ⟨_, by first | rfl | (simp [errW_none, errW_some] <;> rfl) | (simp [*, errW_none, errW_some] <;> rfl), by (with_reducible repeat (first | apply Kd.S_alloc | apply Kd.S_drewN | apply Kd.S_drew)); exact Kd.S_mono (Kd.S_far (p := ⟨gb458, 1, none⟩) (Kd.S_far (p := ⟨gb458, 0, none⟩) (Kd.S_types HO472.out BK458.out (by decide)) (fun _ hk => hk.2) (.int .i64 t469)) (fun _ hk => hk.2) (.slice Ao64 t470.length co64)) (fun _ hk => trivial), by repeat (first | (with_reducible first | exact HB.out | apply below_alloc | apply pw_below_drewN | apply below_drew1 | refine below_set ?_ GE456.out | refine below_set ?_ GE457.out | refine below_set ?_ GE458.out | refine below_set ?_ GE463.out) | exact HB.out)⟩
  replace c7 := Bool.eq_false_iff.mpr c7
  subst c7
  have H1 : ((impl_writerAsWas.f k l0_0 a0_1 a1_0 l1_1).bind fun bt473 => (some (bt473.1, bt473.2, 0, false))) = some (r1, r2, r3, r4) := by rw [if_neg (show ¬ (false = true) by decide)] at H; exact H
  clear H
  have H := H1
  clear H1
  replace H := Option.bind_eq_some_iff.mp H
  obtain ⟨⟨t473, t474⟩, A650, H⟩ := H
  replace H : (some (t473, t474, 0, false)) = some (r1, r2, r3, r4) := H
  have A65 := Aside0.mk A650
  clear A650
  simp only [Option.some.injEq, Prod.mk.injEq] at H
  obtain ⟨rfl, rfl, rfl, rfl⟩ := H
  go_enter Try.func19, Try.ntmps19
  go_wp2_with (first | ((with_reducible refine gate_dst (N := 3) rfl ?_); refine box_event kr_ (N := 3) kr_ (cs := #[.slice A0_0 l0_0.length c0_0, .int .i64 a0_1]) (t := 31) ks_ ?_; intro gb456 hg w1 hbox hb; have BK456 := Aside0.mk (hbox); have GW456 : Aside0 (w.heap.size ≤ gb456) := szl_ hg dz2; have GE456 : Aside0 (w.heap.size ≤ gb456) := szl_ hg dz2; replace HB := Aside0.mk (below_step dz2 hb); clear hb hbox hg) | ((with_reducible refine gate_dst (N := 4) rfl ?_); refine box_event kr_ (N := 4) kr_ (cs := #[.int .i64 a1_0, .slice A1_1 l1_1.length c1_1]) (t := 44) ks_ ?_; intro gb457 hg w2 hbox hb; have BK457 := Aside0.mk (hbox); have GW457 : Aside0 (w.heap.size ≤ gb457) := szl_ hg dz41; have GE457 : Aside0 (w.heap.size ≤ gb457) := szl_ hg dz41; replace HB := Aside0.mk (below_step dz41 hb); have NB456_457 := (nbl_ hg BK456); have NB457_456 := (nbr_ hg BK456); replace BK456 := (bkb_ BK456 hb); clear hb hbox hg) | ((with_reducible refine gate_dst (N := 6) rfl ?_); refine box_event kr_ (N := 6) kr_ (cs := #[.int .i64 0, .slice none 0 0]) (t := 44) ks_ ?_; intro gb458 hg w3 hbox hb; have BK458 := Aside0.mk (hbox); have GW458 : Aside0 (w.heap.size ≤ gb458) := szl_ hg dz42; have GE458 : Aside0 (w.heap.size ≤ gb458) := szl_ hg dz42; replace HB := Aside0.mk (below_step dz42 hb); have NB456_458 := (nbl_ hg BK456); have NB458_456 := (nbr_ hg BK456); replace BK456 := (bkb_ BK456 hb); have NB457_458 := (nbl_ hg BK457); have NB458_457 := (nbr_ hg BK457); replace BK457 := (bkb_ BK457 hb); clear hb hbox hg; have hnb69 := NB457_456.out; have hnc69 := NB456_457.out; have hnb70 := NB457_458.out; have hnc70 := NB458_457.out; obtain ⟨hcz71_0, hcz71_1, hfz71_0, hfz71_1⟩ := cz2_ BK457) | ((with_reducible refine gate_callee (f := 68) rfl ?_); refine goesL_ (some 11) rfl rfl Try.func68 (by kernel_rfl) rfl #[.agg #[.int .i64 a1_0, .slice A1_1 l1_1.length c1_1]] rfl dz1 ?_; (with_reducible refine (impl_copyWriter.calls k a1_0 _ _ l1_1 t459 t460 _ ?side1 ?side2 A4.out).mono ?_); (case side1 => exact dz465); (case side2 => exact HC1_1.out); rintro e w4 ⟨v461, rfl, ho0, hb⟩; refine ⟨_, rfl, ?_⟩; have HO462 := Aside0.mk (Kd.S_lower ho0 (below_size dz20)); replace BK456 := (bkb_ BK456 hb); replace BK457 := (bkb_ BK457 hb); replace BK458 := (bkb_ BK458 hb); replace HB := Aside0.mk (below_step dz20 hb); (try clear hb); (try clear hb2); (try clear hk); (try clear hi); (try clear ho0)) | ((with_reducible refine gate_dst (N := 9) rfl ?_); refine box_event kr_ (N := 9) kr_ (cs := #[.int .i64 0, .slice none 0 0]) (t := 44) ks_ ?_; intro gb463 hg w5 hbox hb; replace HO462 := (sbb_ HO462 hb); have BK463 := Aside0.mk (hbox); have GW463 : Aside0 (w.heap.size ≤ gb463) := szl_ hg dz20; have GE463 : Aside0 (w.heap.size ≤ gb463) := szl_ hg dz20; replace HB := Aside0.mk (below_step dz20 hb); have NB456_463 := (nbl_ hg BK456); have NB463_456 := (nbr_ hg BK456); replace BK456 := (bkb_ BK456 hb); have NB457_463 := (nbl_ hg BK457); have NB463_457 := (nbr_ hg BK457); replace BK457 := (bkb_ BK457 hb); have NB458_463 := (nbl_ hg BK458); have NB463_458 := (nbr_ hg BK458); replace BK458 := (bkb_ BK458 hb); clear hb hbox hg; have hnb74 := NB463_456.out; have hnc74 := NB456_463.out; have hnb75 := NB463_457.out; have hnc75 := NB457_463.out; have hnb76 := NB463_458.out; have hnc76 := NB458_463.out; obtain ⟨hcz77_0, hcz77_1, hfz77_0, hfz77_1⟩ := cz2_ BK463; obtain ⟨Ao78, co78, eo78⟩ := Kd.S_slice HO462.out; subst eo78) | ((with_reducible refine gate_builtin (b := .append) (xs := #[.tmp 13, .tmp 16]) rfl ?_); at_builtin; refine Kd.S_append k50 (w0 := w) w.heap.size rfl (.tmp 13) (.tmp 16) 42 50 (.agg #[(.string ⟨#[]⟩), (.slice none 0 0), (.bool false)]) 48 rfl Try.underlying42 info50 rfl (by decide) (by omega) (.slice Ao78 t460.length co78) t460 (⟨a2, ([] : List Int), false⟩ : S50) [.string a2, .slice none 0 0, .bool false] (fun _ => True) (fun _ => False) rfl dz69 ?aP (fun k_ hk_ => hk_.elim) ?aF ?aO ?aB ?aS ?aL ?_; (case aP => exact k50_mkM _ _ _ (⟨a2, ([] : List Int), false⟩ : S50) (Kd.R_nil _ _ _ _ _)); (case aB => exact dz9); (case aF => exact (fun _ _ => trivial)); (case aO => exact (by (with_reducible repeat (first | apply Kd.S_alloc | apply Kd.S_drewN | apply Kd.S_drew)); exact Kd.S_mono (Kd.S_far (p := ⟨gb463, 1, none⟩) (Kd.S_far (p := ⟨gb463, 0, none⟩) (Kd.S_types HO462.out BK463.out (by decide)) (fun _ hk => hk.2) (.int .i64 t459)) (fun _ hk => hk.2) (.slice Ao78 t460.length co78)) (fun k_ hk => ⟨trivial, fun e_ => e_⟩))); (case aS => exact (below_size dz9)); (case aL => have := LMc5.out; omega); intro v465 w6 ho hb hg hat; rw [← Ny464.out] at ho; replace BK456 := Aside0.mk (blk_grown (g := gb456) (o := .cells #[.slice A0_0 l0_0.length c0_0, .int .i64 a0_1] 31 (0, 0)) dz120 hg (Kd.S_ne HO462.out BK456.out (by decide))); replace BK457 := Aside0.mk (blk_grown (g := gb457) (o := .cells #[.int .i64 a1_0, .slice A1_1 l1_1.length c1_1] 44 (0, 0)) dz121 hg (Kd.S_ne HO462.out BK457.out (by decide))); replace BK458 := Aside0.mk (blk_grown (g := gb458) (o := .cells #[.int .i64 0, .slice none 0 0] 44 (0, 0)) dz122 hg (Kd.S_ne HO462.out BK458.out (by decide))); replace BK463 := Aside0.mk (blk_grown (g := gb463) (o := .cells #[.int .i64 t459, .slice Ao78 t460.length co78] 44 (0, 0)) dz123 hg (Kd.S_ne HO462.out BK463.out (by decide))); replace HB := Aside0.mk (hb); have HO466 := Aside0.mk (ho); clear HO462; clear ho hb hg hat; obtain ⟨Ao80, co80, eo80⟩ := Kd.S_slice HO466.out; subst eo80; obtain ⟨hcz81_0, hcz81_1, hfz81_0, hfz81_1⟩ := cz2_ BK463; have hnb82 := NB456_458.out; have hnc82 := NB458_456.out; obtain ⟨hcz83_0, hcz83_1, hfz83_0, hfz83_1⟩ := cz2_ BK456; obtain ⟨hcz84_0, hcz84_1, hfz84_0, hfz84_1⟩ := cz2_ BK457) | ((with_reducible refine gate_callee (f := 22) rfl ?_); refine goesL_ (some 21) rfl rfl Try.func22 (by kernel_rfl) rfl #[.agg #[.slice A0_0 l0_0.length c0_0, .int .i64 a0_1], .agg #[.int .i64 a1_0, .slice A1_1 l1_1.length c1_1]] rfl dz1 ?_; (with_reducible refine (impl_WriterOk.calls k _ _ l0_0 a0_1 a1_0 _ _ l1_1 false _ ?side1 ?side2 ?side3 ?side4 A6.out).mono ?_); (case side1 => exact Kd.C_below HR0_0.out dz9); (case side2 => exact HC0_0.out); (case side3 => exact Kd.C_below HR1_1.out dz9); (case side4 => exact HC1_1.out); rintro e w7 ⟨rfl, hb⟩; refine ⟨_, rfl, ?_⟩; replace HO466 := Aside0.mk (Kd.S_below (by (with_reducible repeat (first | apply Kd.S_alloc | apply Kd.S_drewN | apply Kd.S_drew)); exact (Kd.S_mono (Kd.S_far (p := ⟨gb463, 1, none⟩) (Kd.S_types HO466.out BK463.out (by decide)) (fun _ hk => hk.2) (.slice Ao80 y464.length co80)) (fun _ h_ => h_.1))) hb); replace BK456 := Aside0.mk (blk_below (g := gb456) (o := .cells #[.slice A0_0 l0_0.length c0_0, .int .i64 a0_1] 31 (0, 0)) dz124 hb); replace BK457 := Aside0.mk (blk_below (g := gb457) (o := .cells #[.int .i64 a1_0, .slice A1_1 l1_1.length c1_1] 44 (0, 0)) dz125 hb); replace BK458 := Aside0.mk (blk_below (g := gb458) (o := .cells #[.int .i64 0, .slice none 0 0] 44 (0, 0)) dz126 hb); replace BK463 := Aside0.mk (blk_below (g := gb463) (o := .cells #[.int .i64 t459, .slice Ao80 y464.length co80] 44 (0, 0)) (by (with_reducible repeat (first | refine blk_drewN ?_ _ | refine blk_drew ?_ | refine blk_alloc ?_ _)); refine blk_put (cs := #[.int .i64 t459, .slice Ao78 t460.length co78]) ?_ 1 _ rfl; (with_reducible repeat (first | refine blk_drewN ?_ _ | refine blk_drew ?_ | refine blk_alloc ?_ _)); exact BK463.out) hb); replace HB := Aside0.mk (below_step dz9 hb); (try clear hb); (try clear hb2); (try clear hk); (try clear hi); obtain ⟨hcz86_0, hcz86_1, hfz86_0, hfz86_1⟩ := cz2_ BK456; obtain ⟨hcz87_0, hcz87_1, hfz87_0, hfz87_1⟩ := cz2_ BK457) | ((with_reducible refine gate_callee (f := 69) rfl ?_); refine goesL_ (some 31) rfl rfl Try.func69 (by kernel_rfl) rfl #[.agg #[.slice A0_0 l0_0.length c0_0, .int .i64 a0_1], .agg #[.int .i64 a1_0, .slice A1_1 l1_1.length c1_1]] rfl dz1 ?_; (with_reducible refine (impl_writerAsWas.calls k _ _ l0_0 a0_1 a1_0 _ _ l1_1 t473 t474 _ ?side1 ?side2 ?side3 ?side4 A65.out).mono ?_); (case side1 => exact dz462); (case side2 => exact HC0_0.out); (case side3 => exact dz465); (case side4 => exact HC1_1.out); rintro e w8 ⟨v475, rfl, ho0, hb⟩; refine ⟨_, rfl, ?_⟩; have HO476 := Aside0.mk (Kd.S_lower (Kd.S_new' ho0 (Kd.S_lt dz97)) (below_size dz9)); replace HO466 := Aside0.mk (Kd.S_elder' dz97 (Kd.S_base ho0) hb); replace BK456 := (bkb_ BK456 hb); replace BK457 := (bkb_ BK457 hb); replace BK458 := (bkb_ BK458 hb); replace BK463 := (bkb_ BK463 hb); replace HB := Aside0.mk (below_step dz9 hb); (try clear hb); (try clear hb2); (try clear hk); (try clear hi); (try clear ho0); obtain ⟨hcz89_0, hcz89_1, hfz89_0, hfz89_1⟩ := cz2_ BK458; obtain ⟨Ao90, co90, eo90⟩ := Kd.S_slice HO476.out; subst eo90))
  refine bodyPost_ret (results_ctt rfl _ _ gb458 44 #[.int .i64 t473, .slice Ao90 t474.length co90] (0, 0) _ rfl (by (with_reducible repeat (first | refine blk_drewN ?_ _ | refine blk_drew ?_ | refine blk_alloc ?_ _)); refine blk_put (cs := #[.int .i64 t473, .slice none 0 0]) ?_ 1 _ rfl; (with_reducible repeat (first | refine blk_drewN ?_ _ | refine blk_drew ?_ | refine blk_alloc ?_ _)); refine blk_put (cs := #[.int .i64 0, .slice none 0 0]) ?_ 0 _ rfl; (with_reducible repeat (first | refine blk_drewN ?_ _ | refine blk_drew ?_ | refine blk_alloc ?_ _)); exact BK458.out) Try.underlying44 rfl (by kernel_rfl)) rfl ?_
  exact ⟨_, by first | rfl | (simp [errW_none, errW_some] <;> rfl) | (simp [*, errW_none, errW_some] <;> rfl), by (with_reducible repeat (first | apply Kd.S_alloc | apply Kd.S_drewN | apply Kd.S_drew)); exact Kd.S_mono (Kd.S_far (p := ⟨gb458, 1, none⟩) (Kd.S_far (p := ⟨gb458, 0, none⟩) (Kd.S_types HO476.out BK458.out (by decide)) (fun _ hk => hk.2) (.int .i64 t473)) (fun _ hk => hk.2) (.slice Ao90 t474.length co90)) (fun _ hk => trivial), by repeat (first | (with_reducible first | exact HB.out | apply below_alloc | apply pw_below_drewN | apply below_drew1 | refine below_set ?_ GE456.out | refine below_set ?_ GE457.out | refine below_set ?_ GE458.out | refine below_set ?_ GE463.out) | exact HB.out)⟩
 rw [if_neg c5] at H
 exact absurd H (by simp)
def impl_WriterSure.l0 : Nat → List (S50) → Int → Int → Int → List (S50) → Option (Int)
 | 0, _, _, _, _, _ => none
 | k + 1, x6, x7, x8, x478000, x478001 => if x8 < x7 then (if 0 ≤ x8 then (if x8 < (x6.length : Int) then (if ((rd_T50 x6 x8).f2 = true) then (impl_WriterSure.l0 k x6 x7 (wrap64 (x8 + 1)) x478000 x478001) else (some x8)) else (none)) else (none)) else (some (x478001.length : Int))
def impl_WriterSure.f (k : Nat) (a0_0 : Int) (l0_1 : List (S50)) : Option (Int) := impl_WriterSure.l0 k l0_1 (l0_1.length : Int) 0 a0_0 l0_1
set_option maxHeartbeats 8000000 in
set_option maxRecDepth 100000 in
theorem impl_WriterSure.calls (k : Nat) (a0_0 : Int) (A0_1 : Option Addr) (c0_1 : Nat) (l0_1 : List (S50)) (r : Int) (w : World) (hr0_1 : Kd.C k50 w A0_1 l0_1.length l0_1) (hc0_1 : l0_1.length ≤ c0_1) (h : impl_WriterSure.f k a0_0 l0_1 = some r) :
  Calls Try.prog 21 #[.agg #[.int .i64 a0_0, .slice A0_1 l0_1.length c0_1]] w fun e w' => e = .returned (.int .i64 r) ∧ Below w.heap.size w w' := by
 have hu44 := Try.underlying44
 have hu50 := Try.underlying50
 have HR0_1 := Aside0.mk hr0_1
 have HC0_1 := Aside0.mk hc0_1
 clear hr0_1 hc0_1
 have HB := Aside0.mk (Below.refl w.heap.size w)
 have H : (impl_WriterSure.l0 k l0_1 (l0_1.length : Int) 0 a0_0 l0_1) = some r := h
 clear h
 have H' := Aside0.mk H
 clear H
 go_enter Try.func21, Try.ntmps21
 go_wp2_with (first | ((with_reducible refine gate_dst (N := 1) rfl ?_); refine box_event kr_ (N := 1) kr_ (cs := #[.int .i64 a0_0, .slice A0_1 l0_1.length c0_1]) (t := 44) ks_ ?_; intro gb477 hg w1 hbox hb; have BK477 := Aside0.mk (hbox); have GW477 : Aside0 (w.heap.size ≤ gb477) := szl_ hg dz2; have GE477 : Aside0 (w.heap.size ≤ gb477) := szl_ hg dz2; replace HB := Aside0.mk (below_step dz2 hb); clear hb hbox hg; obtain ⟨hcz3_0, hcz3_1, hfz3_0, hfz3_1⟩ := cz2_ BK477))
 go_loopg [8] k (fun kq v8 w' => ∃ (x8_1 : Int), v8 = .int .i64 x8_1 ∧ Aside0 (impl_WriterSure.l0 kq l0_1 (l0_1.length : Int) x8_1 a0_0 l0_1 = some r) ∧ Aside0 (kq ≤ k) ∧ Aside0 (w'.heap[gb477]? = some (.cells #[.int .i64 a0_0, (.slice A0_1 l0_1.length c0_1)] 44 (0, 0))) ∧ Aside0 (Below w.heap.size w w'))
 case atStart => exact ⟨(0), dz3, H', ⟨Nat.le_refl _⟩, ⟨by (with_reducible repeat (first | refine blk_drewN ?_ _ | refine blk_drew ?_ | refine blk_alloc ?_ _)); exact BK477.out⟩, ⟨by repeat (first | (with_reducible first | exact HB.out | apply below_alloc | apply pw_below_drewN | apply below_drew1 | refine below_set ?_ GE477.out) | exact HB.out)⟩⟩
 case round =>
  clear H'
  try clear c2
  try clear p2
  try clear hcz3_0
  try clear hcz3_1
  try clear hfz3_0
  try clear hfz3_1
  obtain ⟨x8_1, rfl, HA, HK1, BK477, HB⟩ := hrel
  cases gk with
  | zero => exact absurd HA.out (by simp [impl_WriterSure.l0])
  | succ k1 =>
   have H := HA.out
   clear HA
   simp only [impl_WriterSure.l0] at H
   by_cases c4 : x8_1 < (l0_1.length : Int)
   ·rw [if_pos c4] at H
    have c4b0 : decide (x8_1 < (l0_1.length : Int)) = true := decide_eq_true c4
    clear c4
    by_cases c5 : 0 ≤ x8_1
    ·rw [if_pos c5] at H
     have c5b0 : decide (0 ≤ x8_1) = true := decide_eq_true c5
     clear c5
     by_cases c6 : x8_1 < (l0_1.length : Int)
     ·rw [if_pos c6] at H
      have c6b0 : decide (x8_1 < (l0_1.length : Int)) = true := decide_eq_true c6
      clear c6
      obtain ⟨bq7, hbq7⟩ : ∃ b_ : Bool, b_ = ((rd_T50 l0_1 x8_1).f2) := ⟨_, rfl⟩
      replace H : (if (bq7 = true) then (impl_WriterSure.l0 k1 l0_1 (l0_1.length : Int) (wrap64 (x8_1 + 1)) a0_0 l0_1) else (some x8_1)) = some r := by rw [← hbq7] at H; exact H
      have Nbq7 := Aside0.mk hbq7
      clear hbq7
      by_cases c8 : (bq7 = true)
      ·subst c8
       have H1 : (impl_WriterSure.l0 k1 l0_1 (l0_1.length : Int) (wrap64 (x8_1 + 1)) a0_0 l0_1) = some r := by rw [if_pos rfl] at H; exact H
       clear H
       have H := H1
       clear H1
       have H' := Aside0.mk H
       clear H
       have p478 : 0 ≤ (x8_1 : Int) := of_decide_eq_true dz0
       have q478 : x8_1 < (l0_1.length : Int) := of_decide_eq_true dz0
       obtain ⟨ad478, A478_1, c478_1, e478, hx478_0, hx478_1, hx478_2, hl478_1, hi478_1⟩ := at_T50 HR0_1.out x8_1 p478 q478
       (try rw [← Nbq7.out] at hx478_2)
       cases e478
       replace hx478_0 := hxl_ HB hx478_0
       replace hx478_1 := hxl_ HB hx478_1
       replace hx478_2 := hxl_ HB hx478_2
       have HR478_1 := Aside0.mk hi478_1
       have HC478_1 := Aside0.mk hl478_1
       clear hi478_1 hl478_1
       replace p478 := eq_true p478
       replace q478 := eq_true q478
       go_wp2_with (first | ((with_reducible refine gate_dst (N := 4) rfl ?_); refine box_event kr_ (N := 4) kr_ (cs := #[.string (⟨#[]⟩ : ByteArray), .slice none 0 0, .bool false]) (t := 50) ks_ ?_; intro gb479 hg w9 hbox hb; have BK479 := Aside0.mk (hbox); have GW479 : Aside0 (w.heap.size ≤ gb479) := szl_ hg dz67; have GE479 : Aside0 (w.heap.size ≤ gb479) := szl_ hg dz67; replace HB := Aside0.mk (below_step dz67 hb); have NB477_479 := (nbl_ hg BK477); have NB479_477 := (nbr_ hg BK477); replace BK477 := (bkb_ BK477 hb); clear hb hbox hg; have hnb10 := NB479_477.out; have hnc10 := NB477_479.out; obtain ⟨hcz11_0, hcz11_1, hcz11_2, hfz11_0, hfz11_1, hfz11_2⟩ := cz3_ BK479))
       go_roundg k1
       case measure => have := HK1.out; omega
       case rel => first | exact ⟨(wrap64 (x8_1 + 1)), dz3, H', ⟨by have := HK1.out; omega⟩, ⟨by (with_reducible repeat (first | refine blk_drewN ?_ _ | refine blk_drew ?_ | refine blk_alloc ?_ _)); refine blk_far ?_ NB477_479.out _; (with_reducible repeat (first | refine blk_drewN ?_ _ | refine blk_drew ?_ | refine blk_alloc ?_ _)); refine blk_far ?_ NB477_479.out _; (with_reducible repeat (first | refine blk_drewN ?_ _ | refine blk_drew ?_ | refine blk_alloc ?_ _)); refine blk_far ?_ NB477_479.out _; (with_reducible repeat (first | refine blk_drewN ?_ _ | refine blk_drew ?_ | refine blk_alloc ?_ _)); exact BK477.out⟩, ⟨by repeat (first | (with_reducible first | exact HB.out | apply below_alloc | apply pw_below_drewN | apply below_drew1 | refine below_set ?_ GE477.out | refine below_set ?_ GE479.out) | exact HB.out)⟩⟩ | (simp only [← Nbq7.out]; exact ⟨(wrap64 (x8_1 + 1)), dz3, H', ⟨by have := HK1.out; omega⟩, ⟨by (with_reducible repeat (first | refine blk_drewN ?_ _ | refine blk_drew ?_ | refine blk_alloc ?_ _)); refine blk_far ?_ NB477_479.out _; (with_reducible repeat (first | refine blk_drewN ?_ _ | refine blk_drew ?_ | refine blk_alloc ?_ _)); refine blk_far ?_ NB477_479.out _; (with_reducible repeat (first | refine blk_drewN ?_ _ | refine blk_drew ?_ | refine blk_alloc ?_ _)); refine blk_far ?_ NB477_479.out _; (with_reducible repeat (first | refine blk_drewN ?_ _ | refine blk_drew ?_ | refine blk_alloc ?_ _)); exact BK477.out⟩, ⟨by repeat (first | (with_reducible first | exact HB.out | apply below_alloc | apply pw_below_drewN | apply below_drew1 | refine below_set ?_ GE477.out | refine below_set ?_ GE479.out) | exact HB.out)⟩⟩)
      replace c8 := Bool.eq_false_iff.mpr c8
      subst c8
      have H1 : (some x8_1) = some r := by rw [if_neg (show ¬ (false = true) by decide)] at H; exact H
      clear H
      have H := H1
      clear H1
      obtain rfl := Option.some.inj H
      have p478 : 0 ≤ (x8_1 : Int) := of_decide_eq_true dz0
      have q478 : x8_1 < (l0_1.length : Int) := of_decide_eq_true dz0
      obtain ⟨ad478, A478_1, c478_1, e478, hx478_0, hx478_1, hx478_2, hl478_1, hi478_1⟩ := at_T50 HR0_1.out x8_1 p478 q478
      (try rw [← Nbq7.out] at hx478_2)
      cases e478
      replace hx478_0 := hxl_ HB hx478_0
      replace hx478_1 := hxl_ HB hx478_1
      replace hx478_2 := hxl_ HB hx478_2
      have HR478_1 := Aside0.mk hi478_1
      have HC478_1 := Aside0.mk hl478_1
      clear hi478_1 hl478_1
      replace p478 := eq_true p478
      replace q478 := eq_true q478
      go_wp2_with (first | ((with_reducible refine gate_dst (N := 4) rfl ?_); refine box_event kr_ (N := 4) kr_ (cs := #[.string (⟨#[]⟩ : ByteArray), .slice none 0 0, .bool false]) (t := 50) ks_ ?_; intro gb479 hg w12 hbox hb; have BK479 := Aside0.mk (hbox); have GW479 : Aside0 (w.heap.size ≤ gb479) := szl_ hg dz67; have GE479 : Aside0 (w.heap.size ≤ gb479) := szl_ hg dz67; replace HB := Aside0.mk (below_step dz67 hb); have NB477_479 := (nbl_ hg BK477); have NB479_477 := (nbr_ hg BK477); replace BK477 := (bkb_ BK477 hb); clear hb hbox hg; have hnb13 := NB479_477.out; have hnc13 := NB477_479.out; obtain ⟨hcz14_0, hcz14_1, hcz14_2, hfz14_0, hfz14_1, hfz14_2⟩ := cz3_ BK479))
      go_ret
      exact ⟨by first | rfl | (simp [errW_none, errW_some] <;> rfl) | (simp [*, errW_none, errW_some] <;> rfl), by repeat (first | (with_reducible first | exact HB.out | apply below_alloc | apply pw_below_drewN | apply below_drew1 | refine below_set ?_ GE477.out | refine below_set ?_ GE479.out) | exact HB.out)⟩
     rw [if_neg c6] at H
     exact absurd H (by simp)
    rw [if_neg c5] at H
    exact absurd H (by simp)
   rw [if_neg c4] at H
   have c4b0 : decide (x8_1 < (l0_1.length : Int)) = false := decide_eq_false c4
   clear c4
   obtain rfl := Option.some.inj H
   obtain ⟨hcz15_0, hcz15_1, hfz15_0, hfz15_1⟩ := cz2_ BK477
   go_wp2
   go_ret
   exact ⟨by first | rfl | (simp [errW_none, errW_some] <;> rfl) | (simp [*, errW_none, errW_some] <;> rfl), by repeat (first | (with_reducible first | exact HB.out | apply below_alloc | apply pw_below_drewN | apply below_drew1 | refine below_set ?_ GE477.out) | exact HB.out)⟩
end Go.Proofs.Ytdkdhciogedoiab.PFnAdded
