-- Written by wip/gen/pack.py of this repo. Lean checks it.
import Derived.Test.YtdkdhciogedoiabKFnAddedP0
import Derived.Test.YtdkdhciogedoiabKFnAddedP10
import Derived.Test.YtdkdhciogedoiabKFnAddedD
namespace Go.Proofs.Ytdkdhciogedoiab.PFnAdded
open Go.RowKit Go.Proofs.YtdkdhciogedoiabW.PrintWords Go.Proofs.YtdkdhciogedoiabW.PrintLast Go.Proofs.YtdkdhciogedoiabW.PrintMore Go.Proofs.YtdkdhciogedoiabW.Sq
attribute [local go_sem] max2_int min2_int max_two min_two max_three min_three max_four min_four
set_option linter.unusedVariables false
set_option linter.unusedSimpArgs false
def slices_Contains_int_int.f (k : Nat) (l0 : List Int) (a1 : Int) : Option (Bool) := (slices_Index_int_int.f k l0 a1).bind fun t404 => (some (decide (t404 ≥ 0)))
set_option maxHeartbeats 8000000 in
set_option maxRecDepth 100000 in
theorem slices_Contains_int_int.calls (k : Nat) (A0 : Option Addr) (c0 : Nat) (l0 : List Int) (a1 : Int) (r : Bool) (w : World) (hr0 : Kd.C (Kd.int .i64) w A0 l0.length l0) (hc0 : l0.length ≤ c0) (h : slices_Contains_int_int.f k l0 a1 = some r) :
  Calls Try.prog 143 #[.slice A0 l0.length c0, .int .i64 a1] w fun e w' => e = .returned (.bool r) ∧ Drawn0 w w' := by
 have HR0 := Aside0.mk hr0
 have HC0 := Aside0.mk hc0
 clear hr0 hc0
 have H : ((slices_Index_int_int.f k l0 a1).bind fun t404 => (some (decide (t404 ≥ 0)))) = some r := h
 clear h
 replace H := Option.bind_eq_some_iff.mp H
 obtain ⟨t404, A30, H⟩ := H
 replace H : (some (decide (t404 ≥ 0))) = some r := H
 have A3 := Aside0.mk A30
 clear A30
 obtain rfl := Option.some.inj H
 go_enter Try.func143, Try.ntmps143
 go_wp2_with (first | ((with_reducible refine gate_callee (f := 145) rfl ?_); refine goesL_ (some 7) rfl rfl Try.func145 (by kernel_rfl) rfl #[.slice A0 l0.length c0, .int .i64 a1] rfl dz1 ?_; (with_reducible refine (slices_Index_int_int.calls k _ _ l0 a1 t404 _ ?side1 ?side2 A3.out).mono ?_); (case side1 => exact dz484); (case side2 => exact HC0.out); rintro e w' ⟨rfl, ⟨nd, rfl⟩⟩; refine ⟨_, rfl, ?_⟩))
 go_ret
 exact dz503
def impl_SpanOf.l0 : Nat → List Int → List Int → Int → Int → List Int → Int → Option (Int)
 | 0, _, _, _, _, _, _ => none
 | k + 1, x5, x13, x14, x15, x406000, x406001 => if x15 < x14 then (if 0 ≤ x15 then (if x15 < (x13.length : Int) then (if 0 ≤ (rd x13 x15) then (if (rd x13 x15) < (x406000.length : Int) then ((slices_Contains_int_int.f k x5 (rd x406000 (rd x13 x15))).bind fun t412 => (if t412 = true then (impl_SpanOf.l0 k x5 x13 x14 (wrap64 (x15 + 1)) x406000 x406001) else (if x5.length < 17592186044416 then (impl_SpanOf.l0 k (x5 ++ [rd x406000 (rd x13 x15)]) x13 x14 (wrap64 (x15 + 1)) x406000 x406001) else (none)))) else (none)) else (none)) else (none)) else (none)) else (some (x5.length : Int))
def impl_SpanOf.f (k : Nat) (l0_0 : List Int) (a0_1 : Int) (l1 : List Int) : Option (Int) := (impl_NodesOk.f k l0_0 a0_1 l1).bind fun t406 => (if t406 = true then (impl_SpanOf.l0 k (([] : List Int)) l1 (l1.length : Int) 0 l0_0 a0_1) else (some (-1)))
set_option maxHeartbeats 8000000 in
set_option maxRecDepth 100000 in
theorem impl_SpanOf.calls (k : Nat) (A0_0 : Option Addr) (c0_0 : Nat) (l0_0 : List Int) (a0_1 : Int) (A1 : Option Addr) (c1 : Nat) (l1 : List Int) (r : Int) (w : World) (hr0_0 : Kd.C (Kd.int .i64) w A0_0 l0_0.length l0_0) (hc0_0 : l0_0.length ≤ c0_0) (hr1 : Kd.C (Kd.int .i64) w A1 l1.length l1) (hc1 : l1.length ≤ c1) (h : impl_SpanOf.f k l0_0 a0_1 l1 = some r) :
  Calls Try.prog 120 #[.agg #[.slice A0_0 l0_0.length c0_0, .int .i64 a0_1], .slice A1 l1.length c1] w fun e w' => e = .returned (.int .i64 r) ∧ Below w.heap.size w w' := by
 have hu31 := Try.underlying31
 have HR0_0 := Aside0.mk hr0_0
 have HC0_0 := Aside0.mk hc0_0
 clear hr0_0 hc0_0
 have HR1 := Aside0.mk hr1
 have HC1 := Aside0.mk hc1
 clear hr1 hc1
 have HB := Aside0.mk (Below.refl w.heap.size w)
 have H : ((impl_NodesOk.f k l0_0 a0_1 l1).bind fun t406 => (if t406 = true then (impl_SpanOf.l0 k (([] : List Int)) l1 (l1.length : Int) 0 l0_0 a0_1) else (some (-1)))) = some r := h
 clear h
 replace H := Option.bind_eq_some_iff.mp H
 obtain ⟨t406, A30, H⟩ := H
 replace H : (if t406 = true then (impl_SpanOf.l0 k (([] : List Int)) l1 (l1.length : Int) 0 l0_0 a0_1) else (some (-1))) = some r := H
 have A3 := Aside0.mk A30
 clear A30
 by_cases c4 : t406 = true
 ·subst c4
  have H1 : (impl_SpanOf.l0 k (([] : List Int)) l1 (l1.length : Int) 0 l0_0 a0_1) = some r := by rw [if_pos rfl] at H; exact H
  clear H
  have H := H1
  clear H1
  obtain ⟨y407, hy407⟩ : ∃ y_ : List Int, y_ = (([] : List Int)) := ⟨_, rfl⟩
  replace H : (impl_SpanOf.l0 k y407 l1 (l1.length : Int) 0 l0_0 a0_1) = some r := by first | (rw [hy407]; with_reducible exact H) | (have H2_ := (Option.bind_some _ _).symm.trans H; rw [hy407]; with_reducible exact H2_) | (have H2_ := (Option.bind_some _ _).symm.trans H; with_reducible exact H2_) | with_reducible exact H | (rw [hy407]; exact H) | exact H
  have Ny407 := Aside0.mk hy407
  clear hy407
  have H' := Aside0.mk H
  clear H
  go_enter Try.func120, Try.ntmps120
  go_wp2_with (first | ((with_reducible refine gate_dst (N := 2) rfl ?_); refine box_event kr_ (N := 2) kr_ (cs := #[.slice A0_0 l0_0.length c0_0, .int .i64 a0_1]) (t := 31) ks_ ?_; intro gb405 hg w1 hbox hb; have BK405 := Aside0.mk (hbox); have GW405 : Aside0 (w.heap.size ≤ gb405) := szl_ hg dz2; have GE405 : Aside0 (w.heap.size ≤ gb405) := szl_ hg dz2; replace HB := Aside0.mk (below_step dz2 hb); clear hb hbox hg; obtain ⟨hcz6_0, hcz6_1, hfz6_0, hfz6_1⟩ := cz2_ BK405) | ((with_reducible refine gate_callee (f := 73) rfl ?_); refine goesL_ (some 10) rfl rfl Try.func73 (by kernel_rfl) rfl #[.agg #[.slice A0_0 l0_0.length c0_0, .int .i64 a0_1], .slice A1 l1.length c1] rfl dz1 ?_; (with_reducible refine (impl_NodesOk.calls k _ _ l0_0 a0_1 _ _ l1 true _ ?side1 ?side2 ?side3 ?side4 A3.out).mono ?_); (case side1 => exact dz462); (case side2 => exact HC0_0.out); (case side3 => exact dz463); (case side4 => exact HC1.out); rintro e w2 ⟨rfl, hb⟩; refine ⟨_, rfl, ?_⟩; replace BK405 := (bkb_ BK405 hb); replace HB := Aside0.mk (below_step dz63 hb); (try clear hb); (try clear hb2); (try clear hk); (try clear hi)) | ((with_reducible refine gate_dst (N := 12) rfl ?_); refine Kd.R_lit (Kd.int .i64) _ 3 ?hg (N := 12) ?hd (xs := ([] : List Int)) (inner := []) (ok := fun _ => True) (okp := fun _ => True) ?hr ?hp (fun _ hk => hk) trivial (Below.refl _ _) (Nat.le_refl _) (by simp) ?_; (case hd => rfl); (case hg => rfl); (case hr => first | (go_simp; done) | (go_simp; rfl)); (case hp => exact (Reps.none _ _)); intro v408 w3 ho9 hb hg_ hnew_; clear hg_ hnew_; (first | rw [← Ny407.out] at ho9 | (simp only [Int.reduceToNat] at ho9; rw [← Ny407.out] at ho9)); have HO409 := Aside0.mk (Kd.R_lower ho9 (below_size dz63)); replace BK405 := (bkb_ BK405 hb); replace HB := Aside0.mk (below_step dz63 hb); clear hb ho9))
  go_loopg [5, 15] k (fun kq v5 v15 w' => ∃ (x5_1 : List Int) (x15_1 : Int), v15 = .int .i64 x15_1 ∧ Aside0 (impl_SpanOf.l0 kq x5_1 l1 (l1.length : Int) x15_1 l0_0 a0_1 = some r) ∧ Aside0 (kq ≤ k) ∧ Aside0 (Kd.R (Kd.int .i64) 3 w' w.heap.size (fun _ => True) v5 x5_1) ∧ Aside0 (w'.heap[gb405]? = some (.cells #[(.slice A0_0 l0_0.length c0_0), .int .i64 a0_1] 31 (0, 0))) ∧ Aside0 (Below w.heap.size w w'))
  case atStart => exact ⟨(y407), (0), dz3, H', ⟨Nat.le_refl _⟩, ⟨by (with_reducible repeat (first | apply Kd.R_alloc | apply Kd.R_drewN | apply Kd.R_drew)); exact HO409.out⟩, ⟨by (with_reducible repeat (first | refine blk_drewN ?_ _ | refine blk_drew ?_ | refine blk_alloc ?_ _)); exact BK405.out⟩, ⟨by repeat (first | (with_reducible first | exact HB.out | apply below_alloc | apply pw_below_drewN | apply below_drew1 | refine below_set ?_ GE405.out) | exact HB.out)⟩⟩
  case round =>
   clear H'
   try clear c1
   try clear p2
   try clear c4
   try clear c7
   try clear hcz6_0
   try clear hcz6_1
   try clear hfz6_0
   try clear hfz6_1
   obtain ⟨x5_1, x15_1, rfl, HA, HK1, HO_5, BK405, HB⟩ := hrel
   cases gk with
   | zero => exact absurd HA.out (by simp [impl_SpanOf.l0])
   | succ k1 =>
    have H := HA.out
    clear HA
    simp only [impl_SpanOf.l0] at H
    by_cases c10 : x15_1 < (l1.length : Int)
    ·rw [if_pos c10] at H
     have c10b0 : decide (x15_1 < (l1.length : Int)) = true := decide_eq_true c10
     clear c10
     by_cases c11 : 0 ≤ x15_1
     ·rw [if_pos c11] at H
      have c11b0 : decide (0 ≤ x15_1) = true := decide_eq_true c11
      clear c11
      by_cases c12 : x15_1 < (l1.length : Int)
      ·rw [if_pos c12] at H
       have c12b0 : decide (x15_1 < (l1.length : Int)) = true := decide_eq_true c12
       clear c12
       by_cases c13 : 0 ≤ (rd l1 x15_1)
       ·rw [if_pos c13] at H
        have c13b0 : decide (0 ≤ (rd l1 x15_1)) = true := decide_eq_true c13
        clear c13
        by_cases c14 : (rd l1 x15_1) < (l0_0.length : Int)
        ·rw [if_pos c14] at H
         have c14b0 : decide ((rd l1 x15_1) < (l0_0.length : Int)) = true := decide_eq_true c14
         clear c14
         replace H := Option.bind_eq_some_iff.mp H
         obtain ⟨t412, A150, H⟩ := H
         replace H : (if t412 = true then (impl_SpanOf.l0 k1 x5_1 l1 (l1.length : Int) (wrap64 (x15_1 + 1)) l0_0 a0_1) else (if x5_1.length < 17592186044416 then (impl_SpanOf.l0 k1 (x5_1 ++ [rd l0_0 (rd l1 x15_1)]) l1 (l1.length : Int) (wrap64 (x15_1 + 1)) l0_0 a0_1) else (none))) = some r := H
         have A15 := Aside0.mk A150
         clear A150
         by_cases c16 : t412 = true
         ·subst c16
          have H1 : (impl_SpanOf.l0 k1 x5_1 l1 (l1.length : Int) (wrap64 (x15_1 + 1)) l0_0 a0_1) = some r := by rw [if_pos rfl] at H; exact H
          clear H
          have H := H1
          clear H1
          have H' := Aside0.mk H
          clear H
          have p410 : 0 ≤ (x15_1 : Int) := of_decide_eq_true dz0
          have q410 : x15_1 < (l1.length : Int) := of_decide_eq_true dz0
          obtain ⟨ad410, e410, hx410_0⟩ := Kd.at_int HR1.out x15_1 p410 q410
          cases e410
          replace hx410_0 := hxl_ HB hx410_0
          replace p410 := eq_true p410
          replace q410 := eq_true q410
          obtain ⟨hcz17_0, hcz17_1, hfz17_0, hfz17_1⟩ := cz2_ BK405
          have p411 : 0 ≤ ((rd l1 x15_1) : Int) := of_decide_eq_true dz0
          have q411 : (rd l1 x15_1) < (l0_0.length : Int) := of_decide_eq_true dz0
          obtain ⟨ad411, e411, hx411_0⟩ := Kd.at_int HR0_0.out (rd l1 x15_1) p411 q411
          cases e411
          replace hx411_0 := hxl_ HB hx411_0
          replace p411 := eq_true p411
          replace q411 := eq_true q411
          obtain ⟨Ao18, co18, eo18⟩ := Kd.R_slice HO_5.out
          subst eo18
          go_wp2_with (first | ((with_reducible refine gate_callee (f := 143) rfl ?_); refine goesL_ (some 25) rfl rfl Try.func143 (by kernel_rfl) rfl #[.slice Ao18 x5_1.length co18, .int .i64 (rd l0_0 (rd l1 x15_1))] rfl dz1 ?_; (with_reducible refine (slices_Contains_int_int.calls k1 _ _ x5_1 (rd l0_0 (rd l1 x15_1)) true _ ?side1 ?side2 A15.out).mono ?_); (case side1 => repeat (first | exact (Kd.R_reads' HO_5.out).2.2 | (with_reducible refine Kd.C_alloc ?_ _) | (with_reducible refine Kd.C_drewN ?_ _) | (with_reducible refine Kd.C_drew ?_))); (case side2 => exact (Kd.R_reads' HO_5.out).2.1); rintro e w' ⟨rfl, ⟨nd, rfl⟩⟩; refine ⟨_, rfl, ?_⟩))
          go_roundg k1
          case measure => have := HK1.out; omega
          case rel => exact ⟨(x5_1), (wrap64 (x15_1 + 1)), dz3, H', ⟨by have := HK1.out; omega⟩, ⟨by (with_reducible repeat (first | apply Kd.R_alloc | apply Kd.R_drewN | apply Kd.R_drew)); exact HO_5.out⟩, ⟨by (with_reducible repeat (first | refine blk_drewN ?_ _ | refine blk_drew ?_ | refine blk_alloc ?_ _)); exact BK405.out⟩, ⟨by repeat (first | (with_reducible first | exact HB.out | apply below_alloc | apply pw_below_drewN | apply below_drew1 | refine below_set ?_ GE405.out) | exact HB.out)⟩⟩
         replace c16 := Bool.eq_false_iff.mpr c16
         subst c16
         have H1 : (if x5_1.length < 17592186044416 then (impl_SpanOf.l0 k1 (x5_1 ++ [rd l0_0 (rd l1 x15_1)]) l1 (l1.length : Int) (wrap64 (x15_1 + 1)) l0_0 a0_1) else (none)) = some r := by rw [if_neg (show ¬ (false = true) by decide)] at H; exact H
         clear H
         have H := H1
         clear H1
         by_cases c19 : x5_1.length < 17592186044416
         ·rw [if_pos c19] at H
          have LMc19 := Aside0.mk c19
          clear c19
          obtain ⟨y414, hy414⟩ : ∃ y_ : List Int, y_ = (x5_1 ++ [rd l0_0 (rd l1 x15_1)]) := ⟨_, rfl⟩
          replace H : (impl_SpanOf.l0 k1 y414 l1 (l1.length : Int) (wrap64 (x15_1 + 1)) l0_0 a0_1) = some r := by first | (rw [hy414]; with_reducible exact H) | (have H2_ := (Option.bind_some _ _).symm.trans H; rw [hy414]; with_reducible exact H2_) | (have H2_ := (Option.bind_some _ _).symm.trans H; with_reducible exact H2_) | with_reducible exact H | (rw [hy414]; exact H) | exact H
          have Ny414 := Aside0.mk hy414
          clear hy414
          have H' := Aside0.mk H
          clear H
          have p410 : 0 ≤ (x15_1 : Int) := of_decide_eq_true dz0
          have q410 : x15_1 < (l1.length : Int) := of_decide_eq_true dz0
          obtain ⟨ad410, e410, hx410_0⟩ := Kd.at_int HR1.out x15_1 p410 q410
          cases e410
          replace hx410_0 := hxl_ HB hx410_0
          replace p410 := eq_true p410
          replace q410 := eq_true q410
          obtain ⟨hcz20_0, hcz20_1, hfz20_0, hfz20_1⟩ := cz2_ BK405
          have p411 : 0 ≤ ((rd l1 x15_1) : Int) := of_decide_eq_true dz0
          have q411 : (rd l1 x15_1) < (l0_0.length : Int) := of_decide_eq_true dz0
          obtain ⟨ad411, e411, hx411_0⟩ := Kd.at_int HR0_0.out (rd l1 x15_1) p411 q411
          cases e411
          replace hx411_0 := hxl_ HB hx411_0
          replace p411 := eq_true p411
          replace q411 := eq_true q411
          obtain ⟨Ao21, co21, eo21⟩ := Kd.R_slice HO_5.out
          subst eo21
          go_wp2_with (first | ((with_reducible refine gate_callee (f := 143) rfl ?_); refine goesL_ (some 25) rfl rfl Try.func143 (by kernel_rfl) rfl #[.slice Ao21 x5_1.length co21, .int .i64 (rd l0_0 (rd l1 x15_1))] rfl dz1 ?_; (with_reducible refine (slices_Contains_int_int.calls k1 _ _ x5_1 (rd l0_0 (rd l1 x15_1)) false _ ?side1 ?side2 A15.out).mono ?_); (case side1 => repeat (first | exact (Kd.R_reads' HO_5.out).2.2 | (with_reducible refine Kd.C_alloc ?_ _) | (with_reducible refine Kd.C_drewN ?_ _) | (with_reducible refine Kd.C_drew ?_))); (case side2 => exact (Kd.R_reads' HO_5.out).2.1); rintro e w' ⟨rfl, ⟨nd, rfl⟩⟩; refine ⟨_, rfl, ?_⟩; have p413 : 0 ≤ ((rd l1 x15_1) : Int) := of_decide_eq_true dz0; have q413 : (rd l1 x15_1) < (l0_0.length : Int) := of_decide_eq_true dz0; obtain ⟨ad413, e413, hx413_0⟩ := Kd.at_int HR0_0.out (rd l1 x15_1) p413 q413; obtain rfl : ad411 = ad413 := (by injection e413); replace hx413_0 := hxl_ HB hx413_0; replace p413 := eq_true p413; replace q413 := eq_true q413) | ((with_reducible refine gate_builtin (b := .append) (xs := #[.tmp 27, .tmp 33]) rfl ?_); at_builtin; refine Kd.R_append (Kd.int .i64) (w0 := w) w.heap.size rfl (.tmp 27) (.tmp 33) 22 3 (.int .i64 0) 8 rfl Try.underlying22 info3 rfl (by decide) (by omega) (.slice Ao21 x5_1.length co21) x5_1 (rd l0_0 (rd l1 x15_1)) [.int .i64 (rd l0_0 (rd l1 x15_1))] (fun _ => True) (fun _ => False) rfl rfl ?aP (fun _ hk => hk.elim) ?aF ?aO ?aB ?aS ?aL ?_; (case aP => exact rfl); (case aB => exact dz63); (case aF => exact (fun _ _ => trivial)); (case aO => exact dz70); (case aS => exact (below_size dz63)); (case aL => have := LMc19.out; omega); intro v415 w22 ho hb hg hat; rw [← Ny414.out] at ho; replace BK405 := Aside0.mk (blk_grown (g := gb405) (o := .cells #[.slice (some ad411) l0_0.length c0_0, .int .i64 a0_1] 31 (0, 0)) (by (with_reducible repeat (first | refine blk_drewN ?_ _ | refine blk_drew ?_ | refine blk_alloc ?_ _)); exact BK405.out) hg (Kd.R_ne HO_5.out BK405.out (by decide))); replace HB := Aside0.mk (hb); have HO416 := Aside0.mk (ho); clear HO_5; clear ho hb hg hat))
          go_roundg k1
          case measure => have := HK1.out; omega
          case rel => exact ⟨(y414), (wrap64 (x15_1 + 1)), dz3, H', ⟨by have := HK1.out; omega⟩, ⟨by (with_reducible repeat (first | apply Kd.R_alloc | apply Kd.R_drewN | apply Kd.R_drew)); exact HO416.out⟩, ⟨by (with_reducible repeat (first | refine blk_drewN ?_ _ | refine blk_drew ?_ | refine blk_alloc ?_ _)); exact BK405.out⟩, ⟨by repeat (first | (with_reducible first | exact HB.out | apply below_alloc | apply pw_below_drewN | apply below_drew1 | refine below_set ?_ GE405.out) | exact HB.out)⟩⟩
         rw [if_neg c19] at H
         exact absurd H (by simp)
        rw [if_neg c14] at H
        exact absurd H (by simp)
       rw [if_neg c13] at H
       exact absurd H (by simp)
      rw [if_neg c12] at H
      exact absurd H (by simp)
     rw [if_neg c11] at H
     exact absurd H (by simp)
    rw [if_neg c10] at H
    have c10b0 : decide (x15_1 < (l1.length : Int)) = false := decide_eq_false c10
    clear c10
    obtain rfl := Option.some.inj H
    obtain ⟨Ao23, co23, eo23⟩ := Kd.R_slice HO_5.out
    subst eo23
    go_wp2
    go_ret
    exact dz512
 replace c4 := Bool.eq_false_iff.mpr c4
 subst c4
 have H1 : (some (-1)) = some r := by rw [if_neg (show ¬ (false = true) by decide)] at H; exact H
 clear H
 have H := H1
 clear H1
 obtain rfl := Option.some.inj H
 go_enter Try.func120, Try.ntmps120
 go_wp2_with (first | ((with_reducible refine gate_dst (N := 2) rfl ?_); refine box_event kr_ (N := 2) kr_ (cs := #[.slice A0_0 l0_0.length c0_0, .int .i64 a0_1]) (t := 31) ks_ ?_; intro gb405 hg w1 hbox hb; have BK405 := Aside0.mk (hbox); have GW405 : Aside0 (w.heap.size ≤ gb405) := szl_ hg dz2; have GE405 : Aside0 (w.heap.size ≤ gb405) := szl_ hg dz2; replace HB := Aside0.mk (below_step dz2 hb); clear hb hbox hg; obtain ⟨hcz25_0, hcz25_1, hfz25_0, hfz25_1⟩ := cz2_ BK405) | ((with_reducible refine gate_callee (f := 73) rfl ?_); refine goesL_ (some 10) rfl rfl Try.func73 (by kernel_rfl) rfl #[.agg #[.slice A0_0 l0_0.length c0_0, .int .i64 a0_1], .slice A1 l1.length c1] rfl dz1 ?_; (with_reducible refine (impl_NodesOk.calls k _ _ l0_0 a0_1 _ _ l1 false _ ?side1 ?side2 ?side3 ?side4 A3.out).mono ?_); (case side1 => exact dz462); (case side2 => exact HC0_0.out); (case side3 => exact dz463); (case side4 => exact HC1.out); rintro e w2 ⟨rfl, hb⟩; refine ⟨_, rfl, ?_⟩; replace BK405 := (bkb_ BK405 hb); replace HB := Aside0.mk (below_step dz63 hb); (try clear hb); (try clear hb2); (try clear hk); (try clear hi)))
 go_ret
 exact dz512
def impl_Holds.f (k : Nat) (l0_0 : List Int) (a0_1 : Int) (l1 : List Int) : Option (Bool) := (impl_NodesOk.f k l0_0 a0_1 l1).bind fun t418 => (if t418 = true then ((impl_SpanOf.f k l0_0 a0_1 l1).bind fun t419 => (some (decide (t419 ≥ a0_1)))) else (some false))
def impl_Holds.T1 : Bool × List (List Nat × List Nat) := (true, [([], []), ([], []), ([0, 1], [0, 1]), ([2, 2], [2]), ([3], [3]), ([3], [3]), ([4, 5, 3, 3], [3, 4, 5]), ([3], [3]), ([7, 3], [3, 7]), ([6, 8, 3], [3, 6, 8]), ([3, 9], [3, 9]), ([10, 6, 0, 1, 2, 3, 4, 5, 6, 7, 8, 9, 10], [10])])
def impl_Holds.B1 : List Nat := [0, 0, 3, 7, 15, 15, 63, 15, 143, 511, 1023, 2047]
theorem impl_Holds.tab1 : rtab .any (opsOf Try.f74 1) = impl_Holds.T1 := by kernel_rfl
theorem impl_Holds.bits1 : waitsOk impl_Holds.T1.2 impl_Holds.B1 = true := by kernel_rfl
set_option maxHeartbeats 8000000 in
set_option maxRecDepth 100000 in
theorem impl_Holds.calls (k : Nat) (A0_0 : Option Addr) (c0_0 : Nat) (l0_0 : List Int) (a0_1 : Int) (A1 : Option Addr) (c1 : Nat) (l1 : List Int) (r : Bool) (w : World) (hr0_0 : Kd.C (Kd.int .i64) w A0_0 l0_0.length l0_0) (hc0_0 : l0_0.length ≤ c0_0) (hr1 : Kd.C (Kd.int .i64) w A1 l1.length l1) (hc1 : l1.length ≤ c1) (h : impl_Holds.f k l0_0 a0_1 l1 = some r) :
  Calls Try.prog 74 #[.agg #[.slice A0_0 l0_0.length c0_0, .int .i64 a0_1], .slice A1 l1.length c1] w fun e w' => e = .returned (.bool r) ∧ Below w.heap.size w w' := by
 have hu31 := Try.underlying31
 have HR0_0 := Aside0.mk hr0_0
 have HC0_0 := Aside0.mk hc0_0
 clear hr0_0 hc0_0
 have HR1 := Aside0.mk hr1
 have HC1 := Aside0.mk hc1
 clear hr1 hc1
 have HB := Aside0.mk (Below.refl w.heap.size w)
 have H : ((impl_NodesOk.f k l0_0 a0_1 l1).bind fun t418 => (if t418 = true then ((impl_SpanOf.f k l0_0 a0_1 l1).bind fun t419 => (some (decide (t419 ≥ a0_1)))) else (some false))) = some r := h
 clear h
 replace H := Option.bind_eq_some_iff.mp H
 obtain ⟨t418, A30, H⟩ := H
 replace H : (if t418 = true then ((impl_SpanOf.f k l0_0 a0_1 l1).bind fun t419 => (some (decide (t419 ≥ a0_1)))) else (some false)) = some r := H
 have A3 := Aside0.mk A30
 clear A30
 by_cases c4 : t418 = true
 ·subst c4
  have H1 : ((impl_SpanOf.f k l0_0 a0_1 l1).bind fun t419 => (some (decide (t419 ≥ a0_1)))) = some r := by rw [if_pos rfl] at H; exact H
  clear H
  have H := H1
  clear H1
  replace H := Option.bind_eq_some_iff.mp H
  obtain ⟨t419, A50, H⟩ := H
  replace H : (some (decide (t419 ≥ a0_1))) = some r := H
  have A5 := Aside0.mk A50
  clear A50
  obtain rfl := Option.some.inj H
  go_enter Try.func74, Try.ntmps74
  try go_wp2_with (first | ((with_reducible refine gate_dst (N := 2) rfl ?_); refine box_event kr_ (N := 2) kr_ (cs := #[.slice A0_0 l0_0.length c0_0, .int .i64 a0_1]) (t := 31) ks_ ?_; intro gb417 hg w1 hbox hb; have BK417 := Aside0.mk (hbox); have GW417 : Aside0 (w.heap.size ≤ gb417) := szl_ hg dz2; have GE417 : Aside0 (w.heap.size ≤ gb417) := szl_ hg dz2; replace HB := Aside0.mk (below_step dz2 hb); clear hb hbox hg))
  replace BK417 := Aside0.mk (blk_drew BK417.out)
  replace HB := Aside0.mk (below_drew1 HB.out)
  refine start_ (n := 12) (S := fun w' => w'.cell? ⟨gb417, 0, none⟩ = some (.slice A0_0 l0_0.length c0_0) ∧ w'.cell? ⟨gb417, 1, none⟩ = some (.int .i64 a0_1)) (ds := []) (fl_ 0 12) (by kernel_rfl) rfl rfl ⟨(blk_cell BK417.out 0).trans rfl, (blk_cell BK417.out 1).trans rfl⟩ (fun hHeld => ?_); refine with_tabW impl_Holds.tab1 impl_Holds.bits1 (fun HT_ HW_ => ?_)
  generalize w1.drew = w2 at BK417 HB hHeld ⊢
  refine pure_ (i := 1) (N := some 6) (v := ?_) (a' := ?_) #[false, true, false, false, false, false, false, false, false, false, false, false] rfl rfl (any_of HT_.out (by kernel_rfl)) (fun _ _ _ h => h) (Or.inl ⟨by rfl, ?_⟩) ?_ ?_
  rotate_left
  ·exact dz489
  rotate_left
  ·exact dz490
  refine take_ (i := 0) (N := some 5) (v := ?_) (a' := ?_) (fl_ 2 10) rfl rfl (take_ofW HT_.out HW_.out (by kernel_rfl)) (fun _ _ _ h => h) (Or.inl ⟨by rfl, ?_⟩) hHeld ?_ ?_
  rotate_left
  ·exact dz491
  rotate_left
  ·exact dz490
  refine one_ (i := 2) (N := some 7) (fl_ 3 9) rfl rfl (one_of HT_.out (by kernel_rfl)) (by decide) (fun K hK => ?_)
  refine goes_ Try.func73 (by kernel_rfl) rfl #[.agg #[.slice A0_0 l0_0.length c0_0, .int .i64 a0_1], .slice A1 l1.length c1] (by rfl) rfl rfl dz1 ?_
  with_reducible refine (impl_NodesOk.calls k _ _ l0_0 a0_1 _ _ l1 true _ ?side1 ?side2 ?side3 ?side4 A3.out).mono ?_
  (case side1 => exact dz462)
  (case side2 => exact HC0_0.out)
  (case side3 => exact dz463)
  (case side4 => exact HC1.out)
  rintro e w8 ⟨rfl, hb⟩
  refine ⟨_, rfl, ?_⟩
  replace BK417 := (bkb_ BK417 hb)
  replace HB := Aside0.mk (below_step dz115 hb)
  (try clear hb)
  (try clear hb2)
  (try clear hk)
  (try clear hi)
  refine hK.out _ _ ⟨(blk_cell BK417.out 0).trans rfl, (blk_cell BK417.out 1).trans rfl⟩ (fun hHeld => ?_)
  clear hK K
  refine norm_ (a' := ?_) ?_ ?_
  rotate_left
  ·exact dz493
  refine pure_ (i := 3) (N := some 8) (v := ?_) (a' := ?_) (fl_ 4 8) rfl rfl (any_of HT_.out (by kernel_rfl)) (fun _ _ _ h => h) (Or.inl ⟨by rfl, ?_⟩) ?_ ?_
  rotate_left
  ·exact dz489
  rotate_left
  ·exact dz490
  refine pure_ (i := 5) (N := some 10) (v := ?_) (a' := ?_) #[true, true, true, true, false, true, false, false, false, false, false, false] rfl rfl (any_of HT_.out (by kernel_rfl)) (fun _ _ _ h => h) (Or.inl ⟨by rfl, ?_⟩) ?_ ?_
  rotate_left
  ·exact dz489
  rotate_left
  ·exact dz490
  refine pure_ (i := 7) (N := some 12) (v := ?_) (a' := ?_) #[true, true, true, true, false, true, false, true, false, false, false, false] rfl rfl (any_of HT_.out (by kernel_rfl)) (fun _ _ _ h => h) (Or.inl ⟨by rfl, ?_⟩) ?_ ?_
  rotate_left
  ·exact dz489
  rotate_left
  ·exact dz490
  refine take_ (i := 4) (N := some 9) (v := ?_) (a' := ?_) #[true, true, true, true, true, true, false, true, false, false, false, false] rfl rfl (take_ofW HT_.out HW_.out (by kernel_rfl)) (fun _ _ _ h => h) (Or.inl ⟨by rfl, ?_⟩) hHeld ?_ ?_
  rotate_left
  ·exact dz491
  rotate_left
  ·exact dz490
  refine take_ (i := 8) (N := some 13) (v := ?_) (a' := ?_) #[true, true, true, true, true, true, false, true, true, false, false, false] rfl rfl (take_ofW HT_.out HW_.out (by kernel_rfl)) (fun _ _ _ h => h) (Or.inl ⟨by rfl, ?_⟩) hHeld ?_ ?_
  rotate_left
  ·exact dz491
  rotate_left
  ·exact dz490
  refine one_ (i := 6) (N := some 11) (fl_ 9 3) rfl rfl (one_of HT_.out (by kernel_rfl)) (by decide) (fun K hK => ?_)
  refine goes_ Try.func120 (by kernel_rfl) rfl #[.agg #[.slice A0_0 l0_0.length c0_0, .int .i64 a0_1], .slice A1 l1.length c1] (by rfl) rfl rfl dz1 ?_
  with_reducible refine (impl_SpanOf.calls k _ _ l0_0 a0_1 _ _ l1 t419 _ ?side1 ?side2 ?side3 ?side4 A5.out).mono ?_
  (case side1 => exact dz462)
  (case side2 => exact HC0_0.out)
  (case side3 => exact dz463)
  (case side4 => exact HC1.out)
  rintro e w9 ⟨rfl, hb⟩
  refine ⟨_, rfl, ?_⟩
  replace BK417 := (bkb_ BK417 hb)
  replace HB := Aside0.mk (below_step dz115 hb)
  (try clear hb)
  (try clear hb2)
  (try clear hk)
  (try clear hi)
  refine hK.out _ _ ⟨(blk_cell BK417.out 0).trans rfl, (blk_cell BK417.out 1).trans rfl⟩ (fun hHeld => ?_)
  clear hK K
  refine norm_ (a' := ?_) ?_ ?_
  rotate_left
  ·show Act.put _ (some 11) _ = _
   simp only [Act.put, List.setIfInBounds_toArray, List.set_cons_zero, List.set_cons_succ, i64_w, i32_w]
   rfl
  refine pure_ (i := 9) (N := some 14) (v := ?_) (a' := ?_) (fl_ 10 2) rfl rfl (any_of HT_.out (by kernel_rfl)) (fun _ _ _ h => h) (Or.inl ⟨by rfl, ?_⟩) ?_ ?_
  rotate_left
  ·exact dz489
  rotate_left
  ·exact dz490
  refine pure_ (i := 10) (N := some 15) (v := ?_) (a' := ?_) (fl_ 11 1) rfl rfl (any_of HT_.out (by kernel_rfl)) (fun _ _ _ h => h) (Or.inl ⟨by rfl, ?_⟩) ?_ ?_
  rotate_left
  ·exact dz489
  rotate_left
  ·exact dz490
  refine pure_ (i := 11) (N := some 4) (v := ?_) (a' := ?_) (fl_ 12 0) rfl rfl (any_of HT_.out (by kernel_rfl)) (fun _ _ _ h => h) (Or.inl ⟨by rfl, ?_⟩) ?_ ?_
  rotate_left
  ·exact dz489
  rotate_left
  ·exact dz490
  refine done_ (done_of HT_.out (by kernel_rfl)) ?_
  try go_wp2
  go_ret
  exact dz513
 replace c4 := Bool.eq_false_iff.mpr c4
 subst c4
 have H1 : (some false) = some r := by rw [if_neg (show ¬ (false = true) by decide)] at H; exact H
 clear H
 have H := H1
 clear H1
 obtain rfl := Option.some.inj H
 go_enter Try.func74, Try.ntmps74
 try go_wp2_with (first | ((with_reducible refine gate_dst (N := 2) rfl ?_); refine box_event kr_ (N := 2) kr_ (cs := #[.slice A0_0 l0_0.length c0_0, .int .i64 a0_1]) (t := 31) ks_ ?_; intro gb417 hg w1 hbox hb; have BK417 := Aside0.mk (hbox); have GW417 : Aside0 (w.heap.size ≤ gb417) := szl_ hg dz2; have GE417 : Aside0 (w.heap.size ≤ gb417) := szl_ hg dz2; replace HB := Aside0.mk (below_step dz2 hb); clear hb hbox hg))
 replace BK417 := Aside0.mk (blk_drew BK417.out)
 replace HB := Aside0.mk (below_drew1 HB.out)
 refine start_ (n := 12) (S := fun w' => w'.cell? ⟨gb417, 0, none⟩ = some (.slice A0_0 l0_0.length c0_0) ∧ w'.cell? ⟨gb417, 1, none⟩ = some (.int .i64 a0_1)) (ds := []) (fl_ 0 12) (by kernel_rfl) rfl rfl ⟨(blk_cell BK417.out 0).trans rfl, (blk_cell BK417.out 1).trans rfl⟩ (fun hHeld => ?_); refine with_tabW impl_Holds.tab1 impl_Holds.bits1 (fun HT_ HW_ => ?_)
 generalize w1.drew = w2 at BK417 HB hHeld ⊢
 refine pure_ (i := 1) (N := some 6) (v := ?_) (a' := ?_) #[false, true, false, false, false, false, false, false, false, false, false, false] rfl rfl (any_of HT_.out (by kernel_rfl)) (fun _ _ _ h => h) (Or.inl ⟨by rfl, ?_⟩) ?_ ?_
 rotate_left
 ·exact dz489
 rotate_left
 ·exact dz490
 refine take_ (i := 0) (N := some 5) (v := ?_) (a' := ?_) (fl_ 2 10) rfl rfl (take_ofW HT_.out HW_.out (by kernel_rfl)) (fun _ _ _ h => h) (Or.inl ⟨by rfl, ?_⟩) hHeld ?_ ?_
 rotate_left
 ·exact dz491
 rotate_left
 ·exact dz490
 refine one_ (i := 2) (N := some 7) (fl_ 3 9) rfl rfl (one_of HT_.out (by kernel_rfl)) (by decide) (fun K hK => ?_)
 refine goes_ Try.func73 (by kernel_rfl) rfl #[.agg #[.slice A0_0 l0_0.length c0_0, .int .i64 a0_1], .slice A1 l1.length c1] (by rfl) rfl rfl dz1 ?_
 with_reducible refine (impl_NodesOk.calls k _ _ l0_0 a0_1 _ _ l1 false _ ?side1 ?side2 ?side3 ?side4 A3.out).mono ?_
 (case side1 => exact dz462)
 (case side2 => exact HC0_0.out)
 (case side3 => exact dz463)
 (case side4 => exact HC1.out)
 rintro e w12 ⟨rfl, hb⟩
 refine ⟨_, rfl, ?_⟩
 replace BK417 := (bkb_ BK417 hb)
 replace HB := Aside0.mk (below_step dz115 hb)
 (try clear hb)
 (try clear hb2)
 (try clear hk)
 (try clear hi)
 refine hK.out _ _ ⟨(blk_cell BK417.out 0).trans rfl, (blk_cell BK417.out 1).trans rfl⟩ (fun hHeld => ?_)
 clear hK K
 refine norm_ (a' := ?_) ?_ ?_
 rotate_left
 ·exact dz493
 refine pure_ (i := 3) (N := some 8) (v := ?_) (a' := ?_) (fl_ 4 8) rfl rfl (any_of HT_.out (by kernel_rfl)) (fun _ _ _ h => h) (Or.inl ⟨by rfl, ?_⟩) ?_ ?_
 rotate_left
 ·exact dz489
 rotate_left
 ·exact dz490
 refine pure_ (i := 4) (N := some 9) (v := undef) (a' := ?_) (fl_ 5 7) rfl rfl (any_of HT_.out (by kernel_rfl)) (fun _ _ _ h => h) (Or.inr ⟨by rfl, rfl⟩) ?_ ?_
 rotate_left
 ·exact dz490
 refine pure_ (i := 5) (N := some 10) (v := undef) (a' := ?_) (fl_ 6 6) rfl rfl (any_of HT_.out (by kernel_rfl)) (fun _ _ _ h => h) (Or.inr ⟨by rfl, rfl⟩) ?_ ?_
 rotate_left
 ·exact dz490
 refine pure_ (i := 6) (N := some 11) (v := undef) (a' := ?_) (fl_ 7 5) rfl rfl (any_of HT_.out (by kernel_rfl)) (fun _ _ _ h => h) (Or.inr ⟨by rfl, rfl⟩) ?_ ?_
 rotate_left
 ·exact dz490
 refine pure_ (i := 7) (N := some 12) (v := undef) (a' := ?_) (fl_ 8 4) rfl rfl (any_of HT_.out (by kernel_rfl)) (fun _ _ _ h => h) (Or.inr ⟨by rfl, rfl⟩) ?_ ?_
 rotate_left
 ·exact dz490
 refine pure_ (i := 8) (N := some 13) (v := undef) (a' := ?_) (fl_ 9 3) rfl rfl (any_of HT_.out (by kernel_rfl)) (fun _ _ _ h => h) (Or.inr ⟨by rfl, rfl⟩) ?_ ?_
 rotate_left
 ·exact dz490
 refine pure_ (i := 9) (N := some 14) (v := undef) (a' := ?_) (fl_ 10 2) rfl rfl (any_of HT_.out (by kernel_rfl)) (fun _ _ _ h => h) (Or.inr ⟨by rfl, rfl⟩) ?_ ?_
 rotate_left
 ·exact dz490
 refine pure_ (i := 10) (N := some 15) (v := ?_) (a' := ?_) (fl_ 11 1) rfl rfl (any_of HT_.out (by kernel_rfl)) (fun _ _ _ h => h) (Or.inl ⟨by rfl, ?_⟩) ?_ ?_
 rotate_left
 ·exact dz489
 rotate_left
 ·exact dz490
 refine pure_ (i := 11) (N := some 4) (v := ?_) (a' := ?_) (fl_ 12 0) rfl rfl (any_of HT_.out (by kernel_rfl)) (fun _ _ _ h => h) (Or.inl ⟨by rfl, ?_⟩) ?_ ?_
 rotate_left
 ·exact dz489
 rotate_left
 ·exact dz490
 refine done_ (done_of HT_.out (by kernel_rfl)) ?_
 try go_wp2
 go_ret
 exact dz513
def impl_flagNum.f (a0 : Bool) : Option (Int) := if a0 = true then (some 1) else (some 0)
set_option maxHeartbeats 8000000 in
set_option maxRecDepth 100000 in
theorem impl_flagNum.calls (a0 : Bool) (r : Int) (w : World) (h : impl_flagNum.f a0 = some r) :
  Calls Try.prog 75 #[.bool a0] w fun e w' => e = .returned (.int .i64 r) ∧ Drawn0 w w' := by
 have H : (if a0 = true then (some 1) else (some 0)) = some r := h
 clear h
 by_cases c2 : a0 = true
 ·subst c2
  have H1 : (some 1) = some r := by rw [if_pos rfl] at H; exact H
  clear H
  have H := H1
  clear H1
  obtain rfl := Option.some.inj H
  go_enter Try.func75, Try.ntmps75
  go_wp2
  go_ret
  exact dz503
 replace c2 := Bool.eq_false_iff.mpr c2
 subst c2
 have H1 : (some 0) = some r := by rw [if_neg (show ¬ (false = true) by decide)] at H; exact H
 clear H
 have H := H1
 clear H1
 obtain rfl := Option.some.inj H
 go_enter Try.func75, Try.ntmps75
 go_wp2
 go_ret
 exact dz503
def impl_isEpoch.f (a0 : Int) : Option (Bool) := (impl_within.f a0 1 30).bind fun t420 => (some t420)
set_option maxHeartbeats 8000000 in
set_option maxRecDepth 100000 in
theorem impl_isEpoch.calls (a0 : Int) (r : Bool) (w : World) (h : impl_isEpoch.f a0 = some r) :
  Calls Try.prog 76 #[.int .i64 a0] w fun e w' => e = .returned (.bool r) ∧ Drawn0 w w' := by
 have H : ((impl_within.f a0 1 30).bind fun t420 => (some t420)) = some r := h
 clear h
 replace H := Option.bind_eq_some_iff.mp H
 obtain ⟨t420, A20, H⟩ := H
 replace H : (some t420) = some r := H
 have A2 := Aside0.mk A20
 clear A20
 obtain rfl := Option.some.inj H
 go_enter Try.func76, Try.ntmps76
 go_wp2_with (first | ((with_reducible refine gate_callee (f := 58) rfl ?_); refine goesL_ (some 4) rfl rfl Try.func58 (by kernel_rfl) rfl #[.int .i64 a0, .int .i64 1, .int .i64 30] rfl dz1 ?_; (with_reducible refine (impl_within.calls a0 1 30 t420 _ A2.out).mono ?_); rintro e w' ⟨rfl, ⟨nd, rfl⟩⟩; refine ⟨_, rfl, ?_⟩))
 go_ret
 exact dz503
end Go.Proofs.Ytdkdhciogedoiab.PFnAdded
