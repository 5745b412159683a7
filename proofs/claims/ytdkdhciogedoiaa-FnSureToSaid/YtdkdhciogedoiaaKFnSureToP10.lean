-- Written by wip/gen/pack.py of this repo. Lean checks it.
import Derived.Test.YtdkdhciogedoiaaKFnSureToP0
import Derived.Test.YtdkdhciogedoiaaKFnSureToP1
import Derived.Test.YtdkdhciogedoiaaKFnSureToP9
import Derived.Test.YtdkdhciogedoiaaKFnSureToD
namespace Go.Proofs.Ytdkdhciogedoiaa.PFnSureTo
open Go.RowKit Go.Proofs.YtdkdhciogedoiaaW.PrintWords Go.Proofs.YtdkdhciogedoiaaW.PrintLast Go.Proofs.YtdkdhciogedoiaaW.PrintMore Go.Proofs.YtdkdhciogedoiaaW.Sq
attribute [local go_sem] max2_int min2_int max_two min_two max_three min_three max_four min_four
set_option linter.unusedVariables false
set_option linter.unusedSimpArgs false
mutual
def laws_FnSureTo.j0 : Nat → Int → Bool → Int → List (S53) → Option (Bool)
 | 0, _, _, _, _ => none
 | k + 1, x4, x26, x352000, x352001 => if x26 = true then (none) else (laws_FnSureTo.l0 k x4 0 x352000 x352001)
def laws_FnSureTo.l0 : Nat → Int → Int → Int → List (S53) → Option (Bool)
 | 0, _, _, _, _ => none
 | k + 1, x4, x5, x352000, x352001 => if x5 < x4 then (if 0 ≤ x5 then (if x5 < (x352001.length : Int) then (if ((rd_T53 x352001 x5).f2 = true) then (laws_FnSureTo.l0 k x4 (wrap64 (x5 + 1)) x352000 x352001) else (none)) else (none)) else (none)) else (if x4 = (x352001.length : Int) then (some true) else (if 0 ≤ x4 then (if x4 < (x352001.length : Int) then (some (!((rd_T53 x352001 x4).f2))) else (none)) else (none)))
end
def laws_FnSureTo.f (k : Nat) (l0 : List Int) : Option (Bool) := (laws_big.f l0).bind fun t346 => (if t346 = true then (some true) else ((spec_DrawWriterSure.f k l0).bind fun bt347 => ((impl_WriterSure.f k bt347.1 bt347.2).bind fun t352 => ((spec_WriterSure.f k bt347.1 bt347.2).bind fun t353 => (if t352 = t353 then (if t352 < 0 then (laws_FnSureTo.j0 k t352 true bt347.1 bt347.2) else (laws_FnSureTo.j0 k t352 (decide (t352 > (bt347.2.length : Int))) bt347.1 bt347.2)) else (laws_FnSureTo.j0 k t352 true bt347.1 bt347.2))))))
set_option maxHeartbeats 8000000 in
set_option maxRecDepth 100000 in
theorem laws_FnSureTo.calls (k : Nat) (A0 : Option Addr) (c0 : Nat) (l0 : List Int) (r : Bool) (w : World) (hr0 : Kd.C (Kd.int .u8) w A0 l0.length l0) (hc0 : l0.length ≤ c0) (h : laws_FnSureTo.f k l0 = some r) :
  Calls Try.prog 5 #[.slice A0 l0.length c0] w fun e w' => e = .returned (.bool r) ∧ Below w.heap.size w w' := by
 have hu49 := Try.underlying49
 have HR0 := Aside0.mk hr0
 have HC0 := Aside0.mk hc0
 clear hr0 hc0
 have HB := Aside0.mk (Below.refl w.heap.size w)
 have H : ((laws_big.f l0).bind fun t346 => (if t346 = true then (some true) else ((spec_DrawWriterSure.f k l0).bind fun bt347 => ((impl_WriterSure.f k bt347.1 bt347.2).bind fun t352 => ((spec_WriterSure.f k bt347.1 bt347.2).bind fun t353 => (if t352 = t353 then (if t352 < 0 then (laws_FnSureTo.j0 k t352 true bt347.1 bt347.2) else (laws_FnSureTo.j0 k t352 (decide (t352 > (bt347.2.length : Int))) bt347.1 bt347.2)) else (laws_FnSureTo.j0 k t352 true bt347.1 bt347.2))))))) = some r := h
 clear h
 replace H := Option.bind_eq_some_iff.mp H
 obtain ⟨t346, A20, H⟩ := H
 replace H : (if t346 = true then (some true) else ((spec_DrawWriterSure.f k l0).bind fun bt347 => ((impl_WriterSure.f k bt347.1 bt347.2).bind fun t352 => ((spec_WriterSure.f k bt347.1 bt347.2).bind fun t353 => (if t352 = t353 then (if t352 < 0 then (laws_FnSureTo.j0 k t352 true bt347.1 bt347.2) else (laws_FnSureTo.j0 k t352 (decide (t352 > (bt347.2.length : Int))) bt347.1 bt347.2)) else (laws_FnSureTo.j0 k t352 true bt347.1 bt347.2)))))) = some r := H
 have A2 := Aside0.mk A20
 clear A20
 by_cases c3 : t346 = true
 ·subst c3
  have H1 : (some true) = some r := by rw [if_pos rfl] at H; exact H
  clear H
  have H := H1
  clear H1
  obtain rfl := Option.some.inj H
  go_enter Try.func5, Try.ntmps5
  go_wp2_with (first | ((with_reducible refine gate_callee (f := 23) rfl ?_); refine goesL_ (some 7) rfl rfl Try.func23 (by kernel_rfl) rfl #[.slice A0 l0.length c0] rfl dz1 ?_; (with_reducible refine (laws_big.calls _ _ l0 true _ ?side1 ?side2 A2.out).mono ?_); (case side1 => exact dz309); (case side2 => exact HC0.out); rintro e w' ⟨rfl, ⟨nd, rfl⟩⟩; refine ⟨_, rfl, ?_⟩))
  go_ret
  exact ⟨by first | rfl | (simp [errW_none, errW_some] <;> rfl) | (simp [*, errW_none, errW_some] <;> rfl), by repeat (first | (with_reducible first | exact HB.out | apply below_alloc | apply pw_below_drewN | apply below_drew1) | exact HB.out)⟩
 replace c3 := Bool.eq_false_iff.mpr c3
 subst c3
 have H1 : ((spec_DrawWriterSure.f k l0).bind fun bt347 => ((impl_WriterSure.f k bt347.1 bt347.2).bind fun t352 => ((spec_WriterSure.f k bt347.1 bt347.2).bind fun t353 => (if t352 = t353 then (if t352 < 0 then (laws_FnSureTo.j0 k t352 true bt347.1 bt347.2) else (laws_FnSureTo.j0 k t352 (decide (t352 > (bt347.2.length : Int))) bt347.1 bt347.2)) else (laws_FnSureTo.j0 k t352 true bt347.1 bt347.2))))) = some r := by rw [if_neg (show ¬ (false = true) by decide)] at H; exact H
 clear H
 have H := H1
 clear H1
 replace H := Option.bind_eq_some_iff.mp H
 obtain ⟨⟨t347, t348⟩, A40, H⟩ := H
 replace H : ((impl_WriterSure.f k t347 t348).bind fun t352 => ((spec_WriterSure.f k t347 t348).bind fun t353 => (if t352 = t353 then (if t352 < 0 then (laws_FnSureTo.j0 k t352 true t347 t348) else (laws_FnSureTo.j0 k t352 (decide (t352 > (t348.length : Int))) t347 t348)) else (laws_FnSureTo.j0 k t352 true t347 t348)))) = some r := H
 have A4 := Aside0.mk A40
 clear A40
 replace H := Option.bind_eq_some_iff.mp H
 obtain ⟨t352, A50, H⟩ := H
 replace H : ((spec_WriterSure.f k t347 t348).bind fun t353 => (if t352 = t353 then (if t352 < 0 then (laws_FnSureTo.j0 k t352 true t347 t348) else (laws_FnSureTo.j0 k t352 (decide (t352 > (t348.length : Int))) t347 t348)) else (laws_FnSureTo.j0 k t352 true t347 t348))) = some r := H
 have A5 := Aside0.mk A50
 clear A50
 have HC6 := Aside0.mk H
 clear H
 go_enter Try.func5, Try.ntmps5
 go_upto_region 5 with (first | ((with_reducible refine gate_callee (f := 23) rfl ?_); refine goesL_ (some 7) rfl rfl Try.func23 (by kernel_rfl) rfl #[.slice A0 l0.length c0] rfl dz1 ?_; (with_reducible refine (laws_big.calls _ _ l0 false _ ?side1 ?side2 A2.out).mono ?_); (case side1 => exact dz309); (case side2 => exact HC0.out); rintro e w' ⟨rfl, ⟨nd, rfl⟩⟩; refine ⟨_, rfl, ?_⟩) | ((with_reducible refine gate_callee (f := 24) rfl ?_); refine goesL_ (some 9) rfl rfl Try.func24 (by kernel_rfl) rfl #[.slice A0 l0.length c0] rfl dz1 ?_; (with_reducible refine (spec_DrawWriterSure.calls k _ _ l0 t347 t348 _ ?side1 ?side2 A4.out).mono ?_); (case side1 => exact dz309); (case side2 => exact HC0.out); rintro e w1 ⟨v349, rfl, ho0, hb⟩; refine ⟨_, rfl, ?_⟩; have HO350 := Aside0.mk (Kd.N_lower (Kd.N_mono (ok' := fun k_ => True) ho0 (fun k_ hk_ => trivial)) (below_size dz2)); replace HB := Aside0.mk (below_step dz2 hb); (try clear hb); (try clear hb2); (try clear hk); (try clear hi); (try clear ho0)) | ((with_reducible refine gate_dst (N := 3) rfl ?_); (try (refine gate_guard (by rfl) ?_; dsimp only)); refine box_event kr_ (N := 3) kr_ (cs := #[.int .i64 0, .slice none 0 0]) (t := 49) ks_ ?_; intro gb351 hg w2 hbox hb; replace HO350 := Aside0.mk (Kd.N_below (Kd.N_elderB dz62 gb351 (Nat.le_of_eq hg.symm)) hb); have BK351 := Aside0.mk (hbox); have GW351 : Aside0 (w.heap.size ≤ gb351) := szl_ hg dz2; have GE351 : Aside0 (w.heap.size ≤ gb351) := szl_ hg dz2; replace HB := Aside0.mk (below_step dz2 hb); clear hb hbox hg; obtain ⟨hcz9_0, hcz9_1, hfz9_0, hfz9_1⟩ := cz2_ BK351; obtain ⟨Ao10, co10, eo10⟩ := Kd.N_slice HO350.out; subst eo10) | ((with_reducible refine gate_callee (f := 25) rfl ?_); refine goesL_ (some 11) rfl rfl Try.func25 (by kernel_rfl) rfl #[.agg #[.int .i64 t347, .slice Ao10 t348.length co10]] rfl dz1 ?_; (with_reducible refine (impl_WriterSure.calls k t347 _ _ t348 t352 _ ?side1 ?side2 A5.out).mono ?_); (case side1 => refine (Kd.N_reads' (e := 53) (base := w.heap.size) (ok := fun k_ => (True ∧ k_ ≠ gb351)) (n := t348.length) (c := co10) ?_).2.2; exact dz100); (case side2 => exact (Kd.N_reads' HO350.out).2.1); rintro e w11 ⟨rfl, hb⟩; refine ⟨_, rfl, ?_⟩; replace HO350 := Aside0.mk (Kd.N_below dz100 hb); replace BK351 := Aside0.mk (blk_below (g := gb351) (o := .cells #[.int .i64 t347, .slice Ao10 t348.length co10] 49 (0, 0)) (by (with_reducible repeat (first | refine blk_drewN ?_ _ | refine blk_drew ?_ | refine blk_alloc ?_ _)); refine blk_put (cs := #[.int .i64 t347, .slice none 0 0]) ?_ 1 _ rfl; (with_reducible repeat (first | refine blk_drewN ?_ _ | refine blk_drew ?_ | refine blk_alloc ?_ _)); refine blk_put (cs := #[.int .i64 0, .slice none 0 0]) ?_ 0 _ rfl; (with_reducible repeat (first | refine blk_drewN ?_ _ | refine blk_drew ?_ | refine blk_alloc ?_ _)); exact BK351.out) hb); replace HB := Aside0.mk (below_step dz63 hb); (try clear hb); (try clear hb2); (try clear hk); (try clear hi)))
 (try simp only [Act.put, List.setIfInBounds_toArray, List.set_cons_zero, List.set_cons_succ])
 go_cut [26] (fun v26 wc => ∃ (kq : Nat) (x26_5 : Bool), v26 = .bool x26_5 ∧ Aside0 (laws_FnSureTo.j0 kq t352 x26_5 t347 t348 = some r) ∧ Aside0 (kq ≤ k) ∧ Aside0 (Kd.N k53 53 wc w.heap.size (fun k_ => k_ ≠ gb351) (.slice Ao10 t348.length co10) t348) ∧ Aside0 (wc.heap[gb351]? = some (.cells #[.int .i64 t347, (.slice Ao10 t348.length co10)] 49 (0, 0))) ∧ Aside0 (Below w.heap.size w wc))
 case first =>
  have H := HC6.out
  clear HC6
  replace H := Option.bind_eq_some_iff.mp H
  obtain ⟨t353, A120, H⟩ := H
  replace H : (if t352 = t353 then (if t352 < 0 then (laws_FnSureTo.j0 k t352 true t347 t348) else (laws_FnSureTo.j0 k t352 (decide (t352 > (t348.length : Int))) t347 t348)) else (laws_FnSureTo.j0 k t352 true t347 t348)) = some r := H
  have A12 := Aside0.mk A120
  clear A120
  by_cases c13 : t352 = t353
  ·rw [if_pos c13] at H
   have c13b0 : (t352 == t353) = true := beq_iff_eq.mpr c13
   have c13b1 : (t352 != t353) = false := bne_eq_false_iff_eq.mpr c13
   clear c13
   (first | rw [c13b0] | (simp only [i64_w, i32_w]; rw [c13b0]) | skip)
   by_cases c14 : t352 < 0
   ·rw [if_pos c14] at H
    have c14b0 : decide (t352 < 0) = true := decide_eq_true c14
    clear c14
    have H' := Aside0.mk H
    clear H
    obtain ⟨hcz15_0, hcz15_1, hfz15_0, hfz15_1⟩ := cz2_ BK351
    go_wp2_with (first | ((with_reducible refine gate_callee (f := 26) rfl ?_); refine goesL_ (some 14) rfl rfl Try.func26 (by kernel_rfl) rfl #[.agg #[.int .i64 t347, .slice Ao10 t348.length co10]] rfl dz1 ?_; (with_reducible refine (spec_WriterSure.calls k t347 _ _ t348 t353 _ ?side1 ?side2 A12.out).mono ?_); (case side1 => exact dz310); (case side2 => exact (Kd.N_reads' HO350.out).2.1); rintro e w16 ⟨rfl, hb⟩; refine ⟨_, rfl, ?_⟩; replace HO350 := Aside0.mk (Kd.N_below dz62 hb); replace BK351 := (bkb_ BK351 hb); replace HB := Aside0.mk (below_step dz63 hb); (try clear hb); (try clear hb2); (try clear hk); (try clear hi)))
    go_meet
    case rel => exact ⟨_, (true), dz3, H', ⟨by first | omega | exact Nat.le_refl _⟩, ⟨by (with_reducible repeat (first | apply Kd.N_alloc | apply Kd.N_drewN | apply Kd.N_drew)); exact Kd.N_mono HO350.out (fun _ hk => hk.2)⟩, ⟨by (with_reducible repeat (first | refine blk_drewN ?_ _ | refine blk_drew ?_ | refine blk_alloc ?_ _)); exact BK351.out⟩, ⟨by repeat (first | (with_reducible first | exact HB.out | apply below_alloc | apply pw_below_drewN | apply below_drew1 | refine below_set ?_ GE351.out) | exact HB.out)⟩⟩
   rw [if_neg c14] at H
   have c14b0 : decide (t352 < 0) = false := decide_eq_false c14
   clear c14
   have H' := Aside0.mk H
   clear H
   obtain ⟨hcz17_0, hcz17_1, hfz17_0, hfz17_1⟩ := cz2_ BK351
   go_wp2_with (first | ((with_reducible refine gate_callee (f := 26) rfl ?_); refine goesL_ (some 14) rfl rfl Try.func26 (by kernel_rfl) rfl #[.agg #[.int .i64 t347, .slice Ao10 t348.length co10]] rfl dz1 ?_; (with_reducible refine (spec_WriterSure.calls k t347 _ _ t348 t353 _ ?side1 ?side2 A12.out).mono ?_); (case side1 => exact dz310); (case side2 => exact (Kd.N_reads' HO350.out).2.1); rintro e w18 ⟨rfl, hb⟩; refine ⟨_, rfl, ?_⟩; replace HO350 := Aside0.mk (Kd.N_below dz62 hb); replace BK351 := (bkb_ BK351 hb); replace HB := Aside0.mk (below_step dz63 hb); (try clear hb); (try clear hb2); (try clear hk); (try clear hi); obtain ⟨hcz19_0, hcz19_1, hfz19_0, hfz19_1⟩ := cz2_ BK351))
   go_meet
   case rel => exact ⟨_, (decide (t352 > (t348.length : Int))), dz3, H', ⟨by first | omega | exact Nat.le_refl _⟩, ⟨by (with_reducible repeat (first | apply Kd.N_alloc | apply Kd.N_drewN | apply Kd.N_drew)); exact Kd.N_mono HO350.out (fun _ hk => hk.2)⟩, ⟨by (with_reducible repeat (first | refine blk_drewN ?_ _ | refine blk_drew ?_ | refine blk_alloc ?_ _)); exact BK351.out⟩, ⟨by repeat (first | (with_reducible first | exact HB.out | apply below_alloc | apply pw_below_drewN | apply below_drew1 | refine below_set ?_ GE351.out) | exact HB.out)⟩⟩
  rw [if_neg c13] at H
  have c13b0 : (t352 == t353) = false := beq_eq_false_iff_ne.mpr c13
  have c13b1 : (t352 != t353) = true := bne_iff_ne.mpr c13
  (first | rw [c13b0] | (simp only [i64_w, i32_w]; rw [c13b0]) | skip)
  have H' := Aside0.mk H
  clear H
  obtain ⟨hcz20_0, hcz20_1, hfz20_0, hfz20_1⟩ := cz2_ BK351
  go_wp2_with (first | ((with_reducible refine gate_callee (f := 26) rfl ?_); refine goesL_ (some 14) rfl rfl Try.func26 (by kernel_rfl) rfl #[.agg #[.int .i64 t347, .slice Ao10 t348.length co10]] rfl dz1 ?_; (with_reducible refine (spec_WriterSure.calls k t347 _ _ t348 t353 _ ?side1 ?side2 A12.out).mono ?_); (case side1 => exact dz310); (case side2 => exact (Kd.N_reads' HO350.out).2.1); rintro e w21 ⟨rfl, hb⟩; refine ⟨_, rfl, ?_⟩; replace HO350 := Aside0.mk (Kd.N_below dz62 hb); replace BK351 := (bkb_ BK351 hb); replace HB := Aside0.mk (below_step dz63 hb); (try clear hb); (try clear hb2); (try clear hk); (try clear hi)))
  go_meet
  case rel => exact ⟨_, (true), dz3, H', ⟨by first | omega | exact Nat.le_refl _⟩, ⟨by (with_reducible repeat (first | apply Kd.N_alloc | apply Kd.N_drewN | apply Kd.N_drew)); exact Kd.N_mono HO350.out (fun _ hk => hk.2)⟩, ⟨by (with_reducible repeat (first | refine blk_drewN ?_ _ | refine blk_drew ?_ | refine blk_alloc ?_ _)); exact BK351.out⟩, ⟨by repeat (first | (with_reducible first | exact HB.out | apply below_alloc | apply pw_below_drewN | apply below_drew1 | refine below_set ?_ GE351.out) | exact HB.out)⟩⟩
 case rest =>
  clear HC6
  try clear c1
  try clear c2
  try clear p2
  try clear c3
  try clear c5
  try clear c13
  try clear c13b0
  try clear c13b1
  try clear c14
  try clear c14b0
  try clear hcz15_0
  try clear hcz15_1
  try clear hcz17_0
  try clear hcz17_1
  try clear hcz19_0
  try clear hcz19_1
  try clear hcz20_0
  try clear hcz20_1
  try clear hcz9_0
  try clear hcz9_1
  try clear hfz15_0
  try clear hfz15_1
  try clear hfz17_0
  try clear hfz17_1
  try clear hfz19_0
  try clear hfz19_1
  try clear hfz20_0
  try clear hfz20_1
  try clear hfz9_0
  try clear hfz9_1
  obtain ⟨kq, x26_5, rfl, HA, HJ5, HO_352001, BK351, HB⟩ := hcut
  cases kq with
  | zero => exact absurd HA.out (by simp [laws_FnSureTo.j0])
  | succ kj5 =>
   have H := HA.out
   clear HA
   simp only [laws_FnSureTo.j0] at H
   by_cases c22 : x26_5 = true
   ·subst c22
    have H1 : (none) = some r := by rw [if_pos rfl] at H; exact H
    clear H
    have H := H1
    clear H1
    exact absurd H (by simp)
   replace c22 := Bool.eq_false_iff.mpr c22
   subst c22
   have H1 : (laws_FnSureTo.l0 kj5 t352 0 t347 t348) = some r := by rw [if_neg (show ¬ (false = true) by decide)] at H; exact H
   clear H
   have H := H1
   clear H1
   have H' := Aside0.mk H
   clear H
   go_wp2
   go_loopg [5] kj5 (fun kq v5 w' => ∃ (x5_2 : Int), v5 = .int .i64 x5_2 ∧ Aside0 (laws_FnSureTo.l0 kq t352 x5_2 t347 t348 = some r) ∧ Aside0 (kq ≤ kj5) ∧ Aside0 (Kd.N k53 53 w' w.heap.size (fun k_ => k_ ≠ gb351) (.slice Ao10 t348.length co10) t348) ∧ Aside0 (w'.heap[gb351]? = some (.cells #[.int .i64 t347, (.slice Ao10 t348.length co10)] 49 (0, 0))) ∧ Aside0 (Below w.heap.size w w'))
   case atStart => exact ⟨(0), dz3, H', ⟨Nat.le_refl _⟩, ⟨by (with_reducible repeat (first | apply Kd.N_alloc | apply Kd.N_drewN | apply Kd.N_drew)); exact HO_352001.out⟩, ⟨by (with_reducible repeat (first | refine blk_drewN ?_ _ | refine blk_drew ?_ | refine blk_alloc ?_ _)); exact BK351.out⟩, ⟨by repeat (first | (with_reducible first | exact HB.out | apply below_alloc | apply pw_below_drewN | apply below_drew1 | refine below_set ?_ GE351.out) | exact HB.out)⟩⟩
   case round =>
    clear H'
    try clear c1
    try clear c2
    try clear p2
    try clear c3
    try clear c5
    try clear c13
    try clear c13b0
    try clear c13b1
    try clear c14
    try clear c14b0
    try clear c22
    try clear hcz15_0
    try clear hcz15_1
    try clear hcz17_0
    try clear hcz17_1
    try clear hcz19_0
    try clear hcz19_1
    try clear hcz20_0
    try clear hcz20_1
    try clear hcz9_0
    try clear hcz9_1
    try clear hfz15_0
    try clear hfz15_1
    try clear hfz17_0
    try clear hfz17_1
    try clear hfz19_0
    try clear hfz19_1
    try clear hfz20_0
    try clear hfz20_1
    try clear hfz9_0
    try clear hfz9_1
    try clear p2
    obtain ⟨x5_2, rfl, HA, HK2, HO_352001, BK351, HB⟩ := hrel
    cases gk with
    | zero => exact absurd HA.out (by simp [laws_FnSureTo.l0])
    | succ k2 =>
     have H := HA.out
     clear HA
     simp only [laws_FnSureTo.l0] at H
     by_cases c23 : x5_2 < t352
     ·rw [if_pos c23] at H
      have c23b0 : decide (x5_2 < t352) = true := decide_eq_true c23
      clear c23
      by_cases c24 : 0 ≤ x5_2
      ·rw [if_pos c24] at H
       have c24b0 : decide (0 ≤ x5_2) = true := decide_eq_true c24
       clear c24
       by_cases c25 : x5_2 < (t348.length : Int)
       ·rw [if_pos c25] at H
        have c25b0 : decide (x5_2 < (t348.length : Int)) = true := decide_eq_true c25
        clear c25
        obtain ⟨bq26, hbq26⟩ : ∃ b_ : Bool, b_ = ((rd_T53 t348 x5_2).f2) := ⟨_, rfl⟩
        replace H : (if (bq26 = true) then (laws_FnSureTo.l0 k2 t352 (wrap64 (x5_2 + 1)) t347 t348) else (none)) = some r := by rw [← hbq26] at H; exact H
        have Nbq26 := Aside0.mk hbq26
        clear hbq26
        by_cases c27 : (bq26 = true)
        ·subst c27
         have H1 : (laws_FnSureTo.l0 k2 t352 (wrap64 (x5_2 + 1)) t347 t348) = some r := by rw [if_pos rfl] at H; exact H
         clear H
         have H := H1
         clear H1
         have H' := Aside0.mk H
         clear H
         obtain ⟨hcz28_0, hcz28_1, hfz28_0, hfz28_1⟩ := cz2_ BK351
         have p354 : 0 ≤ (x5_2 : Int) := of_decide_eq_true dz0
         have q354 : x5_2 < (t348.length : Int) := of_decide_eq_true dz0
         obtain ⟨ad354, A354_1, c354_1, e354, hx354_0, hx354_1, hx354_2, hl354_1, hi354_1⟩ := at_T53 (Kd.N_reads' HO_352001.out).2.2 x5_2 p354 q354
         (try rw [← Nbq26.out] at hx354_2)
         cases e354
         obtain ⟨ce354, hce354, hMe354, hcc354⟩ := Kd.N_get HO_352001.out z53 x5_2 p354 (by first | exact q354 | exact of_decide_eq_true dz0 | (have e_ := (Kd.N_reads' HO_352001.out).1; omega))
         obtain ⟨ua354_1, uc354_1, rfl, ul354_1, ge354_1⟩ := k53_openF hMe354
         have hv354_1 := hcc354 1 _ rfl
         rw [add_field _ _ 1 (by omega)] at hv354_1
         replace hv354_1 := Option.some.inj (hv354_1.symm.trans hx354_1)
         injection hv354_1 with hva_ hvn_ hvc_
         rw [hva_] at ge354_1
         rw [hvc_] at ul354_1
         have HL354_1 := Aside0.mk (show Kd.V (Kd.int .i64) 3 _ w.heap.size _ _ ((rd_T53 t348 x5_2).f1) from Kd.V_mk ul354_1 ge354_1)
         clear hva_ hvn_ hvc_ ge354_1 ul354_1
         clear hcc354 hce354
         have HR354_1 := Aside0.mk hi354_1
         have HC354_1 := Aside0.mk hl354_1
         clear hi354_1 hl354_1
         replace p354 := eq_true p354
         replace q354 := eq_true q354
         go_wp2
         go_roundg k2
         case measure => have := HJ5.out; have := HK2.out; omega
         case rel => first | exact ⟨(wrap64 (x5_2 + 1)), dz3, H', ⟨by have := HJ5.out; have := HK2.out; omega⟩, ⟨by (with_reducible repeat (first | apply Kd.N_alloc | apply Kd.N_drewN | apply Kd.N_drew)); exact HO_352001.out⟩, ⟨by (with_reducible repeat (first | refine blk_drewN ?_ _ | refine blk_drew ?_ | refine blk_alloc ?_ _)); exact BK351.out⟩, ⟨by repeat (first | (with_reducible first | exact HB.out | apply below_alloc | apply pw_below_drewN | apply below_drew1 | refine below_set ?_ GE351.out) | exact HB.out)⟩⟩ | (simp only [← Nbq26.out]; exact ⟨(wrap64 (x5_2 + 1)), dz3, H', ⟨by have := HJ5.out; have := HK2.out; omega⟩, ⟨by (with_reducible repeat (first | apply Kd.N_alloc | apply Kd.N_drewN | apply Kd.N_drew)); exact HO_352001.out⟩, ⟨by (with_reducible repeat (first | refine blk_drewN ?_ _ | refine blk_drew ?_ | refine blk_alloc ?_ _)); exact BK351.out⟩, ⟨by repeat (first | (with_reducible first | exact HB.out | apply below_alloc | apply pw_below_drewN | apply below_drew1 | refine below_set ?_ GE351.out) | exact HB.out)⟩⟩)
        replace c27 := Bool.eq_false_iff.mpr c27
        subst c27
        have H1 : (none) = some r := by rw [if_neg (show ¬ (false = true) by decide)] at H; exact H
        clear H
        have H := H1
        clear H1
        exact absurd H (by simp)
       rw [if_neg c25] at H
       exact absurd H (by simp)
      rw [if_neg c24] at H
      exact absurd H (by simp)
     rw [if_neg c23] at H
     have c23b0 : decide (x5_2 < t352) = false := decide_eq_false c23
     clear c23
     by_cases c29 : t352 = (t348.length : Int)
     ·rw [if_pos c29] at H
      have c29b0 : (t352 == (t348.length : Int)) = true := beq_iff_eq.mpr c29
      have c29b1 : (t352 != (t348.length : Int)) = false := bne_eq_false_iff_eq.mpr c29
      clear c29
      obtain rfl := Option.some.inj H
      obtain ⟨hcz30_0, hcz30_1, hfz30_0, hfz30_1⟩ := cz2_ BK351
      go_wp2
      go_ret
      exact dz328
     rw [if_neg c29] at H
     have c29b0 : (t352 == (t348.length : Int)) = false := beq_eq_false_iff_ne.mpr c29
     have c29b1 : (t352 != (t348.length : Int)) = true := bne_iff_ne.mpr c29
     by_cases c31 : 0 ≤ t352
     ·rw [if_pos c31] at H
      have c31b0 : decide (0 ≤ t352) = true := decide_eq_true c31
      clear c31
      by_cases c32 : t352 < (t348.length : Int)
      ·rw [if_pos c32] at H
       have c32b0 : decide (t352 < (t348.length : Int)) = true := decide_eq_true c32
       clear c32
       obtain rfl := Option.some.inj H
       obtain ⟨hcz33_0, hcz33_1, hfz33_0, hfz33_1⟩ := cz2_ BK351
       have p355 : 0 ≤ (t352 : Int) := of_decide_eq_true dz0
       have q355 : t352 < (t348.length : Int) := of_decide_eq_true dz0
       obtain ⟨ad355, A355_1, c355_1, e355, hx355_0, hx355_1, hx355_2, hl355_1, hi355_1⟩ := at_T53 (Kd.N_reads' HO_352001.out).2.2 t352 p355 q355
       cases e355
       obtain ⟨ce355, hce355, hMe355, hcc355⟩ := Kd.N_get HO_352001.out z53 t352 p355 (by first | exact q355 | exact of_decide_eq_true dz0 | (have e_ := (Kd.N_reads' HO_352001.out).1; omega))
       obtain ⟨ua355_1, uc355_1, rfl, ul355_1, ge355_1⟩ := k53_openF hMe355
       have hv355_1 := hcc355 1 _ rfl
       rw [add_field _ _ 1 (by omega)] at hv355_1
       replace hv355_1 := Option.some.inj (hv355_1.symm.trans hx355_1)
       injection hv355_1 with hva_ hvn_ hvc_
       rw [hva_] at ge355_1
       rw [hvc_] at ul355_1
       have HL355_1 := Aside0.mk (show Kd.V (Kd.int .i64) 3 _ w.heap.size _ _ ((rd_T53 t348 t352).f1) from Kd.V_mk ul355_1 ge355_1)
       clear hva_ hvn_ hvc_ ge355_1 ul355_1
       clear hcc355 hce355
       have HR355_1 := Aside0.mk hi355_1
       have HC355_1 := Aside0.mk hl355_1
       clear hi355_1 hl355_1
       replace p355 := eq_true p355
       replace q355 := eq_true q355
       go_wp2
       go_ret
       exact dz328
      rw [if_neg c32] at H
      exact absurd H (by simp)
     rw [if_neg c31] at H
     exact absurd H (by simp)
def laws_FnSureTo.Pure : Prop := ∀ (l0 : List Int), l0.length ≤ maxLen → l0.length * 1 ≤ 140737488351232 → (∀ x ∈ l0, (Lit.int .u8 x).wf = true) → ∃ k, laws_FnSureTo.f k l0 = some true
theorem laws_FnSureTo.walk (P : laws_FnSureTo.Pure) (a0 : Option Addr) (len0 cap0 : Nat) (z0 : List Int) (w : World) (w0 : (a0 = none ∧ len0 = 0 ∧ cap0 = 0 ∧ z0 = []) ∨ ∃ x, a0 = some x ∧ len0 ≤ cap0 ∧ cap0 ≤ maxLen ∧ z0.length = cap0 ∧ (∀ i, i < z0.length → w.cell? (x.add i) = some (.int .u8 (z0.getD i 0))) ∧ ∀ n ∈ z0, (Lit.int .u8 n).wf = true) (y0 : len0 * 1 ≤ 140737488351232) :
  Calls Try.prog 5 #[.slice a0 len0 cap0] w fun e w' => e = .returned (.bool true) ∧ Below w.heap.size w w' := by
 obtain ⟨l0, rfl, hr0, hm0, hw0, hc0⟩ := ReadsInt.ofRowC w0
 obtain ⟨k, h⟩ := P l0 hm0 y0 hw0
 refine (laws_FnSureTo.calls k _ _ l0 true w (Kd.C_of_reads (d := (0 : Int)) (h1 := fun _ => rfl) hr0) hc0 h).mono ?_
 rintro e w' ⟨rfl, hd⟩
 exact ⟨rfl, hd⟩
end Go.Proofs.Ytdkdhciogedoiaa.PFnSureTo
