-- Written by wip/gen/pack.py of this repo. Lean checks it.
import Derived.Test.YtdkdhciogedoiabKFnAddedP0
import Derived.Test.YtdkdhciogedoiabKFnAddedP2
import Derived.Test.YtdkdhciogedoiabKFnAddedP3
import Derived.Test.YtdkdhciogedoiabKFnAddedP4
import Derived.Test.YtdkdhciogedoiabKFnAddedP5
import Derived.Test.YtdkdhciogedoiabKFnAddedD
namespace Go.Proofs.Ytdkdhciogedoiab.PFnAdded
open Go.RowKit Go.Proofs.YtdkdhciogedoiabW.PrintWords Go.Proofs.YtdkdhciogedoiabW.PrintLast Go.Proofs.YtdkdhciogedoiabW.PrintMore Go.Proofs.YtdkdhciogedoiabW.Sq
attribute [local go_sem] max2_int min2_int max_two min_two max_three min_three max_four min_four
set_option linter.unusedVariables false
set_option linter.unusedSimpArgs false
def spec_WriterAck.j0 : Nat → Int → Int → Bool → List Int → Int → Int → List (S50) → Option (Int × (List (S50)) × Bool)
 | 0, _, _, _, _, _, _, _ => none
 | k + 1, x2, x3, x41, x268000, x268001, x276000, x276001 => if x41 = true then (some (x276000, x276001, false)) else (if 0 ≤ (wrap64 (x2 - 1)) then (if (wrap64 (x2 - 1)) < (x276001.length : Int) then ((spec_l4Put.f k ((rd_T50 x276001 (wrap64 (x2 - 1))).f1) x3).bind fun t280 => ((some (x276001.set ((wrap64 (x2 - 1)) : Int).toNat (⟨(rd_T50 x276001 (wrap64 (x2 - 1))).f0, t280, (rd_T50 x276001 (wrap64 (x2 - 1))).f2⟩ : S50) : List (S50))).bind fun y283 => ((spec_Holds.f k x268000 x268001 ((rd_T50 y283 (wrap64 (x2 - 1))).f1)).bind fun t285 => (some (x276000, (y283.set ((wrap64 (x2 - 1)) : Int).toNat (⟨(rd_T50 y283 (wrap64 (x2 - 1))).f0, (rd_T50 y283 (wrap64 (x2 - 1))).f1, t285⟩ : S50)), true))))) else (none)) else (none))
def spec_WriterAck.f (k : Nat) (l0_0 : List Int) (a0_1 : Int) (a1_0 : Int) (l1_1 : List (S50)) (a2 : Int) (a3 : Int) : Option (Int × (List (S50)) × Bool) := (spec_WriterOk.f k l0_0 a0_1 a1_0 l1_1).bind fun t270 => (if t270 = true then ((spec_l8Copy.f k a1_0 l1_1).bind fun bt271 => ((spec_l1In.f a2 1 (l1_1.length : Int)).bind fun t276 => (if t276 = true then ((spec_l1In.f a3 0 (wrap64 ((l0_0.length : Int) - 1))).bind fun t277 => (if t277 = true then (if 0 ≤ (wrap64 (a2 - 1)) then (if (wrap64 (a2 - 1)) < (l1_1.length : Int) then (spec_WriterAck.j0 k a2 a3 ((rd_T50 l1_1 (wrap64 (a2 - 1))).f2) l0_0 a0_1 bt271.1 bt271.2) else (none)) else (none)) else (spec_WriterAck.j0 k a2 a3 true l0_0 a0_1 bt271.1 bt271.2))) else (spec_WriterAck.j0 k a2 a3 true l0_0 a0_1 bt271.1 bt271.2)))) else (some (0, ([] : List (S50)), false)))
def spec_WriterAck.T6 : Bool × List (List Nat × List Nat) := (true, [([], []), ([0], [0]), ([], []), ([2], [2]), ([], []), ([4], [4]), ([], []), ([6], [6]), ([5, 7], [5, 7]), ([8], [8]), ([9], [9]), ([], []), ([10, 11], [10, 11]), ([1, 3, 0, 1, 2, 3, 4, 5, 6, 7, 8, 9, 10, 11, 12], [1, 3]), ([13, 0, 1, 2, 3, 4, 5, 6, 7, 8, 9, 10, 11, 12], [13]), ([14, 12, 12, 0, 1, 2, 3, 4, 5, 6, 7, 8, 9, 10, 11, 12], [12, 14])])
def spec_WriterAck.B6 : List Nat := [0, 1, 0, 4, 0, 16, 0, 64, 240, 496, 1008, 0, 4080, 8191, 16383, 32767]
theorem spec_WriterAck.tab6 : rtab .any (opsOf Try.f141 6) = spec_WriterAck.T6 := by kernel_rfl
theorem spec_WriterAck.bits6 : waitsOk spec_WriterAck.T6.2 spec_WriterAck.B6 = true := by kernel_rfl
def spec_WriterAck.T7 : Bool × List (List Nat × List Nat) := (true, [([], []), ([0], [0]), ([], []), ([2], [2]), ([], []), ([], []), ([5], [5]), ([], []), ([7], [7]), ([6, 8], [6, 8]), ([9], [9]), ([10], [10]), ([4, 11], [4, 11]), ([1, 3, 0, 1, 2, 3, 4, 5, 6, 7, 8, 9, 10, 11, 12], [1, 3]), ([13, 0, 1, 2, 3, 4, 5, 6, 7, 8, 9, 10, 11, 12], [13]), ([14, 12, 12, 0, 1, 2, 3, 4, 5, 6, 7, 8, 9, 10, 11, 12], [12, 14])])
def spec_WriterAck.B7 : List Nat := [0, 1, 0, 4, 0, 0, 32, 0, 128, 480, 992, 2016, 4080, 8191, 16383, 32767]
theorem spec_WriterAck.tab7 : rtab .any (opsOf Try.f141 7) = spec_WriterAck.T7 := by kernel_rfl
theorem spec_WriterAck.bits7 : waitsOk spec_WriterAck.T7.2 spec_WriterAck.B7 = true := by kernel_rfl
set_option maxHeartbeats 8000000 in
set_option maxRecDepth 100000 in
theorem spec_WriterAck.calls (k : Nat) (A0_0 : Option Addr) (c0_0 : Nat) (l0_0 : List Int) (a0_1 : Int) (a1_0 : Int) (A1_1 : Option Addr) (c1_1 : Nat) (l1_1 : List (S50)) (a2 : Int) (a3 : Int) (r1 : Int) (r2 : List (S50)) (r3 : Bool) (w : World) (hr0_0 : Kd.C (Kd.int .i64) w A0_0 l0_0.length l0_0) (hc0_0 : l0_0.length ≤ c0_0) (hr1_1 : Kd.C k50 w A1_1 l1_1.length l1_1) (hc1_1 : l1_1.length ≤ c1_1) (h : spec_WriterAck.f k l0_0 a0_1 a1_0 l1_1 a2 a3 = some (r1, r2, r3)) :
  Calls Try.prog 141 #[.agg #[.slice A0_0 l0_0.length c0_0, .int .i64 a0_1], .agg #[.int .i64 a1_0, .slice A1_1 l1_1.length c1_1], .int .i64 a2, .int .i64 a3] w fun e w' => ∃ v1_ : Value, e = .returned (.tuple #[.agg #[.int .i64 r1, v1_], .bool r3]) ∧ Kd.N k50 50 w' w.heap.size (fun k_ => (w.heap.size ≤ k_)) v1_ r2 ∧ Below w.heap.size w w' := by
 have hu31 := Try.underlying31
 have hu44 := Try.underlying44
 have HR0_0 := Aside0.mk hr0_0
 have HC0_0 := Aside0.mk hc0_0
 clear hr0_0 hc0_0
 have HR1_1 := Aside0.mk hr1_1
 have HC1_1 := Aside0.mk hc1_1
 clear hr1_1 hc1_1
 have HB := Aside0.mk (Below.refl w.heap.size w)
 have H : ((spec_WriterOk.f k l0_0 a0_1 a1_0 l1_1).bind fun t270 => (if t270 = true then ((spec_l8Copy.f k a1_0 l1_1).bind fun bt271 => ((spec_l1In.f a2 1 (l1_1.length : Int)).bind fun t276 => (if t276 = true then ((spec_l1In.f a3 0 (wrap64 ((l0_0.length : Int) - 1))).bind fun t277 => (if t277 = true then (if 0 ≤ (wrap64 (a2 - 1)) then (if (wrap64 (a2 - 1)) < (l1_1.length : Int) then (spec_WriterAck.j0 k a2 a3 ((rd_T50 l1_1 (wrap64 (a2 - 1))).f2) l0_0 a0_1 bt271.1 bt271.2) else (none)) else (none)) else (spec_WriterAck.j0 k a2 a3 true l0_0 a0_1 bt271.1 bt271.2))) else (spec_WriterAck.j0 k a2 a3 true l0_0 a0_1 bt271.1 bt271.2)))) else (some (0, ([] : List (S50)), false)))) = some (r1, r2, r3) := h
 clear h
 replace H := Option.bind_eq_some_iff.mp H
 obtain ⟨t270, A50, H⟩ := H
 replace H : (if t270 = true then ((spec_l8Copy.f k a1_0 l1_1).bind fun bt271 => ((spec_l1In.f a2 1 (l1_1.length : Int)).bind fun t276 => (if t276 = true then ((spec_l1In.f a3 0 (wrap64 ((l0_0.length : Int) - 1))).bind fun t277 => (if t277 = true then (if 0 ≤ (wrap64 (a2 - 1)) then (if (wrap64 (a2 - 1)) < (l1_1.length : Int) then (spec_WriterAck.j0 k a2 a3 ((rd_T50 l1_1 (wrap64 (a2 - 1))).f2) l0_0 a0_1 bt271.1 bt271.2) else (none)) else (none)) else (spec_WriterAck.j0 k a2 a3 true l0_0 a0_1 bt271.1 bt271.2))) else (spec_WriterAck.j0 k a2 a3 true l0_0 a0_1 bt271.1 bt271.2)))) else (some (0, ([] : List (S50)), false))) = some (r1, r2, r3) := H
 have A5 := Aside0.mk A50
 clear A50
 by_cases c6 : t270 = true
 ·subst c6
  have H1 : ((spec_l8Copy.f k a1_0 l1_1).bind fun bt271 => ((spec_l1In.f a2 1 (l1_1.length : Int)).bind fun t276 => (if t276 = true then ((spec_l1In.f a3 0 (wrap64 ((l0_0.length : Int) - 1))).bind fun t277 => (if t277 = true then (if 0 ≤ (wrap64 (a2 - 1)) then (if (wrap64 (a2 - 1)) < (l1_1.length : Int) then (spec_WriterAck.j0 k a2 a3 ((rd_T50 l1_1 (wrap64 (a2 - 1))).f2) l0_0 a0_1 bt271.1 bt271.2) else (none)) else (none)) else (spec_WriterAck.j0 k a2 a3 true l0_0 a0_1 bt271.1 bt271.2))) else (spec_WriterAck.j0 k a2 a3 true l0_0 a0_1 bt271.1 bt271.2)))) = some (r1, r2, r3) := by rw [if_pos rfl] at H; exact H
  clear H
  have H := H1
  clear H1
  replace H := Option.bind_eq_some_iff.mp H
  obtain ⟨⟨t271, t272⟩, A70, H⟩ := H
  replace H : ((spec_l1In.f a2 1 (l1_1.length : Int)).bind fun t276 => (if t276 = true then ((spec_l1In.f a3 0 (wrap64 ((l0_0.length : Int) - 1))).bind fun t277 => (if t277 = true then (if 0 ≤ (wrap64 (a2 - 1)) then (if (wrap64 (a2 - 1)) < (l1_1.length : Int) then (spec_WriterAck.j0 k a2 a3 ((rd_T50 l1_1 (wrap64 (a2 - 1))).f2) l0_0 a0_1 t271 t272) else (none)) else (none)) else (spec_WriterAck.j0 k a2 a3 true l0_0 a0_1 t271 t272))) else (spec_WriterAck.j0 k a2 a3 true l0_0 a0_1 t271 t272))) = some (r1, r2, r3) := H
  have A7 := Aside0.mk A70
  clear A70
  have HC8 := Aside0.mk H
  clear H
  go_enter Try.func141, Try.ntmps141
  go_upto_region 4 with (first | ((with_reducible refine gate_dst (N := 4) rfl ?_); (try (refine gate_guard (by rfl) ?_; dsimp only)); refine box_event kr_ (N := 4) kr_ (cs := #[.slice A0_0 l0_0.length c0_0, .int .i64 a0_1]) (t := 31) ks_ ?_; intro gb267 hg w1 hbox hb; have BK267 := Aside0.mk (hbox); have GW267 : Aside0 (w.heap.size ≤ gb267) := szl_ hg dz2; have GE267 : Aside0 (w.heap.size ≤ gb267) := szl_ hg dz2; replace HB := Aside0.mk (below_step dz2 hb); clear hb hbox hg) | ((with_reducible refine gate_dst (N := 5) rfl ?_); (try (refine gate_guard (by rfl) ?_; dsimp only)); refine box_event kr_ (N := 5) kr_ (cs := #[.int .i64 a1_0, .slice A1_1 l1_1.length c1_1]) (t := 44) ks_ ?_; intro gb268 hg w2 hbox hb; have BK268 := Aside0.mk (hbox); have GW268 : Aside0 (w.heap.size ≤ gb268) := szl_ hg dz51; have GE268 : Aside0 (w.heap.size ≤ gb268) := szl_ hg dz51; replace HB := Aside0.mk (below_step dz51 hb); have NB267_268 := (nbl_ hg BK267); have NB268_267 := (nbr_ hg BK267); replace BK267 := (bkb_ BK267 hb); clear hb hbox hg) | ((with_reducible refine gate_dst (N := 8) rfl ?_); (try (refine gate_guard (by rfl) ?_; dsimp only)); refine box_event kr_ (N := 8) kr_ (cs := #[.int .i64 0, .slice none 0 0]) (t := 44) ks_ ?_; intro gb269 hg w3 hbox hb; have BK269 := Aside0.mk (hbox); have GW269 : Aside0 (w.heap.size ≤ gb269) := szl_ hg dz52; have GE269 : Aside0 (w.heap.size ≤ gb269) := szl_ hg dz52; replace HB := Aside0.mk (below_step dz52 hb); have NB267_269 := (nbl_ hg BK267); have NB269_267 := (nbr_ hg BK267); replace BK267 := (bkb_ BK267 hb); have NB268_269 := (nbl_ hg BK268); have NB269_268 := (nbr_ hg BK268); replace BK268 := (bkb_ BK268 hb); clear hb hbox hg; have hnb12 := NB267_268.out; have hnc12 := NB268_267.out; have hnb13 := NB267_269.out; have hnc13 := NB269_267.out; obtain ⟨hcz14_0, hcz14_1, hfz14_0, hfz14_1⟩ := cz2_ BK267; have hnb15 := NB268_269.out; have hnc15 := NB269_268.out; obtain ⟨hcz16_0, hcz16_1, hfz16_0, hfz16_1⟩ := cz2_ BK268) | ((with_reducible refine gate_callee (f := 70) rfl ?_); refine goesL_ (some 13) rfl rfl Try.func70 (by kernel_rfl) rfl #[.agg #[.slice A0_0 l0_0.length c0_0, .int .i64 a0_1], .agg #[.int .i64 a1_0, .slice A1_1 l1_1.length c1_1]] rfl dz1 ?_; (with_reducible refine (spec_WriterOk.calls k _ _ l0_0 a0_1 a1_0 _ _ l1_1 true _ ?side1 ?side2 ?side3 ?side4 A5.out).mono ?_); (case side1 => exact dz462); (case side2 => exact HC0_0.out); (case side3 => exact dz465); (case side4 => exact HC1_1.out); rintro e w4 ⟨rfl, hb⟩; refine ⟨_, rfl, ?_⟩; replace BK267 := (bkb_ BK267 hb); replace BK268 := (bkb_ BK268 hb); replace BK269 := (bkb_ BK269 hb); replace HB := Aside0.mk (below_step dz43 hb); (try clear hb); (try clear hb2); (try clear hk); (try clear hi); obtain ⟨hcz18_0, hcz18_1, hfz18_0, hfz18_1⟩ := cz2_ BK268) | ((with_reducible refine gate_callee (f := 71) rfl ?_); refine goesL_ (some 17) rfl rfl Try.func71 (by kernel_rfl) rfl #[.agg #[.int .i64 a1_0, .slice A1_1 l1_1.length c1_1]] rfl dz1 ?_; (with_reducible refine (spec_l8Copy.calls k a1_0 _ _ l1_1 t271 t272 _ ?side1 ?side2 A7.out).mono ?_); (case side1 => exact dz465); (case side2 => exact HC1_1.out); rintro e w5 ⟨v273, rfl, ho0, hb⟩; refine ⟨_, rfl, ?_⟩; have HO274 := Aside0.mk (Kd.N_lower (Kd.N_mono (ok' := fun k_ => (w.heap.size ≤ k_) ∧ k_ ≠ gb267 ∧ k_ ≠ gb268 ∧ k_ ≠ gb269) (Kd.S_N (Kd.S_bound ho0)) (fun k_ hk_ => ⟨(Nat.le_trans (below_size dz43) hk_.2.1), (Kd.freshB (g := gb267) (o := .cells #[.slice A0_0 l0_0.length c0_0, .int .i64 a0_1] 31 (0, 0)) (by (with_reducible repeat (first | refine blk_drewN ?_ _ | refine blk_drew ?_ | refine blk_alloc ?_ _)); exact BK267.out) k_ hk_.2.1), (Kd.freshB (g := gb268) (o := .cells #[.int .i64 a1_0, .slice A1_1 l1_1.length c1_1] 44 (0, 0)) (by (with_reducible repeat (first | refine blk_drewN ?_ _ | refine blk_drew ?_ | refine blk_alloc ?_ _)); exact BK268.out) k_ hk_.2.1), (Kd.freshB (g := gb269) (o := .cells #[.int .i64 0, .slice none 0 0] 44 (0, 0)) (by (with_reducible repeat (first | refine blk_drewN ?_ _ | refine blk_drew ?_ | refine blk_alloc ?_ _)); exact BK269.out) k_ hk_.2.1)⟩)) (below_size dz43)); replace BK267 := (bkb_ BK267 hb); replace BK268 := (bkb_ BK268 hb); replace BK269 := (bkb_ BK269 hb); replace HB := Aside0.mk (below_step dz43 hb); (try clear hb); (try clear hb2); (try clear hk); (try clear hi); (try clear ho0)) | ((with_reducible refine gate_dst (N := 10) rfl ?_); (try (refine gate_guard (by rfl) ?_; dsimp only)); refine box_event kr_ (N := 10) kr_ (cs := #[.int .i64 0, .slice none 0 0]) (t := 44) ks_ ?_; intro gb275 hg w20 hbox hb; replace HO274 := Aside0.mk (Kd.N_below (Kd.N_elderB (by (with_reducible repeat (first | apply Kd.N_alloc | apply Kd.N_drewN | apply Kd.N_drew)); exact HO274.out) gb275 (Nat.le_of_eq hg.symm)) hb); have BK275 := Aside0.mk (hbox); have GW275 : Aside0 (w.heap.size ≤ gb275) := szl_ hg dz43; have GE275 : Aside0 (w.heap.size ≤ gb275) := szl_ hg dz43; replace HB := Aside0.mk (below_step dz43 hb); have NB267_275 := (nbl_ hg BK267); have NB275_267 := (nbr_ hg BK267); replace BK267 := (bkb_ BK267 hb); have NB268_275 := (nbl_ hg BK268); have NB275_268 := (nbr_ hg BK268); replace BK268 := (bkb_ BK268 hb); have NB269_275 := (nbl_ hg BK269); have NB275_269 := (nbr_ hg BK269); replace BK269 := (bkb_ BK269 hb); clear hb hbox hg; have hnb21 := NB275_267.out; have hnc21 := NB267_275.out; have hnb22 := NB275_268.out; have hnc22 := NB268_275.out; have hnb23 := NB275_269.out; have hnc23 := NB269_275.out; obtain ⟨hcz24_0, hcz24_1, hfz24_0, hfz24_1⟩ := cz2_ BK275; obtain ⟨Ao25, co25, eo25⟩ := Kd.N_slice HO274.out; subst eo25))
  (try simp only [Act.put, List.setIfInBounds_toArray, List.set_cons_zero, List.set_cons_succ])
  go_cut [41] (fun v41 wc => ∃ (kq : Nat) (x41_7 : Bool), v41 = .bool x41_7 ∧ Aside0 (spec_WriterAck.j0 kq a2 a3 x41_7 l0_0 a0_1 t271 t272 = some (r1, r2, r3)) ∧ Aside0 (kq ≤ k) ∧ Aside0 (Kd.N k50 50 wc w.heap.size (fun k_ => (w.heap.size ≤ k_) ∧ k_ ≠ gb267 ∧ k_ ≠ gb268 ∧ k_ ≠ gb269 ∧ k_ ≠ gb275) (.slice Ao25 t272.length co25) t272) ∧ Aside0 (wc.heap[gb267]? = some (.cells #[(.slice A0_0 l0_0.length c0_0), .int .i64 a0_1] 31 (0, 0))) ∧ Aside0 (wc.heap[gb268]? = some (.cells #[.int .i64 a1_0, (.slice A1_1 l1_1.length c1_1)] 44 (0, 0))) ∧ Aside0 (wc.heap[gb269]? = some (.cells #[.int .i64 0, (.slice none 0 0)] 44 (0, 0))) ∧ Aside0 (wc.heap[gb275]? = some (.cells #[.int .i64 t271, (.slice Ao25 t272.length co25)] 44 (0, 0))) ∧ Aside0 (Below w.heap.size w wc))
  case first =>
   have H := HC8.out
   clear HC8
   replace H := Option.bind_eq_some_iff.mp H
   obtain ⟨t276, A260, H⟩ := H
   replace H : (if t276 = true then ((spec_l1In.f a3 0 (wrap64 ((l0_0.length : Int) - 1))).bind fun t277 => (if t277 = true then (if 0 ≤ (wrap64 (a2 - 1)) then (if (wrap64 (a2 - 1)) < (l1_1.length : Int) then (spec_WriterAck.j0 k a2 a3 ((rd_T50 l1_1 (wrap64 (a2 - 1))).f2) l0_0 a0_1 t271 t272) else (none)) else (none)) else (spec_WriterAck.j0 k a2 a3 true l0_0 a0_1 t271 t272))) else (spec_WriterAck.j0 k a2 a3 true l0_0 a0_1 t271 t272)) = some (r1, r2, r3) := H
   have A26 := Aside0.mk A260
   clear A260
   by_cases c27 : t276 = true
   ·subst c27
    have H1 : ((spec_l1In.f a3 0 (wrap64 ((l0_0.length : Int) - 1))).bind fun t277 => (if t277 = true then (if 0 ≤ (wrap64 (a2 - 1)) then (if (wrap64 (a2 - 1)) < (l1_1.length : Int) then (spec_WriterAck.j0 k a2 a3 ((rd_T50 l1_1 (wrap64 (a2 - 1))).f2) l0_0 a0_1 t271 t272) else (none)) else (none)) else (spec_WriterAck.j0 k a2 a3 true l0_0 a0_1 t271 t272))) = some (r1, r2, r3) := by rw [if_pos rfl] at H; exact H
    clear H
    have H := H1
    clear H1
    replace H := Option.bind_eq_some_iff.mp H
    obtain ⟨t277, A280, H⟩ := H
    replace H : (if t277 = true then (if 0 ≤ (wrap64 (a2 - 1)) then (if (wrap64 (a2 - 1)) < (l1_1.length : Int) then (spec_WriterAck.j0 k a2 a3 ((rd_T50 l1_1 (wrap64 (a2 - 1))).f2) l0_0 a0_1 t271 t272) else (none)) else (none)) else (spec_WriterAck.j0 k a2 a3 true l0_0 a0_1 t271 t272)) = some (r1, r2, r3) := H
    have A28 := Aside0.mk A280
    clear A280
    by_cases c29 : t277 = true
    ·subst c29
     have H1 : (if 0 ≤ (wrap64 (a2 - 1)) then (if (wrap64 (a2 - 1)) < (l1_1.length : Int) then (spec_WriterAck.j0 k a2 a3 ((rd_T50 l1_1 (wrap64 (a2 - 1))).f2) l0_0 a0_1 t271 t272) else (none)) else (none)) = some (r1, r2, r3) := by rw [if_pos rfl] at H; exact H
     clear H
     have H := H1
     clear H1
     obtain ⟨ji30, hji30⟩ : ∃ j_ : Int, (wrap64 (a2 - 1)) = j_ := ⟨_, rfl⟩
     replace H : (if 0 ≤ (ji30) then (if (ji30) < (l1_1.length : Int) then (spec_WriterAck.j0 k a2 a3 ((rd_T50 l1_1 (ji30)).f2) l0_0 a0_1 t271 t272) else (none)) else (none)) = some (r1, r2, r3) := by first | (rw [hji30] at H; exact H) | (simp only [hji30] at H ⊢; exact H)
     (try rw [hji30] at A26)
     (try rw [hji30] at A28)
     have hji30w : (IntKind.i64.wrap (a2 - 1)) = ji30 := (i64_w _).trans hji30
     by_cases c31 : 0 ≤ (ji30)
     ·rw [if_pos c31] at H
      have c31b0 : decide (0 ≤ (ji30)) = true := decide_eq_true c31
      clear c31
      (first | rw [c31b0] | (simp only [i64_w, i32_w]; rw [c31b0]) | skip)
      by_cases c32 : (ji30) < (l1_1.length : Int)
      ·rw [if_pos c32] at H
       have c32b0 : decide ((ji30) < (l1_1.length : Int)) = true := decide_eq_true c32
       clear c32
       have H' := Aside0.mk H
       clear H
       have hnb33 := NB268_267.out
       have hnc33 := NB267_268.out
       have hnb34 := NB268_269.out
       have hnc34 := NB269_268.out
       have hnb35 := NB268_275.out
       have hnc35 := NB275_268.out
       obtain ⟨hcz36_0, hcz36_1, hfz36_0, hfz36_1⟩ := cz2_ BK268
       go_wp2_with (first | ((with_reducible refine gate_callee (f := 55) rfl ?_); refine goesL_ (some 22) rfl rfl Try.func55 (by kernel_rfl) rfl #[.int .i64 a2, .int .i64 1, .int .i64 (l1_1.length : Int)] rfl dz1 ?_; (with_reducible refine (spec_l1In.calls a2 1 (l1_1.length : Int) true _ A26.out).mono ?_); rintro e w' ⟨rfl, ⟨nd, rfl⟩⟩; refine ⟨_, rfl, ?_⟩; have hnb37 := NB267_269.out; have hnc37 := NB269_267.out; have hnb38 := NB267_275.out; have hnc38 := NB275_267.out; obtain ⟨hcz39_0, hcz39_1, hfz39_0, hfz39_1⟩ := cz2_ BK267) | (go_at_call 55; (with_reducible refine (spec_l1In.calls a3 0 (wrap64 ((l0_0.length : Int) - 1)) true _ A28.out).mono ?_); rintro e w' ⟨rfl, ⟨nd, rfl⟩⟩; have p278 : 0 ≤ ((ji30) : Int) := of_decide_eq_true dz0; have q278 : (ji30) < (l1_1.length : Int) := of_decide_eq_true dz0; obtain ⟨ad278, A278_1, c278_1, e278, hx278_0, hx278_1, hx278_2, hl278_1, hi278_1⟩ := at_T50 HR1_1.out (ji30) p278 q278; cases e278; have hn278_0 : ad278.block ≠ gb275 := Nat.ne_of_lt (Nat.lt_of_lt_of_le (by have := World.block_lt_of_cell? _ _ hx278_0; first | rwa [add_block] at this | exact this) GW275.out); have hn278_1 : ad278.block ≠ gb275 := Nat.ne_of_lt (Nat.lt_of_lt_of_le (by have := World.block_lt_of_cell? _ _ hx278_0; first | rwa [add_block] at this | exact this) GW275.out); replace hx278_0 := hxl_ HB hx278_0; replace hx278_1 := hxl_ HB hx278_1; replace hx278_2 := hxl_ HB hx278_2; have HR278_1 := Aside0.mk hi278_1; have HC278_1 := Aside0.mk hl278_1; clear hi278_1 hl278_1; replace hx278_0 := (cell_far (p := ⟨gb275, 0, none⟩) dz111 (.int .i64 t271)).trans hx278_0; replace hx278_1 := (cell_far (p := ⟨gb275, 0, none⟩) dz111 (.int .i64 t271)).trans hx278_1; replace hx278_2 := (cell_far (p := ⟨gb275, 0, none⟩) dz111 (.int .i64 t271)).trans hx278_2; replace hx278_0 := (cell_far (p := ⟨gb275, 1, none⟩) dz112 (.slice Ao25 t272.length co25)).trans hx278_0; replace hx278_1 := (cell_far (p := ⟨gb275, 1, none⟩) dz112 (.slice Ao25 t272.length co25)).trans hx278_1; replace hx278_2 := (cell_far (p := ⟨gb275, 1, none⟩) dz112 (.slice Ao25 t272.length co25)).trans hx278_2; clear hn278_0; clear hn278_1; replace p278 := eq_true p278; replace q278 := eq_true q278))
       go_meet
       case rel => exact ⟨_, ((rd_T50 l1_1 (ji30)).f2), (by first | rfl | (simp; done) | (simp only [← hji30] <;> (first | rfl | simp)) | (simp [*]; done)), H', ⟨by first | omega | exact Nat.le_refl _⟩, ⟨by (with_reducible repeat (first | apply Kd.N_alloc | apply Kd.N_drewN | apply Kd.N_drew)); exact Kd.N_mono (Kd.N_far (p := ⟨gb275, 1, none⟩) (Kd.N_far (p := ⟨gb275, 0, none⟩) (Kd.N_mono HO274.out (fun k_ hk => (⟨hk, hk.2⟩ : _ ∧ k_ ≠ gb275))) (fun _ hk => hk.2) (.int .i64 t271)) (fun _ hk => hk.2) (.slice Ao25 t272.length co25)) (fun _ hk => ⟨hk.1.1.1, ⟨hk.1.1.2.1, ⟨hk.1.1.2.2.1, ⟨hk.1.1.2.2.2, hk.1.2⟩⟩⟩⟩)⟩, ⟨by (with_reducible repeat (first | refine blk_drewN ?_ _ | refine blk_drew ?_ | refine blk_alloc ?_ _)); refine blk_far ?_ NB267_275.out _; (with_reducible repeat (first | refine blk_drewN ?_ _ | refine blk_drew ?_ | refine blk_alloc ?_ _)); refine blk_far ?_ NB267_275.out _; (with_reducible repeat (first | refine blk_drewN ?_ _ | refine blk_drew ?_ | refine blk_alloc ?_ _)); exact BK267.out⟩, ⟨by (with_reducible repeat (first | refine blk_drewN ?_ _ | refine blk_drew ?_ | refine blk_alloc ?_ _)); refine blk_far ?_ NB268_275.out _; (with_reducible repeat (first | refine blk_drewN ?_ _ | refine blk_drew ?_ | refine blk_alloc ?_ _)); refine blk_far ?_ NB268_275.out _; (with_reducible repeat (first | refine blk_drewN ?_ _ | refine blk_drew ?_ | refine blk_alloc ?_ _)); exact BK268.out⟩, ⟨by (with_reducible repeat (first | refine blk_drewN ?_ _ | refine blk_drew ?_ | refine blk_alloc ?_ _)); refine blk_far ?_ NB269_275.out _; (with_reducible repeat (first | refine blk_drewN ?_ _ | refine blk_drew ?_ | refine blk_alloc ?_ _)); refine blk_far ?_ NB269_275.out _; (with_reducible repeat (first | refine blk_drewN ?_ _ | refine blk_drew ?_ | refine blk_alloc ?_ _)); exact BK269.out⟩, ⟨by (with_reducible repeat (first | refine blk_drewN ?_ _ | refine blk_drew ?_ | refine blk_alloc ?_ _)); refine blk_put (cs := #[.int .i64 t271, .slice none 0 0]) ?_ 1 _ rfl; (with_reducible repeat (first | refine blk_drewN ?_ _ | refine blk_drew ?_ | refine blk_alloc ?_ _)); refine blk_put (cs := #[.int .i64 0, .slice none 0 0]) ?_ 0 _ rfl; (with_reducible repeat (first | refine blk_drewN ?_ _ | refine blk_drew ?_ | refine blk_alloc ?_ _)); exact BK275.out⟩, ⟨by repeat (first | (with_reducible first | exact HB.out | apply below_alloc | apply pw_below_drewN | apply below_drew1 | refine below_set ?_ GE267.out | refine below_set ?_ GE268.out | refine below_set ?_ GE269.out | refine below_set ?_ GE275.out) | exact HB.out)⟩⟩
      rw [if_neg c32] at H
      exact absurd H (by simp)
     rw [if_neg c31] at H
     exact absurd H (by simp)
    replace c29 := Bool.eq_false_iff.mpr c29
    subst c29
    have H1 : (spec_WriterAck.j0 k a2 a3 true l0_0 a0_1 t271 t272) = some (r1, r2, r3) := by rw [if_neg (show ¬ (false = true) by decide)] at H; exact H
    clear H
    have H := H1
    clear H1
    have H' := Aside0.mk H
    clear H
    have hnb40 := NB268_267.out
    have hnc40 := NB267_268.out
    have hnb41 := NB268_269.out
    have hnc41 := NB269_268.out
    have hnb42 := NB268_275.out
    have hnc42 := NB275_268.out
    obtain ⟨hcz43_0, hcz43_1, hfz43_0, hfz43_1⟩ := cz2_ BK268
    go_wp2_with (first | ((with_reducible refine gate_callee (f := 55) rfl ?_); refine goesL_ (some 22) rfl rfl Try.func55 (by kernel_rfl) rfl #[.int .i64 a2, .int .i64 1, .int .i64 (l1_1.length : Int)] rfl dz1 ?_; (with_reducible refine (spec_l1In.calls a2 1 (l1_1.length : Int) true _ A26.out).mono ?_); rintro e w' ⟨rfl, ⟨nd, rfl⟩⟩; refine ⟨_, rfl, ?_⟩; have hnb44 := NB267_269.out; have hnc44 := NB269_267.out; have hnb45 := NB267_275.out; have hnc45 := NB275_267.out; obtain ⟨hcz46_0, hcz46_1, hfz46_0, hfz46_1⟩ := cz2_ BK267) | (go_at_call 55; (with_reducible refine (spec_l1In.calls a3 0 (wrap64 ((l0_0.length : Int) - 1)) false _ A28.out).mono ?_); rintro e w' ⟨rfl, ⟨nd, rfl⟩⟩))
    go_meet
    case rel => exact ⟨_, (true), dz3, H', ⟨by first | omega | exact Nat.le_refl _⟩, ⟨by (with_reducible repeat (first | apply Kd.N_alloc | apply Kd.N_drewN | apply Kd.N_drew)); exact Kd.N_mono (Kd.N_far (p := ⟨gb275, 1, none⟩) (Kd.N_far (p := ⟨gb275, 0, none⟩) (Kd.N_mono HO274.out (fun k_ hk => (⟨hk, hk.2⟩ : _ ∧ k_ ≠ gb275))) (fun _ hk => hk.2) (.int .i64 t271)) (fun _ hk => hk.2) (.slice Ao25 t272.length co25)) (fun _ hk => ⟨hk.1.1.1, ⟨hk.1.1.2.1, ⟨hk.1.1.2.2.1, ⟨hk.1.1.2.2.2, hk.1.2⟩⟩⟩⟩)⟩, ⟨by (with_reducible repeat (first | refine blk_drewN ?_ _ | refine blk_drew ?_ | refine blk_alloc ?_ _)); refine blk_far ?_ NB267_275.out _; (with_reducible repeat (first | refine blk_drewN ?_ _ | refine blk_drew ?_ | refine blk_alloc ?_ _)); refine blk_far ?_ NB267_275.out _; (with_reducible repeat (first | refine blk_drewN ?_ _ | refine blk_drew ?_ | refine blk_alloc ?_ _)); exact BK267.out⟩, ⟨by (with_reducible repeat (first | refine blk_drewN ?_ _ | refine blk_drew ?_ | refine blk_alloc ?_ _)); refine blk_far ?_ NB268_275.out _; (with_reducible repeat (first | refine blk_drewN ?_ _ | refine blk_drew ?_ | refine blk_alloc ?_ _)); refine blk_far ?_ NB268_275.out _; (with_reducible repeat (first | refine blk_drewN ?_ _ | refine blk_drew ?_ | refine blk_alloc ?_ _)); exact BK268.out⟩, ⟨by (with_reducible repeat (first | refine blk_drewN ?_ _ | refine blk_drew ?_ | refine blk_alloc ?_ _)); refine blk_far ?_ NB269_275.out _; (with_reducible repeat (first | refine blk_drewN ?_ _ | refine blk_drew ?_ | refine blk_alloc ?_ _)); refine blk_far ?_ NB269_275.out _; (with_reducible repeat (first | refine blk_drewN ?_ _ | refine blk_drew ?_ | refine blk_alloc ?_ _)); exact BK269.out⟩, ⟨by (with_reducible repeat (first | refine blk_drewN ?_ _ | refine blk_drew ?_ | refine blk_alloc ?_ _)); refine blk_put (cs := #[.int .i64 t271, .slice none 0 0]) ?_ 1 _ rfl; (with_reducible repeat (first | refine blk_drewN ?_ _ | refine blk_drew ?_ | refine blk_alloc ?_ _)); refine blk_put (cs := #[.int .i64 0, .slice none 0 0]) ?_ 0 _ rfl; (with_reducible repeat (first | refine blk_drewN ?_ _ | refine blk_drew ?_ | refine blk_alloc ?_ _)); exact BK275.out⟩, ⟨by repeat (first | (with_reducible first | exact HB.out | apply below_alloc | apply pw_below_drewN | apply below_drew1 | refine below_set ?_ GE267.out | refine below_set ?_ GE268.out | refine below_set ?_ GE269.out | refine below_set ?_ GE275.out) | exact HB.out)⟩⟩
   replace c27 := Bool.eq_false_iff.mpr c27
   subst c27
   have H1 : (spec_WriterAck.j0 k a2 a3 true l0_0 a0_1 t271 t272) = some (r1, r2, r3) := by rw [if_neg (show ¬ (false = true) by decide)] at H; exact H
   clear H
   have H := H1
   clear H1
   have H' := Aside0.mk H
   clear H
   have hnb47 := NB268_267.out
   have hnc47 := NB267_268.out
   have hnb48 := NB268_269.out
   have hnc48 := NB269_268.out
   have hnb49 := NB268_275.out
   have hnc49 := NB275_268.out
   obtain ⟨hcz50_0, hcz50_1, hfz50_0, hfz50_1⟩ := cz2_ BK268
   go_wp2_with (first | ((with_reducible refine gate_callee (f := 55) rfl ?_); refine goesL_ (some 22) rfl rfl Try.func55 (by kernel_rfl) rfl #[.int .i64 a2, .int .i64 1, .int .i64 (l1_1.length : Int)] rfl dz1 ?_; (with_reducible refine (spec_l1In.calls a2 1 (l1_1.length : Int) false _ A26.out).mono ?_); rintro e w' ⟨rfl, ⟨nd, rfl⟩⟩; refine ⟨_, rfl, ?_⟩))
   go_meet
   case rel => exact ⟨_, (true), dz3, H', ⟨by first | omega | exact Nat.le_refl _⟩, ⟨by (with_reducible repeat (first | apply Kd.N_alloc | apply Kd.N_drewN | apply Kd.N_drew)); exact Kd.N_mono (Kd.N_far (p := ⟨gb275, 1, none⟩) (Kd.N_far (p := ⟨gb275, 0, none⟩) (Kd.N_mono HO274.out (fun k_ hk => (⟨hk, hk.2⟩ : _ ∧ k_ ≠ gb275))) (fun _ hk => hk.2) (.int .i64 t271)) (fun _ hk => hk.2) (.slice Ao25 t272.length co25)) (fun _ hk => ⟨hk.1.1.1, ⟨hk.1.1.2.1, ⟨hk.1.1.2.2.1, ⟨hk.1.1.2.2.2, hk.1.2⟩⟩⟩⟩)⟩, ⟨by (with_reducible repeat (first | refine blk_drewN ?_ _ | refine blk_drew ?_ | refine blk_alloc ?_ _)); refine blk_far ?_ NB267_275.out _; (with_reducible repeat (first | refine blk_drewN ?_ _ | refine blk_drew ?_ | refine blk_alloc ?_ _)); refine blk_far ?_ NB267_275.out _; (with_reducible repeat (first | refine blk_drewN ?_ _ | refine blk_drew ?_ | refine blk_alloc ?_ _)); exact BK267.out⟩, ⟨by (with_reducible repeat (first | refine blk_drewN ?_ _ | refine blk_drew ?_ | refine blk_alloc ?_ _)); refine blk_far ?_ NB268_275.out _; (with_reducible repeat (first | refine blk_drewN ?_ _ | refine blk_drew ?_ | refine blk_alloc ?_ _)); refine blk_far ?_ NB268_275.out _; (with_reducible repeat (first | refine blk_drewN ?_ _ | refine blk_drew ?_ | refine blk_alloc ?_ _)); exact BK268.out⟩, ⟨by (with_reducible repeat (first | refine blk_drewN ?_ _ | refine blk_drew ?_ | refine blk_alloc ?_ _)); refine blk_far ?_ NB269_275.out _; (with_reducible repeat (first | refine blk_drewN ?_ _ | refine blk_drew ?_ | refine blk_alloc ?_ _)); refine blk_far ?_ NB269_275.out _; (with_reducible repeat (first | refine blk_drewN ?_ _ | refine blk_drew ?_ | refine blk_alloc ?_ _)); exact BK269.out⟩, ⟨by (with_reducible repeat (first | refine blk_drewN ?_ _ | refine blk_drew ?_ | refine blk_alloc ?_ _)); refine blk_put (cs := #[.int .i64 t271, .slice none 0 0]) ?_ 1 _ rfl; (with_reducible repeat (first | refine blk_drewN ?_ _ | refine blk_drew ?_ | refine blk_alloc ?_ _)); refine blk_put (cs := #[.int .i64 0, .slice none 0 0]) ?_ 0 _ rfl; (with_reducible repeat (first | refine blk_drewN ?_ _ | refine blk_drew ?_ | refine blk_alloc ?_ _)); exact BK275.out⟩, ⟨by repeat (first | (with_reducible first | exact HB.out | apply below_alloc | apply pw_below_drewN | apply below_drew1 | refine below_set ?_ GE267.out | refine below_set ?_ GE268.out | refine below_set ?_ GE269.out | refine below_set ?_ GE275.out) | exact HB.out)⟩⟩
  case rest =>
   clear HC8
   try clear c1
   try clear c2
   try clear p2
   try clear q2
   try clear hx2
   try clear c3
   try clear c4
   try clear c5
   try clear c6
   try clear p6
   try clear c7
   try clear c12
   try clear c13
   try clear c14
   try clear c15
   try clear c21
   try clear c22
   try clear c23
   try clear c27
   try clear p27
   try clear q27
   try clear hx27
   try clear c29
   try clear c31
   try clear c31b0
   try clear c32
   try clear c32b0
   try clear c33
   try clear c34
   try clear c35
   try clear c37
   try clear c38
   try clear c40
   try clear c41
   try clear c42
   try clear c44
   try clear c45
   try clear c47
   try clear c48
   try clear c49
   try clear hcz14_0
   try clear hcz14_1
   try clear hcz16_0
   try clear hcz16_1
   try clear hcz18_0
   try clear hcz18_1
   try clear hcz24_0
   try clear hcz24_1
   try clear hcz36_0
   try clear hcz36_1
   try clear hcz39_0
   try clear hcz39_1
   try clear hcz43_0
   try clear hcz43_1
   try clear hcz46_0
   try clear hcz46_1
   try clear hcz50_0
   try clear hcz50_1
   try clear hfz14_0
   try clear hfz14_1
   try clear hfz16_0
   try clear hfz16_1
   try clear hfz18_0
   try clear hfz18_1
   try clear hfz24_0
   try clear hfz24_1
   try clear hfz36_0
   try clear hfz36_1
   try clear hfz39_0
   try clear hfz39_1
   try clear hfz43_0
   try clear hfz43_1
   try clear hfz46_0
   try clear hfz46_1
   try clear hfz50_0
   try clear hfz50_1
   try clear hx278_0
   try clear hx278_1
   try clear hx278_2
   try clear p278
   try clear q278
   obtain ⟨kq, x41_7, rfl, HA, HJ7, HO_276001, BK267, BK268, BK269, BK275, HB⟩ := hcut
   cases kq with
   | zero => exact absurd HA.out (by simp [spec_WriterAck.j0])
   | succ kj7 =>
    have H := HA.out
    clear HA
    simp only [spec_WriterAck.j0] at H
    by_cases c51 : x41_7 = true
    ·subst c51
     have H1 : (some (t271, t272, false)) = some (r1, r2, r3) := by rw [if_pos rfl] at H; exact H
     clear H
     have H := H1
     clear H1
     simp only [Option.some.injEq, Prod.mk.injEq] at H
     obtain ⟨rfl, rfl, rfl⟩ := H
     have hnb52 := NB275_267.out
     have hnc52 := NB267_275.out
     have hnb53 := NB275_268.out
     have hnc53 := NB268_275.out
     have hnb54 := NB275_269.out
     have hnc54 := NB269_275.out
     obtain ⟨hcz55_0, hcz55_1, hfz55_0, hfz55_1⟩ := cz2_ BK275
     have hnb56 := NB269_267.out
     have hnc56 := NB267_269.out
     have hnb57 := NB269_268.out
     have hnc57 := NB268_269.out
     obtain ⟨hcz58_0, hcz58_1, hfz58_0, hfz58_1⟩ := cz2_ BK269
     go_wp2
     refine bodyPost_ret (results_ct rfl _ _ gb269 44 #[.int .i64 t271, .slice Ao25 t272.length co25] (0, 0) _ rfl dz147 Try.underlying44 rfl (by kernel_rfl)) rfl ?_
     exact ⟨_, by first | rfl | (simp [errW_none, errW_some] <;> rfl) | (simp [*, errW_none, errW_some] <;> rfl), by (with_reducible repeat (first | apply Kd.N_alloc | apply Kd.N_drewN | apply Kd.N_drew)); exact Kd.N_mono (Kd.N_far (p := ⟨gb269, 1, none⟩) (Kd.N_far (p := ⟨gb269, 0, none⟩) (Kd.N_mono HO_276001.out (fun k_ hk => (⟨hk, hk.2.2.2.1⟩ : _ ∧ k_ ≠ gb269))) (fun _ hk => hk.2) (.int .i64 t271)) (fun _ hk => hk.2) (.slice Ao25 t272.length co25)) (fun _ hk => hk.1.1), by repeat (first | (with_reducible first | exact HB.out | apply below_alloc | apply pw_below_drewN | apply below_drew1 | refine below_set ?_ GE267.out | refine below_set ?_ GE268.out | refine below_set ?_ GE269.out | refine below_set ?_ GE275.out) | exact HB.out)⟩
    replace c51 := Bool.eq_false_iff.mpr c51
    subst c51
    have H1 : (if 0 ≤ (wrap64 (a2 - 1)) then (if (wrap64 (a2 - 1)) < (t272.length : Int) then ((spec_l4Put.f kj7 ((rd_T50 t272 (wrap64 (a2 - 1))).f1) a3).bind fun t280 => ((some (t272.set ((wrap64 (a2 - 1)) : Int).toNat (⟨(rd_T50 t272 (wrap64 (a2 - 1))).f0, t280, (rd_T50 t272 (wrap64 (a2 - 1))).f2⟩ : S50) : List (S50))).bind fun y283 => ((spec_Holds.f kj7 l0_0 a0_1 ((rd_T50 y283 (wrap64 (a2 - 1))).f1)).bind fun t285 => (some (t271, (y283.set ((wrap64 (a2 - 1)) : Int).toNat (⟨(rd_T50 y283 (wrap64 (a2 - 1))).f0, (rd_T50 y283 (wrap64 (a2 - 1))).f1, t285⟩ : S50)), true))))) else (none)) else (none)) = some (r1, r2, r3) := by rw [if_neg (show ¬ (false = true) by decide)] at H; exact H
    clear H
    have H := H1
    clear H1
    obtain ⟨ji59, hji59⟩ : ∃ j_ : Int, (wrap64 (a2 - 1)) = j_ := ⟨_, rfl⟩
    replace H : (if 0 ≤ (ji59) then (if (ji59) < (t272.length : Int) then ((spec_l4Put.f kj7 ((rd_T50 t272 (ji59)).f1) a3).bind fun t280 => ((some (t272.set ((ji59) : Int).toNat (⟨(rd_T50 t272 (ji59)).f0, t280, (rd_T50 t272 (ji59)).f2⟩ : S50) : List (S50))).bind fun y283 => ((spec_Holds.f kj7 l0_0 a0_1 ((rd_T50 y283 (ji59)).f1)).bind fun t285 => (some (t271, (y283.set ((ji59) : Int).toNat (⟨(rd_T50 y283 (ji59)).f0, (rd_T50 y283 (ji59)).f1, t285⟩ : S50)), true))))) else (none)) else (none)) = some (r1, r2, r3) := by first | (rw [hji59] at H; exact H) | (simp only [hji59] at H ⊢; exact H)
    have hji59w : (IntKind.i64.wrap (a2 - 1)) = ji59 := (i64_w _).trans hji59
    by_cases c60 : 0 ≤ (ji59)
    ·rw [if_pos c60] at H
     have c60b0 : decide (0 ≤ (ji59)) = true := decide_eq_true c60
     clear c60
     by_cases c61 : (ji59) < (t272.length : Int)
     ·rw [if_pos c61] at H
      have c61b0 : decide ((ji59) < (t272.length : Int)) = true := decide_eq_true c61
      clear c61
      replace H := Option.bind_eq_some_iff.mp H
      obtain ⟨t280, A620, H⟩ := H
      replace H : ((some (t272.set ((ji59) : Int).toNat (⟨(rd_T50 t272 (ji59)).f0, t280, (rd_T50 t272 (ji59)).f2⟩ : S50) : List (S50))).bind fun y283 => ((spec_Holds.f kj7 l0_0 a0_1 ((rd_T50 y283 (ji59)).f1)).bind fun t285 => (some (t271, (y283.set ((ji59) : Int).toNat (⟨(rd_T50 y283 (ji59)).f0, (rd_T50 y283 (ji59)).f1, t285⟩ : S50)), true)))) = some (r1, r2, r3) := H
      have A62 := Aside0.mk A620
      clear A620
      obtain ⟨y283, hy283⟩ : ∃ y_ : List (S50), y_ = (t272.set ((ji59) : Int).toNat (⟨(rd_T50 t272 (ji59)).f0, t280, (rd_T50 t272 (ji59)).f2⟩ : S50)) := ⟨_, rfl⟩
      replace H : ((spec_Holds.f kj7 l0_0 a0_1 ((rd_T50 y283 (ji59)).f1)).bind fun t285 => (some (t271, (y283.set ((ji59) : Int).toNat (⟨(rd_T50 y283 (ji59)).f0, (rd_T50 y283 (ji59)).f1, t285⟩ : S50)), true))) = some (r1, r2, r3) := by first | (rw [hy283]; with_reducible exact H) | (have H2_ := (Option.bind_some _ _).symm.trans H; rw [hy283]; with_reducible exact H2_) | (have H2_ := (Option.bind_some _ _).symm.trans H; with_reducible exact H2_) | with_reducible exact H | (rw [hy283]; exact H) | exact H
      have Ny283 := Aside0.mk hy283
      clear hy283
      replace H := Option.bind_eq_some_iff.mp H
      obtain ⟨t285, A640, H⟩ := H
      replace H : (some (t271, (y283.set ((ji59) : Int).toNat (⟨(rd_T50 y283 (ji59)).f0, (rd_T50 y283 (ji59)).f1, t285⟩ : S50)), true)) = some (r1, r2, r3) := H
      have A64 := Aside0.mk A640
      clear A640
      obtain ⟨y286, hy286⟩ : ∃ y_ : List (S50), y_ = (y283.set ((ji59) : Int).toNat (⟨(rd_T50 y283 (ji59)).f0, (rd_T50 y283 (ji59)).f1, t285⟩ : S50)) := ⟨_, rfl⟩
      replace H : (some (t271, y286, true)) = some (r1, r2, r3) := by first | (rw [hy286]; with_reducible exact H) | (have H2_ := (Option.bind_some _ _).symm.trans H; rw [hy286]; with_reducible exact H2_) | (have H2_ := (Option.bind_some _ _).symm.trans H; with_reducible exact H2_) | with_reducible exact H | (rw [hy286]; exact H) | exact H
      have Ny286 := Aside0.mk hy286
      clear hy286
      simp only [Option.some.injEq, Prod.mk.injEq] at H
      obtain ⟨rfl, rfl, rfl⟩ := H
      try go_wp2
      replace HO_276001 := Aside0.mk (Kd.N_drew HO_276001.out)
      replace BK267 := Aside0.mk (blk_drew BK267.out)
      replace BK268 := Aside0.mk (blk_drew BK268.out)
      replace BK269 := Aside0.mk (blk_drew BK269.out)
      replace BK275 := Aside0.mk (blk_drew BK275.out)
      replace HB := Aside0.mk (below_drew1 HB.out)
      have p279 : 0 ≤ ((ji59) : Int) := of_decide_eq_true dz0
      have q279 : (ji59) < (t272.length : Int) := of_decide_eq_true dz0
      obtain ⟨ad279, A279_1, c279_1, e279, hx279_0, hx279_1, hx279_2, hl279_1, hi279_1⟩ := at_T50 (Kd.N_reads' HO_276001.out).2.2 (ji59) p279 q279
      cases e279
      obtain ⟨ce279, hce279, hMe279, hcc279⟩ := Kd.N_get HO_276001.out z50 (ji59) p279 (by first | exact q279 | exact of_decide_eq_true dz0 | (have e_ := (Kd.N_reads' HO_276001.out).1; omega))
      obtain ⟨ua279_1, uc279_1, rfl, ul279_1, ge279_1⟩ := k50_openF hMe279
      have hv279_1 := hcc279 1 _ rfl
      rw [add_field _ _ 1 (by omega)] at hv279_1
      replace hv279_1 := Option.some.inj (hv279_1.symm.trans hx279_1)
      injection hv279_1 with hva_ hvn_ hvc_
      rw [hva_] at ge279_1
      rw [hvc_] at ul279_1
      have HL279_1 := Aside0.mk (show Kd.V (Kd.int .i64) 3 _ w.heap.size _ _ ((rd_T50 t272 (ji59)).f1) from Kd.V_mk ul279_1 ge279_1)
      clear hva_ hvn_ hvc_ ge279_1 ul279_1
      clear hcc279 hce279
      have HR279_1 := Aside0.mk hi279_1
      have HC279_1 := Aside0.mk hl279_1
      clear hi279_1 hl279_1
      replace p279 := eq_true p279
      replace q279 := eq_true q279
      refine start_ (n := 16) (S := fun w' => w'.cell? ⟨gb275, 0, none⟩ = some (.int .i64 t271) ∧ w'.cell? ⟨gb275, 1, none⟩ = some (.slice (some ad279) t272.length co25) ∧ w'.cell? (ad279.add (((ji59)).toNat * 3)) = some (.string ((rd_T50 t272 (ji59)).f0)) ∧ w'.cell? ⟨(ad279.add (((ji59)).toNat * 3)).block, (ad279.add (((ji59)).toNat * 3)).off + 1, none⟩ = some (.slice A279_1 ((rd_T50 t272 (ji59)).f1).length c279_1) ∧ w'.cell? ⟨(ad279.add (((ji59)).toNat * 3)).block, (ad279.add (((ji59)).toNat * 3)).off + 2, none⟩ = some (.bool ((rd_T50 t272 (ji59)).f2))) (ds := [15]) (fl_ 0 16) (by kernel_rfl) rfl rfl ⟨(blk_cell BK275.out 0).trans rfl, (blk_cell BK275.out 1).trans rfl, hx279_0, hx279_1, hx279_2⟩ (fun hHeld => ?_); refine with_tabW spec_WriterAck.tab6 spec_WriterAck.bits6 (fun HT_ HW_ => ?_)
      generalize wc.drew = w66 at HO_276001 BK267 BK268 BK269 BK275 HB HL279_1 HR279_1 hx279_0 hx279_1 hx279_2 hHeld ⊢
      refine pure_ (i := 0) (N := some 43) (v := ?_) (a' := ?_) (fl_ 1 15) rfl rfl (any_of HT_.out (by kernel_rfl)) (fun _ _ _ h => h) (Or.inl ⟨by rfl, ?_⟩) ?_ ?_
      rotate_left
      ·exact dz489
      rotate_left
      ·exact dz490
      refine pure_ (i := 2) (N := some 45) (v := ?_) (a' := ?_) #[true, false, true, false, false, false, false, false, false, false, false, false, false, false, false, false] rfl rfl (any_of HT_.out (by kernel_rfl)) (fun _ _ _ h => h) (Or.inl ⟨by rfl, ?_⟩) ?_ ?_
      rotate_left
      ·exact dz489
      rotate_left
      ·exact dz490
      refine pure_ (i := 3) (N := some 46) (v := ?_) (a' := ?_) #[true, false, true, true, false, false, false, false, false, false, false, false, false, false, false, false] rfl rfl (any_of HT_.out (by kernel_rfl)) (fun _ _ _ h => h) (Or.inl ⟨by rfl, ?_⟩) ?_ ?_
      rotate_left
      ·exact dz489
      rotate_left
      ·exact dz490
      refine pure_ (i := 4) (N := some 47) (v := ?_) (a' := ?_) #[true, false, true, true, true, false, false, false, false, false, false, false, false, false, false, false] rfl rfl (any_of HT_.out (by kernel_rfl)) (fun _ _ _ h => h) (Or.inl ⟨by rfl, ?_⟩) ?_ ?_
      rotate_left
      ·exact dz489
      rotate_left
      ·exact dz490
      refine pure_ (i := 6) (N := some 49) (v := ?_) (a' := ?_) #[true, false, true, true, true, false, true, false, false, false, false, false, false, false, false, false] rfl rfl (any_of HT_.out (by kernel_rfl)) (fun _ _ _ h => h) (Or.inl ⟨by rfl, ?_⟩) ?_ ?_
      rotate_left
      ·exact dz489
      rotate_left
      ·exact dz490
      refine pure_ (i := 7) (N := some 50) (v := ?_) (a' := ?_) #[true, false, true, true, true, false, true, true, false, false, false, false, false, false, false, false] rfl rfl (any_of HT_.out (by kernel_rfl)) (fun _ _ _ h => h) (Or.inl ⟨by rfl, ?_⟩) ?_ ?_
      rotate_left
      ·exact dz489
      rotate_left
      ·exact dz490
      refine pure_ (i := 11) (N := some 54) (v := ?_) (a' := ?_) #[true, false, true, true, true, false, true, true, false, false, false, true, false, false, false, false] rfl rfl (any_of HT_.out (by kernel_rfl)) (fun _ _ _ h => h) (Or.inl ⟨by rfl, ?_⟩) ?_ ?_
      rotate_left
      ·exact dz489
      rotate_left
      ·exact dz490
      refine take_ (i := 1) (N := some 44) (v := ?_) (a' := ?_) #[true, true, true, true, true, false, true, true, false, false, false, true, false, false, false, false] rfl rfl (take_ofW HT_.out HW_.out (by kernel_rfl)) (fun _ _ _ h => h) (Or.inl ⟨by rfl, ?_⟩) hHeld ?_ ?_
      rotate_left
      ·exact dz494
      rotate_left
      ·exact dz490
      refine take_ (i := 5) (N := some 48) (v := ?_) (a' := ?_) #[true, true, true, true, true, true, true, true, false, false, false, true, false, false, false, false] rfl rfl (take_ofW HT_.out HW_.out (by kernel_rfl)) (fun _ _ _ h => h) (Or.inl ⟨by rfl, ?_⟩) hHeld ?_ ?_
      rotate_left
      ·exact dz494
      rotate_left
      ·exact dz490
      refine pure_ (i := 8) (N := some 51) (v := ?_) (a' := ?_) #[true, true, true, true, true, true, true, true, true, false, false, true, false, false, false, false] rfl rfl (any_of HT_.out (by kernel_rfl)) (fun _ _ _ h => h) (Or.inl ⟨by rfl, ?_⟩) ?_ ?_
      rotate_left
      ·exact dz489
      rotate_left
      ·exact dz490
      refine pure_ (i := 9) (N := some 52) (v := ?_) (a' := ?_) #[true, true, true, true, true, true, true, true, true, true, false, true, false, false, false, false] rfl rfl (any_of HT_.out (by kernel_rfl)) (fun _ _ _ h => h) (Or.inl ⟨by rfl, ?_⟩) ?_ ?_
      rotate_left
      ·exact dz489
      rotate_left
      ·exact dz490
      refine take_ (i := 10) (N := some 53) (v := ?_) (a' := ?_) (fl_ 12 4) rfl rfl (take_ofW HT_.out HW_.out (by kernel_rfl)) (fun _ _ _ h => h) (Or.inl ⟨by rfl, ?_⟩) hHeld ?_ ?_
      rotate_left
      ·exact dz494
      rotate_left
      ·exact dz490
      refine one_ (i := 12) (N := some 55) (fl_ 13 3) rfl rfl (one_of HT_.out (by kernel_rfl)) (by decide) (fun K hK => ?_)
      refine goes_ Try.func144 (by kernel_rfl) rfl #[.slice A279_1 ((rd_T50 t272 (ji59)).f1).length c279_1, .int .i64 a3] (by rfl) rfl rfl dz148 ?_
      with_reducible refine (spec_l4Put.calls kj7 _ _ ((rd_T50 t272 (ji59)).f1) a3 t280 _ ?side1 ?side2 A62.out).mono ?_
      (case side1 => repeat (first | exact dz149 | (with_reducible refine Kd.C_alloc ?_ _) | (with_reducible refine Kd.C_drewN ?_ _) | (with_reducible refine Kd.C_drew ?_)))
      (case side2 => exact HC279_1.out)
      rintro e w67 ⟨v281, rfl, ho0, hb⟩
      have HS2_ := (hb.cell (World.block_lt_of_cell? _ _ (hHeld.2.2.1))).trans (hHeld.2.2.1)
      have HS3_ := (hb.cell (World.block_lt_of_cell? _ _ (hHeld.2.2.2.1))).trans (hHeld.2.2.2.1)
      have HS4_ := (hb.cell (World.block_lt_of_cell? _ _ (hHeld.2.2.2.2))).trans (hHeld.2.2.2.2)
      refine ⟨_, rfl, ?_⟩
      replace HO_276001 := Aside0.mk (Kd.N_elder' (by (with_reducible repeat (first | apply Kd.N_alloc | apply Kd.N_drewN | apply Kd.N_drew)); exact HO_276001.out) (Kd.R_base ho0) hb)
      replace HL279_1 := Aside0.mk (Kd.V_elder' (by (with_reducible repeat (first | apply Kd.V_alloc | apply Kd.V_drewN | apply Kd.V_drew)); exact HL279_1.out) (Kd.R_base ho0) hb)
      have HO282 := Aside0.mk (Kd.R_lower (Kd.R_newM (M := fun k_ => (w.heap.size ≤ k_)) ho0 (below_size dz88) (fun k_ h_ => h_)) (below_size dz88))
      replace BK267 := (bkb_ BK267 hb)
      replace BK268 := (bkb_ BK268 hb)
      replace BK269 := (bkb_ BK269 hb)
      replace BK275 := (bkb_ BK275 hb)
      replace HR279_1 := Aside0.mk (Kd.C_below dz149 hb)
      replace HB := Aside0.mk (below_step dz88 hb)
      (try clear hb)
      (try clear hb2)
      (try clear hk)
      (try clear hi)
      (try clear ho0)
      have p63 : 0 ≤ ((ji59) : Int) := of_decide_eq_true dz0
      have q63 : ((ji59) : Int) < ((t272.length : Int) : Int) := of_decide_eq_true dz0
      obtain ⟨go63, co63, eo63, gb63, gl63, cl63, HG63⟩ := Kd.N_form HO_276001.out (by omega)
      (first | cases eo63 | (injection eo63 with ea_ en_ ec_; (first | subst ea_ | (injection ea_ with ea_; subst ea_)); subst ec_; clear en_))
      have GB63 := Aside0.mk gb63
      have GG63 := Aside0.mk HG63
      clear gb63 gl63 HG63
      (first | simp only [add_plain] at hx279_0 | skip)
      (first | simp only [add_plain] at hx279_1 | skip)
      (first | simp only [add_plain] at hx279_2 | skip)
      obtain ⟨ce63, hcl63, hM63, hcc63, hfr63⟩ := Kd.N_elem HO_276001.out z50 ((ji59) : Int) p63 q63
      obtain ⟨ua63_1, uc63_1, rfl, ul63_1, ge63_1⟩ := k50_openF hM63
      have hx63_0 : World.cell? _ ⟨go63, ((ji59) : Int).toNat * 3, none⟩ = some (.string ((rd_T50 t272 (ji59)).f0)) := hcc63 0 _ rfl
      have hx63_1 : World.cell? _ ⟨go63, ((ji59) : Int).toNat * 3 + 1, none⟩ = some (.slice ua63_1 ((rd_T50 t272 (ji59)).f1).length uc63_1) := hcc63 1 _ rfl
      have hx63_2 : World.cell? _ ⟨go63, ((ji59) : Int).toNat * 3 + 2, none⟩ = some (.bool ((rd_T50 t272 (ji59)).f2)) := hcc63 2 _ rfl
      have hf63_0 : World.frozen? _ ⟨go63, ((ji59) : Int).toNat * 3, none⟩ = false := hfr63 0
      have hf63_1 : World.frozen? _ ⟨go63, ((ji59) : Int).toNat * 3 + 1, none⟩ = false := hfr63 1
      have hf63_2 : World.frozen? _ ⟨go63, ((ji59) : Int).toNat * 3 + 2, none⟩ = false := hfr63 2
      clear hcl63 hcc63 hfr63; (try clear hM63)
      replace p63 := eq_true p63
      replace q63 := eq_true q63
      obtain ⟨Ao68, co68, eo68⟩ := Kd.R_slice HO282.out
      (first | subst eo68 | (injection eo68 with f1_ f2_ f3_; have f4_ := f1_.symm; have f5_ := f3_.symm; clear f1_ f2_ f3_; subst f4_; subst f5_))
      have HX69 := Aside0.mk (show Kd.N k50 50 _ w.heap.size (fun k_ => (w.heap.size ≤ k_) ∧ some k_ ≠ (.slice Ao68 t280.length co68 : Value).ownBlock ∧ k_ ≠ gb267 ∧ k_ ≠ gb268 ∧ k_ ≠ gb269 ∧ k_ ≠ gb275) (.slice (some ⟨go63, 0, none⟩) t272.length co25) t272 from (Kd.N_mono (HO_276001.out) (fun k_ hk => ⟨hk.1.1, ⟨hk.2, ⟨hk.1.2.1, ⟨hk.1.2.2.1, ⟨hk.1.2.2.2.1, hk.1.2.2.2.2⟩⟩⟩⟩⟩)))
      replace HX69 := Aside0.mk (show Kd.N k50 50 _ w.heap.size (fun k_ => (w.heap.size ≤ k_) ∧ k_ ≠ gb267 ∧ k_ ≠ gb268 ∧ k_ ≠ gb269 ∧ k_ ≠ gb275) (.slice (some ⟨go63, 0, none⟩) t272.length co25) t272 from Kd.N_mono HX69.out (fun k_ hk => ⟨hk.1, ⟨hk.2.2.1, ⟨hk.2.2.2.1, ⟨hk.2.2.2.2.1, hk.2.2.2.2.2⟩⟩⟩⟩))
      obtain ⟨ce69, hcl69, hM69, hcc69, hfr69⟩ := Kd.N_elem HX69.out z50 ((ji59) : Int) (of_decide_eq_true dz0) (by have h_ : ((ji59) : Int) < ((t272.length : Int) : Int) := of_decide_eq_true dz0; first | exact h_ | (have e_ := (Kd.N_reads' HO_276001.out).1; omega) | simpa using h_)
      obtain ⟨ua69_1, uc69_1, rfl, ul69_1, ge69_1⟩ := k50_openF hM69
      have HP69 := (Kd.N_seg HX69.out ((ji59) : Int) (of_decide_eq_true dz0) (by have h_ : ((ji59) : Int) < ((t272.length : Int) : Int) := of_decide_eq_true dz0; first | exact h_ | (have e_ := (Kd.N_reads' HO_276001.out).1; omega) | simpa using h_) (seg := [.slice Ao68 t280.length co68]) (j := 1) hcl69 hcc69 (show 2 ≤ 3 from by decide) (x' := (⟨(rd_T50 t272 (ji59)).f0, t280, (rd_T50 t272 (ji59)).f2⟩ : S50)) (k50_mkF _ _ (⟨(rd_T50 t272 (ji59)).f0, t280, (rd_T50 t272 (ji59)).f2⟩ : S50) (Kd.R_reads' (Kd.R_mono (ok' := (fun k_ => ((fun k_ => (w.heap.size ≤ k_) ∧ k_ ≠ gb267 ∧ k_ ≠ gb268 ∧ k_ ≠ gb269 ∧ k_ ≠ gb275)) k_ ∧ k_ ≠ go63)) (Kd.R_types (Kd.R_types (Kd.R_types (Kd.R_types (Kd.R_apart' (HO282.out) (Kd.N_typed HO_276001.out) (by decide)) BK267.out (by decide)) BK268.out (by decide)) BK269.out (by decide)) BK275.out (by decide)) (fun k_ hk => ⟨⟨hk.1.1.1.1.1.1, ⟨hk.1.1.1.2, ⟨hk.1.1.2, ⟨hk.1.2, hk.2⟩⟩⟩⟩, fun e_ => (hk.1.1.1.1.2) (by rw [e_]; rfl)⟩))).2.1 (Kd.R_F (Kd.R_mono (ok' := (fun k_ => ((fun k_ => (w.heap.size ≤ k_) ∧ k_ ≠ gb267 ∧ k_ ≠ gb268 ∧ k_ ≠ gb269 ∧ k_ ≠ gb275)) k_ ∧ k_ ≠ go63)) (Kd.R_types (Kd.R_types (Kd.R_types (Kd.R_types (Kd.R_apart' (HO282.out) (Kd.N_typed HO_276001.out) (by decide)) BK267.out (by decide)) BK268.out (by decide)) BK269.out (by decide)) BK275.out (by decide)) (fun k_ hk => ⟨⟨hk.1.1.1.1.1.1, ⟨hk.1.1.1.2, ⟨hk.1.1.2, ⟨hk.1.2, hk.2⟩⟩⟩⟩, fun e_ => (hk.1.1.1.1.2) (by rw [e_]; rfl)⟩)))) (fun _ hk => hk)).1
      rw [← Ny283.out] at HP69
      have HQ69 := Aside0.mk HP69
      clear hcl69 hcc69 hfr69 HP69; (try clear hM69)
      refine hK.out _ _ ⟨(blk_cell BK275.out 0).trans rfl, (blk_cell BK275.out 1).trans rfl, HS2_, HS3_, HS4_⟩ (fun hHeld => ?_)
      clear hK K
      refine norm_ (a' := ?_) ?_ ?_
      rotate_left
      ·show Act.put _ (some 55) _ = _
       simp only [Act.put, List.setIfInBounds_toArray, List.set_cons_zero, List.set_cons_succ, i64_w, i32_w]
       rfl
      refine pure_ (i := 13) (N := some 56) (v := ?_) (a' := ?_) (fl_ 14 2) rfl rfl (any_of HT_.out (by kernel_rfl)) (fun _ _ _ h => h) (Or.inl ⟨by rfl, ?_⟩) ?_ ?_
      rotate_left
      ·exact dz489
      rotate_left
      ·exact dz490
      refine pure_ (i := 14) (N := some 57) (v := ?_) (a' := ?_) (fl_ 15 1) rfl rfl (any_of HT_.out (by kernel_rfl)) (fun _ _ _ h => h) (Or.inl ⟨by rfl, ?_⟩) ?_ ?_
      rotate_left
      ·exact dz489
      rotate_left
      ·exact dz490
      refine last_ (i := 15) (N := none) (fl_ 16 0) rfl rfl (one_of HT_.out (by kernel_rfl)) (by decide) (fun K hK => ?_)
      refine skip_ (w1 := ?_) (by rfl) rfl ?_ ?_
      rotate_left
      ·go_simp
       rfl
      refine hK.out _ _ ?_
      clear hK K
      refine done_ (done_of HT_.out (by kernel_rfl)) ?_
      have n0_ : Aside0 (Kd.N k50 50 (w67.setCell ⟨go63, ((ji59) : Int).toNat * 3 + 1, none⟩ (.slice Ao68 t280.length co68)) w.heap.size (fun k_ => (w.heap.size ≤ k_) ∧ k_ ≠ gb267 ∧ k_ ≠ gb268 ∧ k_ ≠ gb269 ∧ k_ ≠ gb275) (.slice (some ⟨go63, 0, none⟩) t272.length co25) y283) := ⟨by (with_reducible repeat (first | apply Kd.N_alloc | apply Kd.N_drewN | apply Kd.N_drew)); exact HQ69.out⟩
      have n1_ : Aside0 (Kd.V (Kd.int .i64) 3 (w67.setCell ⟨go63, ((ji59) : Int).toNat * 3 + 1, none⟩ (.slice Ao68 t280.length co68)) w.heap.size (fun k_ => (w.heap.size ≤ k_) ∧ some k_ ≠ (.slice (some ⟨go63, 0, none⟩) t272.length co25 : Value).ownBlock ∧ k_ ≠ gb267 ∧ k_ ≠ gb268 ∧ k_ ≠ gb269 ∧ k_ ≠ gb275) (.slice A279_1 ((rd_T50 t272 (ji59)).f1).length c279_1) ((rd_T50 t272 (ji59)).f1)) := ⟨by (with_reducible repeat (first | apply Kd.V_alloc | apply Kd.V_drewN | apply Kd.V_drew)); exact Kd.V_mono (Kd.V_far (p := ⟨go63, ((ji59) : Int).toNat * 3 + 1, none⟩) (Kd.V_mono HL279_1.out (fun k_ hk => (⟨hk, fun e_ => hk.1.2 (by rw [e_]; rfl)⟩ : _ ∧ k_ ≠ go63))) (fun _ hk => hk.2) (.slice Ao68 t280.length co68)) (fun _ hk => ⟨hk.1.1.1.1, ⟨hk.1.1.2, ⟨hk.1.1.1.2.1, ⟨hk.1.1.1.2.2.1, ⟨hk.1.1.1.2.2.2.1, hk.1.1.1.2.2.2.2⟩⟩⟩⟩⟩)⟩
      have n2_ : Aside0 ((w67.setCell ⟨go63, ((ji59) : Int).toNat * 3 + 1, none⟩ (.slice Ao68 t280.length co68)).heap[gb267]? = some (.cells #[.slice A0_0 l0_0.length c0_0, .int .i64 a0_1] 31 (0, 0))) := ⟨by (with_reducible repeat (first | refine blk_drewN ?_ _ | refine blk_drew ?_ | refine blk_alloc ?_ _)); refine blk_far ?_ (by have h_ := Kd.N_away HO_276001.out (fun _ hk => by first | exact hk.2.1 | exact hk.1.2.1); intro e_; exact h_ (by rw [e_]; rfl)) _; (with_reducible repeat (first | refine blk_drewN ?_ _ | refine blk_drew ?_ | refine blk_alloc ?_ _)); exact BK267.out⟩
      have n3_ : Aside0 ((w67.setCell ⟨go63, ((ji59) : Int).toNat * 3 + 1, none⟩ (.slice Ao68 t280.length co68)).heap[gb268]? = some (.cells #[.int .i64 a1_0, .slice A1_1 l1_1.length c1_1] 44 (0, 0))) := ⟨by (with_reducible repeat (first | refine blk_drewN ?_ _ | refine blk_drew ?_ | refine blk_alloc ?_ _)); refine blk_far ?_ (by have h_ := Kd.N_away HO_276001.out (fun _ hk => by first | exact hk.2.2.1 | exact hk.1.2.2.1); intro e_; exact h_ (by rw [e_]; rfl)) _; (with_reducible repeat (first | refine blk_drewN ?_ _ | refine blk_drew ?_ | refine blk_alloc ?_ _)); exact BK268.out⟩
      have n4_ : Aside0 ((w67.setCell ⟨go63, ((ji59) : Int).toNat * 3 + 1, none⟩ (.slice Ao68 t280.length co68)).heap[gb269]? = some (.cells #[.int .i64 0, .slice none 0 0] 44 (0, 0))) := ⟨by (with_reducible repeat (first | refine blk_drewN ?_ _ | refine blk_drew ?_ | refine blk_alloc ?_ _)); refine blk_far ?_ (by have h_ := Kd.N_away HO_276001.out (fun _ hk => by first | exact hk.2.2.2.1 | exact hk.1.2.2.2.1); intro e_; exact h_ (by rw [e_]; rfl)) _; (with_reducible repeat (first | refine blk_drewN ?_ _ | refine blk_drew ?_ | refine blk_alloc ?_ _)); exact BK269.out⟩
      have n5_ : Aside0 ((w67.setCell ⟨go63, ((ji59) : Int).toNat * 3 + 1, none⟩ (.slice Ao68 t280.length co68)).heap[gb275]? = some (.cells #[.int .i64 t271, .slice (some ⟨go63, 0, none⟩) t272.length co25] 44 (0, 0))) := ⟨by (with_reducible repeat (first | refine blk_drewN ?_ _ | refine blk_drew ?_ | refine blk_alloc ?_ _)); refine blk_far ?_ (by have h_ := Kd.N_away HO_276001.out (fun _ hk => by first | exact hk.2.2.2.2 | exact hk.1.2.2.2.2); intro e_; exact h_ (by rw [e_]; rfl)) _; (with_reducible repeat (first | refine blk_drewN ?_ _ | refine blk_drew ?_ | refine blk_alloc ?_ _)); exact BK275.out⟩
      have n6_ : Aside0 (Below w.heap.size w (w67.setCell ⟨go63, ((ji59) : Int).toNat * 3 + 1, none⟩ (.slice Ao68 t280.length co68))) := ⟨by repeat (first | (with_reducible first | exact HB.out | apply below_alloc | apply pw_below_drewN | apply below_drew1 | refine below_set ?_ GB63.out | refine below_set ?_ GE267.out | refine below_set ?_ GE268.out | refine below_set ?_ GE269.out | refine below_set ?_ GE275.out) | exact HB.out)⟩
      (try clear HO_276001)
      (try clear HL279_1)
      (try clear BK267)
      (try clear BK268)
      (try clear BK269)
      (try clear BK275)
      (try clear HB)
      generalize (w67.setCell ⟨go63, ((ji59) : Int).toNat * 3 + 1, none⟩ (.slice Ao68 t280.length co68)) = w70 at n0_ n1_ n2_ n3_ n4_ n5_ n6_ ⊢
      have HO_276001 := n0_
      have HL279_1 := n1_
      have BK267 := n2_
      have BK268 := n3_
      have BK269 := n4_
      have BK275 := n5_
      have HB := n6_
      clear n0_ n1_ n2_ n3_ n4_ n5_ n6_
      try go_wp2
      replace HO_276001 := Aside0.mk (Kd.N_drew HO_276001.out)
      replace HL279_1 := Aside0.mk (Kd.V_drew HL279_1.out)
      replace BK267 := Aside0.mk (blk_drew BK267.out)
      replace BK268 := Aside0.mk (blk_drew BK268.out)
      replace BK269 := Aside0.mk (blk_drew BK269.out)
      replace BK275 := Aside0.mk (blk_drew BK275.out)
      replace HB := Aside0.mk (below_drew1 HB.out)
      have p284 : 0 ≤ ((ji59) : Int) := of_decide_eq_true dz0
      have q284 : (ji59) < (y283.length : Int) := (by have h_ : ((ji59) : Int) < ((t272.length : Int) : Int) := of_decide_eq_true dz0; first | (have e_ := (Kd.N_reads' HO_276001.out).1; omega) | simpa only [Ny283.out, List.length_set] using h_)
      have ql284 : (((ji59) : Int) < ((t272.length : Int) : Int)) = True := eq_true (of_decide_eq_true dz0)
      obtain ⟨ad284, A284_1, c284_1, e284, hx284_0, hx284_1, hx284_2, hl284_1, hi284_1⟩ := at_T50 (Kd.N_reads' HO_276001.out).2.2 (ji59) p284 q284
      obtain rfl : (⟨go63, 0, none⟩ : Addr) = ad284 := (by injection e284)
      obtain ⟨ce284, hce284, hMe284, hcc284⟩ := Kd.N_get HO_276001.out z50 (ji59) p284 (by first | exact q284 | exact of_decide_eq_true dz0 | (have e_ := (Kd.N_reads' HO_276001.out).1; omega))
      obtain ⟨ua284_1, uc284_1, rfl, ul284_1, ge284_1⟩ := k50_openF hMe284
      have hv284_1 := hcc284 1 _ rfl
      rw [add_field _ _ 1 (by omega)] at hv284_1
      replace hv284_1 := Option.some.inj (hv284_1.symm.trans hx284_1)
      injection hv284_1 with hva_ hvn_ hvc_
      rw [hva_] at ge284_1
      rw [hvc_] at ul284_1
      have HL284_1 := Aside0.mk (show Kd.V (Kd.int .i64) 3 _ w.heap.size _ _ ((rd_T50 y283 (ji59)).f1) from Kd.V_mk ul284_1 ge284_1)
      clear hva_ hvn_ hvc_ ge284_1 ul284_1
      clear hcc284 hce284
      (first | simp only [add_plain] at hx284_0 | simp only [add_at] at hx284_0 | simp only [Addr.add, Nat.zero_add] at hx284_0 | skip)
      (first | simp only [add_plain] at hx284_1 | simp only [add_at] at hx284_1 | simp only [Addr.add, Nat.zero_add] at hx284_1 | skip)
      (first | simp only [add_plain] at hx284_2 | simp only [add_at] at hx284_2 | simp only [Addr.add, Nat.zero_add] at hx284_2 | skip)
      have HR284_1 := Aside0.mk hi284_1
      have HC284_1 := Aside0.mk hl284_1
      clear hi284_1 hl284_1
      replace p284 := eq_true p284
      replace q284 := eq_true q284
      refine start_ (n := 16) (S := fun w' => w'.cell? ⟨gb275, 0, none⟩ = some (.int .i64 t271) ∧ w'.cell? ⟨gb275, 1, none⟩ = some (.slice (some ⟨go63, 0, none⟩) t272.length co25) ∧ w'.cell? ⟨gb267, 0, none⟩ = some (.slice A0_0 l0_0.length c0_0) ∧ w'.cell? ⟨gb267, 1, none⟩ = some (.int .i64 a0_1) ∧ w'.cell? ⟨go63, ((ji59)).toNat * 3, none⟩ = some (.string ((rd_T50 y283 (ji59)).f0)) ∧ w'.cell? ⟨go63, ((ji59)).toNat * 3 + 1, none⟩ = some (.slice A284_1 ((rd_T50 y283 (ji59)).f1).length c284_1) ∧ w'.cell? ⟨go63, ((ji59)).toNat * 3 + 2, none⟩ = some (.bool ((rd_T50 y283 (ji59)).f2))) (ds := [15]) (fl_ 0 16) (by kernel_rfl) rfl rfl ⟨(blk_cell BK275.out 0).trans rfl, (blk_cell BK275.out 1).trans rfl, (blk_cell BK267.out 0).trans rfl, (blk_cell BK267.out 1).trans rfl, hx284_0, hx284_1, hx284_2⟩ (fun hHeld => ?_); refine with_tabW spec_WriterAck.tab7 spec_WriterAck.bits7 (fun HT_ HW_ => ?_)
      generalize w70.drew = w71 at HO_276001 HL279_1 BK267 BK268 BK269 BK275 HB HL284_1 HR284_1 hx284_0 hx284_1 hx284_2 hHeld ⊢
      refine pure_ (i := 0) (N := some 58) (v := ?_) (a' := ?_) (fl_ 1 15) rfl rfl (any_of HT_.out (by kernel_rfl)) (fun _ _ _ h => h) (Or.inl ⟨by rfl, ?_⟩) ?_ ?_
      rotate_left
      ·exact dz489
      rotate_left
      ·exact dz490
      refine pure_ (i := 2) (N := some 60) (v := ?_) (a' := ?_) #[true, false, true, false, false, false, false, false, false, false, false, false, false, false, false, false] rfl rfl (any_of HT_.out (by kernel_rfl)) (fun _ _ _ h => h) (Or.inl ⟨by rfl, ?_⟩) ?_ ?_
      rotate_left
      ·exact dz489
      rotate_left
      ·exact dz490
      refine pure_ (i := 3) (N := some 61) (v := ?_) (a' := ?_) #[true, false, true, true, false, false, false, false, false, false, false, false, false, false, false, false] rfl rfl (any_of HT_.out (by kernel_rfl)) (fun _ _ _ h => h) (Or.inl ⟨by rfl, ?_⟩) ?_ ?_
      rotate_left
      ·exact dz489
      rotate_left
      ·exact dz490
      refine pure_ (i := 5) (N := some 63) (v := ?_) (a' := ?_) #[true, false, true, true, false, true, false, false, false, false, false, false, false, false, false, false] rfl rfl (any_of HT_.out (by kernel_rfl)) (fun _ _ _ h => h) (Or.inl ⟨by rfl, ?_⟩) ?_ ?_
      rotate_left
      ·exact dz489
      rotate_left
      ·exact dz490
      refine pure_ (i := 7) (N := some 65) (v := ?_) (a' := ?_) #[true, false, true, true, false, true, false, true, false, false, false, false, false, false, false, false] rfl rfl (any_of HT_.out (by kernel_rfl)) (fun _ _ _ h => h) (Or.inl ⟨by rfl, ?_⟩) ?_ ?_
      rotate_left
      ·exact dz489
      rotate_left
      ·exact dz490
      refine pure_ (i := 8) (N := some 66) (v := ?_) (a' := ?_) #[true, false, true, true, false, true, false, true, true, false, false, false, false, false, false, false] rfl rfl (any_of HT_.out (by kernel_rfl)) (fun _ _ _ h => h) (Or.inl ⟨by rfl, ?_⟩) ?_ ?_
      rotate_left
      ·exact dz489
      rotate_left
      ·exact dz490
      refine take_ (i := 1) (N := some 59) (v := ?_) (a' := ?_) #[true, true, true, true, false, true, false, true, true, false, false, false, false, false, false, false] rfl rfl (take_ofW HT_.out HW_.out (by kernel_rfl)) (fun _ _ _ h => h) (Or.inl ⟨by rfl, ?_⟩) hHeld ?_ ?_
      rotate_left
      ·exact dz496
      rotate_left
      ·exact dz490
      refine take_ (i := 4) (N := some 62) (v := ?_) (a' := ?_) #[true, true, true, true, true, true, false, true, true, false, false, false, false, false, false, false] rfl rfl (take_ofW HT_.out HW_.out (by kernel_rfl)) (fun _ _ _ h => h) (Or.inl ⟨by rfl, ?_⟩) hHeld ?_ ?_
      rotate_left
      ·exact dz496
      rotate_left
      ·exact dz490
      refine take_ (i := 6) (N := some 64) (v := ?_) (a' := ?_) (fl_ 9 7) rfl rfl (take_ofW HT_.out HW_.out (by kernel_rfl)) (fun _ _ _ h => h) (Or.inl ⟨by rfl, ?_⟩) hHeld ?_ ?_
      rotate_left
      ·exact dz496
      rotate_left
      ·exact dz490
      refine pure_ (i := 9) (N := some 67) (v := ?_) (a' := ?_) (fl_ 10 6) rfl rfl (any_of HT_.out (by kernel_rfl)) (fun _ _ _ h => h) (Or.inl ⟨by rfl, ?_⟩) ?_ ?_
      rotate_left
      ·exact dz489
      rotate_left
      ·exact dz490
      refine pure_ (i := 10) (N := some 68) (v := ?_) (a' := ?_) (fl_ 11 5) rfl rfl (any_of HT_.out (by kernel_rfl)) (fun _ _ _ h => h) (Or.inl ⟨by rfl, ?_⟩) ?_ ?_
      rotate_left
      ·exact dz489
      rotate_left
      ·exact dz490
      refine take_ (i := 11) (N := some 69) (v := ?_) (a' := ?_) (fl_ 12 4) rfl rfl (take_ofW HT_.out HW_.out (by kernel_rfl)) (fun _ _ _ h => h) (Or.inl ⟨by rfl, ?_⟩) hHeld ?_ ?_
      rotate_left
      ·exact dz496
      rotate_left
      ·exact dz490
      refine one_ (i := 12) (N := some 70) (fl_ 13 3) rfl rfl (one_of HT_.out (by kernel_rfl)) (by decide) (fun K hK => ?_)
      refine goes_ Try.func54 (by kernel_rfl) rfl #[.agg #[.slice A0_0 l0_0.length c0_0, .int .i64 a0_1], .slice A284_1 ((rd_T50 y283 (ji59)).f1).length c284_1] (by rfl) rfl rfl dz148 ?_
      with_reducible refine (spec_Holds.calls kj7 _ _ l0_0 a0_1 _ _ ((rd_T50 y283 (ji59)).f1) t285 _ ?side1 ?side2 ?side3 ?side4 A64.out).mono ?_
      (case side1 => exact dz462)
      (case side2 => exact HC0_0.out)
      (case side3 => repeat (first | exact dz152 | (with_reducible refine Kd.C_alloc ?_ _) | (with_reducible refine Kd.C_drewN ?_ _) | (with_reducible refine Kd.C_drew ?_)))
      (case side4 => exact HC284_1.out)
      rintro e w72 ⟨rfl, hb⟩
      have HS4_ := (hb.cell (World.block_lt_of_cell? _ _ (hHeld.2.2.2.2.1))).trans (hHeld.2.2.2.2.1)
      have HS5_ := (hb.cell (World.block_lt_of_cell? _ _ (hHeld.2.2.2.2.2.1))).trans (hHeld.2.2.2.2.2.1)
      have HS6_ := (hb.cell (World.block_lt_of_cell? _ _ (hHeld.2.2.2.2.2.2))).trans (hHeld.2.2.2.2.2.2)
      refine ⟨_, rfl, ?_⟩
      replace HO_276001 := Aside0.mk (Kd.N_below (by (with_reducible repeat (first | apply Kd.N_alloc | apply Kd.N_drewN | apply Kd.N_drew)); exact HO_276001.out) hb)
      replace HL279_1 := Aside0.mk (Kd.V_below (by (with_reducible repeat (first | apply Kd.V_alloc | apply Kd.V_drewN | apply Kd.V_drew)); exact HL279_1.out) hb)
      replace HL284_1 := Aside0.mk (Kd.V_below (by (with_reducible repeat (first | apply Kd.V_alloc | apply Kd.V_drewN | apply Kd.V_drew)); exact HL284_1.out) hb)
      replace BK267 := (bkb_ BK267 hb)
      replace BK268 := (bkb_ BK268 hb)
      replace BK269 := (bkb_ BK269 hb)
      replace BK275 := (bkb_ BK275 hb)
      replace HR284_1 := Aside0.mk (Kd.C_below dz152 hb)
      replace HB := Aside0.mk (below_step dz88 hb)
      (try clear hb)
      (try clear hb2)
      (try clear hk)
      (try clear hi)
      have p65 : 0 ≤ ((ji59) : Int) := of_decide_eq_true dz0
      have q65 : ((ji59) : Int) < ((t272.length : Int) : Int) := of_decide_eq_true dz0
      obtain ⟨ce65, hcl65, hM65, hcc65, hfr65⟩ := Kd.N_elem HO_276001.out z50 ((ji59) : Int) p65 q65
      obtain ⟨ua65_1, uc65_1, rfl, ul65_1, ge65_1⟩ := k50_openF hM65
      have hx65_0 : World.cell? _ ⟨go63, ((ji59) : Int).toNat * 3, none⟩ = some (.string ((rd_T50 y283 (ji59)).f0)) := hcc65 0 _ rfl
      have hx65_1 : World.cell? _ ⟨go63, ((ji59) : Int).toNat * 3 + 1, none⟩ = some (.slice ua65_1 ((rd_T50 y283 (ji59)).f1).length uc65_1) := hcc65 1 _ rfl
      have hx65_2 : World.cell? _ ⟨go63, ((ji59) : Int).toNat * 3 + 2, none⟩ = some (.bool ((rd_T50 y283 (ji59)).f2)) := hcc65 2 _ rfl
      have hf65_0 : World.frozen? _ ⟨go63, ((ji59) : Int).toNat * 3, none⟩ = false := hfr65 0
      have hf65_1 : World.frozen? _ ⟨go63, ((ji59) : Int).toNat * 3 + 1, none⟩ = false := hfr65 1
      have hf65_2 : World.frozen? _ ⟨go63, ((ji59) : Int).toNat * 3 + 2, none⟩ = false := hfr65 2
      clear hcl65 hcc65 hfr65; (try clear hM65)
      replace p65 := eq_true p65
      replace q65 := eq_true q65
      have HX73 := Aside0.mk (show Kd.N k50 50 _ w.heap.size (fun k_ => (w.heap.size ≤ k_) ∧ k_ ≠ gb267 ∧ k_ ≠ gb268 ∧ k_ ≠ gb269 ∧ k_ ≠ gb275) (.slice (some ⟨go63, 0, none⟩) t272.length co25) y283 from (Kd.N_mono (HO_276001.out) (fun k_ hk => ⟨hk.1, ⟨hk.2.1, ⟨hk.2.2.1, ⟨hk.2.2.2.1, hk.2.2.2.2⟩⟩⟩⟩)))
      obtain ⟨ce73, hcl73, hM73, hcc73, hfr73⟩ := Kd.N_elem HX73.out z50 ((ji59) : Int) (of_decide_eq_true dz0) (by have h_ : ((ji59) : Int) < ((t272.length : Int) : Int) := of_decide_eq_true dz0; first | exact h_ | (have e_ := (Kd.N_reads' HO_276001.out).1; omega) | simpa using h_)
      obtain ⟨ua73_1, uc73_1, rfl, ul73_1, ge73_1⟩ := k50_openF hM73
      have HP73 := (Kd.N_seg HX73.out ((ji59) : Int) (of_decide_eq_true dz0) (by have h_ : ((ji59) : Int) < ((t272.length : Int) : Int) := of_decide_eq_true dz0; first | exact h_ | (have e_ := (Kd.N_reads' HO_276001.out).1; omega) | simpa using h_) (seg := [.bool t285]) (j := 2) hcl73 hcc73 (show 3 ≤ 3 from by decide) (x' := (⟨(rd_T50 y283 (ji59)).f0, (rd_T50 y283 (ji59)).f1, t285⟩ : S50)) (k50_mkF _ _ (⟨(rd_T50 y283 (ji59)).f0, (rd_T50 y283 (ji59)).f1, t285⟩ : S50) ul73_1 ge73_1) (fun _ hk => hk)).1
      rw [← Ny286.out] at HP73
      have HQ73 := Aside0.mk HP73
      clear hcl73 hcc73 hfr73 HP73; (try clear hM73)
      refine hK.out _ _ ⟨(blk_cell BK275.out 0).trans rfl, (blk_cell BK275.out 1).trans rfl, (blk_cell BK267.out 0).trans rfl, (blk_cell BK267.out 1).trans rfl, HS4_, HS5_, HS6_⟩ (fun hHeld => ?_)
      clear hK K
      refine norm_ (a' := ?_) ?_ ?_
      rotate_left
      ·show Act.put _ (some 70) _ = _
       simp only [Act.put, List.setIfInBounds_toArray, List.set_cons_zero, List.set_cons_succ, i64_w, i32_w]
       rfl
      refine pure_ (i := 13) (N := some 71) (v := ?_) (a' := ?_) (fl_ 14 2) rfl rfl (any_of HT_.out (by kernel_rfl)) (fun _ _ _ h => h) (Or.inl ⟨by rfl, ?_⟩) ?_ ?_
      rotate_left
      ·exact dz489
      rotate_left
      ·exact dz490
      refine pure_ (i := 14) (N := some 72) (v := ?_) (a' := ?_) (fl_ 15 1) rfl rfl (any_of HT_.out (by kernel_rfl)) (fun _ _ _ h => h) (Or.inl ⟨by rfl, ?_⟩) ?_ ?_
      rotate_left
      ·exact dz489
      rotate_left
      ·exact dz490
      refine last_ (i := 15) (N := none) (fl_ 16 0) rfl rfl (one_of HT_.out (by kernel_rfl)) (by decide) (fun K hK => ?_)
      refine skip_ (w1 := ?_) (by rfl) rfl ?_ ?_
      rotate_left
      ·go_simp
       rfl
      refine hK.out _ _ ?_
      clear hK K
      refine done_ (done_of HT_.out (by kernel_rfl)) ?_
      have n0_ : Aside0 (Kd.N k50 50 (w72.setCell ⟨go63, ((ji59) : Int).toNat * 3 + 2, none⟩ (.bool t285)) w.heap.size (fun k_ => (w.heap.size ≤ k_) ∧ k_ ≠ gb267 ∧ k_ ≠ gb268 ∧ k_ ≠ gb269 ∧ k_ ≠ gb275) (.slice (some ⟨go63, 0, none⟩) t272.length co25) y286) := ⟨by (with_reducible repeat (first | apply Kd.N_alloc | apply Kd.N_drewN | apply Kd.N_drew)); exact HQ73.out⟩
      have n1_ : Aside0 (Kd.V (Kd.int .i64) 3 (w72.setCell ⟨go63, ((ji59) : Int).toNat * 3 + 2, none⟩ (.bool t285)) w.heap.size (fun k_ => (w.heap.size ≤ k_) ∧ some k_ ≠ (.slice (some ⟨go63, 0, none⟩) t272.length co25 : Value).ownBlock ∧ k_ ≠ gb267 ∧ k_ ≠ gb268 ∧ k_ ≠ gb269 ∧ k_ ≠ gb275) (.slice A279_1 ((rd_T50 t272 (ji59)).f1).length c279_1) ((rd_T50 t272 (ji59)).f1)) := ⟨by (with_reducible repeat (first | apply Kd.V_alloc | apply Kd.V_drewN | apply Kd.V_drew)); exact Kd.V_mono (Kd.V_far (p := ⟨go63, ((ji59) : Int).toNat * 3 + 2, none⟩) (Kd.V_mono HL279_1.out (fun k_ hk => (⟨hk, fun e_ => hk.2.1 (by rw [e_]; rfl)⟩ : _ ∧ k_ ≠ go63))) (fun _ hk => hk.2) (.bool t285)) (fun _ hk => ⟨hk.1.1, ⟨hk.1.2.1, ⟨hk.1.2.2.1, ⟨hk.1.2.2.2.1, ⟨hk.1.2.2.2.2.1, hk.1.2.2.2.2.2⟩⟩⟩⟩⟩)⟩
      have n2_ : Aside0 (Kd.V (Kd.int .i64) 3 (w72.setCell ⟨go63, ((ji59) : Int).toNat * 3 + 2, none⟩ (.bool t285)) w.heap.size (fun k_ => (w.heap.size ≤ k_) ∧ some k_ ≠ (.slice (some ⟨go63, 0, none⟩) t272.length co25 : Value).ownBlock ∧ k_ ≠ gb267 ∧ k_ ≠ gb268 ∧ k_ ≠ gb269 ∧ k_ ≠ gb275) (.slice A284_1 ((rd_T50 y283 (ji59)).f1).length c284_1) ((rd_T50 y283 (ji59)).f1)) := ⟨by (with_reducible repeat (first | apply Kd.V_alloc | apply Kd.V_drewN | apply Kd.V_drew)); exact Kd.V_mono (Kd.V_far (p := ⟨go63, ((ji59) : Int).toNat * 3 + 2, none⟩) (Kd.V_mono HL284_1.out (fun k_ hk => (⟨hk, fun e_ => hk.2 (by rw [e_]; rfl)⟩ : _ ∧ k_ ≠ go63))) (fun _ hk => hk.2) (.bool t285)) (fun _ hk => ⟨hk.1.1.1, ⟨hk.1.2, ⟨hk.1.1.2.1, ⟨hk.1.1.2.2.1, ⟨hk.1.1.2.2.2.1, hk.1.1.2.2.2.2⟩⟩⟩⟩⟩)⟩
      have n3_ : Aside0 ((w72.setCell ⟨go63, ((ji59) : Int).toNat * 3 + 2, none⟩ (.bool t285)).heap[gb267]? = some (.cells #[.slice A0_0 l0_0.length c0_0, .int .i64 a0_1] 31 (0, 0))) := ⟨by (with_reducible repeat (first | refine blk_drewN ?_ _ | refine blk_drew ?_ | refine blk_alloc ?_ _)); refine blk_far ?_ (by have h_ := Kd.N_away HO_276001.out (fun _ hk => by first | exact hk.2.1 | exact hk.1.2.1); intro e_; exact h_ (by rw [e_]; rfl)) _; (with_reducible repeat (first | refine blk_drewN ?_ _ | refine blk_drew ?_ | refine blk_alloc ?_ _)); exact BK267.out⟩
      have n4_ : Aside0 ((w72.setCell ⟨go63, ((ji59) : Int).toNat * 3 + 2, none⟩ (.bool t285)).heap[gb268]? = some (.cells #[.int .i64 a1_0, .slice A1_1 l1_1.length c1_1] 44 (0, 0))) := ⟨by (with_reducible repeat (first | refine blk_drewN ?_ _ | refine blk_drew ?_ | refine blk_alloc ?_ _)); refine blk_far ?_ (by have h_ := Kd.N_away HO_276001.out (fun _ hk => by first | exact hk.2.2.1 | exact hk.1.2.2.1); intro e_; exact h_ (by rw [e_]; rfl)) _; (with_reducible repeat (first | refine blk_drewN ?_ _ | refine blk_drew ?_ | refine blk_alloc ?_ _)); exact BK268.out⟩
      have n5_ : Aside0 ((w72.setCell ⟨go63, ((ji59) : Int).toNat * 3 + 2, none⟩ (.bool t285)).heap[gb269]? = some (.cells #[.int .i64 0, .slice none 0 0] 44 (0, 0))) := ⟨by (with_reducible repeat (first | refine blk_drewN ?_ _ | refine blk_drew ?_ | refine blk_alloc ?_ _)); refine blk_far ?_ (by have h_ := Kd.N_away HO_276001.out (fun _ hk => by first | exact hk.2.2.2.1 | exact hk.1.2.2.2.1); intro e_; exact h_ (by rw [e_]; rfl)) _; (with_reducible repeat (first | refine blk_drewN ?_ _ | refine blk_drew ?_ | refine blk_alloc ?_ _)); exact BK269.out⟩
      have n6_ : Aside0 ((w72.setCell ⟨go63, ((ji59) : Int).toNat * 3 + 2, none⟩ (.bool t285)).heap[gb275]? = some (.cells #[.int .i64 t271, .slice (some ⟨go63, 0, none⟩) t272.length co25] 44 (0, 0))) := ⟨by (with_reducible repeat (first | refine blk_drewN ?_ _ | refine blk_drew ?_ | refine blk_alloc ?_ _)); refine blk_far ?_ (by have h_ := Kd.N_away HO_276001.out (fun _ hk => by first | exact hk.2.2.2.2 | exact hk.1.2.2.2.2); intro e_; exact h_ (by rw [e_]; rfl)) _; (with_reducible repeat (first | refine blk_drewN ?_ _ | refine blk_drew ?_ | refine blk_alloc ?_ _)); exact BK275.out⟩
      have n7_ : Aside0 (Below w.heap.size w (w72.setCell ⟨go63, ((ji59) : Int).toNat * 3 + 2, none⟩ (.bool t285))) := ⟨by repeat (first | (with_reducible first | exact HB.out | apply below_alloc | apply pw_below_drewN | apply below_drew1 | refine below_set ?_ GB63.out | refine below_set ?_ GE267.out | refine below_set ?_ GE268.out | refine below_set ?_ GE269.out | refine below_set ?_ GE275.out) | exact HB.out)⟩
      (try clear HO_276001)
      (try clear HL279_1)
      (try clear HL284_1)
      (try clear BK267)
      (try clear BK268)
      (try clear BK269)
      (try clear BK275)
      (try clear HB)
      generalize (w72.setCell ⟨go63, ((ji59) : Int).toNat * 3 + 2, none⟩ (.bool t285)) = w74 at n0_ n1_ n2_ n3_ n4_ n5_ n6_ n7_ ⊢
      have HO_276001 := n0_
      have HL279_1 := n1_
      have HL284_1 := n2_
      have BK267 := n3_
      have BK268 := n4_
      have BK269 := n5_
      have BK275 := n6_
      have HB := n7_
      clear n0_ n1_ n2_ n3_ n4_ n5_ n6_ n7_
      have hnb75 := NB275_267.out
      have hnc75 := NB267_275.out
      have hnb76 := NB275_268.out
      have hnc76 := NB268_275.out
      have hnb77 := NB275_269.out
      have hnc77 := NB269_275.out
      obtain ⟨hcz78_0, hcz78_1, hfz78_0, hfz78_1⟩ := cz2_ BK275
      have hnb79 := NB269_267.out
      have hnc79 := NB267_269.out
      have hnb80 := NB269_268.out
      have hnc80 := NB268_269.out
      obtain ⟨hcz81_0, hcz81_1, hfz81_0, hfz81_1⟩ := cz2_ BK269
      try go_wp2
      refine bodyPost_ret (results_ct rfl _ _ gb269 44 #[.int .i64 t271, .slice (some ⟨go63, 0, none⟩) t272.length co25] (0, 0) _ rfl dz147 Try.underlying44 rfl (by kernel_rfl)) rfl ?_
      exact ⟨_, by first | rfl | (simp [errW_none, errW_some] <;> rfl) | (simp only [← hji59]; first | rfl | (simp [errW_none, errW_some] <;> rfl)) | (simp [*, errW_none, errW_some] <;> rfl), by (with_reducible repeat (first | apply Kd.N_alloc | apply Kd.N_drewN | apply Kd.N_drew)); exact Kd.N_mono (Kd.N_far (p := ⟨gb269, 1, none⟩) (Kd.N_far (p := ⟨gb269, 0, none⟩) (Kd.N_mono HO_276001.out (fun k_ hk => (⟨hk, hk.2.2.2.1⟩ : _ ∧ k_ ≠ gb269))) (fun _ hk => hk.2) (.int .i64 t271)) (fun _ hk => hk.2) (.slice (some ⟨go63, 0, none⟩) t272.length co25)) (fun _ hk => hk.1.1), by repeat (first | (with_reducible first | exact HB.out | apply below_alloc | apply pw_below_drewN | apply below_drew1 | refine below_set ?_ GE267.out | refine below_set ?_ GE268.out | refine below_set ?_ GE269.out | refine below_set ?_ GE275.out) | exact HB.out)⟩
     rw [if_neg c61] at H
     exact absurd H (by simp)
    rw [if_neg c60] at H
    exact absurd H (by simp)
 replace c6 := Bool.eq_false_iff.mpr c6
 subst c6
 have H1 : (some (0, ([] : List (S50)), false)) = some (r1, r2, r3) := by rw [if_neg (show ¬ (false = true) by decide)] at H; exact H
 clear H
 have H := H1
 clear H1
 simp only [Option.some.injEq, Prod.mk.injEq] at H
 obtain ⟨rfl, rfl, rfl⟩ := H
 go_enter Try.func141, Try.ntmps141
 go_wp2_with (first | ((with_reducible refine gate_dst (N := 4) rfl ?_); (try (refine gate_guard (by rfl) ?_; dsimp only)); refine box_event kr_ (N := 4) kr_ (cs := #[.slice A0_0 l0_0.length c0_0, .int .i64 a0_1]) (t := 31) ks_ ?_; intro gb267 hg w1 hbox hb; have BK267 := Aside0.mk (hbox); have GW267 : Aside0 (w.heap.size ≤ gb267) := szl_ hg dz2; have GE267 : Aside0 (w.heap.size ≤ gb267) := szl_ hg dz2; replace HB := Aside0.mk (below_step dz2 hb); clear hb hbox hg) | ((with_reducible refine gate_dst (N := 5) rfl ?_); (try (refine gate_guard (by rfl) ?_; dsimp only)); refine box_event kr_ (N := 5) kr_ (cs := #[.int .i64 a1_0, .slice A1_1 l1_1.length c1_1]) (t := 44) ks_ ?_; intro gb268 hg w2 hbox hb; have BK268 := Aside0.mk (hbox); have GW268 : Aside0 (w.heap.size ≤ gb268) := szl_ hg dz51; have GE268 : Aside0 (w.heap.size ≤ gb268) := szl_ hg dz51; replace HB := Aside0.mk (below_step dz51 hb); have NB267_268 := (nbl_ hg BK267); have NB268_267 := (nbr_ hg BK267); replace BK267 := (bkb_ BK267 hb); clear hb hbox hg) | ((with_reducible refine gate_dst (N := 8) rfl ?_); (try (refine gate_guard (by rfl) ?_; dsimp only)); refine box_event kr_ (N := 8) kr_ (cs := #[.int .i64 0, .slice none 0 0]) (t := 44) ks_ ?_; intro gb269 hg w3 hbox hb; have BK269 := Aside0.mk (hbox); have GW269 : Aside0 (w.heap.size ≤ gb269) := szl_ hg dz52; have GE269 : Aside0 (w.heap.size ≤ gb269) := szl_ hg dz52; replace HB := Aside0.mk (below_step dz52 hb); have NB267_269 := (nbl_ hg BK267); have NB269_267 := (nbr_ hg BK267); replace BK267 := (bkb_ BK267 hb); have NB268_269 := (nbl_ hg BK268); have NB269_268 := (nbr_ hg BK268); replace BK268 := (bkb_ BK268 hb); clear hb hbox hg; have hnb85 := NB267_268.out; have hnc85 := NB268_267.out; have hnb86 := NB267_269.out; have hnc86 := NB269_267.out; obtain ⟨hcz87_0, hcz87_1, hfz87_0, hfz87_1⟩ := cz2_ BK267; have hnb88 := NB268_269.out; have hnc88 := NB269_268.out; obtain ⟨hcz89_0, hcz89_1, hfz89_0, hfz89_1⟩ := cz2_ BK268) | ((with_reducible refine gate_callee (f := 70) rfl ?_); refine goesL_ (some 13) rfl rfl Try.func70 (by kernel_rfl) rfl #[.agg #[.slice A0_0 l0_0.length c0_0, .int .i64 a0_1], .agg #[.int .i64 a1_0, .slice A1_1 l1_1.length c1_1]] rfl dz1 ?_; (with_reducible refine (spec_WriterOk.calls k _ _ l0_0 a0_1 a1_0 _ _ l1_1 false _ ?side1 ?side2 ?side3 ?side4 A5.out).mono ?_); (case side1 => exact dz462); (case side2 => exact HC0_0.out); (case side3 => exact dz465); (case side4 => exact HC1_1.out); rintro e w4 ⟨rfl, hb⟩; refine ⟨_, rfl, ?_⟩; replace BK267 := (bkb_ BK267 hb); replace BK268 := (bkb_ BK268 hb); replace BK269 := (bkb_ BK269 hb); replace HB := Aside0.mk (below_step dz43 hb); (try clear hb); (try clear hb2); (try clear hk); (try clear hi); obtain ⟨hcz91_0, hcz91_1, hfz91_0, hfz91_1⟩ := cz2_ BK269))
 refine bodyPost_ret (results_ct rfl _ _ gb269 44 #[.int .i64 0, .slice none 0 0] (0, 0) _ rfl (by (with_reducible repeat (first | refine blk_drewN ?_ _ | refine blk_drew ?_ | refine blk_alloc ?_ _)); refine blk_put (cs := #[.int .i64 0, .slice none 0 0]) ?_ 1 _ rfl; (with_reducible repeat (first | refine blk_drewN ?_ _ | refine blk_drew ?_ | refine blk_alloc ?_ _)); refine blk_put (cs := #[.int .i64 0, .slice none 0 0]) ?_ 0 _ rfl; (with_reducible repeat (first | refine blk_drewN ?_ _ | refine blk_drew ?_ | refine blk_alloc ?_ _)); exact BK269.out) Try.underlying44 rfl (by kernel_rfl)) rfl ?_
 exact ⟨_, by first | rfl | (simp [errW_none, errW_some] <;> rfl) | (simp [*, errW_none, errW_some] <;> rfl), by first | exact Kd.S_nil _ _ _ _ _ | exact Kd.N_nil _ _ _ _ _ | exact Kd.V_nil _ _ _ _ _ | exact Kd.Q_nil _ _ _ _ _ | exact Kd.R_nil _ _ _ _ _, by repeat (first | (with_reducible first | exact HB.out | apply below_alloc | apply pw_below_drewN | apply below_drew1 | refine below_set ?_ GE267.out | refine below_set ?_ GE268.out | refine below_set ?_ GE269.out) | exact HB.out)⟩
end Go.Proofs.Ytdkdhciogedoiab.PFnAdded
