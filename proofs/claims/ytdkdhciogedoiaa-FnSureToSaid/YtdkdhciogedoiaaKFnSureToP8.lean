-- Written by wip/gen/pack.py of this repo. Lean checks it.
import Derived.Test.YtdkdhciogedoiaaKFnSureToP0
import Derived.Test.YtdkdhciogedoiaaKFnSureToP1
import Derived.Test.YtdkdhciogedoiaaKFnSureToP6
import Derived.Test.YtdkdhciogedoiaaKFnSureToP7
import Derived.Test.YtdkdhciogedoiaaKFnSureToD
namespace Go.Proofs.Ytdkdhciogedoiaa.PFnSureTo
open Go.RowKit Go.Proofs.YtdkdhciogedoiaaW.PrintWords Go.Proofs.YtdkdhciogedoiaaW.PrintLast Go.Proofs.YtdkdhciogedoiaaW.PrintMore Go.Proofs.YtdkdhciogedoiaaW.Sq
attribute [local go_sem] max2_int min2_int max_two min_two max_three min_three max_four min_four
set_option linter.unusedVariables false
set_option linter.unusedSimpArgs false
def spec_l8Draw.l0 : Nat → List Int → Int → Int → Int → List (S53) → Option (Int × (List (S53)) × Int × Int)
 | 0, _, _, _, _, _ => none
 | k + 1, x1000, x1001, x1002, x283000, x283001 => if (x283001.length : Int) < 60 then (if (x283001.length : Int) > 0 then (if 0 < (x283001.length : Int) then (if x283001.length < 2932031007402 then (spec_l8Draw.l0 k x1000 x1001 x1002 x283000 (x283001 ++ [(⟨(rd_T53 x283001 0).f0, (rd_T53 x283001 0).f1, (rd_T53 x283001 0).f2⟩ : S53)])) else (none)) else (none)) else (some (x283000, x283001, x1001, x1002))) else (some (x283000, x283001, x1001, x1002))
def spec_l8Draw.f (k : Nat) (s0_0 : List Int) (s0_1 : Int) (s0_2 : Int) (l1_0 : List Int) (a1_1 : Int) : Option (Int × (List (S53)) × Int × Int) := (spec_l8DrawRight.f k s0_0 s0_1 s0_2 l1_0 a1_1).bind fun bt276 => ((spec_l1Below.f s0_0 bt276.2.2.1 bt276.2.2.2 25).bind fun bt283 => (if bt283.1 = 0 then ((spec_l1PickInt.f s0_0 bt283.2.1 bt283.2.2 (([0, 30, 31] : List Int))).bind fun bt289 => (some (bt289.1, bt276.2.1, bt289.2.1, bt289.2.2))) else (if bt283.1 = 1 then (if (bt276.2.1.length : Int) > 0 then (if 0 < (bt276.2.1.length : Int) then (some (bt276.1, (bt276.2.1.set (0 : Int).toNat (⟨(rd_T53 bt276.2.1 0).f0, (rd_T53 bt276.2.1 0).f1, !((rd_T53 bt276.2.1 0).f2)⟩ : S53)), bt283.2.1, bt283.2.2)) else (none)) else (some (bt276.1, bt276.2.1, bt283.2.1, bt283.2.2))) else (if bt283.1 = 2 then ((spec_l1Below.f s0_0 bt283.2.1 bt283.2.2 2).bind fun bt294 => (if 0 ≤ (wrap64 (40 + bt294.1)) then (if (wrap64 (40 + bt294.1) : Int).toNat ≤ 281474976710656 then (if bt276.2.1.length < 2932031007402 then (some (bt276.1, (bt276.2.1 ++ [(⟨strOfNums (List.replicate (wrap64 (40 + bt294.1) : Int).toNat 0), ([] : List Int), false⟩ : S53)]), bt294.2.1, bt294.2.2)) else (none)) else (none)) else (none))) else (if bt283.1 = 3 then (spec_l8Draw.l0 k s0_0 bt283.2.1 bt283.2.2 bt276.1 bt276.2.1) else (some (bt276.1, bt276.2.1, bt283.2.1, bt283.2.2)))))))
def spec_l8Draw.T7 : Bool × List (List Nat × List Nat) := (true, [([], []), ([0], [0]), ([], []), ([2], [2]), ([3], [3]), ([4], [4]), ([5], [5]), ([6], [6]), ([1, 0, 1, 2, 3, 4, 5, 6, 7], [1]), ([8, 0, 1, 2, 3, 4, 5, 6, 7], [8]), ([9, 7, 0, 1, 2, 3, 4, 5, 6, 7], [7, 9])])
def spec_l8Draw.B7 : List Nat := [0, 1, 0, 4, 12, 28, 60, 124, 255, 511, 1023]
theorem spec_l8Draw.tab7 : rtab .any (opsOf Try.f60 7) = spec_l8Draw.T7 := by kernel_rfl
theorem spec_l8Draw.bits7 : waitsOk spec_l8Draw.T7.2 spec_l8Draw.B7 = true := by kernel_rfl
def spec_l8Draw.T9 : Bool × List (List Nat × List Nat) := (true, [([], []), ([0], [0]), ([], []), ([2], [2]), ([3], [3]), ([4, 4], [4]), ([5], [5]), ([6], [6]), ([7], [7]), ([1, 8, 3], [1, 8]), ([0, 1, 2, 3, 4, 5, 6, 7, 8, 9], []), ([10, 9, 9, 0, 1, 2, 3, 4, 5, 6, 7, 8, 9], [9, 10])])
def spec_l8Draw.B9 : List Nat := [0, 1, 0, 4, 12, 28, 60, 124, 252, 511, 1023, 2047]
theorem spec_l8Draw.tab9 : rtab .any (opsOf Try.f60 9) = spec_l8Draw.T9 := by kernel_rfl
theorem spec_l8Draw.bits9 : waitsOk spec_l8Draw.T9.2 spec_l8Draw.B9 = true := by kernel_rfl
def spec_l8Draw.T12 : Bool × List (List Nat × List Nat) := (true, [([], []), ([0], [0]), ([], []), ([2], [2]), ([3], [3]), ([4], [4]), ([5], [5]), ([1, 6], [1, 6]), ([0, 1, 2, 3, 4, 5, 6, 7], []), ([8, 7, 7, 0, 1, 2, 3, 4, 5, 6, 7], [7, 8])])
def spec_l8Draw.B12 : List Nat := [0, 1, 0, 4, 12, 28, 60, 127, 255, 511]
theorem spec_l8Draw.tab12 : rtab .any (opsOf Try.f60 12) = spec_l8Draw.T12 := by kernel_rfl
theorem spec_l8Draw.bits12 : waitsOk spec_l8Draw.T12.2 spec_l8Draw.B12 = true := by kernel_rfl
set_option maxHeartbeats 8000000 in
set_option maxRecDepth 100000 in
theorem spec_l8Draw.calls (k : Nat) (g : Nat) (s0_0 : List Int) (s0_1 : Int) (s0_2 : Int) (A1_0 : Option Addr) (c1_0 : Nat) (l1_0 : List Int) (a1_1 : Int) (r1 : Int) (r2 : List (S53)) (r3 : Int) (r4 : Int) (w0 w : World) (hI : IsS133 w0 w g s0_0 s0_1 s0_2) (hB : Below w0.heap.size w0 w) (hr1_0 : Kd.C (Kd.int .i64) w A1_0 l1_0.length l1_0) (hc1_0 : l1_0.length ≤ c1_0) (hf1_0 : ∀ ad, A1_0 = some ad → 0 < l1_0.length → ad.block ≠ g) (h : spec_l8Draw.f k s0_0 s0_1 s0_2 l1_0 a1_1 = some (r1, r2, r3, r4)) :
  Calls Try.prog 60 #[.pointer (some ⟨g, 0, none⟩), .agg #[.slice A1_0 l1_0.length c1_0, .int .i64 a1_1]] w fun e w' => ∃ v1_ : Value, e = .returned (.agg #[.int .i64 r1, v1_]) ∧ Kd.N k53 53 w' w.heap.size (fun k_ => (w.heap.size ≤ k_)) v1_ r2 ∧ IsS133 w0 w' g s0_0 r3 r4 ∧ Below w0.heap.size w0 w' ∧ KeepBut w w' g none := by
 have hu73 := Try.underlying73
 have hu49 := Try.underlying49
 have hu53 := Try.underlying53
 have HR1_0 := Aside0.mk hr1_0
 have HC1_0 := Aside0.mk hc1_0
 clear hr1_0 hc1_0
 have HI0 := Aside0.mk hI
 have HK := Aside0.mk (KeepBut.refl w g none)
 have HL := Aside0.mk hB.size
 clear hI
 have HW0 := Aside0.mk hB.size
 have HB := Aside0.mk hB
 clear hB
 have H : ((spec_l8DrawRight.f k s0_0 s0_1 s0_2 l1_0 a1_1).bind fun bt276 => ((spec_l1Below.f s0_0 bt276.2.2.1 bt276.2.2.2 25).bind fun bt283 => (if bt283.1 = 0 then ((spec_l1PickInt.f s0_0 bt283.2.1 bt283.2.2 (([0, 30, 31] : List Int))).bind fun bt289 => (some (bt289.1, bt276.2.1, bt289.2.1, bt289.2.2))) else (if bt283.1 = 1 then (if (bt276.2.1.length : Int) > 0 then (if 0 < (bt276.2.1.length : Int) then (some (bt276.1, (bt276.2.1.set (0 : Int).toNat (⟨(rd_T53 bt276.2.1 0).f0, (rd_T53 bt276.2.1 0).f1, !((rd_T53 bt276.2.1 0).f2)⟩ : S53)), bt283.2.1, bt283.2.2)) else (none)) else (some (bt276.1, bt276.2.1, bt283.2.1, bt283.2.2))) else (if bt283.1 = 2 then ((spec_l1Below.f s0_0 bt283.2.1 bt283.2.2 2).bind fun bt294 => (if 0 ≤ (wrap64 (40 + bt294.1)) then (if (wrap64 (40 + bt294.1) : Int).toNat ≤ 281474976710656 then (if bt276.2.1.length < 2932031007402 then (some (bt276.1, (bt276.2.1 ++ [(⟨strOfNums (List.replicate (wrap64 (40 + bt294.1) : Int).toNat 0), ([] : List Int), false⟩ : S53)]), bt294.2.1, bt294.2.2)) else (none)) else (none)) else (none))) else (if bt283.1 = 3 then (spec_l8Draw.l0 k s0_0 bt283.2.1 bt283.2.2 bt276.1 bt276.2.1) else (some (bt276.1, bt276.2.1, bt283.2.1, bt283.2.2)))))))) = some (r1, r2, r3, r4) := h
 clear h
 replace H := Option.bind_eq_some_iff.mp H
 obtain ⟨⟨t276, t277, t280, t281⟩, A30, H⟩ := H
 replace H : ((spec_l1Below.f s0_0 t280 t281 25).bind fun bt283 => (if bt283.1 = 0 then ((spec_l1PickInt.f s0_0 bt283.2.1 bt283.2.2 (([0, 30, 31] : List Int))).bind fun bt289 => (some (bt289.1, t277, bt289.2.1, bt289.2.2))) else (if bt283.1 = 1 then (if (t277.length : Int) > 0 then (if 0 < (t277.length : Int) then (some (t276, (t277.set (0 : Int).toNat (⟨(rd_T53 t277 0).f0, (rd_T53 t277 0).f1, !((rd_T53 t277 0).f2)⟩ : S53)), bt283.2.1, bt283.2.2)) else (none)) else (some (t276, t277, bt283.2.1, bt283.2.2))) else (if bt283.1 = 2 then ((spec_l1Below.f s0_0 bt283.2.1 bt283.2.2 2).bind fun bt294 => (if 0 ≤ (wrap64 (40 + bt294.1)) then (if (wrap64 (40 + bt294.1) : Int).toNat ≤ 281474976710656 then (if t277.length < 2932031007402 then (some (t276, (t277 ++ [(⟨strOfNums (List.replicate (wrap64 (40 + bt294.1) : Int).toNat 0), ([] : List Int), false⟩ : S53)]), bt294.2.1, bt294.2.2)) else (none)) else (none)) else (none))) else (if bt283.1 = 3 then (spec_l8Draw.l0 k s0_0 bt283.2.1 bt283.2.2 t276 t277) else (some (t276, t277, bt283.2.1, bt283.2.2))))))) = some (r1, r2, r3, r4) := H
 have A3 := Aside0.mk A30
 clear A30
 replace H := Option.bind_eq_some_iff.mp H
 obtain ⟨⟨t283, t284, t285⟩, A40, H⟩ := H
 replace H : (if t283 = 0 then ((spec_l1PickInt.f s0_0 t284 t285 (([0, 30, 31] : List Int))).bind fun bt289 => (some (bt289.1, t277, bt289.2.1, bt289.2.2))) else (if t283 = 1 then (if (t277.length : Int) > 0 then (if 0 < (t277.length : Int) then (some (t276, (t277.set (0 : Int).toNat (⟨(rd_T53 t277 0).f0, (rd_T53 t277 0).f1, !((rd_T53 t277 0).f2)⟩ : S53)), t284, t285)) else (none)) else (some (t276, t277, t284, t285))) else (if t283 = 2 then ((spec_l1Below.f s0_0 t284 t285 2).bind fun bt294 => (if 0 ≤ (wrap64 (40 + bt294.1)) then (if (wrap64 (40 + bt294.1) : Int).toNat ≤ 281474976710656 then (if t277.length < 2932031007402 then (some (t276, (t277 ++ [(⟨strOfNums (List.replicate (wrap64 (40 + bt294.1) : Int).toNat 0), ([] : List Int), false⟩ : S53)]), bt294.2.1, bt294.2.2)) else (none)) else (none)) else (none))) else (if t283 = 3 then (spec_l8Draw.l0 k s0_0 t284 t285 t276 t277) else (some (t276, t277, t284, t285)))))) = some (r1, r2, r3, r4) := H
 have A4 := Aside0.mk A40
 clear A40
 by_cases c5 : t283 = 0
 ·rw [if_pos c5] at H
  have c5b0 : (t283 == 0) = true := beq_iff_eq.mpr c5
  have c5b1 : (t283 != 0) = false := bne_eq_false_iff_eq.mpr c5
  clear c5
  obtain ⟨y286, hy286⟩ : ∃ y_ : List Int, y_ = (([0, 30, 31] : List Int)) := ⟨_, rfl⟩
  replace H : ((spec_l1PickInt.f s0_0 t284 t285 y286).bind fun bt289 => (some (bt289.1, t277, bt289.2.1, bt289.2.2))) = some (r1, r2, r3, r4) := by first | (rw [hy286]; with_reducible exact H) | (have H2_ := (Option.bind_some _ _).symm.trans H; rw [hy286]; with_reducible exact H2_) | (have H2_ := (Option.bind_some _ _).symm.trans H; with_reducible exact H2_) | with_reducible exact H | (rw [hy286]; exact H) | exact H
  have Ny286 := Aside0.mk hy286
  clear hy286
  replace H := Option.bind_eq_some_iff.mp H
  obtain ⟨⟨t289, t290, t291⟩, A60, H⟩ := H
  replace H : (some (t289, t277, t290, t291)) = some (r1, r2, r3, r4) := H
  have A6 := Aside0.mk A60
  clear A60
  simp only [Option.some.injEq, Prod.mk.injEq] at H
  obtain ⟨rfl, rfl, rfl, rfl⟩ := H
  go_enter Try.func60, Try.ntmps60
  go_wp2_with (first | ((with_reducible refine gate_dst (N := 3) rfl ?_); (try (refine gate_guard (by rfl) ?_; dsimp only)); refine box_event kr_ (N := 3) kr_ (cs := #[.slice A1_0 l1_0.length c1_0, .int .i64 a1_1]) (t := 73) ks_ ?_; intro gb274 hg w2 hbox hb; replace HB := Aside0.mk (below_step dz27 hb); have BK274 := Aside0.mk (hbox); have GW274 := Aside0.mk ((by rw [hg]; exact (keep_size (w := w) (g := g) (row := none) dz5) : w.heap.size ≤ gb274)); have GE274 := Aside0.mk ((Nat.le_trans HW0.out (by rw [hg]; exact (keep_size (w := w) (g := g) (row := none) dz5) : w.heap.size ≤ gb274) : w0.heap.size ≤ gb274)); replace HK := Aside0.mk (KeepBut.trans dz5 (KeepBut.of_below hb g none) (.inl rfl)); have NB0_274 := Aside0.mk ((by rw [hg]; exact Nat.ne_of_lt (IsS133.lt (show IsS133 w0 _ g s0_0 s0_1 s0_2 from by repeat (first | (with_reducible first | exact HI0.out | apply IsS133.alloc | apply IsS133.drewN | apply IsS133.drew | apply IsS133.set_1 | apply IsS133.set_2) | exact HI0.out))) : g ≠ gb274)); have NB274_0 := Aside0.mk ((by rw [hg]; exact Nat.ne_of_gt (IsS133.lt (show IsS133 w0 _ g s0_0 s0_1 s0_2 from by repeat (first | (with_reducible first | exact HI0.out | apply IsS133.alloc | apply IsS133.drewN | apply IsS133.drew | apply IsS133.set_1 | apply IsS133.set_2) | exact HI0.out))) : gb274 ≠ g)); replace HI0 := Aside0.mk (IsS133.below dz28 hb); clear hb hbox hg) | ((with_reducible refine gate_dst (N := 4) rfl ?_); (try (refine gate_guard (by rfl) ?_; dsimp only)); refine box_event kr_ (N := 4) kr_ (cs := #[.int .i64 0, .slice none 0 0]) (t := 49) ks_ ?_; intro gb275 hg w3 hbox hb; replace HB := Aside0.mk (below_step dz37 hb); have BK275 := Aside0.mk (hbox); have GW275 := Aside0.mk ((by rw [hg]; exact (keep_size (w := w) (g := g) (row := none) dz10) : w.heap.size ≤ gb275)); have GE275 := Aside0.mk ((Nat.le_trans HW0.out (by rw [hg]; exact (keep_size (w := w) (g := g) (row := none) dz10) : w.heap.size ≤ gb275) : w0.heap.size ≤ gb275)); replace HK := Aside0.mk (KeepBut.trans dz10 (KeepBut.of_below hb g none) (.inl rfl)); have NB274_275 := (nbl_ hg BK274); have NB275_274 := (nbr_ hg BK274); replace BK274 := (bkb_ BK274 hb); have NB0_275 := Aside0.mk ((by rw [hg]; exact Nat.ne_of_lt (IsS133.lt (show IsS133 w0 _ g s0_0 s0_1 s0_2 from by repeat (first | (with_reducible first | exact HI0.out | apply IsS133.alloc | apply IsS133.drewN | apply IsS133.drew | apply IsS133.set_1 | apply IsS133.set_2 | refine IsS133.far ?_ NB0_274.out _) | exact HI0.out))) : g ≠ gb275)); have NB275_0 := Aside0.mk ((by rw [hg]; exact Nat.ne_of_gt (IsS133.lt (show IsS133 w0 _ g s0_0 s0_1 s0_2 from by repeat (first | (with_reducible first | exact HI0.out | apply IsS133.alloc | apply IsS133.drewN | apply IsS133.drew | apply IsS133.set_1 | apply IsS133.set_2 | refine IsS133.far ?_ NB0_274.out _) | exact HI0.out))) : gb275 ≠ g)); replace HI0 := Aside0.mk (IsS133.below dz38 hb); clear hb hbox hg; have hnb9 := NB274_275.out; have hnc9 := NB275_274.out; have hnb10 := NB274_0.out; have hnc10 := NB0_274.out; obtain ⟨hcz11_0, hcz11_1, hfz11_0, hfz11_1⟩ := cz2_ BK274) | ((with_reducible refine gate_callee (f := 104) rfl ?_); refine goesL_ (some 8) rfl rfl Try.func104 (by kernel_rfl) rfl #[.pointer (some ⟨g, 0, none⟩), .agg #[.slice A1_0 l1_0.length c1_0, .int .i64 a1_1]] rfl dz1 ?_; (with_reducible refine (spec_l8DrawRight.calls k g s0_0 s0_1 s0_2 _ _ l1_0 a1_1 t276 t277 t280 t281 w0 _ ?side1 ?side2 ?side3 ?side4 ?side5 A3.out).mono ?_); (case side1 => exact dz301); (case side2 => exact dz302); (case side3 => exact Kd.C_keep 0 HR1_0.out dz4 hf1_0); (case side4 => exact HC1_0.out); (case side5 => exact hf1_0); rintro e w4 ⟨v278, rfl, ho0, hi, hb, hk⟩; refine ⟨_, rfl, ?_⟩; have HO279 := Aside0.mk (Kd.N_lower (Kd.N_mono (ok' := fun k_ => (w.heap.size ≤ k_) ∧ k_ ≠ gb274 ∧ k_ ≠ gb275 ∧ k_ ≠ g) ho0 (fun k_ hk_ => ⟨(Nat.le_trans (keep_size (w := w) (g := g) (row := none) dz4) hk_), (Kd.freshB (g := gb274) (o := .cells #[.slice A1_0 l1_0.length c1_0, .int .i64 a1_1] 73 (0, 0)) dz11 k_ hk_), (Kd.freshB (g := gb275) (o := .cells #[.int .i64 0, .slice none 0 0] 49 (0, 0)) dz12 k_ hk_), (IsS133.fresh dz19 k_ hk_)⟩)) (keep_size (w := w) (g := g) (row := none) dz4)); replace BK274 := Aside0.mk (KeepBut.blk hk (g' := gb274) (o := .cells #[.slice A1_0 l1_0.length c1_0, .int .i64 a1_1] 73 (0, 0)) dz11 NB274_0.out (by simp)); replace BK275 := Aside0.mk (KeepBut.blk hk (g' := gb275) (o := .cells #[.int .i64 0, .slice none 0 0] 49 (0, 0)) dz12 NB275_0.out (by simp)); replace HK := Aside0.mk (KeepBut.trans dz4 hk (.inl rfl)); replace HB := Aside0.mk (hb); replace HI0 := Aside0.mk (hi); (try clear hb); (try clear hb2); (try clear hk); (try clear hi); (try clear ho0)) | ((with_reducible refine gate_dst (N := 5) rfl ?_); (try (refine gate_guard (by rfl) ?_; dsimp only)); refine box_event kr_ (N := 5) kr_ (cs := #[.int .i64 0, .slice none 0 0]) (t := 49) ks_ ?_; intro gb282 hg w5 hbox hb; replace HO279 := Aside0.mk (Kd.N_below (Kd.N_elderB dz20 gb282 (Nat.le_of_eq hg.symm)) hb); replace HB := Aside0.mk (below_step dz39 hb); have BK282 := Aside0.mk (hbox); have GW282 := Aside0.mk ((by rw [hg]; exact (keep_size (w := w) (g := g) (row := none) dz4) : w.heap.size ≤ gb282)); have GE282 := Aside0.mk ((Nat.le_trans HW0.out (by rw [hg]; exact (keep_size (w := w) (g := g) (row := none) dz4) : w.heap.size ≤ gb282) : w0.heap.size ≤ gb282)); replace HK := Aside0.mk (KeepBut.trans dz4 (KeepBut.of_below hb g none) (.inl rfl)); have NB274_282 := (nbl_ hg BK274); have NB282_274 := (nbr_ hg BK274); replace BK274 := (bkb_ BK274 hb); have NB275_282 := (nbl_ hg BK275); have NB282_275 := (nbr_ hg BK275); replace BK275 := (bkb_ BK275 hb); have NB0_282 := Aside0.mk ((by rw [hg]; exact Nat.ne_of_lt (IsS133.lt (show IsS133 w0 _ g s0_0 t280 t281 from by repeat (first | (with_reducible first | exact HI0.out | apply IsS133.alloc | apply IsS133.drewN | apply IsS133.drew | apply IsS133.set_1 | apply IsS133.set_2 | refine IsS133.far ?_ NB0_274.out _ | refine IsS133.far ?_ NB0_275.out _) | exact HI0.out))) : g ≠ gb282)); have NB282_0 := Aside0.mk ((by rw [hg]; exact Nat.ne_of_gt (IsS133.lt (show IsS133 w0 _ g s0_0 t280 t281 from by repeat (first | (with_reducible first | exact HI0.out | apply IsS133.alloc | apply IsS133.drewN | apply IsS133.drew | apply IsS133.set_1 | apply IsS133.set_2 | refine IsS133.far ?_ NB0_274.out _ | refine IsS133.far ?_ NB0_275.out _) | exact HI0.out))) : gb282 ≠ g)); replace HI0 := Aside0.mk (IsS133.below dz19 hb); clear hb hbox hg; have hnb14 := NB282_274.out; have hnc14 := NB274_282.out; have hnb15 := NB282_275.out; have hnc15 := NB275_282.out; have hnb16 := NB282_0.out; have hnc16 := NB0_282.out; obtain ⟨hcz17_0, hcz17_1, hfz17_0, hfz17_1⟩ := cz2_ BK282; obtain ⟨Ao18, co18, eo18⟩ := Kd.N_slice HO279.out; subst eo18) | ((with_reducible refine gate_callee (f := 105) rfl ?_); refine goesL_ (some 10) rfl rfl Try.func105 (by kernel_rfl) rfl #[.pointer (some ⟨g, 0, none⟩), .int .i64 25] rfl dz1 ?_; (with_reducible refine (spec_l1Below.calls g s0_0 t280 t281 25 t283 t284 t285 w0 _ ?side1 ?side2 A4.out).mono ?_); (case side1 => exact dz303); (case side2 => exact dz304); rintro e w6 ⟨rfl, hi, hb, hk⟩; refine ⟨_, rfl, ?_⟩; replace BK274 := Aside0.mk (KeepBut.blk hk (g' := gb274) (o := .cells #[.slice A1_0 l1_0.length c1_0, .int .i64 a1_1] 73 (0, 0)) dz40 NB274_0.out (by simp)); replace BK275 := Aside0.mk (KeepBut.blk hk (g' := gb275) (o := .cells #[.int .i64 0, .slice none 0 0] 49 (0, 0)) dz41 NB275_0.out (by simp)); replace HO279 := Aside0.mk (Kd.N_mono (Kd.N_keep (Kd.N_mono (ok := fun k_ => ((((w.heap.size ≤ k_)) ∧ (k_ ≠ gb274 ∧ (k_ ≠ gb275 ∧ k_ ≠ g))) ∧ k_ ≠ gb282)) (by (with_reducible repeat (first | apply Kd.N_alloc | apply Kd.N_drewN | apply Kd.N_drew)); exact (Kd.N_mono (Kd.N_far (p := ⟨gb282, 1, none⟩) (Kd.N_far (p := ⟨gb282, 0, none⟩) (Kd.N_mono HO279.out (fun k_ hk => (⟨hk, hk.2⟩ : _ ∧ k_ ≠ gb282))) (fun _ hk => hk.2) (.int .i64 t276)) (fun _ hk => hk.2) (.slice Ao18 t277.length co18)) (fun _ h_ => h_.1))) (fun k_ hk_ => (⟨hk_, hk_.1.2.2.2⟩ : _ ∧ k_ ≠ g))) hk (fun _ h => h.2)) (fun _ h => h.1)); replace BK282 := Aside0.mk (KeepBut.blk hk (g' := gb282) (o := .cells #[.int .i64 t276, .slice Ao18 t277.length co18] 49 (0, 0)) dz42 NB282_0.out (by simp)); replace HK := Aside0.mk (KeepBut.trans dz9 hk (.inl rfl)); replace HB := Aside0.mk (hb); replace HI0 := Aside0.mk (hi); (try clear hb); (try clear hb2); (try clear hk); (try clear hi)) | ((with_reducible refine gate_dst (N := 14) rfl ?_); (try (refine gate_guard (by rfl) ?_; dsimp only)); refine Kd.R_lit (Kd.int .i64) _ 3 ?hg (N := 14) ?hd (xs := ([0, 30, 31] : List Int)) (inner := [.int .i64 0, .int .i64 30, .int .i64 31]) (ok := fun _ => True) (okp := fun _ => True) ?hr ?hp (fun _ hk => hk) trivial (Below.refl _ _) (Nat.le_refl _) (by simp) ?_; (case hd => rfl); (case hg => rfl); (case hr => first | (go_simp; done) | (go_simp; rfl)); (case hp => exact (Reps.one (show Kd.M (Kd.int .i64) _ _ _ 0 [.int .i64 0] from rfl) (Reps.one (show Kd.M (Kd.int .i64) _ _ _ 30 [.int .i64 30] from rfl) (Reps.one (show Kd.M (Kd.int .i64) _ _ _ 31 [.int .i64 31] from rfl) (Reps.none _ _))))); intro v287 w7 ho21 hb hg_ hnew_; clear hg_ hnew_; (first | rw [← Ny286.out] at ho21 | (simp only [Int.reduceToNat] at ho21; rw [← Ny286.out] at ho21)); replace HO279 := Aside0.mk (Kd.N_elder' dz20 (Kd.R_base ho21) hb); have HO288 := Aside0.mk (Kd.R_lower (Kd.R_newM (M := fun k_ => (w.heap.size ≤ k_)) ho21 (keep_size (w := w) (g := g) (row := none) dz9) (fun k_ h_ => h_)) (keep_size (w := w) (g := g) (row := none) dz9)); replace BK274 := (bkb_ BK274 hb); replace BK275 := (bkb_ BK275 hb); replace BK282 := (bkb_ BK282 hb); replace HK := Aside0.mk (KeepBut.trans dz9 (KeepBut.of_below hb g none) (.inl rfl)); replace HB := Aside0.mk (below_step dz57 hb); replace HI0 := Aside0.mk (IsS133.below dz43 hb); clear hb ho21; obtain ⟨Ao22, co22, eo22⟩ := Kd.R_slice HO288.out; subst eo22) | ((with_reducible refine gate_callee (f := 106) rfl ?_); refine goesL_ (some 15) rfl rfl Try.func106 (by kernel_rfl) rfl #[.pointer (some ⟨g, 0, none⟩), .slice Ao22 y286.length co22] rfl dz1 ?_; (with_reducible refine (spec_l1PickInt.calls g s0_0 t284 t285 _ _ y286 t289 t290 t291 w0 _ ?side1 ?side2 ?side3 ?side4 ?side5 A6.out).mono ?_); (case side1 => exact dz303); (case side2 => exact dz304); (case side3 => repeat (first | exact (Kd.R_reads' HO288.out).2.2 | (with_reducible refine Kd.C_alloc ?_ _) | (with_reducible refine Kd.C_drewN ?_ _) | (with_reducible refine Kd.C_drew ?_))); (case side4 => exact (Kd.R_reads' HO288.out).2.1); (case side5 => exact far_slice (IsS133.own_ne HI0.out HO288.out (by decide))); rintro e w8 ⟨rfl, hi, hb, hk⟩; refine ⟨_, rfl, ?_⟩; replace BK274 := Aside0.mk (KeepBut.blk hk (g' := gb274) (o := .cells #[.slice A1_0 l1_0.length c1_0, .int .i64 a1_1] 73 (0, 0)) dz11 NB274_0.out (by simp)); replace BK275 := Aside0.mk (KeepBut.blk hk (g' := gb275) (o := .cells #[.int .i64 0, .slice none 0 0] 49 (0, 0)) dz12 NB275_0.out (by simp)); replace HO279 := Aside0.mk (Kd.N_mono (Kd.N_keep (Kd.N_mono (ok := fun k_ => (((((w.heap.size ≤ k_)) ∧ (k_ ≠ gb274 ∧ (k_ ≠ gb275 ∧ k_ ≠ g))) ∧ k_ ≠ gb282) ∧ some k_ ≠ (.slice Ao22 y286.length co22 : Value).ownBlock)) dz20 (fun k_ hk_ => (⟨hk_, hk_.1.1.2.2.2⟩ : _ ∧ k_ ≠ g))) hk (fun _ h => h.2)) (fun _ h => h.1)); replace BK282 := Aside0.mk (KeepBut.blk hk (g' := gb282) (o := .cells #[.int .i64 t276, .slice Ao18 t277.length co18] 49 (0, 0)) dz44 NB282_0.out (by simp)); replace HO288 := Aside0.mk (Kd.R_mono (Kd.R_keep (IsS133.apart (show IsS133 w0 _ g s0_0 t284 t285 from by repeat (first | (with_reducible first | exact HI0.out | apply IsS133.alloc | apply IsS133.drewN | apply IsS133.drew | apply IsS133.set_1 | apply IsS133.set_2 | refine IsS133.far ?_ NB0_274.out _ | refine IsS133.far ?_ NB0_275.out _ | refine IsS133.far ?_ NB0_282.out _) | exact HI0.out)) (by (with_reducible repeat (first | apply Kd.R_alloc | apply Kd.R_drewN | apply Kd.R_drew)); exact HO288.out) (by decide)) hk (fun _ h => h.2)) (fun _ h => h.1)); replace HK := Aside0.mk (KeepBut.trans dz9 hk (.inl rfl)); replace HB := Aside0.mk (hb); replace HI0 := Aside0.mk (hi); (try clear hb); (try clear hb2); (try clear hk); (try clear hi); obtain ⟨hcz24_0, hcz24_1, hfz24_0, hfz24_1⟩ := cz2_ BK282; have hnb25 := NB275_0.out; have hnc25 := NB0_275.out; obtain ⟨hcz26_0, hcz26_1, hfz26_0, hfz26_1⟩ := cz2_ BK275))
  refine bodyPost_ret (results_cell_row rfl _ _ gb275 49 #[.int .i64 t289, .slice Ao18 t277.length co18] (0, 0) _ rfl (by (with_reducible repeat (first | refine blk_drewN ?_ _ | refine blk_drew ?_ | refine blk_alloc ?_ _)); refine blk_put (cs := #[.int .i64 t289, .slice none 0 0]) ?_ 1 _ rfl; (with_reducible repeat (first | refine blk_drewN ?_ _ | refine blk_drew ?_ | refine blk_alloc ?_ _)); refine blk_put (cs := #[.int .i64 0, .slice none 0 0]) ?_ 0 _ rfl; (with_reducible repeat (first | refine blk_drewN ?_ _ | refine blk_drew ?_ | refine blk_alloc ?_ _)); refine blk_far ?_ NB275_282.out _; (with_reducible repeat (first | refine blk_drewN ?_ _ | refine blk_drew ?_ | refine blk_alloc ?_ _)); exact BK275.out) Try.underlying49 rfl (by kernel_rfl)) rfl ?_
  exact ⟨_, by first | rfl | (simp [errW_none, errW_some] <;> rfl) | (simp [*, errW_none, errW_some] <;> rfl), by (with_reducible repeat (first | apply Kd.N_alloc | apply Kd.N_drewN | apply Kd.N_drew)); exact Kd.N_mono (Kd.N_far (p := ⟨gb275, 1, none⟩) (Kd.N_far (p := ⟨gb275, 0, none⟩) (Kd.N_far (p := ⟨gb282, 0, none⟩) (Kd.N_mono (Kd.N_mono HO279.out (fun k_ hk => (⟨hk, hk.1.2⟩ : _ ∧ k_ ≠ gb282))) (fun k_ hk => (⟨hk, hk.1.1.1.2.2.1⟩ : _ ∧ k_ ≠ gb275))) (fun _ hk => hk.1.2) (.int .i64 t289)) (fun _ hk => hk.2) (.int .i64 t289)) (fun _ hk => hk.2) (.slice Ao18 t277.length co18)) (fun _ hk => hk.1.1.1.1.1), by repeat (first | (with_reducible first | exact HI0.out | apply IsS133.alloc | apply IsS133.drewN | apply IsS133.drew | apply IsS133.set_1 | apply IsS133.set_2 | refine IsS133.far ?_ NB0_274.out _ | refine IsS133.far ?_ NB0_275.out _ | refine IsS133.far ?_ NB0_282.out _) | exact HI0.out), by repeat (first | (with_reducible first | exact HB.out | apply below_alloc | apply pw_below_drewN | apply below_drew1 | refine below_set ?_ (IsS133.ge HI0.out) | refine below_set ?_ GE274.out | refine below_set ?_ GE275.out | refine below_set ?_ GE282.out) | exact HB.out), by repeat (first | (with_reducible first | exact HK.out | apply KeepBut.set_ | apply keep_drewN | apply keep_drew | apply keep_alloc | refine keep_far ?_ GW274.out _ | refine keep_far ?_ GW275.out _ | refine keep_far ?_ GW282.out _) | exact HK.out)⟩
 rw [if_neg c5] at H
 have c5b0 : (t283 == 0) = false := beq_eq_false_iff_ne.mpr c5
 have c5b1 : (t283 != 0) = true := bne_iff_ne.mpr c5
 by_cases c27 : t283 = 1
 ·rw [if_pos c27] at H
  have c27b0 : (t283 == 1) = true := beq_iff_eq.mpr c27
  have c27b1 : (t283 != 1) = false := bne_eq_false_iff_eq.mpr c27
  clear c27
  by_cases c28 : (t277.length : Int) > 0
  ·rw [if_pos c28] at H
   have c28b0 : decide (0 < (t277.length : Int)) = true := decide_eq_true c28
   have c28b1 : decide (0 < t277.length) = true := decide_eq_true (by omega)
   clear c28
   by_cases c29 : 0 < (t277.length : Int)
   ·rw [if_pos c29] at H
    have c29b0 : decide (0 < (t277.length : Int)) = true := decide_eq_true c29
    have c29b1 : decide (0 < t277.length) = true := decide_eq_true (by omega)
    clear c29
    obtain ⟨y293, hy293⟩ : ∃ y_ : List (S53), y_ = (t277.set (0 : Int).toNat (⟨(rd_T53 t277 0).f0, (rd_T53 t277 0).f1, !((rd_T53 t277 0).f2)⟩ : S53)) := ⟨_, rfl⟩
    replace H : (some (t276, y293, t284, t285)) = some (r1, r2, r3, r4) := by first | (rw [hy293]; with_reducible exact H) | (have H2_ := (Option.bind_some _ _).symm.trans H; rw [hy293]; with_reducible exact H2_) | (have H2_ := (Option.bind_some _ _).symm.trans H; with_reducible exact H2_) | with_reducible exact H | (rw [hy293]; exact H) | exact H
    have Ny293 := Aside0.mk hy293
    clear hy293
    simp only [Option.some.injEq, Prod.mk.injEq] at H
    obtain ⟨rfl, rfl, rfl, rfl⟩ := H
    go_enter Try.func60, Try.ntmps60
    try go_wp2_with (first | ((with_reducible refine gate_dst (N := 3) rfl ?_); (try (refine gate_guard (by rfl) ?_; dsimp only)); refine box_event kr_ (N := 3) kr_ (cs := #[.slice A1_0 l1_0.length c1_0, .int .i64 a1_1]) (t := 73) ks_ ?_; intro gb274 hg w2 hbox hb; replace HB := Aside0.mk (below_step dz27 hb); have BK274 := Aside0.mk (hbox); have GW274 := Aside0.mk ((by rw [hg]; exact (keep_size (w := w) (g := g) (row := none) dz5) : w.heap.size ≤ gb274)); have GE274 := Aside0.mk ((Nat.le_trans HW0.out (by rw [hg]; exact (keep_size (w := w) (g := g) (row := none) dz5) : w.heap.size ≤ gb274) : w0.heap.size ≤ gb274)); replace HK := Aside0.mk (KeepBut.trans dz5 (KeepBut.of_below hb g none) (.inl rfl)); have NB0_274 := Aside0.mk ((by rw [hg]; exact Nat.ne_of_lt (IsS133.lt (show IsS133 w0 _ g s0_0 s0_1 s0_2 from by repeat (first | (with_reducible first | exact HI0.out | apply IsS133.alloc | apply IsS133.drewN | apply IsS133.drew | apply IsS133.set_1 | apply IsS133.set_2) | exact HI0.out))) : g ≠ gb274)); have NB274_0 := Aside0.mk ((by rw [hg]; exact Nat.ne_of_gt (IsS133.lt (show IsS133 w0 _ g s0_0 s0_1 s0_2 from by repeat (first | (with_reducible first | exact HI0.out | apply IsS133.alloc | apply IsS133.drewN | apply IsS133.drew | apply IsS133.set_1 | apply IsS133.set_2) | exact HI0.out))) : gb274 ≠ g)); replace HI0 := Aside0.mk (IsS133.below dz28 hb); clear hb hbox hg) | ((with_reducible refine gate_dst (N := 4) rfl ?_); (try (refine gate_guard (by rfl) ?_; dsimp only)); refine box_event kr_ (N := 4) kr_ (cs := #[.int .i64 0, .slice none 0 0]) (t := 49) ks_ ?_; intro gb275 hg w3 hbox hb; replace HB := Aside0.mk (below_step dz37 hb); have BK275 := Aside0.mk (hbox); have GW275 := Aside0.mk ((by rw [hg]; exact (keep_size (w := w) (g := g) (row := none) dz10) : w.heap.size ≤ gb275)); have GE275 := Aside0.mk ((Nat.le_trans HW0.out (by rw [hg]; exact (keep_size (w := w) (g := g) (row := none) dz10) : w.heap.size ≤ gb275) : w0.heap.size ≤ gb275)); replace HK := Aside0.mk (KeepBut.trans dz10 (KeepBut.of_below hb g none) (.inl rfl)); have NB274_275 := (nbl_ hg BK274); have NB275_274 := (nbr_ hg BK274); replace BK274 := (bkb_ BK274 hb); have NB0_275 := Aside0.mk ((by rw [hg]; exact Nat.ne_of_lt (IsS133.lt (show IsS133 w0 _ g s0_0 s0_1 s0_2 from by repeat (first | (with_reducible first | exact HI0.out | apply IsS133.alloc | apply IsS133.drewN | apply IsS133.drew | apply IsS133.set_1 | apply IsS133.set_2 | refine IsS133.far ?_ NB0_274.out _) | exact HI0.out))) : g ≠ gb275)); have NB275_0 := Aside0.mk ((by rw [hg]; exact Nat.ne_of_gt (IsS133.lt (show IsS133 w0 _ g s0_0 s0_1 s0_2 from by repeat (first | (with_reducible first | exact HI0.out | apply IsS133.alloc | apply IsS133.drewN | apply IsS133.drew | apply IsS133.set_1 | apply IsS133.set_2 | refine IsS133.far ?_ NB0_274.out _) | exact HI0.out))) : gb275 ≠ g)); replace HI0 := Aside0.mk (IsS133.below dz38 hb); clear hb hbox hg; have hnb33 := NB274_275.out; have hnc33 := NB275_274.out; have hnb34 := NB274_0.out; have hnc34 := NB0_274.out; obtain ⟨hcz35_0, hcz35_1, hfz35_0, hfz35_1⟩ := cz2_ BK274) | ((with_reducible refine gate_callee (f := 104) rfl ?_); refine goesL_ (some 8) rfl rfl Try.func104 (by kernel_rfl) rfl #[.pointer (some ⟨g, 0, none⟩), .agg #[.slice A1_0 l1_0.length c1_0, .int .i64 a1_1]] rfl dz1 ?_; (with_reducible refine (spec_l8DrawRight.calls k g s0_0 s0_1 s0_2 _ _ l1_0 a1_1 t276 t277 t280 t281 w0 _ ?side1 ?side2 ?side3 ?side4 ?side5 A3.out).mono ?_); (case side1 => exact dz301); (case side2 => exact dz302); (case side3 => exact Kd.C_keep 0 HR1_0.out dz4 hf1_0); (case side4 => exact HC1_0.out); (case side5 => exact hf1_0); rintro e w4 ⟨v278, rfl, ho0, hi, hb, hk⟩; refine ⟨_, rfl, ?_⟩; have HO279 := Aside0.mk (Kd.N_lower (Kd.N_mono (ok' := fun k_ => (w.heap.size ≤ k_) ∧ k_ ≠ gb274 ∧ k_ ≠ gb275 ∧ k_ ≠ g) ho0 (fun k_ hk_ => ⟨(Nat.le_trans (keep_size (w := w) (g := g) (row := none) dz4) hk_), (Kd.freshB (g := gb274) (o := .cells #[.slice A1_0 l1_0.length c1_0, .int .i64 a1_1] 73 (0, 0)) dz11 k_ hk_), (Kd.freshB (g := gb275) (o := .cells #[.int .i64 0, .slice none 0 0] 49 (0, 0)) dz12 k_ hk_), (IsS133.fresh dz19 k_ hk_)⟩)) (keep_size (w := w) (g := g) (row := none) dz4)); replace BK274 := Aside0.mk (KeepBut.blk hk (g' := gb274) (o := .cells #[.slice A1_0 l1_0.length c1_0, .int .i64 a1_1] 73 (0, 0)) dz11 NB274_0.out (by simp)); replace BK275 := Aside0.mk (KeepBut.blk hk (g' := gb275) (o := .cells #[.int .i64 0, .slice none 0 0] 49 (0, 0)) dz12 NB275_0.out (by simp)); replace HK := Aside0.mk (KeepBut.trans dz4 hk (.inl rfl)); replace HB := Aside0.mk (hb); replace HI0 := Aside0.mk (hi); (try clear hb); (try clear hb2); (try clear hk); (try clear hi); (try clear ho0)) | ((with_reducible refine gate_dst (N := 5) rfl ?_); (try (refine gate_guard (by rfl) ?_; dsimp only)); refine box_event kr_ (N := 5) kr_ (cs := #[.int .i64 0, .slice none 0 0]) (t := 49) ks_ ?_; intro gb282 hg w5 hbox hb; replace HO279 := Aside0.mk (Kd.N_below (Kd.N_elderB dz20 gb282 (Nat.le_of_eq hg.symm)) hb); replace HB := Aside0.mk (below_step dz39 hb); have BK282 := Aside0.mk (hbox); have GW282 := Aside0.mk ((by rw [hg]; exact (keep_size (w := w) (g := g) (row := none) dz4) : w.heap.size ≤ gb282)); have GE282 := Aside0.mk ((Nat.le_trans HW0.out (by rw [hg]; exact (keep_size (w := w) (g := g) (row := none) dz4) : w.heap.size ≤ gb282) : w0.heap.size ≤ gb282)); replace HK := Aside0.mk (KeepBut.trans dz4 (KeepBut.of_below hb g none) (.inl rfl)); have NB274_282 := (nbl_ hg BK274); have NB282_274 := (nbr_ hg BK274); replace BK274 := (bkb_ BK274 hb); have NB275_282 := (nbl_ hg BK275); have NB282_275 := (nbr_ hg BK275); replace BK275 := (bkb_ BK275 hb); have NB0_282 := Aside0.mk ((by rw [hg]; exact Nat.ne_of_lt (IsS133.lt (show IsS133 w0 _ g s0_0 t280 t281 from by repeat (first | (with_reducible first | exact HI0.out | apply IsS133.alloc | apply IsS133.drewN | apply IsS133.drew | apply IsS133.set_1 | apply IsS133.set_2 | refine IsS133.far ?_ NB0_274.out _ | refine IsS133.far ?_ NB0_275.out _) | exact HI0.out))) : g ≠ gb282)); have NB282_0 := Aside0.mk ((by rw [hg]; exact Nat.ne_of_gt (IsS133.lt (show IsS133 w0 _ g s0_0 t280 t281 from by repeat (first | (with_reducible first | exact HI0.out | apply IsS133.alloc | apply IsS133.drewN | apply IsS133.drew | apply IsS133.set_1 | apply IsS133.set_2 | refine IsS133.far ?_ NB0_274.out _ | refine IsS133.far ?_ NB0_275.out _) | exact HI0.out))) : gb282 ≠ g)); replace HI0 := Aside0.mk (IsS133.below dz19 hb); clear hb hbox hg; have hnb38 := NB282_274.out; have hnc38 := NB274_282.out; have hnb39 := NB282_275.out; have hnc39 := NB275_282.out; have hnb40 := NB282_0.out; have hnc40 := NB0_282.out; obtain ⟨hcz41_0, hcz41_1, hfz41_0, hfz41_1⟩ := cz2_ BK282; obtain ⟨Ao42, co42, eo42⟩ := Kd.N_slice HO279.out; subst eo42) | ((with_reducible refine gate_callee (f := 105) rfl ?_); refine goesL_ (some 10) rfl rfl Try.func105 (by kernel_rfl) rfl #[.pointer (some ⟨g, 0, none⟩), .int .i64 25] rfl dz1 ?_; (with_reducible refine (spec_l1Below.calls g s0_0 t280 t281 25 t283 t284 t285 w0 _ ?side1 ?side2 A4.out).mono ?_); (case side1 => exact dz303); (case side2 => exact dz304); rintro e w6 ⟨rfl, hi, hb, hk⟩; refine ⟨_, rfl, ?_⟩; replace BK274 := Aside0.mk (KeepBut.blk hk (g' := gb274) (o := .cells #[.slice A1_0 l1_0.length c1_0, .int .i64 a1_1] 73 (0, 0)) dz40 NB274_0.out (by simp)); replace BK275 := Aside0.mk (KeepBut.blk hk (g' := gb275) (o := .cells #[.int .i64 0, .slice none 0 0] 49 (0, 0)) dz41 NB275_0.out (by simp)); replace HO279 := Aside0.mk (Kd.N_mono (Kd.N_keep (Kd.N_mono (ok := fun k_ => ((((w.heap.size ≤ k_)) ∧ (k_ ≠ gb274 ∧ (k_ ≠ gb275 ∧ k_ ≠ g))) ∧ k_ ≠ gb282)) (by (with_reducible repeat (first | apply Kd.N_alloc | apply Kd.N_drewN | apply Kd.N_drew)); exact (Kd.N_mono (Kd.N_far (p := ⟨gb282, 1, none⟩) (Kd.N_far (p := ⟨gb282, 0, none⟩) (Kd.N_mono HO279.out (fun k_ hk => (⟨hk, hk.2⟩ : _ ∧ k_ ≠ gb282))) (fun _ hk => hk.2) (.int .i64 t276)) (fun _ hk => hk.2) (.slice Ao42 t277.length co42)) (fun _ h_ => h_.1))) (fun k_ hk_ => (⟨hk_, hk_.1.2.2.2⟩ : _ ∧ k_ ≠ g))) hk (fun _ h => h.2)) (fun _ h => h.1)); replace BK282 := Aside0.mk (KeepBut.blk hk (g' := gb282) (o := .cells #[.int .i64 t276, .slice Ao42 t277.length co42] 49 (0, 0)) dz42 NB282_0.out (by simp)); replace HK := Aside0.mk (KeepBut.trans dz9 hk (.inl rfl)); replace HB := Aside0.mk (hb); replace HI0 := Aside0.mk (hi); (try clear hb); (try clear hb2); (try clear hk); (try clear hi); obtain ⟨hcz44_0, hcz44_1, hfz44_0, hfz44_1⟩ := cz2_ BK282))
    replace HO279 := Aside0.mk (Kd.N_drew HO279.out)
    replace BK274 := Aside0.mk (blk_drew BK274.out)
    replace BK275 := Aside0.mk (blk_drew BK275.out)
    replace BK282 := Aside0.mk (blk_drew BK282.out)
    replace HI0 := Aside0.mk (IsS133.drew HI0.out)
    replace HK := Aside0.mk (keep_drew HK.out)
    replace HB := Aside0.mk (below_drew1 HB.out)
    have p292 : 0 ≤ (0 : Int) := (by omega)
    have q292 : 0 < (t277.length : Int) := of_decide_eq_true dz0
    obtain ⟨ad292, A292_1, c292_1, e292, hx292_0, hx292_1, hx292_2, hl292_1, hi292_1⟩ := at_T53 (Kd.N_reads' HO279.out).2.2 0 p292 q292
    cases e292
    obtain ⟨ce292, hce292, hMe292, hcc292⟩ := Kd.N_get HO279.out z53 0 p292 (by first | exact q292 | exact of_decide_eq_true dz0 | (have e_ := (Kd.N_reads' HO279.out).1; omega))
    obtain ⟨ua292_1, uc292_1, rfl, ul292_1, ge292_1⟩ := k53_openF hMe292
    have hv292_1 := hcc292 1 _ rfl
    rw [add_field _ _ 1 (by omega)] at hv292_1
    replace hv292_1 := Option.some.inj (hv292_1.symm.trans hx292_1)
    injection hv292_1 with hva_ hvn_ hvc_
    rw [hva_] at ge292_1
    rw [hvc_] at ul292_1
    have HL292_1 := Aside0.mk (show Kd.V (Kd.int .i64) 3 _ w.heap.size _ _ ((rd_T53 t277 0).f1) from Kd.V_mk ul292_1 ge292_1)
    clear hva_ hvn_ hvc_ ge292_1 ul292_1
    clear hcc292 hce292
    have qi292 : (0 < t277.length) = True := eq_true (by omega)
    (try rw [show ((0 : Int)).toNat = 0 from rfl] at hx292_0)
    (try rw [show 0 * 3 = 0 from rfl] at hx292_0)
    (try rw [Addr.add_zero'] at hx292_0)
    (try rw [show ((0 : Int)).toNat = 0 from rfl] at hx292_1)
    (try rw [show 0 * 3 = 0 from rfl] at hx292_1)
    (try rw [Addr.add_zero'] at hx292_1)
    (try rw [show ((0 : Int)).toNat = 0 from rfl] at hx292_2)
    (try rw [show 0 * 3 = 0 from rfl] at hx292_2)
    (try rw [Addr.add_zero'] at hx292_2)
    have HR292_1 := Aside0.mk hi292_1
    have HC292_1 := Aside0.mk hl292_1
    clear hi292_1 hl292_1
    replace p292 := eq_true p292
    replace q292 := eq_true q292
    have p30 : 0 ≤ (0 : Int) := (by omega)
    have q30 : (0 : Int) < ((t277.length : Int) : Int) := of_decide_eq_true dz0
    have qi30 : (0 < t277.length) = True := eq_true (by omega)
    obtain ⟨go30, co30, eo30, gb30, gl30, cl30, HG30⟩ := Kd.N_form HO279.out (by omega)
    (first | cases eo30 | (injection eo30 with ea_ en_ ec_; (first | subst ea_ | (injection ea_ with ea_; subst ea_)); subst ec_; clear en_))
    have GB30 := Aside0.mk gb30
    have GG30 := Aside0.mk HG30
    clear gb30 gl30 HG30
    (first | simp only [add_plain] at hx292_0 | skip)
    (first | simp only [add_plain] at hx292_1 | skip)
    (first | simp only [add_plain] at hx292_2 | skip)
    obtain ⟨ce30, hcl30, hM30, hcc30, hfr30⟩ := Kd.N_elem HO279.out z53 (0 : Int) p30 q30
    obtain ⟨ua30_1, uc30_1, rfl, ul30_1, ge30_1⟩ := k53_openF hM30
    have hx30_0 : World.cell? _ ⟨go30, (0 : Int).toNat * 3, none⟩ = some (.string ((rd_T53 t277 0).f0)) := hcc30 0 _ rfl
    have hx30_1 : World.cell? _ ⟨go30, (0 : Int).toNat * 3 + 1, none⟩ = some (.slice ua30_1 ((rd_T53 t277 0).f1).length uc30_1) := hcc30 1 _ rfl
    have hx30_2 : World.cell? _ ⟨go30, (0 : Int).toNat * 3 + 2, none⟩ = some (.bool ((rd_T53 t277 0).f2)) := hcc30 2 _ rfl
    have hf30_0 : World.frozen? _ ⟨go30, (0 : Int).toNat * 3, none⟩ = false := hfr30 0
    have hf30_1 : World.frozen? _ ⟨go30, (0 : Int).toNat * 3 + 1, none⟩ = false := hfr30 1
    have hf30_2 : World.frozen? _ ⟨go30, (0 : Int).toNat * 3 + 2, none⟩ = false := hfr30 2
    clear hcl30 hcc30 hfr30; (try clear hM30)
    (try rw [show ((0 : Int)).toNat = 0 from rfl] at hx30_0)
    (try simp only [Nat.reduceMul, Nat.zero_mul, Nat.zero_add, Nat.reduceAdd] at hx30_0)
    (try rw [show ((0 : Int)).toNat = 0 from rfl] at hf30_0)
    (try simp only [Nat.reduceMul, Nat.zero_mul, Nat.zero_add, Nat.reduceAdd] at hf30_0)
    (try rw [show ((0 : Int)).toNat = 0 from rfl] at hx30_1)
    (try simp only [Nat.reduceMul, Nat.zero_mul, Nat.zero_add, Nat.reduceAdd] at hx30_1)
    (try rw [show ((0 : Int)).toNat = 0 from rfl] at hf30_1)
    (try simp only [Nat.reduceMul, Nat.zero_mul, Nat.zero_add, Nat.reduceAdd] at hf30_1)
    (try rw [show ((0 : Int)).toNat = 0 from rfl] at hx30_2)
    (try simp only [Nat.reduceMul, Nat.zero_mul, Nat.zero_add, Nat.reduceAdd] at hx30_2)
    (try rw [show ((0 : Int)).toNat = 0 from rfl] at hf30_2)
    (try simp only [Nat.reduceMul, Nat.zero_mul, Nat.zero_add, Nat.reduceAdd] at hf30_2)
    replace p30 := eq_true p30
    replace q30 := eq_true q30
    have HN0_go30 := Aside0.mk (show g ≠ go30 from by have h_ := IsS133.own_neN HI0.out HO279.out (by decide); intro e_; exact h_ (by rw [e_]; rfl))
    have HX46 := Aside0.mk (show Kd.N k53 53 _ w.heap.size (fun k_ => (w.heap.size ≤ k_) ∧ k_ ≠ gb274 ∧ k_ ≠ gb275 ∧ k_ ≠ gb282 ∧ k_ ≠ g) (.slice (some ⟨go30, 0, none⟩) t277.length co42) t277 from (Kd.N_mono (HO279.out) (fun k_ hk => ⟨hk.1.1, ⟨hk.1.2.1, ⟨hk.1.2.2.1, ⟨hk.2, hk.1.2.2.2⟩⟩⟩⟩)))
    obtain ⟨ce46, hcl46, hM46, hcc46, hfr46⟩ := Kd.N_elem HX46.out z53 (0 : Int) (by omega) (by have h_ : (0 : Int) < ((t277.length : Int) : Int) := of_decide_eq_true dz0; first | exact h_ | (have e_ := (Kd.N_reads' HO279.out).1; omega) | simpa using h_)
    obtain ⟨ua46_1, uc46_1, rfl, ul46_1, ge46_1⟩ := k53_openF hM46
    have HP46 := (Kd.N_seg HX46.out (0 : Int) (by omega) (by have h_ : (0 : Int) < ((t277.length : Int) : Int) := of_decide_eq_true dz0; first | exact h_ | (have e_ := (Kd.N_reads' HO279.out).1; omega) | simpa using h_) (seg := [.bool (!((rd_T53 t277 0).f2))]) (j := 2) hcl46 hcc46 (show 3 ≤ 3 from by decide) (x' := (⟨(rd_T53 t277 0).f0, (rd_T53 t277 0).f1, !((rd_T53 t277 0).f2)⟩ : S53)) (k53_mkF _ _ (⟨(rd_T53 t277 0).f0, (rd_T53 t277 0).f1, !((rd_T53 t277 0).f2)⟩ : S53) ul46_1 ge46_1) (fun _ hk => hk)).1
    rw [← Ny293.out] at HP46
    have HQ46 := Aside0.mk HP46
    clear hcl46 hcc46 hfr46 HP46; (try clear hM46)
    refine start_ (n := 11) (S := fun w' => w'.cell? ⟨gb282, 0, none⟩ = some (.int .i64 t276) ∧ w'.cell? ⟨gb282, 1, none⟩ = some (.slice (some ⟨go30, 0, none⟩) t277.length co42) ∧ w'.cell? ⟨go30, 0, none⟩ = some (.string ((rd_T53 t277 0).f0)) ∧ w'.cell? ⟨go30, 1, none⟩ = some (.slice A292_1 ((rd_T53 t277 0).f1).length c292_1) ∧ w'.cell? ⟨go30, 2, none⟩ = some (.bool ((rd_T53 t277 0).f2))) (ds := [10]) (fl_ 0 11) (by kernel_rfl) rfl rfl ⟨(blk_cell BK282.out 0).trans rfl, (blk_cell BK282.out 1).trans rfl, hx292_0, hx292_1, hx292_2⟩ (fun hHeld => ?_); refine with_tabW spec_l8Draw.tab7 spec_l8Draw.bits7 (fun HT_ HW_ => ?_)
    generalize w6.drew = w45 at HO279 BK274 BK275 BK282 HI0 HK HB GG30 HL292_1 HQ46 HR292_1 hf30_0 hf30_1 hf30_2 hx292_0 hx292_1 hx292_2 hx30_0 hx30_1 hx30_2 hHeld ⊢
    refine pure_ (i := 0) (N := some 23) (v := ?_) (a' := ?_) (fl_ 1 10) rfl rfl (any_of HT_.out (by kernel_rfl)) (fun _ _ _ h => h) (Or.inl ⟨by rfl, ?_⟩) ?_ ?_
    rotate_left
    ·exact dz311
    rotate_left
    ·exact dz312
    refine pure_ (i := 2) (N := some 25) (v := ?_) (a' := ?_) #[true, false, true, false, false, false, false, false, false, false, false] rfl rfl (any_of HT_.out (by kernel_rfl)) (fun _ _ _ h => h) (Or.inl ⟨by rfl, ?_⟩) ?_ ?_
    rotate_left
    ·exact dz311
    rotate_left
    ·exact dz312
    refine take_ (i := 1) (N := some 24) (v := ?_) (a' := ?_) (fl_ 3 8) rfl rfl (take_ofW HT_.out HW_.out (by kernel_rfl)) (fun _ _ _ h => h) (Or.inl ⟨by rfl, ?_⟩) hHeld ?_ ?_
    rotate_left
    ·exact dz315
    rotate_left
    ·exact dz312
    refine take_ (i := 3) (N := some 26) (v := ?_) (a' := ?_) (fl_ 4 7) rfl rfl (take_ofW HT_.out HW_.out (by kernel_rfl)) (fun _ _ _ h => h) (Or.inl ⟨by rfl, ?_⟩) hHeld ?_ ?_
    rotate_left
    ·exact dz315
    rotate_left
    ·exact dz312
    refine pure_ (i := 4) (N := some 27) (v := ?_) (a' := ?_) (fl_ 5 6) rfl rfl (any_of HT_.out (by kernel_rfl)) (fun _ _ _ h => h) (Or.inl ⟨by rfl, ?_⟩) ?_ ?_
    rotate_left
    ·exact dz311
    rotate_left
    ·exact dz312
    refine pure_ (i := 5) (N := some 28) (v := ?_) (a' := ?_) (fl_ 6 5) rfl rfl (any_of HT_.out (by kernel_rfl)) (fun _ _ _ h => h) (Or.inl ⟨by rfl, ?_⟩) ?_ ?_
    rotate_left
    ·exact dz311
    rotate_left
    ·exact dz312
    refine take_ (i := 6) (N := some 29) (v := ?_) (a' := ?_) (fl_ 7 4) rfl rfl (take_ofW HT_.out HW_.out (by kernel_rfl)) (fun _ _ _ h => h) (Or.inl ⟨by rfl, ?_⟩) hHeld ?_ ?_
    rotate_left
    ·exact dz315
    rotate_left
    ·exact dz312
    refine pure_ (i := 7) (N := some 30) (v := ?_) (a' := ?_) (fl_ 8 3) rfl rfl (any_of HT_.out (by kernel_rfl)) (fun _ _ _ h => h) (Or.inl ⟨by rfl, ?_⟩) ?_ ?_
    rotate_left
    ·exact dz311
    rotate_left
    ·exact dz312
    refine pure_ (i := 8) (N := some 31) (v := ?_) (a' := ?_) (fl_ 9 2) rfl rfl (any_of HT_.out (by kernel_rfl)) (fun _ _ _ h => h) (Or.inl ⟨by rfl, ?_⟩) ?_ ?_
    rotate_left
    ·exact dz311
    rotate_left
    ·exact dz312
    refine pure_ (i := 9) (N := some 32) (v := ?_) (a' := ?_) (fl_ 10 1) rfl rfl (any_of HT_.out (by kernel_rfl)) (fun _ _ _ h => h) (Or.inl ⟨by rfl, ?_⟩) ?_ ?_
    rotate_left
    ·exact dz311
    rotate_left
    ·exact dz312
    refine last_ (i := 10) (N := none) (fl_ 11 0) rfl rfl (one_of HT_.out (by kernel_rfl)) (by decide) (fun K hK => ?_)
    refine skip_ (w1 := ?_) (by rfl) rfl ?_ ?_
    rotate_left
    ·go_simp
     rfl
    refine hK.out _ _ ?_
    clear hK K
    refine done_ (done_of HT_.out (by kernel_rfl)) ?_
    have n0_ : Aside0 (Kd.N k53 53 (w45.setCell ⟨go30, 2, none⟩ (.bool (!((rd_T53 t277 0).f2)))) w.heap.size (fun k_ => (w.heap.size ≤ k_) ∧ k_ ≠ gb274 ∧ k_ ≠ gb275 ∧ k_ ≠ g ∧ k_ ≠ gb282) (.slice (some ⟨go30, 0, none⟩) t277.length co42) y293) := ⟨by (with_reducible repeat (first | apply Kd.N_alloc | apply Kd.N_drewN | apply Kd.N_drew)); exact Kd.N_mono HQ46.out (fun _ hk => ⟨hk.1, ⟨hk.2.1, ⟨hk.2.2.1, ⟨hk.2.2.2.2, hk.2.2.2.1⟩⟩⟩⟩)⟩
    have n1_ : Aside0 (Kd.V (Kd.int .i64) 3 (w45.setCell ⟨go30, 2, none⟩ (.bool (!((rd_T53 t277 0).f2)))) w.heap.size (fun k_ => (w.heap.size ≤ k_) ∧ some k_ ≠ (.slice (some ⟨go30, 0, none⟩) t277.length co42 : Value).ownBlock ∧ k_ ≠ gb274 ∧ k_ ≠ gb275 ∧ k_ ≠ g ∧ k_ ≠ gb282) (.slice A292_1 ((rd_T53 t277 0).f1).length c292_1) ((rd_T53 t277 0).f1)) := ⟨by (with_reducible repeat (first | apply Kd.V_alloc | apply Kd.V_drewN | apply Kd.V_drew)); exact Kd.V_mono (Kd.V_far (p := ⟨go30, 2, none⟩) (Kd.V_mono HL292_1.out (fun k_ hk => (⟨hk, fun e_ => hk.2 (by rw [e_]; rfl)⟩ : _ ∧ k_ ≠ go30))) (fun _ hk => hk.2) (.bool (!((rd_T53 t277 0).f2)))) (fun _ hk => ⟨hk.1.1.1.1, ⟨hk.1.2, ⟨hk.1.1.1.2.1, ⟨hk.1.1.1.2.2.1, ⟨hk.1.1.1.2.2.2, hk.1.1.2⟩⟩⟩⟩⟩)⟩
    have n2_ : Aside0 ((w45.setCell ⟨go30, 2, none⟩ (.bool (!((rd_T53 t277 0).f2)))).heap[gb274]? = some (.cells #[.slice A1_0 l1_0.length c1_0, .int .i64 a1_1] 73 (0, 0))) := ⟨by (with_reducible repeat (first | refine blk_drewN ?_ _ | refine blk_drew ?_ | refine blk_alloc ?_ _)); refine blk_far ?_ (by have h_ := Kd.N_away HO279.out (fun _ hk => by first | exact hk.1.2.1 | exact hk.1.1.2.1); intro e_; exact h_ (by rw [e_]; rfl)) _; (with_reducible repeat (first | refine blk_drewN ?_ _ | refine blk_drew ?_ | refine blk_alloc ?_ _)); exact BK274.out⟩
    have n3_ : Aside0 ((w45.setCell ⟨go30, 2, none⟩ (.bool (!((rd_T53 t277 0).f2)))).heap[gb275]? = some (.cells #[.int .i64 0, .slice none 0 0] 49 (0, 0))) := ⟨by (with_reducible repeat (first | refine blk_drewN ?_ _ | refine blk_drew ?_ | refine blk_alloc ?_ _)); refine blk_far ?_ (by have h_ := Kd.N_away HO279.out (fun _ hk => by first | exact hk.1.2.2.1 | exact hk.1.1.2.2.1); intro e_; exact h_ (by rw [e_]; rfl)) _; (with_reducible repeat (first | refine blk_drewN ?_ _ | refine blk_drew ?_ | refine blk_alloc ?_ _)); exact BK275.out⟩
    have n4_ : Aside0 ((w45.setCell ⟨go30, 2, none⟩ (.bool (!((rd_T53 t277 0).f2)))).heap[gb282]? = some (.cells #[.int .i64 t276, .slice (some ⟨go30, 0, none⟩) t277.length co42] 49 (0, 0))) := ⟨by (with_reducible repeat (first | refine blk_drewN ?_ _ | refine blk_drew ?_ | refine blk_alloc ?_ _)); refine blk_far ?_ (by have h_ := Kd.N_away HO279.out (fun _ hk => by first | exact hk.2 | exact hk.1.2); intro e_; exact h_ (by rw [e_]; rfl)) _; (with_reducible repeat (first | refine blk_drewN ?_ _ | refine blk_drew ?_ | refine blk_alloc ?_ _)); exact BK282.out⟩
    have n5_ : Aside0 (IsS133 w0 (w45.setCell ⟨go30, 2, none⟩ (.bool (!((rd_T53 t277 0).f2)))) g s0_0 t284 t285) := ⟨by repeat (first | (with_reducible first | exact HI0.out | apply IsS133.alloc | apply IsS133.drewN | apply IsS133.drew | apply IsS133.set_1 | apply IsS133.set_2 | refine IsS133.far ?_ HN0_go30.out _ | refine IsS133.far ?_ NB0_274.out _ | refine IsS133.far ?_ NB0_275.out _ | refine IsS133.far ?_ NB0_282.out _) | exact HI0.out)⟩
    have n6_ : Aside0 (KeepBut w (w45.setCell ⟨go30, 2, none⟩ (.bool (!((rd_T53 t277 0).f2)))) g none) := ⟨by repeat (first | (with_reducible first | exact HK.out | apply KeepBut.set_ | apply keep_drewN | apply keep_drew | apply keep_alloc | refine keep_far ?_ GB30.out _ | refine keep_far ?_ GW274.out _ | refine keep_far ?_ GW275.out _ | refine keep_far ?_ GW282.out _) | exact HK.out)⟩
    have n7_ : Aside0 (Below w0.heap.size w0 (w45.setCell ⟨go30, 2, none⟩ (.bool (!((rd_T53 t277 0).f2))))) := ⟨by repeat (first | (with_reducible first | exact HB.out | apply below_alloc | apply pw_below_drewN | apply below_drew1 | refine below_set ?_ (Nat.le_trans HL.out GB30.out) | refine below_set ?_ (IsS133.ge HI0.out) | refine below_set ?_ GE274.out | refine below_set ?_ GE275.out | refine below_set ?_ GE282.out) | exact HB.out)⟩
    (try clear HO279)
    (try clear HL292_1)
    (try clear BK274)
    (try clear BK275)
    (try clear BK282)
    (try clear HI0)
    (try clear HK)
    (try clear HB)
    generalize (w45.setCell ⟨go30, 2, none⟩ (.bool (!((rd_T53 t277 0).f2)))) = w47 at n0_ n1_ n2_ n3_ n4_ n5_ n6_ n7_ ⊢
    have HO279 := n0_
    have HL292_1 := n1_
    have BK274 := n2_
    have BK275 := n3_
    have BK282 := n4_
    have HI0 := n5_
    have HK := n6_
    have HB := n7_
    clear n0_ n1_ n2_ n3_ n4_ n5_ n6_ n7_
    obtain ⟨hcz48_0, hcz48_1, hfz48_0, hfz48_1⟩ := cz2_ BK282
    have hnb49 := NB275_0.out
    have hnc49 := NB0_275.out
    obtain ⟨hcz50_0, hcz50_1, hfz50_0, hfz50_1⟩ := cz2_ BK275
    try go_wp2
    refine bodyPost_ret (results_cell_row rfl _ _ gb275 49 #[.int .i64 t276, .slice (some ⟨go30, 0, none⟩) t277.length co42] (0, 0) _ rfl dz49 Try.underlying49 rfl (by kernel_rfl)) rfl ?_
    exact ⟨_, by first | rfl | (simp [errW_none, errW_some] <;> rfl) | (simp [*, errW_none, errW_some] <;> rfl), by (with_reducible repeat (first | apply Kd.N_alloc | apply Kd.N_drewN | apply Kd.N_drew)); exact Kd.N_mono (Kd.N_far (p := ⟨gb275, 1, none⟩) (Kd.N_far (p := ⟨gb275, 0, none⟩) (Kd.N_mono HO279.out (fun k_ hk => (⟨hk, hk.2.2.1⟩ : _ ∧ k_ ≠ gb275))) (fun _ hk => hk.2) (.int .i64 t276)) (fun _ hk => hk.2) (.slice (some ⟨go30, 0, none⟩) t277.length co42)) (fun _ hk => hk.1.1), by repeat (first | (with_reducible first | exact HI0.out | apply IsS133.alloc | apply IsS133.drewN | apply IsS133.drew | apply IsS133.set_1 | apply IsS133.set_2 | refine IsS133.far ?_ NB0_274.out _ | refine IsS133.far ?_ NB0_275.out _ | refine IsS133.far ?_ NB0_282.out _) | exact HI0.out), by repeat (first | (with_reducible first | exact HB.out | apply below_alloc | apply pw_below_drewN | apply below_drew1 | refine below_set ?_ (IsS133.ge HI0.out) | refine below_set ?_ GE274.out | refine below_set ?_ GE275.out | refine below_set ?_ GE282.out) | exact HB.out), by repeat (first | (with_reducible first | exact HK.out | apply KeepBut.set_ | apply keep_drewN | apply keep_drew | apply keep_alloc | refine keep_far ?_ GW274.out _ | refine keep_far ?_ GW275.out _ | refine keep_far ?_ GW282.out _) | exact HK.out)⟩
   rw [if_neg c29] at H
   exact absurd H (by simp)
  rw [if_neg c28] at H
  have c28b0 : decide (0 < (t277.length : Int)) = false := decide_eq_false c28
  have c28b1 : decide (0 < t277.length) = false := decide_eq_false (by omega)
  clear c28
  simp only [Option.some.injEq, Prod.mk.injEq] at H
  obtain ⟨rfl, rfl, rfl, rfl⟩ := H
  go_enter Try.func60, Try.ntmps60
  go_wp2_with (first | ((with_reducible refine gate_dst (N := 3) rfl ?_); (try (refine gate_guard (by rfl) ?_; dsimp only)); refine box_event kr_ (N := 3) kr_ (cs := #[.slice A1_0 l1_0.length c1_0, .int .i64 a1_1]) (t := 73) ks_ ?_; intro gb274 hg w2 hbox hb; replace HB := Aside0.mk (below_step dz27 hb); have BK274 := Aside0.mk (hbox); have GW274 := Aside0.mk ((by rw [hg]; exact (keep_size (w := w) (g := g) (row := none) dz5) : w.heap.size ≤ gb274)); have GE274 := Aside0.mk ((Nat.le_trans HW0.out (by rw [hg]; exact (keep_size (w := w) (g := g) (row := none) dz5) : w.heap.size ≤ gb274) : w0.heap.size ≤ gb274)); replace HK := Aside0.mk (KeepBut.trans dz5 (KeepBut.of_below hb g none) (.inl rfl)); have NB0_274 := Aside0.mk ((by rw [hg]; exact Nat.ne_of_lt (IsS133.lt (show IsS133 w0 _ g s0_0 s0_1 s0_2 from by repeat (first | (with_reducible first | exact HI0.out | apply IsS133.alloc | apply IsS133.drewN | apply IsS133.drew | apply IsS133.set_1 | apply IsS133.set_2) | exact HI0.out))) : g ≠ gb274)); have NB274_0 := Aside0.mk ((by rw [hg]; exact Nat.ne_of_gt (IsS133.lt (show IsS133 w0 _ g s0_0 s0_1 s0_2 from by repeat (first | (with_reducible first | exact HI0.out | apply IsS133.alloc | apply IsS133.drewN | apply IsS133.drew | apply IsS133.set_1 | apply IsS133.set_2) | exact HI0.out))) : gb274 ≠ g)); replace HI0 := Aside0.mk (IsS133.below dz28 hb); clear hb hbox hg) | ((with_reducible refine gate_dst (N := 4) rfl ?_); (try (refine gate_guard (by rfl) ?_; dsimp only)); refine box_event kr_ (N := 4) kr_ (cs := #[.int .i64 0, .slice none 0 0]) (t := 49) ks_ ?_; intro gb275 hg w3 hbox hb; replace HB := Aside0.mk (below_step dz37 hb); have BK275 := Aside0.mk (hbox); have GW275 := Aside0.mk ((by rw [hg]; exact (keep_size (w := w) (g := g) (row := none) dz10) : w.heap.size ≤ gb275)); have GE275 := Aside0.mk ((Nat.le_trans HW0.out (by rw [hg]; exact (keep_size (w := w) (g := g) (row := none) dz10) : w.heap.size ≤ gb275) : w0.heap.size ≤ gb275)); replace HK := Aside0.mk (KeepBut.trans dz10 (KeepBut.of_below hb g none) (.inl rfl)); have NB274_275 := (nbl_ hg BK274); have NB275_274 := (nbr_ hg BK274); replace BK274 := (bkb_ BK274 hb); have NB0_275 := Aside0.mk ((by rw [hg]; exact Nat.ne_of_lt (IsS133.lt (show IsS133 w0 _ g s0_0 s0_1 s0_2 from by repeat (first | (with_reducible first | exact HI0.out | apply IsS133.alloc | apply IsS133.drewN | apply IsS133.drew | apply IsS133.set_1 | apply IsS133.set_2 | refine IsS133.far ?_ NB0_274.out _) | exact HI0.out))) : g ≠ gb275)); have NB275_0 := Aside0.mk ((by rw [hg]; exact Nat.ne_of_gt (IsS133.lt (show IsS133 w0 _ g s0_0 s0_1 s0_2 from by repeat (first | (with_reducible first | exact HI0.out | apply IsS133.alloc | apply IsS133.drewN | apply IsS133.drew | apply IsS133.set_1 | apply IsS133.set_2 | refine IsS133.far ?_ NB0_274.out _) | exact HI0.out))) : gb275 ≠ g)); replace HI0 := Aside0.mk (IsS133.below dz38 hb); clear hb hbox hg; have hnb53 := NB274_275.out; have hnc53 := NB275_274.out; have hnb54 := NB274_0.out; have hnc54 := NB0_274.out; obtain ⟨hcz55_0, hcz55_1, hfz55_0, hfz55_1⟩ := cz2_ BK274) | ((with_reducible refine gate_callee (f := 104) rfl ?_); refine goesL_ (some 8) rfl rfl Try.func104 (by kernel_rfl) rfl #[.pointer (some ⟨g, 0, none⟩), .agg #[.slice A1_0 l1_0.length c1_0, .int .i64 a1_1]] rfl dz1 ?_; (with_reducible refine (spec_l8DrawRight.calls k g s0_0 s0_1 s0_2 _ _ l1_0 a1_1 t276 t277 t280 t281 w0 _ ?side1 ?side2 ?side3 ?side4 ?side5 A3.out).mono ?_); (case side1 => exact dz301); (case side2 => exact dz302); (case side3 => exact Kd.C_keep 0 HR1_0.out dz4 hf1_0); (case side4 => exact HC1_0.out); (case side5 => exact hf1_0); rintro e w4 ⟨v278, rfl, ho0, hi, hb, hk⟩; refine ⟨_, rfl, ?_⟩; have HO279 := Aside0.mk (Kd.N_lower (Kd.N_mono (ok' := fun k_ => (w.heap.size ≤ k_) ∧ k_ ≠ gb274 ∧ k_ ≠ gb275 ∧ k_ ≠ g) ho0 (fun k_ hk_ => ⟨(Nat.le_trans (keep_size (w := w) (g := g) (row := none) dz4) hk_), (Kd.freshB (g := gb274) (o := .cells #[.slice A1_0 l1_0.length c1_0, .int .i64 a1_1] 73 (0, 0)) dz11 k_ hk_), (Kd.freshB (g := gb275) (o := .cells #[.int .i64 0, .slice none 0 0] 49 (0, 0)) dz12 k_ hk_), (IsS133.fresh dz19 k_ hk_)⟩)) (keep_size (w := w) (g := g) (row := none) dz4)); replace BK274 := Aside0.mk (KeepBut.blk hk (g' := gb274) (o := .cells #[.slice A1_0 l1_0.length c1_0, .int .i64 a1_1] 73 (0, 0)) dz11 NB274_0.out (by simp)); replace BK275 := Aside0.mk (KeepBut.blk hk (g' := gb275) (o := .cells #[.int .i64 0, .slice none 0 0] 49 (0, 0)) dz12 NB275_0.out (by simp)); replace HK := Aside0.mk (KeepBut.trans dz4 hk (.inl rfl)); replace HB := Aside0.mk (hb); replace HI0 := Aside0.mk (hi); (try clear hb); (try clear hb2); (try clear hk); (try clear hi); (try clear ho0)) | ((with_reducible refine gate_dst (N := 5) rfl ?_); (try (refine gate_guard (by rfl) ?_; dsimp only)); refine box_event kr_ (N := 5) kr_ (cs := #[.int .i64 0, .slice none 0 0]) (t := 49) ks_ ?_; intro gb282 hg w5 hbox hb; replace HO279 := Aside0.mk (Kd.N_below (Kd.N_elderB dz20 gb282 (Nat.le_of_eq hg.symm)) hb); replace HB := Aside0.mk (below_step dz39 hb); have BK282 := Aside0.mk (hbox); have GW282 := Aside0.mk ((by rw [hg]; exact (keep_size (w := w) (g := g) (row := none) dz4) : w.heap.size ≤ gb282)); have GE282 := Aside0.mk ((Nat.le_trans HW0.out (by rw [hg]; exact (keep_size (w := w) (g := g) (row := none) dz4) : w.heap.size ≤ gb282) : w0.heap.size ≤ gb282)); replace HK := Aside0.mk (KeepBut.trans dz4 (KeepBut.of_below hb g none) (.inl rfl)); have NB274_282 := (nbl_ hg BK274); have NB282_274 := (nbr_ hg BK274); replace BK274 := (bkb_ BK274 hb); have NB275_282 := (nbl_ hg BK275); have NB282_275 := (nbr_ hg BK275); replace BK275 := (bkb_ BK275 hb); have NB0_282 := Aside0.mk ((by rw [hg]; exact Nat.ne_of_lt (IsS133.lt (show IsS133 w0 _ g s0_0 t280 t281 from by repeat (first | (with_reducible first | exact HI0.out | apply IsS133.alloc | apply IsS133.drewN | apply IsS133.drew | apply IsS133.set_1 | apply IsS133.set_2 | refine IsS133.far ?_ NB0_274.out _ | refine IsS133.far ?_ NB0_275.out _) | exact HI0.out))) : g ≠ gb282)); have NB282_0 := Aside0.mk ((by rw [hg]; exact Nat.ne_of_gt (IsS133.lt (show IsS133 w0 _ g s0_0 t280 t281 from by repeat (first | (with_reducible first | exact HI0.out | apply IsS133.alloc | apply IsS133.drewN | apply IsS133.drew | apply IsS133.set_1 | apply IsS133.set_2 | refine IsS133.far ?_ NB0_274.out _ | refine IsS133.far ?_ NB0_275.out _) | exact HI0.out))) : gb282 ≠ g)); replace HI0 := Aside0.mk (IsS133.below dz19 hb); clear hb hbox hg; have hnb58 := NB282_274.out; have hnc58 := NB274_282.out; have hnb59 := NB282_275.out; have hnc59 := NB275_282.out; have hnb60 := NB282_0.out; have hnc60 := NB0_282.out; obtain ⟨hcz61_0, hcz61_1, hfz61_0, hfz61_1⟩ := cz2_ BK282; obtain ⟨Ao62, co62, eo62⟩ := Kd.N_slice HO279.out; subst eo62) | ((with_reducible refine gate_callee (f := 105) rfl ?_); refine goesL_ (some 10) rfl rfl Try.func105 (by kernel_rfl) rfl #[.pointer (some ⟨g, 0, none⟩), .int .i64 25] rfl dz1 ?_; (with_reducible refine (spec_l1Below.calls g s0_0 t280 t281 25 t283 t284 t285 w0 _ ?side1 ?side2 A4.out).mono ?_); (case side1 => exact dz303); (case side2 => exact dz304); rintro e w6 ⟨rfl, hi, hb, hk⟩; refine ⟨_, rfl, ?_⟩; replace BK274 := Aside0.mk (KeepBut.blk hk (g' := gb274) (o := .cells #[.slice A1_0 l1_0.length c1_0, .int .i64 a1_1] 73 (0, 0)) dz40 NB274_0.out (by simp)); replace BK275 := Aside0.mk (KeepBut.blk hk (g' := gb275) (o := .cells #[.int .i64 0, .slice none 0 0] 49 (0, 0)) dz41 NB275_0.out (by simp)); replace HO279 := Aside0.mk (Kd.N_mono (Kd.N_keep (Kd.N_mono (ok := fun k_ => ((((w.heap.size ≤ k_)) ∧ (k_ ≠ gb274 ∧ (k_ ≠ gb275 ∧ k_ ≠ g))) ∧ k_ ≠ gb282)) (by (with_reducible repeat (first | apply Kd.N_alloc | apply Kd.N_drewN | apply Kd.N_drew)); exact (Kd.N_mono (Kd.N_far (p := ⟨gb282, 1, none⟩) (Kd.N_far (p := ⟨gb282, 0, none⟩) (Kd.N_mono HO279.out (fun k_ hk => (⟨hk, hk.2⟩ : _ ∧ k_ ≠ gb282))) (fun _ hk => hk.2) (.int .i64 t276)) (fun _ hk => hk.2) (.slice Ao62 t277.length co62)) (fun _ h_ => h_.1))) (fun k_ hk_ => (⟨hk_, hk_.1.2.2.2⟩ : _ ∧ k_ ≠ g))) hk (fun _ h => h.2)) (fun _ h => h.1)); replace BK282 := Aside0.mk (KeepBut.blk hk (g' := gb282) (o := .cells #[.int .i64 t276, .slice Ao62 t277.length co62] 49 (0, 0)) dz42 NB282_0.out (by simp)); replace HK := Aside0.mk (KeepBut.trans dz9 hk (.inl rfl)); replace HB := Aside0.mk (hb); replace HI0 := Aside0.mk (hi); (try clear hb); (try clear hb2); (try clear hk); (try clear hi); obtain ⟨hcz64_0, hcz64_1, hfz64_0, hfz64_1⟩ := cz2_ BK282; have hnb65 := NB275_0.out; have hnc65 := NB0_275.out; obtain ⟨hcz66_0, hcz66_1, hfz66_0, hfz66_1⟩ := cz2_ BK275))
  refine bodyPost_ret (results_cell_row rfl _ _ gb275 49 #[.int .i64 t276, .slice Ao62 t277.length co62] (0, 0) _ rfl dz49 Try.underlying49 rfl (by kernel_rfl)) rfl ?_
  exact ⟨_, by first | rfl | (simp [errW_none, errW_some] <;> rfl) | (simp [*, errW_none, errW_some] <;> rfl), by (with_reducible repeat (first | apply Kd.N_alloc | apply Kd.N_drewN | apply Kd.N_drew)); exact Kd.N_mono (Kd.N_far (p := ⟨gb275, 1, none⟩) (Kd.N_far (p := ⟨gb275, 0, none⟩) (Kd.N_mono HO279.out (fun k_ hk => (⟨hk, hk.1.2.2.1⟩ : _ ∧ k_ ≠ gb275))) (fun _ hk => hk.2) (.int .i64 t276)) (fun _ hk => hk.2) (.slice Ao62 t277.length co62)) (fun _ hk => hk.1.1.1), by repeat (first | (with_reducible first | exact HI0.out | apply IsS133.alloc | apply IsS133.drewN | apply IsS133.drew | apply IsS133.set_1 | apply IsS133.set_2 | refine IsS133.far ?_ NB0_274.out _ | refine IsS133.far ?_ NB0_275.out _ | refine IsS133.far ?_ NB0_282.out _) | exact HI0.out), by repeat (first | (with_reducible first | exact HB.out | apply below_alloc | apply pw_below_drewN | apply below_drew1 | refine below_set ?_ (IsS133.ge HI0.out) | refine below_set ?_ GE274.out | refine below_set ?_ GE275.out | refine below_set ?_ GE282.out) | exact HB.out), by repeat (first | (with_reducible first | exact HK.out | apply KeepBut.set_ | apply keep_drewN | apply keep_drew | apply keep_alloc | refine keep_far ?_ GW274.out _ | refine keep_far ?_ GW275.out _ | refine keep_far ?_ GW282.out _) | exact HK.out)⟩
 rw [if_neg c27] at H
 have c27b0 : (t283 == 1) = false := beq_eq_false_iff_ne.mpr c27
 have c27b1 : (t283 != 1) = true := bne_iff_ne.mpr c27
 by_cases c67 : t283 = 2
 ·rw [if_pos c67] at H
  have c67b0 : (t283 == 2) = true := beq_iff_eq.mpr c67
  have c67b1 : (t283 != 2) = false := bne_eq_false_iff_eq.mpr c67
  clear c67
  replace H := Option.bind_eq_some_iff.mp H
  obtain ⟨⟨t294, t295, t296⟩, A680, H⟩ := H
  replace H : (if 0 ≤ (wrap64 (40 + t294)) then (if (wrap64 (40 + t294) : Int).toNat ≤ 281474976710656 then (if t277.length < 2932031007402 then (some (t276, (t277 ++ [(⟨strOfNums (List.replicate (wrap64 (40 + t294) : Int).toNat 0), ([] : List Int), false⟩ : S53)]), t295, t296)) else (none)) else (none)) else (none)) = some (r1, r2, r3, r4) := H
  have A68 := Aside0.mk A680
  clear A680
  obtain ⟨ji69, hji69⟩ : ∃ j_ : Int, (wrap64 (40 + t294)) = j_ := ⟨_, rfl⟩
  replace H : (if 0 ≤ (ji69) then (if (ji69 : Int).toNat ≤ 281474976710656 then (if t277.length < 2932031007402 then (some (t276, (t277 ++ [(⟨strOfNums (List.replicate (ji69 : Int).toNat 0), ([] : List Int), false⟩ : S53)]), t295, t296)) else (none)) else (none)) else (none)) = some (r1, r2, r3, r4) := by first | (rw [hji69] at H; exact H) | (simp only [hji69] at H ⊢; exact H)
  (try rw [hji69] at A3)
  (try rw [hji69] at A4)
  (try rw [hji69] at A68)
  have hji69w : (IntKind.i64.wrap (40 + t294)) = ji69 := (i64_w _).trans hji69
  by_cases c70 : 0 ≤ (ji69)
  ·rw [if_pos c70] at H
   have c70b0 := eq_true c70
   have c70b1 : decide (0 ≤ (ji69)) = true := decide_eq_true c70
   clear c70
   by_cases c71 : (ji69 : Int).toNat ≤ 281474976710656
   ·rw [if_pos c71] at H
    have c71b0 := eq_true c71
    have c71b1 : decide ((ji69 : Int).toNat ≤ 281474976710656) = true := decide_eq_true c71
    clear c71
    obtain ⟨y297, hy297⟩ : ∃ y_ : List Int, y_ = (List.replicate (ji69 : Int).toNat 0) := ⟨_, rfl⟩
    replace H : (if t277.length < 2932031007402 then (some (t276, (t277 ++ [(⟨strOfNums y297, ([] : List Int), false⟩ : S53)]), t295, t296)) else (none)) = some (r1, r2, r3, r4) := by first | (rw [hy297]; with_reducible exact H) | (have H2_ := (Option.bind_some _ _).symm.trans H; rw [hy297]; with_reducible exact H2_) | (have H2_ := (Option.bind_some _ _).symm.trans H; with_reducible exact H2_) | with_reducible exact H | (rw [hy297]; exact H) | exact H
    have Ny297 := Aside0.mk hy297
    clear hy297
    by_cases c72 : t277.length < 2932031007402
    ·rw [if_pos c72] at H
     have LMc72 := Aside0.mk c72
     clear c72
     obtain ⟨y300, hy300⟩ : ∃ y_ : List (S53), y_ = (t277 ++ [(⟨strOfNums y297, ([] : List Int), false⟩ : S53)]) := ⟨_, rfl⟩
     replace H : (some (t276, y300, t295, t296)) = some (r1, r2, r3, r4) := by first | (rw [hy300]; with_reducible exact H) | (have H2_ := (Option.bind_some _ _).symm.trans H; rw [hy300]; with_reducible exact H2_) | (have H2_ := (Option.bind_some _ _).symm.trans H; with_reducible exact H2_) | with_reducible exact H | (rw [hy300]; exact H) | exact H
     have Ny300 := Aside0.mk hy300
     clear hy300
     simp only [Option.some.injEq, Prod.mk.injEq] at H
     obtain ⟨rfl, rfl, rfl, rfl⟩ := H
     go_enter Try.func60, Try.ntmps60
     try go_wp2_with (first | ((with_reducible refine gate_dst (N := 3) rfl ?_); (try (refine gate_guard (by rfl) ?_; dsimp only)); refine box_event kr_ (N := 3) kr_ (cs := #[.slice A1_0 l1_0.length c1_0, .int .i64 a1_1]) (t := 73) ks_ ?_; intro gb274 hg w2 hbox hb; replace HB := Aside0.mk (below_step dz27 hb); have BK274 := Aside0.mk (hbox); have GW274 := Aside0.mk ((by rw [hg]; exact (keep_size (w := w) (g := g) (row := none) dz5) : w.heap.size ≤ gb274)); have GE274 := Aside0.mk ((Nat.le_trans HW0.out (by rw [hg]; exact (keep_size (w := w) (g := g) (row := none) dz5) : w.heap.size ≤ gb274) : w0.heap.size ≤ gb274)); replace HK := Aside0.mk (KeepBut.trans dz5 (KeepBut.of_below hb g none) (.inl rfl)); have NB0_274 := Aside0.mk ((by rw [hg]; exact Nat.ne_of_lt (IsS133.lt (show IsS133 w0 _ g s0_0 s0_1 s0_2 from by repeat (first | (with_reducible first | exact HI0.out | apply IsS133.alloc | apply IsS133.drewN | apply IsS133.drew | apply IsS133.set_1 | apply IsS133.set_2) | exact HI0.out))) : g ≠ gb274)); have NB274_0 := Aside0.mk ((by rw [hg]; exact Nat.ne_of_gt (IsS133.lt (show IsS133 w0 _ g s0_0 s0_1 s0_2 from by repeat (first | (with_reducible first | exact HI0.out | apply IsS133.alloc | apply IsS133.drewN | apply IsS133.drew | apply IsS133.set_1 | apply IsS133.set_2) | exact HI0.out))) : gb274 ≠ g)); replace HI0 := Aside0.mk (IsS133.below dz28 hb); clear hb hbox hg) | ((with_reducible refine gate_dst (N := 4) rfl ?_); (try (refine gate_guard (by rfl) ?_; dsimp only)); refine box_event kr_ (N := 4) kr_ (cs := #[.int .i64 0, .slice none 0 0]) (t := 49) ks_ ?_; intro gb275 hg w3 hbox hb; replace HB := Aside0.mk (below_step dz37 hb); have BK275 := Aside0.mk (hbox); have GW275 := Aside0.mk ((by rw [hg]; exact (keep_size (w := w) (g := g) (row := none) dz10) : w.heap.size ≤ gb275)); have GE275 := Aside0.mk ((Nat.le_trans HW0.out (by rw [hg]; exact (keep_size (w := w) (g := g) (row := none) dz10) : w.heap.size ≤ gb275) : w0.heap.size ≤ gb275)); replace HK := Aside0.mk (KeepBut.trans dz10 (KeepBut.of_below hb g none) (.inl rfl)); have NB274_275 := (nbl_ hg BK274); have NB275_274 := (nbr_ hg BK274); replace BK274 := (bkb_ BK274 hb); have NB0_275 := Aside0.mk ((by rw [hg]; exact Nat.ne_of_lt (IsS133.lt (show IsS133 w0 _ g s0_0 s0_1 s0_2 from by repeat (first | (with_reducible first | exact HI0.out | apply IsS133.alloc | apply IsS133.drewN | apply IsS133.drew | apply IsS133.set_1 | apply IsS133.set_2 | refine IsS133.far ?_ NB0_274.out _) | exact HI0.out))) : g ≠ gb275)); have NB275_0 := Aside0.mk ((by rw [hg]; exact Nat.ne_of_gt (IsS133.lt (show IsS133 w0 _ g s0_0 s0_1 s0_2 from by repeat (first | (with_reducible first | exact HI0.out | apply IsS133.alloc | apply IsS133.drewN | apply IsS133.drew | apply IsS133.set_1 | apply IsS133.set_2 | refine IsS133.far ?_ NB0_274.out _) | exact HI0.out))) : gb275 ≠ g)); replace HI0 := Aside0.mk (IsS133.below dz38 hb); clear hb hbox hg; have hnb75 := NB274_275.out; have hnc75 := NB275_274.out; have hnb76 := NB274_0.out; have hnc76 := NB0_274.out; obtain ⟨hcz77_0, hcz77_1, hfz77_0, hfz77_1⟩ := cz2_ BK274) | ((with_reducible refine gate_callee (f := 104) rfl ?_); refine goesL_ (some 8) rfl rfl Try.func104 (by kernel_rfl) rfl #[.pointer (some ⟨g, 0, none⟩), .agg #[.slice A1_0 l1_0.length c1_0, .int .i64 a1_1]] rfl dz1 ?_; (with_reducible refine (spec_l8DrawRight.calls k g s0_0 s0_1 s0_2 _ _ l1_0 a1_1 t276 t277 t280 t281 w0 _ ?side1 ?side2 ?side3 ?side4 ?side5 A3.out).mono ?_); (case side1 => exact dz301); (case side2 => exact dz302); (case side3 => exact Kd.C_keep 0 HR1_0.out dz4 hf1_0); (case side4 => exact HC1_0.out); (case side5 => exact hf1_0); rintro e w4 ⟨v278, rfl, ho0, hi, hb, hk⟩; refine ⟨_, rfl, ?_⟩; have HO279 := Aside0.mk (Kd.N_lower (Kd.N_mono (ok' := fun k_ => (w.heap.size ≤ k_) ∧ k_ ≠ gb274 ∧ k_ ≠ gb275 ∧ k_ ≠ g) ho0 (fun k_ hk_ => ⟨(Nat.le_trans (keep_size (w := w) (g := g) (row := none) dz4) hk_), (Kd.freshB (g := gb274) (o := .cells #[.slice A1_0 l1_0.length c1_0, .int .i64 a1_1] 73 (0, 0)) dz11 k_ hk_), (Kd.freshB (g := gb275) (o := .cells #[.int .i64 0, .slice none 0 0] 49 (0, 0)) dz12 k_ hk_), (IsS133.fresh dz19 k_ hk_)⟩)) (keep_size (w := w) (g := g) (row := none) dz4)); replace BK274 := Aside0.mk (KeepBut.blk hk (g' := gb274) (o := .cells #[.slice A1_0 l1_0.length c1_0, .int .i64 a1_1] 73 (0, 0)) dz11 NB274_0.out (by simp)); replace BK275 := Aside0.mk (KeepBut.blk hk (g' := gb275) (o := .cells #[.int .i64 0, .slice none 0 0] 49 (0, 0)) dz12 NB275_0.out (by simp)); replace HK := Aside0.mk (KeepBut.trans dz4 hk (.inl rfl)); replace HB := Aside0.mk (hb); replace HI0 := Aside0.mk (hi); (try clear hb); (try clear hb2); (try clear hk); (try clear hi); (try clear ho0)) | ((with_reducible refine gate_dst (N := 5) rfl ?_); (try (refine gate_guard (by rfl) ?_; dsimp only)); refine box_event kr_ (N := 5) kr_ (cs := #[.int .i64 0, .slice none 0 0]) (t := 49) ks_ ?_; intro gb282 hg w5 hbox hb; replace HO279 := Aside0.mk (Kd.N_below (Kd.N_elderB dz20 gb282 (Nat.le_of_eq hg.symm)) hb); replace HB := Aside0.mk (below_step dz39 hb); have BK282 := Aside0.mk (hbox); have GW282 := Aside0.mk ((by rw [hg]; exact (keep_size (w := w) (g := g) (row := none) dz4) : w.heap.size ≤ gb282)); have GE282 := Aside0.mk ((Nat.le_trans HW0.out (by rw [hg]; exact (keep_size (w := w) (g := g) (row := none) dz4) : w.heap.size ≤ gb282) : w0.heap.size ≤ gb282)); replace HK := Aside0.mk (KeepBut.trans dz4 (KeepBut.of_below hb g none) (.inl rfl)); have NB274_282 := (nbl_ hg BK274); have NB282_274 := (nbr_ hg BK274); replace BK274 := (bkb_ BK274 hb); have NB275_282 := (nbl_ hg BK275); have NB282_275 := (nbr_ hg BK275); replace BK275 := (bkb_ BK275 hb); have NB0_282 := Aside0.mk ((by rw [hg]; exact Nat.ne_of_lt (IsS133.lt (show IsS133 w0 _ g s0_0 t280 t281 from by repeat (first | (with_reducible first | exact HI0.out | apply IsS133.alloc | apply IsS133.drewN | apply IsS133.drew | apply IsS133.set_1 | apply IsS133.set_2 | refine IsS133.far ?_ NB0_274.out _ | refine IsS133.far ?_ NB0_275.out _) | exact HI0.out))) : g ≠ gb282)); have NB282_0 := Aside0.mk ((by rw [hg]; exact Nat.ne_of_gt (IsS133.lt (show IsS133 w0 _ g s0_0 t280 t281 from by repeat (first | (with_reducible first | exact HI0.out | apply IsS133.alloc | apply IsS133.drewN | apply IsS133.drew | apply IsS133.set_1 | apply IsS133.set_2 | refine IsS133.far ?_ NB0_274.out _ | refine IsS133.far ?_ NB0_275.out _) | exact HI0.out))) : gb282 ≠ g)); replace HI0 := Aside0.mk (IsS133.below dz19 hb); clear hb hbox hg; have hnb80 := NB282_274.out; have hnc80 := NB274_282.out; have hnb81 := NB282_275.out; have hnc81 := NB275_282.out; have hnb82 := NB282_0.out; have hnc82 := NB0_282.out; obtain ⟨hcz83_0, hcz83_1, hfz83_0, hfz83_1⟩ := cz2_ BK282; obtain ⟨Ao84, co84, eo84⟩ := Kd.N_slice HO279.out; subst eo84) | ((with_reducible refine gate_callee (f := 105) rfl ?_); refine goesL_ (some 10) rfl rfl Try.func105 (by kernel_rfl) rfl #[.pointer (some ⟨g, 0, none⟩), .int .i64 25] rfl dz1 ?_; (with_reducible refine (spec_l1Below.calls g s0_0 t280 t281 25 t283 t284 t285 w0 _ ?side1 ?side2 A4.out).mono ?_); (case side1 => exact dz303); (case side2 => exact dz304); rintro e w6 ⟨rfl, hi, hb, hk⟩; refine ⟨_, rfl, ?_⟩; replace BK274 := Aside0.mk (KeepBut.blk hk (g' := gb274) (o := .cells #[.slice A1_0 l1_0.length c1_0, .int .i64 a1_1] 73 (0, 0)) dz40 NB274_0.out (by simp)); replace BK275 := Aside0.mk (KeepBut.blk hk (g' := gb275) (o := .cells #[.int .i64 0, .slice none 0 0] 49 (0, 0)) dz41 NB275_0.out (by simp)); replace HO279 := Aside0.mk (Kd.N_mono (Kd.N_keep (Kd.N_mono (ok := fun k_ => ((((w.heap.size ≤ k_)) ∧ (k_ ≠ gb274 ∧ (k_ ≠ gb275 ∧ k_ ≠ g))) ∧ k_ ≠ gb282)) (by (with_reducible repeat (first | apply Kd.N_alloc | apply Kd.N_drewN | apply Kd.N_drew)); exact (Kd.N_mono (Kd.N_far (p := ⟨gb282, 1, none⟩) (Kd.N_far (p := ⟨gb282, 0, none⟩) (Kd.N_mono HO279.out (fun k_ hk => (⟨hk, hk.2⟩ : _ ∧ k_ ≠ gb282))) (fun _ hk => hk.2) (.int .i64 t276)) (fun _ hk => hk.2) (.slice Ao84 t277.length co84)) (fun _ h_ => h_.1))) (fun k_ hk_ => (⟨hk_, hk_.1.2.2.2⟩ : _ ∧ k_ ≠ g))) hk (fun _ h => h.2)) (fun _ h => h.1)); replace BK282 := Aside0.mk (KeepBut.blk hk (g' := gb282) (o := .cells #[.int .i64 t276, .slice Ao84 t277.length co84] 49 (0, 0)) dz42 NB282_0.out (by simp)); replace HK := Aside0.mk (KeepBut.trans dz9 hk (.inl rfl)); replace HB := Aside0.mk (hb); replace HI0 := Aside0.mk (hi); (try clear hb); (try clear hb2); (try clear hk); (try clear hi)))
     replace HO279 := Aside0.mk (Kd.N_drew HO279.out)
     replace BK274 := Aside0.mk (blk_drew BK274.out)
     replace BK275 := Aside0.mk (blk_drew BK275.out)
     replace BK282 := Aside0.mk (blk_drew BK282.out)
     replace HI0 := Aside0.mk (IsS133.drew HI0.out)
     replace HK := Aside0.mk (keep_drew HK.out)
     replace HB := Aside0.mk (below_drew1 HB.out)
     refine start_ (n := 12) (S := fun w' => w'.cell? ⟨gb282, 0, none⟩ = some (.int .i64 t276) ∧ w'.cell? ⟨gb282, 1, none⟩ = some (.slice Ao84 t277.length co84)) (ds := [11]) (fl_ 0 12) (by kernel_rfl) rfl rfl ⟨(blk_cell BK282.out 0).trans rfl, (blk_cell BK282.out 1).trans rfl⟩ (fun hHeld => ?_); refine with_tabW spec_l8Draw.tab9 spec_l8Draw.bits9 (fun HT_ HW_ => ?_)
     generalize w6.drew = w9 at HO279 BK274 BK275 BK282 HI0 HK HB hHeld ⊢
     refine pure_ (i := 0) (N := some 35) (v := ?_) (a' := ?_) (fl_ 1 11) rfl rfl (any_of HT_.out (by kernel_rfl)) (fun _ _ _ h => h) (Or.inl ⟨by rfl, ?_⟩) ?_ ?_
     rotate_left
     ·exact dz311
     rotate_left
     ·exact dz312
     refine pure_ (i := 2) (N := some 37) (v := ?_) (a' := ?_) #[true, false, true, false, false, false, false, false, false, false, false, false] rfl rfl (any_of HT_.out (by kernel_rfl)) (fun _ _ _ h => h) (Or.inl ⟨by rfl, ?_⟩) ?_ ?_
     rotate_left
     ·exact dz311
     rotate_left
     ·exact dz312
     refine take_ (i := 1) (N := some 36) (v := ?_) (a' := ?_) (fl_ 3 9) rfl rfl (take_ofW HT_.out HW_.out (by kernel_rfl)) (fun _ _ _ h => h) (Or.inl ⟨by rfl, ?_⟩) hHeld ?_ ?_
     rotate_left
     ·exact dz313
     rotate_left
     ·exact dz312
     refine one_ (i := 3) (N := some 38) (fl_ 4 8) rfl rfl (one_of HT_.out (by kernel_rfl)) (by decide) (fun K hK => ?_)
     refine goes_ Try.func105 (by kernel_rfl) rfl #[.pointer (some ⟨g, 0, none⟩), .int .i64 2] (by rfl) rfl rfl dz1 ?_
     with_reducible refine (spec_l1Below.calls g s0_0 t284 t285 2 t294 t295 t296 w0 _ ?side1 ?side2 A68.out).mono ?_
     (case side1 => exact dz303)
     (case side2 => exact dz304)
     rintro e w87 ⟨rfl, hi, hb, hk⟩
     refine ⟨_, rfl, ?_⟩
     replace BK274 := Aside0.mk (KeepBut.blk hk (g' := gb274) (o := .cells #[.slice A1_0 l1_0.length c1_0, .int .i64 a1_1] 73 (0, 0)) dz11 NB274_0.out (by simp))
     replace BK275 := Aside0.mk (KeepBut.blk hk (g' := gb275) (o := .cells #[.int .i64 0, .slice none 0 0] 49 (0, 0)) dz12 NB275_0.out (by simp))
     replace HO279 := Aside0.mk (Kd.N_mono (Kd.N_keep (Kd.N_mono (ok := fun k_ => ((((w.heap.size ≤ k_)) ∧ (k_ ≠ gb274 ∧ (k_ ≠ gb275 ∧ k_ ≠ g))) ∧ k_ ≠ gb282)) dz20 (fun k_ hk_ => (⟨hk_, hk_.1.2.2.2⟩ : _ ∧ k_ ≠ g))) hk (fun _ h => h.2)) (fun _ h => h.1))
     replace BK282 := Aside0.mk (KeepBut.blk hk (g' := gb282) (o := .cells #[.int .i64 t276, .slice Ao84 t277.length co84] 49 (0, 0)) dz44 NB282_0.out (by simp))
     replace HK := Aside0.mk (KeepBut.trans dz9 hk (.inl rfl))
     replace HB := Aside0.mk (hb)
     replace HI0 := Aside0.mk (hi)
     (try clear hb)
     (try clear hb2)
     (try clear hk)
     (try clear hi)
     refine hK.out _ _ ⟨(blk_cell BK282.out 0).trans rfl, (blk_cell BK282.out 1).trans rfl⟩ (fun hHeld => ?_)
     clear hK K
     refine norm_ (a' := ?_) ?_ ?_
     rotate_left
     ·show Act.put _ (some 38) _ = _
      simp only [Act.put, List.setIfInBounds_toArray, List.set_cons_zero, List.set_cons_succ, i64_w, i32_w]
      rfl
     refine pure_ (i := 4) (N := some 39) (v := ?_) (a' := ?_) (fl_ 5 7) rfl rfl (any_of HT_.out (by kernel_rfl)) (fun _ _ _ h => h) (Or.inl ⟨by rfl, ?_⟩) ?_ ?_
     rotate_left
     ·exact dz311
     rotate_left
     ·exact dz312
     refine one_ (i := 5) (N := some 40) (fl_ 6 6) rfl rfl (one_of HT_.out (by kernel_rfl)) (by decide) (fun K hK => ?_)
     refine Kd.R_make_step (Kd.int .u8) _ 5 (by rfl) (N := 40) rfl 45 _ _ rfl ji69 rfl rfl Try.underlying45 (.int .u8 0) 1 info5 rfl (by decide) (by omega) 0 (ok := fun _ => True) (okp := fun _ => True) rfl (fun _ hk => hk) trivial (of_decide_eq_true dz0) (Nat.le_trans (Nat.mul_le_mul_right _ (of_decide_eq_true dz0 : ji69.toNat ≤ 281474976710656)) (by omega)) (Below.refl _ _) (Nat.le_refl _) ?_
     intro v298 w88 ho89 hb hg_ hnew_
     clear hg_ hnew_
     (first | rw [← Ny297.out] at ho89 | (simp only [Int.reduceToNat] at ho89; rw [← Ny297.out] at ho89))
     replace HO279 := Aside0.mk (Kd.N_elder' dz20 (Kd.R_base ho89) hb)
     have HO299 := Aside0.mk (Kd.R_lower (Kd.R_newM (M := fun k_ => (w.heap.size ≤ k_)) ho89 (keep_size (w := w) (g := g) (row := none) dz9) (fun k_ h_ => h_)) (keep_size (w := w) (g := g) (row := none) dz9))
     replace BK274 := (bkb_ BK274 hb)
     replace BK275 := (bkb_ BK275 hb)
     replace BK282 := (bkb_ BK282 hb)
     replace HK := Aside0.mk (KeepBut.trans dz9 (KeepBut.of_below hb g none) (.inl rfl))
     replace HB := Aside0.mk (below_step dz57 hb)
     replace HI0 := Aside0.mk (IsS133.below dz43 hb)
     clear hb ho89
     refine hK.out _ _ ⟨(blk_cell BK282.out 0).trans rfl, (blk_cell BK282.out 1).trans rfl⟩ (fun hHeld => ?_)
     clear hK K
     refine norm_ (a' := ?_) ?_ ?_
     rotate_left
     ·show Act.put _ (some 40) _ = _
      simp only [Act.put, List.setIfInBounds_toArray, List.set_cons_zero, List.set_cons_succ, i64_w, i32_w]
      rfl
     refine one_ (i := 6) (N := some 41) (fl_ 7 5) rfl rfl (one_of HT_.out (by kernel_rfl)) (by decide) (fun K hK => ?_)
     have hcv90 := own_string (P := Try.prog) Try.underlying45 Try.underlying5 Try.underlying9 (Kd.own_of_R HO299.out)
     refine value_ (w1 := ?_) (v := ?_) (by rfl) rfl ?_ ?_
     rotate_left 2
     ·go_simp
      constructor
      ·rfl
      rfl
     clear hcv90
     refine hK.out _ _ ⟨(blk_cell BK282.out 0).trans rfl, (blk_cell BK282.out 1).trans rfl⟩ (fun hHeld => ?_)
     clear hK K
     refine norm_ (a' := ?_) ?_ ?_
     rotate_left
     ·show Act.put _ (some 41) _ = _
      simp only [Act.put, List.setIfInBounds_toArray, List.set_cons_zero, List.set_cons_succ, i64_w, i32_w]
      rfl
     refine pure_ (i := 7) (N := some 42) (v := ?_) (a' := ?_) (fl_ 8 4) rfl rfl (any_of HT_.out (by kernel_rfl)) (fun _ _ _ h => h) (Or.inl ⟨by rfl, ?_⟩) ?_ ?_
     rotate_left
     ·exact dz311
     rotate_left
     ·exact dz312
     refine one_ (i := 8) (N := some 43) (fl_ 9 3) rfl rfl (one_of HT_.out (by kernel_rfl)) (by decide) (fun K hK => ?_)
     refine value_ (w1 := ?_) (v := ?_) (by rfl) rfl ?_ ?_
     rotate_left 2
     ·go_simp
      constructor
      ·rfl
      rfl
     refine hK.out _ _ ⟨(blk_cell (blk_alloc BK282.out _) 0).trans rfl, (blk_cell (blk_alloc BK282.out _) 1).trans rfl⟩ (fun hHeld => ?_)
     clear hK K
     refine norm_ (a' := ?_) ?_ ?_
     rotate_left
     ·exact dz316
     refine one_ (i := 9) (N := some 44) (fl_ 10 2) rfl rfl (one_of HT_.out (by kernel_rfl)) (by decide) (fun K hK => ?_)
     refine Kd.N_append_step k53 w.heap.size (by rfl) (.tmp 36) (.tmp 43) 47 53 (.agg #[(.string ⟨#[]⟩), (.slice none 0 0), (.bool false)]) 48 rfl Try.underlying47 info53 rfl (by decide) (by omega) (.slice Ao84 t277.length co84) t277 (⟨strOfNums y297, ([] : List Int), false⟩ : S53) [.string (strOfNums y297), .slice none 0 0, .bool false] (fun k_ => (w.heap.size ≤ k_) ∧ some k_ ≠ (v298 : Value).ownBlock ∧ k_ ≠ gb274 ∧ k_ ≠ gb275 ∧ k_ ≠ gb282 ∧ k_ ≠ g) (fun k_ => ((fun k_ => (w.heap.size ≤ k_) ∧ some k_ ≠ (v298 : Value).ownBlock ∧ k_ ≠ gb274 ∧ k_ ≠ gb275 ∧ k_ ≠ gb282 ∧ k_ ≠ g)) k_ ∧ some k_ ≠ (.slice Ao84 t277.length co84 : Value).ownBlock) rfl rfl ?aP (fun _ hk => hk) ?aF ?aO (Below.refl _ _) ?aS ?aL ?_
     (case aP => exact (k53_mkF _ _ (⟨strOfNums y297, ([] : List Int), false⟩ : S53) (Nat.le_refl _) (Kd.F_nil _ _ _)))
     (case aF => exact (fun k_ hk => ⟨(Nat.le_trans (keep_size (w := w) (g := g) (row := none) dz9) hk), Kd.fresh' (Kd.R_lt (by (with_reducible repeat (first | apply Kd.R_alloc | apply Kd.R_drewN | apply Kd.R_drew)); exact HO299.out)) k_ hk, Kd.freshB (g := gb274) (o := .cells #[.slice A1_0 l1_0.length c1_0, .int .i64 a1_1] 73 (0, 0)) dz11 k_ hk, Kd.freshB (g := gb275) (o := .cells #[.int .i64 0, .slice none 0 0] 49 (0, 0)) dz12 k_ hk, Kd.freshB (g := gb282) (o := .cells #[.int .i64 t276, .slice Ao84 t277.length co84] 49 (0, 0)) dz44 k_ hk, IsS133.fresh dz43 k_ hk⟩))
     (case aO => exact (by (with_reducible repeat (first | apply Kd.N_alloc | apply Kd.N_drewN | apply Kd.N_drew)); exact Kd.N_mono HO279.out (fun _ hk => ⟨hk.1.1.1, ⟨hk.2, ⟨hk.1.1.2.1, ⟨hk.1.1.2.2.1, ⟨hk.1.2, hk.1.1.2.2.2⟩⟩⟩⟩⟩)))
     (case aS => exact (keep_size (w := w) (g := g) (row := none) dz9))
     (case aL => have := LMc72.out; omega)
     intro v301 w91 ho hb hg hat
     rw [← Ny300.out] at ho
     replace BK274 := Aside0.mk (blk_grown (g := gb274) (o := .cells #[.slice A1_0 l1_0.length c1_0, .int .i64 a1_1] 73 (0, 0)) dz11 hg (Kd.N_ne HO279.out BK274.out (by decide)))
     replace BK275 := Aside0.mk (blk_grown (g := gb275) (o := .cells #[.int .i64 0, .slice none 0 0] 49 (0, 0)) dz12 hg (Kd.N_ne HO279.out BK275.out (by decide)))
     replace BK282 := Aside0.mk (blk_grown (g := gb282) (o := .cells #[.int .i64 t276, .slice Ao84 t277.length co84] 49 (0, 0)) dz44 hg (Kd.N_ne HO279.out BK282.out (by decide)))
     replace HO299 := Aside0.mk (Kd.R_over' (by (with_reducible repeat (first | apply Kd.R_alloc | apply Kd.R_drewN | apply Kd.R_drew)); exact HO299.out) (Kd.N_typed dz20) (by decide) hg)
     replace HB := Aside0.mk (below_weaken dz57 HL.out hb)
     replace HI0 := Aside0.mk (IsS133.grown dz43 hg (IsS133.own_neN HI0.out HO279.out (by decide)))
     replace HK := Aside0.mk (KeepBut.trans dz9 (KeepBut.of_grown hg g) (Kd.N_base2 HO279.out))
     have HO302 := Aside0.mk (ho)
     clear HO279
     clear ho hb hg hat
     obtain ⟨Ao92, co92, eo92⟩ := Kd.N_slice HO302.out
     (first | subst eo92 | (injection eo92 with f1_ f2_ f3_; have f4_ := f1_.symm; have f5_ := f3_.symm; clear f1_ f2_ f3_; subst f4_; subst f5_))
     refine hK.out _ _ ⟨(blk_cell BK282.out 0).trans rfl, (blk_cell BK282.out 1).trans rfl⟩ (fun hHeld => ?_)
     clear hK K
     refine norm_ (a' := ?_) ?_ ?_
     rotate_left
     ·show Act.put _ (some 44) _ = _
      simp only [Act.put, List.setIfInBounds_toArray, List.set_cons_zero, List.set_cons_succ, i64_w, i32_w]
      rfl
     refine pure_ (i := 10) (N := some 45) (v := ?_) (a' := ?_) (fl_ 11 1) rfl rfl (any_of HT_.out (by kernel_rfl)) (fun _ _ _ h => h) (Or.inl ⟨by rfl, ?_⟩) ?_ ?_
     rotate_left
     ·exact dz311
     rotate_left
     ·exact dz312
     refine last_ (i := 11) (N := none) (fl_ 12 0) rfl rfl (one_of HT_.out (by kernel_rfl)) (by decide) (fun K hK => ?_)
     have hs93 : w91.cell? ⟨gb282, 1, none⟩ = some (.slice Ao84 t277.length co84) := (blk_cell BK282.out 1).trans rfl
     have hfs93 := blk_frozen BK282.out 1
     have hns93_0 := NB274_282.out
     have hns93_1 := NB275_282.out
     have hms93_0 := NB282_274.out
     have hms93_1 := NB282_275.out
     refine skip_ (w1 := ?_) (by rfl) rfl ?_ ?_
     rotate_left
     ·go_simp
      rfl
     refine hK.out _ _ ?_
     clear hK K
     refine done_ (done_of HT_.out (by kernel_rfl)) ?_
     obtain ⟨hcz94_0, hcz94_1, hfz94_0, hfz94_1⟩ := cz2_ BK282
     have hnb95 := NB275_0.out
     have hnc95 := NB0_275.out
     obtain ⟨hcz96_0, hcz96_1, hfz96_0, hfz96_1⟩ := cz2_ BK275
     try go_wp2
     refine bodyPost_ret (results_cell_row rfl _ _ gb275 49 #[.int .i64 t276, .slice Ao92 y300.length co92] (0, 0) _ rfl (by (with_reducible repeat (first | refine blk_drewN ?_ _ | refine blk_drew ?_ | refine blk_alloc ?_ _)); refine blk_put (cs := #[.int .i64 t276, .slice none 0 0]) ?_ 1 _ rfl; (with_reducible repeat (first | refine blk_drewN ?_ _ | refine blk_drew ?_ | refine blk_alloc ?_ _)); refine blk_put (cs := #[.int .i64 0, .slice none 0 0]) ?_ 0 _ rfl; (with_reducible repeat (first | refine blk_drewN ?_ _ | refine blk_drew ?_ | refine blk_alloc ?_ _)); refine blk_far ?_ NB275_282.out _; (with_reducible repeat (first | refine blk_drewN ?_ _ | refine blk_drew ?_ | refine blk_alloc ?_ _)); exact BK275.out) Try.underlying49 rfl (by kernel_rfl)) rfl ?_
     exact ⟨_, by first | rfl | (simp [errW_none, errW_some] <;> rfl) | (simp only [← hji69]; first | rfl | (simp [errW_none, errW_some] <;> rfl)) | (simp [*, errW_none, errW_some] <;> rfl), by (with_reducible repeat (first | apply Kd.N_alloc | apply Kd.N_drewN | apply Kd.N_drew)); exact Kd.N_mono (Kd.N_far (p := ⟨gb275, 1, none⟩) (Kd.N_far (p := ⟨gb275, 0, none⟩) (Kd.N_far (p := ⟨gb282, 1, none⟩) (Kd.N_mono (Kd.N_mono HO302.out (fun k_ hk => (⟨hk, hk.2.2.2.2.1⟩ : _ ∧ k_ ≠ gb282))) (fun k_ hk => (⟨hk, hk.1.2.2.2.1⟩ : _ ∧ k_ ≠ gb275))) (fun _ hk => hk.1.2) (.slice Ao92 y300.length co92)) (fun _ hk => hk.2) (.int .i64 t276)) (fun _ hk => hk.2) (.slice Ao92 y300.length co92)) (fun _ hk => hk.1.1.1), by repeat (first | (with_reducible first | exact HI0.out | apply IsS133.alloc | apply IsS133.drewN | apply IsS133.drew | apply IsS133.set_1 | apply IsS133.set_2 | refine IsS133.far ?_ NB0_274.out _ | refine IsS133.far ?_ NB0_275.out _ | refine IsS133.far ?_ NB0_282.out _) | exact HI0.out), by repeat (first | (with_reducible first | exact HB.out | apply below_alloc | apply pw_below_drewN | apply below_drew1 | refine below_set ?_ (IsS133.ge HI0.out) | refine below_set ?_ GE274.out | refine below_set ?_ GE275.out | refine below_set ?_ GE282.out) | exact HB.out), by repeat (first | (with_reducible first | exact HK.out | apply KeepBut.set_ | apply keep_drewN | apply keep_drew | apply keep_alloc | refine keep_far ?_ GW274.out _ | refine keep_far ?_ GW275.out _ | refine keep_far ?_ GW282.out _) | exact HK.out)⟩
    rw [if_neg c72] at H
    exact absurd H (by simp)
   rw [if_neg c71] at H
   exact absurd H (by simp)
  rw [if_neg c70] at H
  exact absurd H (by simp)
 rw [if_neg c67] at H
 have c67b0 : (t283 == 2) = false := beq_eq_false_iff_ne.mpr c67
 have c67b1 : (t283 != 2) = true := bne_iff_ne.mpr c67
 by_cases c97 : t283 = 3
 ·rw [if_pos c97] at H
  have c97b0 : (t283 == 3) = true := beq_iff_eq.mpr c97
  have c97b1 : (t283 != 3) = false := bne_eq_false_iff_eq.mpr c97
  clear c97
  have H' := Aside0.mk H
  clear H
  go_enter Try.func60, Try.ntmps60
  go_wp2_with (first | ((with_reducible refine gate_dst (N := 3) rfl ?_); (try (refine gate_guard (by rfl) ?_; dsimp only)); refine box_event kr_ (N := 3) kr_ (cs := #[.slice A1_0 l1_0.length c1_0, .int .i64 a1_1]) (t := 73) ks_ ?_; intro gb274 hg w2 hbox hb; replace HB := Aside0.mk (below_step dz27 hb); have BK274 := Aside0.mk (hbox); have GW274 := Aside0.mk ((by rw [hg]; exact (keep_size (w := w) (g := g) (row := none) dz5) : w.heap.size ≤ gb274)); have GE274 := Aside0.mk ((Nat.le_trans HW0.out (by rw [hg]; exact (keep_size (w := w) (g := g) (row := none) dz5) : w.heap.size ≤ gb274) : w0.heap.size ≤ gb274)); replace HK := Aside0.mk (KeepBut.trans dz5 (KeepBut.of_below hb g none) (.inl rfl)); have NB0_274 := Aside0.mk ((by rw [hg]; exact Nat.ne_of_lt (IsS133.lt (show IsS133 w0 _ g s0_0 s0_1 s0_2 from by repeat (first | (with_reducible first | exact HI0.out | apply IsS133.alloc | apply IsS133.drewN | apply IsS133.drew | apply IsS133.set_1 | apply IsS133.set_2) | exact HI0.out))) : g ≠ gb274)); have NB274_0 := Aside0.mk ((by rw [hg]; exact Nat.ne_of_gt (IsS133.lt (show IsS133 w0 _ g s0_0 s0_1 s0_2 from by repeat (first | (with_reducible first | exact HI0.out | apply IsS133.alloc | apply IsS133.drewN | apply IsS133.drew | apply IsS133.set_1 | apply IsS133.set_2) | exact HI0.out))) : gb274 ≠ g)); replace HI0 := Aside0.mk (IsS133.below dz28 hb); clear hb hbox hg) | ((with_reducible refine gate_dst (N := 4) rfl ?_); (try (refine gate_guard (by rfl) ?_; dsimp only)); refine box_event kr_ (N := 4) kr_ (cs := #[.int .i64 0, .slice none 0 0]) (t := 49) ks_ ?_; intro gb275 hg w3 hbox hb; replace HB := Aside0.mk (below_step dz37 hb); have BK275 := Aside0.mk (hbox); have GW275 := Aside0.mk ((by rw [hg]; exact (keep_size (w := w) (g := g) (row := none) dz10) : w.heap.size ≤ gb275)); have GE275 := Aside0.mk ((Nat.le_trans HW0.out (by rw [hg]; exact (keep_size (w := w) (g := g) (row := none) dz10) : w.heap.size ≤ gb275) : w0.heap.size ≤ gb275)); replace HK := Aside0.mk (KeepBut.trans dz10 (KeepBut.of_below hb g none) (.inl rfl)); have NB274_275 := (nbl_ hg BK274); have NB275_274 := (nbr_ hg BK274); replace BK274 := (bkb_ BK274 hb); have NB0_275 := Aside0.mk ((by rw [hg]; exact Nat.ne_of_lt (IsS133.lt (show IsS133 w0 _ g s0_0 s0_1 s0_2 from by repeat (first | (with_reducible first | exact HI0.out | apply IsS133.alloc | apply IsS133.drewN | apply IsS133.drew | apply IsS133.set_1 | apply IsS133.set_2 | refine IsS133.far ?_ NB0_274.out _) | exact HI0.out))) : g ≠ gb275)); have NB275_0 := Aside0.mk ((by rw [hg]; exact Nat.ne_of_gt (IsS133.lt (show IsS133 w0 _ g s0_0 s0_1 s0_2 from by repeat (first | (with_reducible first | exact HI0.out | apply IsS133.alloc | apply IsS133.drewN | apply IsS133.drew | apply IsS133.set_1 | apply IsS133.set_2 | refine IsS133.far ?_ NB0_274.out _) | exact HI0.out))) : gb275 ≠ g)); replace HI0 := Aside0.mk (IsS133.below dz38 hb); clear hb hbox hg; have hnb100 := NB274_275.out; have hnc100 := NB275_274.out; have hnb101 := NB274_0.out; have hnc101 := NB0_274.out; obtain ⟨hcz102_0, hcz102_1, hfz102_0, hfz102_1⟩ := cz2_ BK274) | ((with_reducible refine gate_callee (f := 104) rfl ?_); refine goesL_ (some 8) rfl rfl Try.func104 (by kernel_rfl) rfl #[.pointer (some ⟨g, 0, none⟩), .agg #[.slice A1_0 l1_0.length c1_0, .int .i64 a1_1]] rfl dz1 ?_; (with_reducible refine (spec_l8DrawRight.calls k g s0_0 s0_1 s0_2 _ _ l1_0 a1_1 t276 t277 t280 t281 w0 _ ?side1 ?side2 ?side3 ?side4 ?side5 A3.out).mono ?_); (case side1 => exact dz301); (case side2 => exact dz302); (case side3 => exact Kd.C_keep 0 HR1_0.out dz4 hf1_0); (case side4 => exact HC1_0.out); (case side5 => exact hf1_0); rintro e w4 ⟨v278, rfl, ho0, hi, hb, hk⟩; refine ⟨_, rfl, ?_⟩; have HO279 := Aside0.mk (Kd.N_lower (Kd.N_mono (ok' := fun k_ => (w.heap.size ≤ k_) ∧ k_ ≠ gb274 ∧ k_ ≠ gb275 ∧ k_ ≠ g) ho0 (fun k_ hk_ => ⟨(Nat.le_trans (keep_size (w := w) (g := g) (row := none) dz4) hk_), (Kd.freshB (g := gb274) (o := .cells #[.slice A1_0 l1_0.length c1_0, .int .i64 a1_1] 73 (0, 0)) dz11 k_ hk_), (Kd.freshB (g := gb275) (o := .cells #[.int .i64 0, .slice none 0 0] 49 (0, 0)) dz12 k_ hk_), (IsS133.fresh dz19 k_ hk_)⟩)) (keep_size (w := w) (g := g) (row := none) dz4)); replace BK274 := Aside0.mk (KeepBut.blk hk (g' := gb274) (o := .cells #[.slice A1_0 l1_0.length c1_0, .int .i64 a1_1] 73 (0, 0)) dz11 NB274_0.out (by simp)); replace BK275 := Aside0.mk (KeepBut.blk hk (g' := gb275) (o := .cells #[.int .i64 0, .slice none 0 0] 49 (0, 0)) dz12 NB275_0.out (by simp)); replace HK := Aside0.mk (KeepBut.trans dz4 hk (.inl rfl)); replace HB := Aside0.mk (hb); replace HI0 := Aside0.mk (hi); (try clear hb); (try clear hb2); (try clear hk); (try clear hi); (try clear ho0)) | ((with_reducible refine gate_dst (N := 5) rfl ?_); (try (refine gate_guard (by rfl) ?_; dsimp only)); refine box_event kr_ (N := 5) kr_ (cs := #[.int .i64 0, .slice none 0 0]) (t := 49) ks_ ?_; intro gb282 hg w5 hbox hb; replace HO279 := Aside0.mk (Kd.N_below (Kd.N_elderB dz20 gb282 (Nat.le_of_eq hg.symm)) hb); replace HB := Aside0.mk (below_step dz39 hb); have BK282 := Aside0.mk (hbox); have GW282 := Aside0.mk ((by rw [hg]; exact (keep_size (w := w) (g := g) (row := none) dz4) : w.heap.size ≤ gb282)); have GE282 := Aside0.mk ((Nat.le_trans HW0.out (by rw [hg]; exact (keep_size (w := w) (g := g) (row := none) dz4) : w.heap.size ≤ gb282) : w0.heap.size ≤ gb282)); replace HK := Aside0.mk (KeepBut.trans dz4 (KeepBut.of_below hb g none) (.inl rfl)); have NB274_282 := (nbl_ hg BK274); have NB282_274 := (nbr_ hg BK274); replace BK274 := (bkb_ BK274 hb); have NB275_282 := (nbl_ hg BK275); have NB282_275 := (nbr_ hg BK275); replace BK275 := (bkb_ BK275 hb); have NB0_282 := Aside0.mk ((by rw [hg]; exact Nat.ne_of_lt (IsS133.lt (show IsS133 w0 _ g s0_0 t280 t281 from by repeat (first | (with_reducible first | exact HI0.out | apply IsS133.alloc | apply IsS133.drewN | apply IsS133.drew | apply IsS133.set_1 | apply IsS133.set_2 | refine IsS133.far ?_ NB0_274.out _ | refine IsS133.far ?_ NB0_275.out _) | exact HI0.out))) : g ≠ gb282)); have NB282_0 := Aside0.mk ((by rw [hg]; exact Nat.ne_of_gt (IsS133.lt (show IsS133 w0 _ g s0_0 t280 t281 from by repeat (first | (with_reducible first | exact HI0.out | apply IsS133.alloc | apply IsS133.drewN | apply IsS133.drew | apply IsS133.set_1 | apply IsS133.set_2 | refine IsS133.far ?_ NB0_274.out _ | refine IsS133.far ?_ NB0_275.out _) | exact HI0.out))) : gb282 ≠ g)); replace HI0 := Aside0.mk (IsS133.below dz19 hb); clear hb hbox hg; have hnb105 := NB282_274.out; have hnc105 := NB274_282.out; have hnb106 := NB282_275.out; have hnc106 := NB275_282.out; have hnb107 := NB282_0.out; have hnc107 := NB0_282.out; obtain ⟨hcz108_0, hcz108_1, hfz108_0, hfz108_1⟩ := cz2_ BK282; obtain ⟨Ao109, co109, eo109⟩ := Kd.N_slice HO279.out; subst eo109) | ((with_reducible refine gate_callee (f := 105) rfl ?_); refine goesL_ (some 10) rfl rfl Try.func105 (by kernel_rfl) rfl #[.pointer (some ⟨g, 0, none⟩), .int .i64 25] rfl dz1 ?_; (with_reducible refine (spec_l1Below.calls g s0_0 t280 t281 25 t283 t284 t285 w0 _ ?side1 ?side2 A4.out).mono ?_); (case side1 => exact dz303); (case side2 => exact dz304); rintro e w6 ⟨rfl, hi, hb, hk⟩; refine ⟨_, rfl, ?_⟩; replace BK274 := Aside0.mk (KeepBut.blk hk (g' := gb274) (o := .cells #[.slice A1_0 l1_0.length c1_0, .int .i64 a1_1] 73 (0, 0)) dz40 NB274_0.out (by simp)); replace BK275 := Aside0.mk (KeepBut.blk hk (g' := gb275) (o := .cells #[.int .i64 0, .slice none 0 0] 49 (0, 0)) dz41 NB275_0.out (by simp)); replace HO279 := Aside0.mk (Kd.N_mono (Kd.N_keep (Kd.N_mono (ok := fun k_ => ((((w.heap.size ≤ k_)) ∧ (k_ ≠ gb274 ∧ (k_ ≠ gb275 ∧ k_ ≠ g))) ∧ k_ ≠ gb282)) (by (with_reducible repeat (first | apply Kd.N_alloc | apply Kd.N_drewN | apply Kd.N_drew)); exact (Kd.N_mono (Kd.N_far (p := ⟨gb282, 1, none⟩) (Kd.N_far (p := ⟨gb282, 0, none⟩) (Kd.N_mono HO279.out (fun k_ hk => (⟨hk, hk.2⟩ : _ ∧ k_ ≠ gb282))) (fun _ hk => hk.2) (.int .i64 t276)) (fun _ hk => hk.2) (.slice Ao109 t277.length co109)) (fun _ h_ => h_.1))) (fun k_ hk_ => (⟨hk_, hk_.1.2.2.2⟩ : _ ∧ k_ ≠ g))) hk (fun _ h => h.2)) (fun _ h => h.1)); replace BK282 := Aside0.mk (KeepBut.blk hk (g' := gb282) (o := .cells #[.int .i64 t276, .slice Ao109 t277.length co109] 49 (0, 0)) dz42 NB282_0.out (by simp)); replace HK := Aside0.mk (KeepBut.trans dz9 hk (.inl rfl)); replace HB := Aside0.mk (hb); replace HI0 := Aside0.mk (hi); (try clear hb); (try clear hb2); (try clear hk); (try clear hi)))
  go_loopg [] k (fun kq w' => ∃ (x283001_1 : List (S53)) (u283001 : Value), Aside0 (spec_l8Draw.l0 kq s0_0 t284 t285 t276 x283001_1 = some (r1, r2, r3, r4)) ∧ Aside0 (kq ≤ k) ∧ Aside0 (Kd.N k53 53 w' w.heap.size (fun k_ => (w.heap.size ≤ k_) ∧ k_ ≠ gb274 ∧ k_ ≠ gb275 ∧ k_ ≠ gb282 ∧ k_ ≠ g) u283001 x283001_1) ∧ Aside0 (w'.heap[gb274]? = some (.cells #[(.slice A1_0 l1_0.length c1_0), .int .i64 a1_1] 73 (0, 0))) ∧ Aside0 (w'.heap[gb275]? = some (.cells #[.int .i64 0, (.slice none 0 0)] 49 (0, 0))) ∧ Aside0 (w'.heap[gb282]? = some (.cells #[.int .i64 t276, u283001] 49 (0, 0))) ∧ Aside0 (IsS133 w0 w' g s0_0 t284 t285) ∧ Aside0 (KeepBut w w' g none) ∧ Aside0 (Below w0.heap.size w0 w'))
  case atStart => exact ⟨(t277), (.slice Ao109 t277.length co109), H', ⟨Nat.le_refl _⟩, ⟨by (with_reducible repeat (first | apply Kd.N_alloc | apply Kd.N_drewN | apply Kd.N_drew)); exact Kd.N_mono HO279.out (fun _ hk => ⟨hk.1.1, ⟨hk.1.2.1, ⟨hk.1.2.2.1, ⟨hk.2, hk.1.2.2.2⟩⟩⟩⟩)⟩, ⟨by (with_reducible repeat (first | refine blk_drewN ?_ _ | refine blk_drew ?_ | refine blk_alloc ?_ _)); exact BK274.out⟩, ⟨by (with_reducible repeat (first | refine blk_drewN ?_ _ | refine blk_drew ?_ | refine blk_alloc ?_ _)); exact BK275.out⟩, ⟨by (with_reducible repeat (first | refine blk_drewN ?_ _ | refine blk_drew ?_ | refine blk_alloc ?_ _)); exact BK282.out⟩, ⟨by repeat (first | (with_reducible first | exact HI0.out | apply IsS133.alloc | apply IsS133.drewN | apply IsS133.drew | apply IsS133.set_1 | apply IsS133.set_2 | refine IsS133.far ?_ NB0_274.out _ | refine IsS133.far ?_ NB0_275.out _ | refine IsS133.far ?_ NB0_282.out _) | exact HI0.out)⟩, ⟨by repeat (first | (with_reducible first | exact HK.out | apply KeepBut.set_ | apply keep_drewN | apply keep_drew | apply keep_alloc | refine keep_far ?_ GW274.out _ | refine keep_far ?_ GW275.out _ | refine keep_far ?_ GW282.out _) | exact HK.out)⟩, ⟨by repeat (first | (with_reducible first | exact HB.out | apply below_alloc | apply pw_below_drewN | apply below_drew1 | refine below_set ?_ (IsS133.ge HI0.out) | refine below_set ?_ GE274.out | refine below_set ?_ GE275.out | refine below_set ?_ GE282.out) | exact HB.out)⟩⟩
  case round =>
   clear H'
   try clear c1
   try clear c2
   try clear p2
   try clear q2
   try clear hx2
   try clear qi2
   try clear c3
   try clear p3
   try clear q3
   try clear hx3
   try clear qi3
   try clear hf3
   try clear c4
   try clear c5
   try clear c5b0
   try clear c5b1
   try clear c6
   try clear p6
   try clear c7
   try clear c8
   try clear c9
   try clear hcv9
   try clear c10
   try clear c14
   try clear c15
   try clear c16
   try clear c25
   try clear c27
   try clear c27b0
   try clear c27b1
   try clear c28
   try clear c28b0
   try clear c28b1
   try clear c29
   try clear c29b0
   try clear c29b1
   try clear p29
   try clear q29
   try clear hx29
   try clear qi29
   try clear c30
   try clear p30
   try clear q30
   try clear hx30
   try clear qi30
   try clear hf30
   try clear c33
   try clear c34
   try clear c38
   try clear c39
   try clear c40
   try clear c46
   try clear c49
   try clear c53
   try clear c54
   try clear c58
   try clear c59
   try clear c60
   try clear p64
   try clear c65
   try clear c67
   try clear c67b0
   try clear c67b1
   try clear c70
   try clear c70b0
   try clear c70b1
   try clear c71
   try clear c71b0
   try clear c71b1
   try clear c72
   try clear c75
   try clear c76
   try clear c80
   try clear c81
   try clear c82
   try clear hcv90
   try clear c95
   try clear c97
   try clear c97b0
   try clear c97b1
   try clear c100
   try clear c101
   try clear c104
   try clear c105
   try clear c106
   try clear c107
   try clear hcz102_0
   try clear hcz102_1
   try clear hcz108_0
   try clear hcz108_1
   try clear hcz11_0
   try clear hcz11_1
   try clear hcz17_0
   try clear hcz17_1
   try clear hcz24_0
   try clear hcz24_1
   try clear hcz26_0
   try clear hcz26_1
   try clear hcz35_0
   try clear hcz35_1
   try clear hcz41_0
   try clear hcz41_1
   try clear hcz44_0
   try clear hcz44_1
   try clear hcz48_0
   try clear hcz48_1
   try clear hcz50_0
   try clear hcz50_1
   try clear hcz55_0
   try clear hcz55_1
   try clear hcz61_0
   try clear hcz61_1
   try clear hcz64_0
   try clear hcz64_1
   try clear hcz66_0
   try clear hcz66_1
   try clear hcz77_0
   try clear hcz77_1
   try clear hcz83_0
   try clear hcz83_1
   try clear hcz94_0
   try clear hcz94_1
   try clear hcz96_0
   try clear hcz96_1
   try clear hfz102_0
   try clear hfz102_1
   try clear hfz108_0
   try clear hfz108_1
   try clear hfz11_0
   try clear hfz11_1
   try clear hfz17_0
   try clear hfz17_1
   try clear hfz24_0
   try clear hfz24_1
   try clear hfz26_0
   try clear hfz26_1
   try clear hfz35_0
   try clear hfz35_1
   try clear hfz41_0
   try clear hfz41_1
   try clear hfz44_0
   try clear hfz44_1
   try clear hfz48_0
   try clear hfz48_1
   try clear hfz50_0
   try clear hfz50_1
   try clear hfz55_0
   try clear hfz55_1
   try clear hfz61_0
   try clear hfz61_1
   try clear hfz64_0
   try clear hfz64_1
   try clear hfz66_0
   try clear hfz66_1
   try clear hfz77_0
   try clear hfz77_1
   try clear hfz83_0
   try clear hfz83_1
   try clear hfz94_0
   try clear hfz94_1
   try clear hfz96_0
   try clear hfz96_1
   try clear hx292_0
   try clear hx292_1
   try clear hx292_2
   try clear hx30_0
   try clear hx30_1
   try clear hx30_2
   try clear p292
   try clear p30
   try clear q292
   try clear q30
   obtain ⟨x283001_1, u283001, HA, HK1, HO_283001, BK274, BK275, BK282, HI0, HK, HB⟩ := hrel
   cases gk with
   | zero => exact absurd HA.out (by simp [spec_l8Draw.l0])
   | succ k1 =>
    have H := HA.out
    clear HA
    simp only [spec_l8Draw.l0] at H
    by_cases c111 : (x283001_1.length : Int) < 60
    ·rw [if_pos c111] at H
     have c111b0 : decide ((x283001_1.length : Int) < 60) = true := decide_eq_true c111
     have c111b1 : decide (x283001_1.length < 60) = true := decide_eq_true (by omega)
     clear c111
     by_cases c112 : (x283001_1.length : Int) > 0
     ·rw [if_pos c112] at H
      have c112b0 : decide (0 < (x283001_1.length : Int)) = true := decide_eq_true c112
      have c112b1 : decide (0 < x283001_1.length) = true := decide_eq_true (by omega)
      clear c112
      by_cases c113 : 0 < (x283001_1.length : Int)
      ·rw [if_pos c113] at H
       have c113b0 : decide (0 < (x283001_1.length : Int)) = true := decide_eq_true c113
       have c113b1 : decide (0 < x283001_1.length) = true := decide_eq_true (by omega)
       clear c113
       by_cases c114 : x283001_1.length < 2932031007402
       ·rw [if_pos c114] at H
        have LMc114 := Aside0.mk c114
        clear c114
        obtain ⟨y304, hy304⟩ : ∃ y_ : List (S53), y_ = (x283001_1 ++ [(⟨(rd_T53 x283001_1 0).f0, (rd_T53 x283001_1 0).f1, (rd_T53 x283001_1 0).f2⟩ : S53)]) := ⟨_, rfl⟩
        replace H : (spec_l8Draw.l0 k1 s0_0 t284 t285 t276 y304) = some (r1, r2, r3, r4) := by first | (rw [hy304]; with_reducible exact H) | (have H2_ := (Option.bind_some _ _).symm.trans H; rw [hy304]; with_reducible exact H2_) | (have H2_ := (Option.bind_some _ _).symm.trans H; with_reducible exact H2_) | with_reducible exact H | (rw [hy304]; exact H) | exact H
        have Ny304 := Aside0.mk hy304
        clear hy304
        have H' := Aside0.mk H
        clear H
        have hnb115 := NB282_274.out
        have hnc115 := NB274_282.out
        have hnb116 := NB282_275.out
        have hnc116 := NB275_282.out
        have hnb117 := NB282_0.out
        have hnc117 := NB0_282.out
        obtain ⟨hcz118_0, hcz118_1, hfz118_0, hfz118_1⟩ := cz2_ BK282
        obtain ⟨Ao119, co119, eo119⟩ := Kd.N_slice HO_283001.out
        subst eo119
        try go_wp2
        replace HO_283001 := Aside0.mk (Kd.N_drew HO_283001.out)
        replace BK274 := Aside0.mk (blk_drew BK274.out)
        replace BK275 := Aside0.mk (blk_drew BK275.out)
        replace BK282 := Aside0.mk (blk_drew BK282.out)
        replace HI0 := Aside0.mk (IsS133.drew HI0.out)
        replace HK := Aside0.mk (keep_drew HK.out)
        replace HB := Aside0.mk (below_drew1 HB.out)
        have p303 : 0 ≤ (0 : Int) := (by omega)
        have q303 : 0 < (x283001_1.length : Int) := of_decide_eq_true dz0
        obtain ⟨ad303, A303_1, c303_1, e303, hx303_0, hx303_1, hx303_2, hl303_1, hi303_1⟩ := at_T53 (Kd.N_reads' HO_283001.out).2.2 0 p303 q303
        cases e303
        obtain ⟨ce303, hce303, hMe303, hcc303⟩ := Kd.N_get HO_283001.out z53 0 p303 (by first | exact q303 | exact of_decide_eq_true dz0 | (have e_ := (Kd.N_reads' HO_283001.out).1; omega))
        obtain ⟨ua303_1, uc303_1, rfl, ul303_1, ge303_1⟩ := k53_openF hMe303
        have hv303_1 := hcc303 1 _ rfl
        rw [add_field _ _ 1 (by omega)] at hv303_1
        replace hv303_1 := Option.some.inj (hv303_1.symm.trans hx303_1)
        injection hv303_1 with hva_ hvn_ hvc_
        rw [hva_] at ge303_1
        rw [hvc_] at ul303_1
        have HL303_1 := Aside0.mk (show Kd.V (Kd.int .i64) 3 _ w.heap.size _ _ ((rd_T53 x283001_1 0).f1) from Kd.V_mk ul303_1 ge303_1)
        clear hva_ hvn_ hvc_ ge303_1 ul303_1
        clear hcc303 hce303
        have qi303 : (0 < x283001_1.length) = True := eq_true (by omega)
        (try rw [show ((0 : Int)).toNat = 0 from rfl] at hx303_0)
        (try rw [show 0 * 3 = 0 from rfl] at hx303_0)
        (try rw [Addr.add_zero'] at hx303_0)
        (try rw [show ((0 : Int)).toNat = 0 from rfl] at hx303_1)
        (try rw [show 0 * 3 = 0 from rfl] at hx303_1)
        (try rw [Addr.add_zero'] at hx303_1)
        (try rw [show ((0 : Int)).toNat = 0 from rfl] at hx303_2)
        (try rw [show 0 * 3 = 0 from rfl] at hx303_2)
        (try rw [Addr.add_zero'] at hx303_2)
        have HR303_1 := Aside0.mk hi303_1
        have HC303_1 := Aside0.mk hl303_1
        clear hi303_1 hl303_1
        replace p303 := eq_true p303
        replace q303 := eq_true q303
        refine start_ (n := 10) (S := fun w' => w'.cell? ⟨gb282, 0, none⟩ = some (.int .i64 t276) ∧ w'.cell? ⟨gb282, 1, none⟩ = some (.slice (some ad303) x283001_1.length co119) ∧ w'.cell? ad303 = some (.string ((rd_T53 x283001_1 0).f0)) ∧ w'.cell? ⟨ad303.block, ad303.off + 1, none⟩ = some (.slice A303_1 ((rd_T53 x283001_1 0).f1).length c303_1) ∧ w'.cell? ⟨ad303.block, ad303.off + 2, none⟩ = some (.bool ((rd_T53 x283001_1 0).f2))) (ds := [7, 9]) (fl_ 0 10) (by kernel_rfl) rfl rfl ⟨(blk_cell BK282.out 0).trans rfl, (blk_cell BK282.out 1).trans rfl, hx303_0, hx303_1, hx303_2⟩ (fun hHeld => ?_); refine with_tabW spec_l8Draw.tab12 spec_l8Draw.bits12 (fun HT_ HW_ => ?_)
        generalize wr.drew = w120 at HO_283001 BK274 BK275 BK282 HI0 HK HB HL303_1 HR303_1 hx303_0 hx303_1 hx303_2 hHeld ⊢
        refine pure_ (i := 0) (N := some 58) (v := ?_) (a' := ?_) (fl_ 1 9) rfl rfl (any_of HT_.out (by kernel_rfl)) (fun _ _ _ h => h) (Or.inl ⟨by rfl, ?_⟩) ?_ ?_
        rotate_left
        ·exact dz311
        rotate_left
        ·exact dz312
        refine pure_ (i := 2) (N := some 60) (v := ?_) (a' := ?_) #[true, false, true, false, false, false, false, false, false, false] rfl rfl (any_of HT_.out (by kernel_rfl)) (fun _ _ _ h => h) (Or.inl ⟨by rfl, ?_⟩) ?_ ?_
        rotate_left
        ·exact dz311
        rotate_left
        ·exact dz312
        refine take_ (i := 1) (N := some 59) (v := ?_) (a' := ?_) (fl_ 3 7) rfl rfl (take_ofW HT_.out HW_.out (by kernel_rfl)) (fun _ _ _ h => h) (Or.inl ⟨by rfl, ?_⟩) hHeld ?_ ?_
        rotate_left
        ·exact dz315
        rotate_left
        ·exact dz312
        refine take_ (i := 3) (N := some 61) (v := ?_) (a' := ?_) (fl_ 4 6) rfl rfl (take_ofW HT_.out HW_.out (by kernel_rfl)) (fun _ _ _ h => h) (Or.inl ⟨by rfl, ?_⟩) hHeld ?_ ?_
        rotate_left
        ·exact dz315
        rotate_left
        ·exact dz312
        refine pure_ (i := 4) (N := some 62) (v := ?_) (a' := ?_) (fl_ 5 5) rfl rfl (any_of HT_.out (by kernel_rfl)) (fun _ _ _ h => h) (Or.inl ⟨by rfl, ?_⟩) ?_ ?_
        rotate_left
        ·exact dz311
        rotate_left
        ·exact dz312
        refine take_ (i := 5) (N := some 63) (v := ?_) (a' := ?_) (fl_ 6 4) rfl rfl (take_ofW HT_.out HW_.out (by kernel_rfl)) (fun _ _ _ h => h) (Or.inl ⟨by rfl, ?_⟩) hHeld ?_ ?_
        rotate_left
        ·exact dz315
        rotate_left
        ·exact dz312
        refine one_ (i := 6) (N := some 64) (fl_ 7 3) rfl rfl (one_of HT_.out (by kernel_rfl)) (by decide) (fun K hK => ?_)
        refine value_ (w1 := ?_) (v := ?_) (by rfl) rfl ?_ ?_
        rotate_left 2
        ·go_simp
         constructor
         ·rfl
         rfl
        refine hK.out _ _ ⟨(blk_cell (blk_alloc BK282.out _) 0).trans rfl, (blk_cell (blk_alloc BK282.out _) 1).trans rfl, (World.cell?_alloc_lt _ _ _ (World.block_lt_of_cell? _ _ (hHeld.2.2.1))).trans (hHeld.2.2.1), (World.cell?_alloc_lt _ _ _ (World.block_lt_of_cell? _ _ (hHeld.2.2.2.1))).trans (hHeld.2.2.2.1), (World.cell?_alloc_lt _ _ _ (World.block_lt_of_cell? _ _ (hHeld.2.2.2.2))).trans (hHeld.2.2.2.2)⟩ (fun hHeld => ?_)
        clear hK K
        refine norm_ (a' := ?_) ?_ ?_
        rotate_left
        ·show Act.put _ (some 64) _ = _
         simp only [Act.put, List.setIfInBounds_toArray, List.set_cons_zero, List.set_cons_succ, i64_w, i32_w]
         rfl
        refine last_ (i := 7) (N := some 65) (fl_ 8 2) rfl rfl (one_of HT_.out (by kernel_rfl)) (by decide) (fun K hK => ?_)
        refine Kd.N_append_step k53 w.heap.size (by rfl) (.tmp 59) (.tmp 64) 47 53 (.agg #[(.string ⟨#[]⟩), (.slice none 0 0), (.bool false)]) 48 rfl Try.underlying47 info53 rfl (by decide) (by omega) (.slice (some ad303) x283001_1.length co119) x283001_1 (⟨(rd_T53 x283001_1 0).f0, (rd_T53 x283001_1 0).f1, (rd_T53 x283001_1 0).f2⟩ : S53) [.string ((rd_T53 x283001_1 0).f0), .slice A303_1 ((rd_T53 x283001_1 0).f1).length c303_1, .bool ((rd_T53 x283001_1 0).f2)] (fun k_ => (w.heap.size ≤ k_) ∧ k_ ≠ gb274 ∧ k_ ≠ gb275 ∧ k_ ≠ gb282 ∧ k_ ≠ g) (fun k_ => ((fun k_ => (w.heap.size ≤ k_) ∧ k_ ≠ gb274 ∧ k_ ≠ gb275 ∧ k_ ≠ gb282 ∧ k_ ≠ g)) k_ ∧ some k_ ≠ (.slice (some ad303) x283001_1.length co119 : Value).ownBlock) rfl rfl ?aP (fun _ hk => hk) ?aF ?aO (Below.refl _ _) ?aS ?aL ?_
        (case aP => exact (k53_mkF _ _ (⟨(rd_T53 x283001_1 0).f0, (rd_T53 x283001_1 0).f1, (rd_T53 x283001_1 0).f2⟩ : S53) (Kd.V_reads' (Kd.V_mono (ok' := (fun k_ => ((fun k_ => (w.heap.size ≤ k_) ∧ k_ ≠ gb274 ∧ k_ ≠ gb275 ∧ k_ ≠ gb282 ∧ k_ ≠ g)) k_ ∧ some k_ ≠ (.slice (some ad303) x283001_1.length co119 : Value).ownBlock)) (HL303_1.out) (fun k_ hk => ⟨⟨hk.1.1, ⟨hk.1.2.1, ⟨hk.1.2.2.1, ⟨hk.1.2.2.2.1, hk.1.2.2.2.2⟩⟩⟩⟩, hk.2⟩))).2.1 (Kd.V_F (Kd.V_mono (ok' := (fun k_ => ((fun k_ => (w.heap.size ≤ k_) ∧ k_ ≠ gb274 ∧ k_ ≠ gb275 ∧ k_ ≠ gb282 ∧ k_ ≠ g)) k_ ∧ some k_ ≠ (.slice (some ad303) x283001_1.length co119 : Value).ownBlock)) (HL303_1.out) (fun k_ hk => ⟨⟨hk.1.1, ⟨hk.1.2.1, ⟨hk.1.2.2.1, ⟨hk.1.2.2.2.1, hk.1.2.2.2.2⟩⟩⟩⟩, hk.2⟩)))))
        (case aF => exact (fun k_ hk => ⟨(Nat.le_trans (keep_size (w := w) (g := g) (row := none) dz9) hk), Kd.freshB (g := gb274) (o := .cells #[.slice A1_0 l1_0.length c1_0, .int .i64 a1_1] 73 (0, 0)) dz11 k_ hk, Kd.freshB (g := gb275) (o := .cells #[.int .i64 0, .slice none 0 0] 49 (0, 0)) dz12 k_ hk, Kd.freshB (g := gb282) (o := .cells #[.int .i64 t276, .slice (some ad303) x283001_1.length co119] 49 (0, 0)) dz44 k_ hk, IsS133.fresh dz43 k_ hk⟩))
        (case aO => exact (by (with_reducible repeat (first | apply Kd.N_alloc | apply Kd.N_drewN | apply Kd.N_drew)); exact HO_283001.out))
        (case aS => exact (keep_size (w := w) (g := g) (row := none) dz9))
        (case aL => have := LMc114.out; omega)
        intro v305 w121 ho hb hg hat
        rw [← Ny304.out] at ho
        replace BK274 := Aside0.mk (blk_grown (g := gb274) (o := .cells #[.slice A1_0 l1_0.length c1_0, .int .i64 a1_1] 73 (0, 0)) dz11 hg (Kd.N_ne HO_283001.out BK274.out (by decide)))
        replace BK275 := Aside0.mk (blk_grown (g := gb275) (o := .cells #[.int .i64 0, .slice none 0 0] 49 (0, 0)) dz12 hg (Kd.N_ne HO_283001.out BK275.out (by decide)))
        replace BK282 := Aside0.mk (blk_grown (g := gb282) (o := .cells #[.int .i64 t276, .slice (some ad303) x283001_1.length co119] 49 (0, 0)) dz44 hg (Kd.N_ne HO_283001.out BK282.out (by decide)))
        replace HL303_1 := Aside0.mk (Kd.V_afterv (ok := (fun k_ => (w.heap.size ≤ k_) ∧ k_ ≠ gb274 ∧ k_ ≠ gb275 ∧ k_ ≠ gb282 ∧ k_ ≠ g)) (by (with_reducible repeat (first | apply Kd.V_alloc | apply Kd.V_drewN | apply Kd.V_drew)); exact HL303_1.out) hg hat)
        replace HB := Aside0.mk (below_weaken dz57 HL.out hb)
        replace HI0 := Aside0.mk (IsS133.grown dz43 hg (IsS133.own_neN HI0.out HO_283001.out (by decide)))
        replace HK := Aside0.mk (KeepBut.trans dz9 (KeepBut.of_grown hg g) (Kd.N_base2 HO_283001.out))
        have HO306 := Aside0.mk (ho)
        clear HO_283001
        clear ho hb hg hat
        obtain ⟨Ao122, co122, eo122⟩ := Kd.N_slice HO306.out
        (first | subst eo122 | (injection eo122 with f1_ f2_ f3_; have f4_ := f1_.symm; have f5_ := f3_.symm; clear f1_ f2_ f3_; subst f4_; subst f5_))
        refine hK.out _ _ ?_
        clear hK K
        refine norm_ (a' := ?_) ?_ ?_
        rotate_left
        ·show Act.put _ (some 65) _ = _
         simp only [Act.put, List.setIfInBounds_toArray, List.set_cons_zero, List.set_cons_succ, i64_w, i32_w]
         rfl
        refine pure_ (i := 8) (N := some 66) (v := ?_) (a' := ?_) (fl_ 9 1) rfl rfl (any_of HT_.out (by kernel_rfl)) (fun _ _ _ h => h) (Or.inl ⟨by rfl, ?_⟩) ?_ ?_
        rotate_left
        ·exact dz311
        rotate_left
        ·exact dz312
        refine last_ (i := 9) (N := none) (fl_ 10 0) rfl rfl (one_of HT_.out (by kernel_rfl)) (by decide) (fun K hK => ?_)
        have hs123 : w121.cell? ⟨gb282, 1, none⟩ = some (.slice (some ad303) x283001_1.length co119) := (blk_cell BK282.out 1).trans rfl
        have hfs123 := blk_frozen BK282.out 1
        have hns123_0 := NB274_282.out
        have hns123_1 := NB275_282.out
        have hms123_0 := NB282_274.out
        have hms123_1 := NB282_275.out
        refine skip_ (w1 := ?_) (by rfl) rfl ?_ ?_
        rotate_left
        ·go_simp
         rfl
        refine hK.out _ _ ?_
        clear hK K
        refine done_ (done_of HT_.out (by kernel_rfl)) ?_
        try go_wp2
        go_roundg k1
        case measure => have := HK1.out; omega
        case rel => exact ⟨(y304), (.slice Ao122 y304.length co122), H', ⟨by have := HK1.out; omega⟩, ⟨by (with_reducible repeat (first | apply Kd.N_alloc | apply Kd.N_drewN | apply Kd.N_drew)); exact Kd.N_mono (Kd.N_far (p := ⟨gb282, 1, none⟩) (Kd.N_mono HO306.out (fun k_ hk => (⟨hk, hk.2.2.2.1⟩ : _ ∧ k_ ≠ gb282))) (fun _ hk => hk.2) (.slice Ao122 y304.length co122)) (fun _ hk => ⟨hk.1.1, ⟨hk.1.2.1, ⟨hk.1.2.2.1, ⟨hk.1.2.2.2.1, hk.1.2.2.2.2⟩⟩⟩⟩)⟩, ⟨by (with_reducible repeat (first | refine blk_drewN ?_ _ | refine blk_drew ?_ | refine blk_alloc ?_ _)); refine blk_far ?_ NB274_282.out _; (with_reducible repeat (first | refine blk_drewN ?_ _ | refine blk_drew ?_ | refine blk_alloc ?_ _)); exact BK274.out⟩, ⟨by (with_reducible repeat (first | refine blk_drewN ?_ _ | refine blk_drew ?_ | refine blk_alloc ?_ _)); refine blk_far ?_ NB275_282.out _; (with_reducible repeat (first | refine blk_drewN ?_ _ | refine blk_drew ?_ | refine blk_alloc ?_ _)); exact BK275.out⟩, ⟨by (with_reducible repeat (first | refine blk_drewN ?_ _ | refine blk_drew ?_ | refine blk_alloc ?_ _)); refine blk_put (cs := #[.int .i64 t276, .slice (some ad303) x283001_1.length co119]) ?_ 1 _ rfl; (with_reducible repeat (first | refine blk_drewN ?_ _ | refine blk_drew ?_ | refine blk_alloc ?_ _)); exact BK282.out⟩, ⟨by repeat (first | (with_reducible first | exact HI0.out | apply IsS133.alloc | apply IsS133.drewN | apply IsS133.drew | apply IsS133.set_1 | apply IsS133.set_2 | refine IsS133.far ?_ NB0_274.out _ | refine IsS133.far ?_ NB0_275.out _ | refine IsS133.far ?_ NB0_282.out _) | exact HI0.out)⟩, ⟨by repeat (first | (with_reducible first | exact HK.out | apply KeepBut.set_ | apply keep_drewN | apply keep_drew | apply keep_alloc | refine keep_far ?_ GW274.out _ | refine keep_far ?_ GW275.out _ | refine keep_far ?_ GW282.out _) | exact HK.out)⟩, ⟨by repeat (first | (with_reducible first | exact HB.out | apply below_alloc | apply pw_below_drewN | apply below_drew1 | refine below_set ?_ (IsS133.ge HI0.out) | refine below_set ?_ GE274.out | refine below_set ?_ GE275.out | refine below_set ?_ GE282.out) | exact HB.out)⟩⟩
       rw [if_neg c114] at H
       exact absurd H (by simp)
      rw [if_neg c113] at H
      exact absurd H (by simp)
     rw [if_neg c112] at H
     have c112b0 : decide (0 < (x283001_1.length : Int)) = false := decide_eq_false c112
     have c112b1 : decide (0 < x283001_1.length) = false := decide_eq_false (by omega)
     clear c112
     simp only [Option.some.injEq, Prod.mk.injEq] at H
     obtain ⟨rfl, rfl, rfl, rfl⟩ := H
     have hnb124 := NB282_274.out
     have hnc124 := NB274_282.out
     have hnb125 := NB282_275.out
     have hnc125 := NB275_282.out
     have hnb126 := NB282_0.out
     have hnc126 := NB0_282.out
     obtain ⟨hcz127_0, hcz127_1, hfz127_0, hfz127_1⟩ := cz2_ BK282
     obtain ⟨Ao128, co128, eo128⟩ := Kd.N_slice HO_283001.out
     subst eo128
     have hnb129 := NB275_274.out
     have hnc129 := NB274_275.out
     have hnb130 := NB275_0.out
     have hnc130 := NB0_275.out
     obtain ⟨hcz131_0, hcz131_1, hfz131_0, hfz131_1⟩ := cz2_ BK275
     go_wp2
     refine bodyPost_ret (results_cell_row rfl _ _ gb275 49 #[.int .i64 t276, .slice Ao128 x283001_1.length co128] (0, 0) _ rfl dz49 Try.underlying49 rfl (by kernel_rfl)) rfl ?_
     exact ⟨_, by first | rfl | (simp [errW_none, errW_some] <;> rfl) | (simp [*, errW_none, errW_some] <;> rfl), by (with_reducible repeat (first | apply Kd.N_alloc | apply Kd.N_drewN | apply Kd.N_drew)); exact Kd.N_mono (Kd.N_far (p := ⟨gb275, 1, none⟩) (Kd.N_far (p := ⟨gb275, 0, none⟩) (Kd.N_mono HO_283001.out (fun k_ hk => (⟨hk, hk.2.2.1⟩ : _ ∧ k_ ≠ gb275))) (fun _ hk => hk.2) (.int .i64 t276)) (fun _ hk => hk.2) (.slice Ao128 x283001_1.length co128)) (fun _ hk => hk.1.1), by repeat (first | (with_reducible first | exact HI0.out | apply IsS133.alloc | apply IsS133.drewN | apply IsS133.drew | apply IsS133.set_1 | apply IsS133.set_2 | refine IsS133.far ?_ NB0_274.out _ | refine IsS133.far ?_ NB0_275.out _ | refine IsS133.far ?_ NB0_282.out _) | exact HI0.out), by repeat (first | (with_reducible first | exact HB.out | apply below_alloc | apply pw_below_drewN | apply below_drew1 | refine below_set ?_ (IsS133.ge HI0.out) | refine below_set ?_ GE274.out | refine below_set ?_ GE275.out | refine below_set ?_ GE282.out) | exact HB.out), by repeat (first | (with_reducible first | exact HK.out | apply KeepBut.set_ | apply keep_drewN | apply keep_drew | apply keep_alloc | refine keep_far ?_ GW274.out _ | refine keep_far ?_ GW275.out _ | refine keep_far ?_ GW282.out _) | exact HK.out)⟩
    rw [if_neg c111] at H
    have c111b0 : decide ((x283001_1.length : Int) < 60) = false := decide_eq_false c111
    have c111b1 : decide (x283001_1.length < 60) = false := decide_eq_false (by omega)
    clear c111
    simp only [Option.some.injEq, Prod.mk.injEq] at H
    obtain ⟨rfl, rfl, rfl, rfl⟩ := H
    have hnb132 := NB282_274.out
    have hnc132 := NB274_282.out
    have hnb133 := NB282_275.out
    have hnc133 := NB275_282.out
    have hnb134 := NB282_0.out
    have hnc134 := NB0_282.out
    obtain ⟨hcz135_0, hcz135_1, hfz135_0, hfz135_1⟩ := cz2_ BK282
    obtain ⟨Ao136, co136, eo136⟩ := Kd.N_slice HO_283001.out
    subst eo136
    have hnb137 := NB275_274.out
    have hnc137 := NB274_275.out
    have hnb138 := NB275_0.out
    have hnc138 := NB0_275.out
    obtain ⟨hcz139_0, hcz139_1, hfz139_0, hfz139_1⟩ := cz2_ BK275
    go_wp2
    refine bodyPost_ret (results_cell_row rfl _ _ gb275 49 #[.int .i64 t276, .slice Ao136 x283001_1.length co136] (0, 0) _ rfl dz49 Try.underlying49 rfl (by kernel_rfl)) rfl ?_
    exact ⟨_, by first | rfl | (simp [errW_none, errW_some] <;> rfl) | (simp [*, errW_none, errW_some] <;> rfl), by (with_reducible repeat (first | apply Kd.N_alloc | apply Kd.N_drewN | apply Kd.N_drew)); exact Kd.N_mono (Kd.N_far (p := ⟨gb275, 1, none⟩) (Kd.N_far (p := ⟨gb275, 0, none⟩) (Kd.N_mono HO_283001.out (fun k_ hk => (⟨hk, hk.2.2.1⟩ : _ ∧ k_ ≠ gb275))) (fun _ hk => hk.2) (.int .i64 t276)) (fun _ hk => hk.2) (.slice Ao136 x283001_1.length co136)) (fun _ hk => hk.1.1), by repeat (first | (with_reducible first | exact HI0.out | apply IsS133.alloc | apply IsS133.drewN | apply IsS133.drew | apply IsS133.set_1 | apply IsS133.set_2 | refine IsS133.far ?_ NB0_274.out _ | refine IsS133.far ?_ NB0_275.out _ | refine IsS133.far ?_ NB0_282.out _) | exact HI0.out), by repeat (first | (with_reducible first | exact HB.out | apply below_alloc | apply pw_below_drewN | apply below_drew1 | refine below_set ?_ (IsS133.ge HI0.out) | refine below_set ?_ GE274.out | refine below_set ?_ GE275.out | refine below_set ?_ GE282.out) | exact HB.out), by repeat (first | (with_reducible first | exact HK.out | apply KeepBut.set_ | apply keep_drewN | apply keep_drew | apply keep_alloc | refine keep_far ?_ GW274.out _ | refine keep_far ?_ GW275.out _ | refine keep_far ?_ GW282.out _) | exact HK.out)⟩
 rw [if_neg c97] at H
 have c97b0 : (t283 == 3) = false := beq_eq_false_iff_ne.mpr c97
 have c97b1 : (t283 != 3) = true := bne_iff_ne.mpr c97
 simp only [Option.some.injEq, Prod.mk.injEq] at H
 obtain ⟨rfl, rfl, rfl, rfl⟩ := H
 go_enter Try.func60, Try.ntmps60
 go_wp2_with (first | ((with_reducible refine gate_dst (N := 3) rfl ?_); (try (refine gate_guard (by rfl) ?_; dsimp only)); refine box_event kr_ (N := 3) kr_ (cs := #[.slice A1_0 l1_0.length c1_0, .int .i64 a1_1]) (t := 73) ks_ ?_; intro gb274 hg w2 hbox hb; replace HB := Aside0.mk (below_step dz27 hb); have BK274 := Aside0.mk (hbox); have GW274 := Aside0.mk ((by rw [hg]; exact (keep_size (w := w) (g := g) (row := none) dz5) : w.heap.size ≤ gb274)); have GE274 := Aside0.mk ((Nat.le_trans HW0.out (by rw [hg]; exact (keep_size (w := w) (g := g) (row := none) dz5) : w.heap.size ≤ gb274) : w0.heap.size ≤ gb274)); replace HK := Aside0.mk (KeepBut.trans dz5 (KeepBut.of_below hb g none) (.inl rfl)); have NB0_274 := Aside0.mk ((by rw [hg]; exact Nat.ne_of_lt (IsS133.lt (show IsS133 w0 _ g s0_0 s0_1 s0_2 from by repeat (first | (with_reducible first | exact HI0.out | apply IsS133.alloc | apply IsS133.drewN | apply IsS133.drew | apply IsS133.set_1 | apply IsS133.set_2) | exact HI0.out))) : g ≠ gb274)); have NB274_0 := Aside0.mk ((by rw [hg]; exact Nat.ne_of_gt (IsS133.lt (show IsS133 w0 _ g s0_0 s0_1 s0_2 from by repeat (first | (with_reducible first | exact HI0.out | apply IsS133.alloc | apply IsS133.drewN | apply IsS133.drew | apply IsS133.set_1 | apply IsS133.set_2) | exact HI0.out))) : gb274 ≠ g)); replace HI0 := Aside0.mk (IsS133.below dz28 hb); clear hb hbox hg) | ((with_reducible refine gate_dst (N := 4) rfl ?_); (try (refine gate_guard (by rfl) ?_; dsimp only)); refine box_event kr_ (N := 4) kr_ (cs := #[.int .i64 0, .slice none 0 0]) (t := 49) ks_ ?_; intro gb275 hg w3 hbox hb; replace HB := Aside0.mk (below_step dz37 hb); have BK275 := Aside0.mk (hbox); have GW275 := Aside0.mk ((by rw [hg]; exact (keep_size (w := w) (g := g) (row := none) dz10) : w.heap.size ≤ gb275)); have GE275 := Aside0.mk ((Nat.le_trans HW0.out (by rw [hg]; exact (keep_size (w := w) (g := g) (row := none) dz10) : w.heap.size ≤ gb275) : w0.heap.size ≤ gb275)); replace HK := Aside0.mk (KeepBut.trans dz10 (KeepBut.of_below hb g none) (.inl rfl)); have NB274_275 := (nbl_ hg BK274); have NB275_274 := (nbr_ hg BK274); replace BK274 := (bkb_ BK274 hb); have NB0_275 := Aside0.mk ((by rw [hg]; exact Nat.ne_of_lt (IsS133.lt (show IsS133 w0 _ g s0_0 s0_1 s0_2 from by repeat (first | (with_reducible first | exact HI0.out | apply IsS133.alloc | apply IsS133.drewN | apply IsS133.drew | apply IsS133.set_1 | apply IsS133.set_2 | refine IsS133.far ?_ NB0_274.out _) | exact HI0.out))) : g ≠ gb275)); have NB275_0 := Aside0.mk ((by rw [hg]; exact Nat.ne_of_gt (IsS133.lt (show IsS133 w0 _ g s0_0 s0_1 s0_2 from by repeat (first | (with_reducible first | exact HI0.out | apply IsS133.alloc | apply IsS133.drewN | apply IsS133.drew | apply IsS133.set_1 | apply IsS133.set_2 | refine IsS133.far ?_ NB0_274.out _) | exact HI0.out))) : gb275 ≠ g)); replace HI0 := Aside0.mk (IsS133.below dz38 hb); clear hb hbox hg; have hnb142 := NB274_275.out; have hnc142 := NB275_274.out; have hnb143 := NB274_0.out; have hnc143 := NB0_274.out; obtain ⟨hcz144_0, hcz144_1, hfz144_0, hfz144_1⟩ := cz2_ BK274) | ((with_reducible refine gate_callee (f := 104) rfl ?_); refine goesL_ (some 8) rfl rfl Try.func104 (by kernel_rfl) rfl #[.pointer (some ⟨g, 0, none⟩), .agg #[.slice A1_0 l1_0.length c1_0, .int .i64 a1_1]] rfl dz1 ?_; (with_reducible refine (spec_l8DrawRight.calls k g s0_0 s0_1 s0_2 _ _ l1_0 a1_1 t276 t277 t280 t281 w0 _ ?side1 ?side2 ?side3 ?side4 ?side5 A3.out).mono ?_); (case side1 => exact dz301); (case side2 => exact dz302); (case side3 => exact Kd.C_keep 0 HR1_0.out dz4 hf1_0); (case side4 => exact HC1_0.out); (case side5 => exact hf1_0); rintro e w4 ⟨v278, rfl, ho0, hi, hb, hk⟩; refine ⟨_, rfl, ?_⟩; have HO279 := Aside0.mk (Kd.N_lower (Kd.N_mono (ok' := fun k_ => (w.heap.size ≤ k_) ∧ k_ ≠ gb274 ∧ k_ ≠ gb275 ∧ k_ ≠ g) ho0 (fun k_ hk_ => ⟨(Nat.le_trans (keep_size (w := w) (g := g) (row := none) dz4) hk_), (Kd.freshB (g := gb274) (o := .cells #[.slice A1_0 l1_0.length c1_0, .int .i64 a1_1] 73 (0, 0)) dz11 k_ hk_), (Kd.freshB (g := gb275) (o := .cells #[.int .i64 0, .slice none 0 0] 49 (0, 0)) dz12 k_ hk_), (IsS133.fresh dz19 k_ hk_)⟩)) (keep_size (w := w) (g := g) (row := none) dz4)); replace BK274 := Aside0.mk (KeepBut.blk hk (g' := gb274) (o := .cells #[.slice A1_0 l1_0.length c1_0, .int .i64 a1_1] 73 (0, 0)) dz11 NB274_0.out (by simp)); replace BK275 := Aside0.mk (KeepBut.blk hk (g' := gb275) (o := .cells #[.int .i64 0, .slice none 0 0] 49 (0, 0)) dz12 NB275_0.out (by simp)); replace HK := Aside0.mk (KeepBut.trans dz4 hk (.inl rfl)); replace HB := Aside0.mk (hb); replace HI0 := Aside0.mk (hi); (try clear hb); (try clear hb2); (try clear hk); (try clear hi); (try clear ho0)) | ((with_reducible refine gate_dst (N := 5) rfl ?_); (try (refine gate_guard (by rfl) ?_; dsimp only)); refine box_event kr_ (N := 5) kr_ (cs := #[.int .i64 0, .slice none 0 0]) (t := 49) ks_ ?_; intro gb282 hg w5 hbox hb; replace HO279 := Aside0.mk (Kd.N_below (Kd.N_elderB dz20 gb282 (Nat.le_of_eq hg.symm)) hb); replace HB := Aside0.mk (below_step dz39 hb); have BK282 := Aside0.mk (hbox); have GW282 := Aside0.mk ((by rw [hg]; exact (keep_size (w := w) (g := g) (row := none) dz4) : w.heap.size ≤ gb282)); have GE282 := Aside0.mk ((Nat.le_trans HW0.out (by rw [hg]; exact (keep_size (w := w) (g := g) (row := none) dz4) : w.heap.size ≤ gb282) : w0.heap.size ≤ gb282)); replace HK := Aside0.mk (KeepBut.trans dz4 (KeepBut.of_below hb g none) (.inl rfl)); have NB274_282 := (nbl_ hg BK274); have NB282_274 := (nbr_ hg BK274); replace BK274 := (bkb_ BK274 hb); have NB275_282 := (nbl_ hg BK275); have NB282_275 := (nbr_ hg BK275); replace BK275 := (bkb_ BK275 hb); have NB0_282 := Aside0.mk ((by rw [hg]; exact Nat.ne_of_lt (IsS133.lt (show IsS133 w0 _ g s0_0 t280 t281 from by repeat (first | (with_reducible first | exact HI0.out | apply IsS133.alloc | apply IsS133.drewN | apply IsS133.drew | apply IsS133.set_1 | apply IsS133.set_2 | refine IsS133.far ?_ NB0_274.out _ | refine IsS133.far ?_ NB0_275.out _) | exact HI0.out))) : g ≠ gb282)); have NB282_0 := Aside0.mk ((by rw [hg]; exact Nat.ne_of_gt (IsS133.lt (show IsS133 w0 _ g s0_0 t280 t281 from by repeat (first | (with_reducible first | exact HI0.out | apply IsS133.alloc | apply IsS133.drewN | apply IsS133.drew | apply IsS133.set_1 | apply IsS133.set_2 | refine IsS133.far ?_ NB0_274.out _ | refine IsS133.far ?_ NB0_275.out _) | exact HI0.out))) : gb282 ≠ g)); replace HI0 := Aside0.mk (IsS133.below dz19 hb); clear hb hbox hg; have hnb147 := NB282_274.out; have hnc147 := NB274_282.out; have hnb148 := NB282_275.out; have hnc148 := NB275_282.out; have hnb149 := NB282_0.out; have hnc149 := NB0_282.out; obtain ⟨hcz150_0, hcz150_1, hfz150_0, hfz150_1⟩ := cz2_ BK282; obtain ⟨Ao151, co151, eo151⟩ := Kd.N_slice HO279.out; subst eo151) | ((with_reducible refine gate_callee (f := 105) rfl ?_); refine goesL_ (some 10) rfl rfl Try.func105 (by kernel_rfl) rfl #[.pointer (some ⟨g, 0, none⟩), .int .i64 25] rfl dz1 ?_; (with_reducible refine (spec_l1Below.calls g s0_0 t280 t281 25 t283 t284 t285 w0 _ ?side1 ?side2 A4.out).mono ?_); (case side1 => exact dz303); (case side2 => exact dz304); rintro e w6 ⟨rfl, hi, hb, hk⟩; refine ⟨_, rfl, ?_⟩; replace BK274 := Aside0.mk (KeepBut.blk hk (g' := gb274) (o := .cells #[.slice A1_0 l1_0.length c1_0, .int .i64 a1_1] 73 (0, 0)) dz40 NB274_0.out (by simp)); replace BK275 := Aside0.mk (KeepBut.blk hk (g' := gb275) (o := .cells #[.int .i64 0, .slice none 0 0] 49 (0, 0)) dz41 NB275_0.out (by simp)); replace HO279 := Aside0.mk (Kd.N_mono (Kd.N_keep (Kd.N_mono (ok := fun k_ => ((((w.heap.size ≤ k_)) ∧ (k_ ≠ gb274 ∧ (k_ ≠ gb275 ∧ k_ ≠ g))) ∧ k_ ≠ gb282)) (by (with_reducible repeat (first | apply Kd.N_alloc | apply Kd.N_drewN | apply Kd.N_drew)); exact (Kd.N_mono (Kd.N_far (p := ⟨gb282, 1, none⟩) (Kd.N_far (p := ⟨gb282, 0, none⟩) (Kd.N_mono HO279.out (fun k_ hk => (⟨hk, hk.2⟩ : _ ∧ k_ ≠ gb282))) (fun _ hk => hk.2) (.int .i64 t276)) (fun _ hk => hk.2) (.slice Ao151 t277.length co151)) (fun _ h_ => h_.1))) (fun k_ hk_ => (⟨hk_, hk_.1.2.2.2⟩ : _ ∧ k_ ≠ g))) hk (fun _ h => h.2)) (fun _ h => h.1)); replace BK282 := Aside0.mk (KeepBut.blk hk (g' := gb282) (o := .cells #[.int .i64 t276, .slice Ao151 t277.length co151] 49 (0, 0)) dz42 NB282_0.out (by simp)); replace HK := Aside0.mk (KeepBut.trans dz9 hk (.inl rfl)); replace HB := Aside0.mk (hb); replace HI0 := Aside0.mk (hi); (try clear hb); (try clear hb2); (try clear hk); (try clear hi); obtain ⟨hcz153_0, hcz153_1, hfz153_0, hfz153_1⟩ := cz2_ BK282; have hnb154 := NB275_0.out; have hnc154 := NB0_275.out; obtain ⟨hcz155_0, hcz155_1, hfz155_0, hfz155_1⟩ := cz2_ BK275))
 refine bodyPost_ret (results_cell_row rfl _ _ gb275 49 #[.int .i64 t276, .slice Ao151 t277.length co151] (0, 0) _ rfl dz49 Try.underlying49 rfl (by kernel_rfl)) rfl ?_
 exact ⟨_, by first | rfl | (simp [errW_none, errW_some] <;> rfl) | (simp [*, errW_none, errW_some] <;> rfl), by (with_reducible repeat (first | apply Kd.N_alloc | apply Kd.N_drewN | apply Kd.N_drew)); exact Kd.N_mono (Kd.N_far (p := ⟨gb275, 1, none⟩) (Kd.N_far (p := ⟨gb275, 0, none⟩) (Kd.N_mono HO279.out (fun k_ hk => (⟨hk, hk.1.2.2.1⟩ : _ ∧ k_ ≠ gb275))) (fun _ hk => hk.2) (.int .i64 t276)) (fun _ hk => hk.2) (.slice Ao151 t277.length co151)) (fun _ hk => hk.1.1.1), by repeat (first | (with_reducible first | exact HI0.out | apply IsS133.alloc | apply IsS133.drewN | apply IsS133.drew | apply IsS133.set_1 | apply IsS133.set_2 | refine IsS133.far ?_ NB0_274.out _ | refine IsS133.far ?_ NB0_275.out _ | refine IsS133.far ?_ NB0_282.out _) | exact HI0.out), by repeat (first | (with_reducible first | exact HB.out | apply below_alloc | apply pw_below_drewN | apply below_drew1 | refine below_set ?_ (IsS133.ge HI0.out) | refine below_set ?_ GE274.out | refine below_set ?_ GE275.out | refine below_set ?_ GE282.out) | exact HB.out), by repeat (first | (with_reducible first | exact HK.out | apply KeepBut.set_ | apply keep_drewN | apply keep_drew | apply keep_alloc | refine keep_far ?_ GW274.out _ | refine keep_far ?_ GW275.out _ | refine keep_far ?_ GW282.out _) | exact HK.out)⟩
end Go.Proofs.Ytdkdhciogedoiaa.PFnSureTo
