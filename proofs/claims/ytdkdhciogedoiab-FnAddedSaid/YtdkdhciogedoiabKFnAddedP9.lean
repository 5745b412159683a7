-- Written by wip/gen/pack.py of this repo. Lean checks it.
import Derived.Test.YtdkdhciogedoiabKFnAddedP0
import Derived.Test.YtdkdhciogedoiabKFnAddedP1
import Derived.Test.YtdkdhciogedoiabKFnAddedP8
import Derived.Test.YtdkdhciogedoiabKFnAddedD
namespace Go.Proofs.Ytdkdhciogedoiab.PFnAdded
open Go.RowKit Go.Proofs.YtdkdhciogedoiabW.PrintWords Go.Proofs.YtdkdhciogedoiabW.PrintLast Go.Proofs.YtdkdhciogedoiabW.PrintMore Go.Proofs.YtdkdhciogedoiabW.Sq
attribute [local go_sem] max2_int min2_int max_two min_two max_three min_three max_four min_four
set_option linter.unusedVariables false
set_option linter.unusedSimpArgs false
def spec_l8Draw.l0 : Nat → List Int → Int → Int → Int → List (S50) → Option (Int × (List (S50)) × Int × Int)
 | 0, _, _, _, _, _ => none
 | k + 1, x1000, x1001, x1002, x333000, x333001 => if (x333001.length : Int) < 60 then (if (x333001.length : Int) > 0 then (if 0 < (x333001.length : Int) then (if x333001.length < 2932031007402 then (spec_l8Draw.l0 k x1000 x1001 x1002 x333000 (x333001 ++ [(⟨(rd_T50 x333001 0).f0, (rd_T50 x333001 0).f1, (rd_T50 x333001 0).f2⟩ : S50)])) else (none)) else (none)) else (some (x333000, x333001, x1001, x1002))) else (some (x333000, x333001, x1001, x1002))
def spec_l8Draw.f (k : Nat) (s0_0 : List Int) (s0_1 : Int) (s0_2 : Int) (l1_0 : List Int) (a1_1 : Int) : Option (Int × (List (S50)) × Int × Int) := (spec_l8DrawRight.f k s0_0 s0_1 s0_2 l1_0 a1_1).bind fun bt326 => ((spec_l1Below.f s0_0 bt326.2.2.1 bt326.2.2.2 25).bind fun bt333 => (if bt333.1 = 0 then ((spec_l1PickInt.f s0_0 bt333.2.1 bt333.2.2 (([0, 30, 31] : List Int))).bind fun bt339 => (some (bt339.1, bt326.2.1, bt339.2.1, bt339.2.2))) else (if bt333.1 = 1 then (if (bt326.2.1.length : Int) > 0 then (if 0 < (bt326.2.1.length : Int) then (some (bt326.1, (bt326.2.1.set (0 : Int).toNat (⟨(rd_T50 bt326.2.1 0).f0, (rd_T50 bt326.2.1 0).f1, !((rd_T50 bt326.2.1 0).f2)⟩ : S50)), bt333.2.1, bt333.2.2)) else (none)) else (some (bt326.1, bt326.2.1, bt333.2.1, bt333.2.2))) else (if bt333.1 = 2 then ((spec_l1Below.f s0_0 bt333.2.1 bt333.2.2 2).bind fun bt344 => (if 0 ≤ (wrap64 (40 + bt344.1)) then (if (wrap64 (40 + bt344.1) : Int).toNat ≤ 281474976710656 then (if bt326.2.1.length < 2932031007402 then (some (bt326.1, (bt326.2.1 ++ [(⟨strOfNums (List.replicate (wrap64 (40 + bt344.1) : Int).toNat 0), ([] : List Int), false⟩ : S50)]), bt344.2.1, bt344.2.2)) else (none)) else (none)) else (none))) else (if bt333.1 = 3 then (spec_l8Draw.l0 k s0_0 bt333.2.1 bt333.2.2 bt326.1 bt326.2.1) else (some (bt326.1, bt326.2.1, bt333.2.1, bt333.2.2)))))))
def spec_l8Draw.T7 : Bool × List (List Nat × List Nat) := (true, [([], []), ([0], [0]), ([], []), ([2], [2]), ([3], [3]), ([4], [4]), ([5], [5]), ([6], [6]), ([1, 0, 1, 2, 3, 4, 5, 6, 7], [1]), ([8, 0, 1, 2, 3, 4, 5, 6, 7], [8]), ([9, 7, 0, 1, 2, 3, 4, 5, 6, 7], [7, 9])])
def spec_l8Draw.B7 : List Nat := [0, 1, 0, 4, 12, 28, 60, 124, 255, 511, 1023]
theorem spec_l8Draw.tab7 : rtab .any (opsOf Try.f64 7) = spec_l8Draw.T7 := by kernel_rfl
theorem spec_l8Draw.bits7 : waitsOk spec_l8Draw.T7.2 spec_l8Draw.B7 = true := by kernel_rfl
def spec_l8Draw.T9 : Bool × List (List Nat × List Nat) := (true, [([], []), ([0], [0]), ([], []), ([2], [2]), ([3], [3]), ([4, 4], [4]), ([5], [5]), ([6], [6]), ([7], [7]), ([1, 8, 3], [1, 8]), ([0, 1, 2, 3, 4, 5, 6, 7, 8, 9], []), ([10, 9, 9, 0, 1, 2, 3, 4, 5, 6, 7, 8, 9], [9, 10])])
def spec_l8Draw.B9 : List Nat := [0, 1, 0, 4, 12, 28, 60, 124, 252, 511, 1023, 2047]
theorem spec_l8Draw.tab9 : rtab .any (opsOf Try.f64 9) = spec_l8Draw.T9 := by kernel_rfl
theorem spec_l8Draw.bits9 : waitsOk spec_l8Draw.T9.2 spec_l8Draw.B9 = true := by kernel_rfl
def spec_l8Draw.T12 : Bool × List (List Nat × List Nat) := (true, [([], []), ([0], [0]), ([], []), ([2], [2]), ([3], [3]), ([4], [4]), ([5], [5]), ([1, 6], [1, 6]), ([0, 1, 2, 3, 4, 5, 6, 7], []), ([8, 7, 7, 0, 1, 2, 3, 4, 5, 6, 7], [7, 8])])
def spec_l8Draw.B12 : List Nat := [0, 1, 0, 4, 12, 28, 60, 127, 255, 511]
theorem spec_l8Draw.tab12 : rtab .any (opsOf Try.f64 12) = spec_l8Draw.T12 := by kernel_rfl
theorem spec_l8Draw.bits12 : waitsOk spec_l8Draw.T12.2 spec_l8Draw.B12 = true := by kernel_rfl
set_option maxHeartbeats 8000000 in
set_option maxRecDepth 100000 in
theorem spec_l8Draw.calls (k : Nat) (g : Nat) (s0_0 : List Int) (s0_1 : Int) (s0_2 : Int) (A1_0 : Option Addr) (c1_0 : Nat) (l1_0 : List Int) (a1_1 : Int) (r1 : Int) (r2 : List (S50)) (r3 : Int) (r4 : Int) (w0 w : World) (hI : IsS150 w0 w g s0_0 s0_1 s0_2) (hB : Below w0.heap.size w0 w) (hr1_0 : Kd.C (Kd.int .i64) w A1_0 l1_0.length l1_0) (hc1_0 : l1_0.length ≤ c1_0) (hf1_0 : ∀ ad, A1_0 = some ad → 0 < l1_0.length → ad.block ≠ g) (h : spec_l8Draw.f k s0_0 s0_1 s0_2 l1_0 a1_1 = some (r1, r2, r3, r4)) :
  Calls Try.prog 64 #[.pointer (some ⟨g, 0, none⟩), .agg #[.slice A1_0 l1_0.length c1_0, .int .i64 a1_1]] w fun e w' => ∃ v1_ : Value, e = .returned (.agg #[.int .i64 r1, v1_]) ∧ Kd.N k50 50 w' w.heap.size (fun k_ => (w.heap.size ≤ k_)) v1_ r2 ∧ IsS150 w0 w' g s0_0 r3 r4 ∧ Below w0.heap.size w0 w' ∧ KeepBut w w' g none := by
 have hu31 := Try.underlying31
 have hu44 := Try.underlying44
 have hu50 := Try.underlying50
 have HR1_0 := Aside0.mk hr1_0
 have HC1_0 := Aside0.mk hc1_0
 clear hr1_0 hc1_0
 have HI0 := Aside0.mk hI
 have HK := Aside0.mk (KeepBut.refl w g none)
 have HL := Aside0.mk hB.size
 clear hI
 have HW0 := Aside0.mk hB.size
 have HB := Aside0.mk hB
 clear hB
 have H : ((spec_l8DrawRight.f k s0_0 s0_1 s0_2 l1_0 a1_1).bind fun bt326 => ((spec_l1Below.f s0_0 bt326.2.2.1 bt326.2.2.2 25).bind fun bt333 => (if bt333.1 = 0 then ((spec_l1PickInt.f s0_0 bt333.2.1 bt333.2.2 (([0, 30, 31] : List Int))).bind fun bt339 => (some (bt339.1, bt326.2.1, bt339.2.1, bt339.2.2))) else (if bt333.1 = 1 then (if (bt326.2.1.length : Int) > 0 then (if 0 < (bt326.2.1.length : Int) then (some (bt326.1, (bt326.2.1.set (0 : Int).toNat (⟨(rd_T50 bt326.2.1 0).f0, (rd_T50 bt326.2.1 0).f1, !((rd_T50 bt326.2.1 0).f2)⟩ : S50)), bt333.2.1, bt333.2.2)) else (none)) else (some (bt326.1, bt326.2.1, bt333.2.1, bt333.2.2))) else (if bt333.1 = 2 then ((spec_l1Below.f s0_0 bt333.2.1 bt333.2.2 2).bind fun bt344 => (if 0 ≤ (wrap64 (40 + bt344.1)) then (if (wrap64 (40 + bt344.1) : Int).toNat ≤ 281474976710656 then (if bt326.2.1.length < 2932031007402 then (some (bt326.1, (bt326.2.1 ++ [(⟨strOfNums (List.replicate (wrap64 (40 + bt344.1) : Int).toNat 0), ([] : List Int), false⟩ : S50)]), bt344.2.1, bt344.2.2)) else (none)) else (none)) else (none))) else (if bt333.1 = 3 then (spec_l8Draw.l0 k s0_0 bt333.2.1 bt333.2.2 bt326.1 bt326.2.1) else (some (bt326.1, bt326.2.1, bt333.2.1, bt333.2.2)))))))) = some (r1, r2, r3, r4) := h
 clear h
 replace H := Option.bind_eq_some_iff.mp H
 obtain ⟨⟨t326, t327, t330, t331⟩, A30, H⟩ := H
 replace H : ((spec_l1Below.f s0_0 t330 t331 25).bind fun bt333 => (if bt333.1 = 0 then ((spec_l1PickInt.f s0_0 bt333.2.1 bt333.2.2 (([0, 30, 31] : List Int))).bind fun bt339 => (some (bt339.1, t327, bt339.2.1, bt339.2.2))) else (if bt333.1 = 1 then (if (t327.length : Int) > 0 then (if 0 < (t327.length : Int) then (some (t326, (t327.set (0 : Int).toNat (⟨(rd_T50 t327 0).f0, (rd_T50 t327 0).f1, !((rd_T50 t327 0).f2)⟩ : S50)), bt333.2.1, bt333.2.2)) else (none)) else (some (t326, t327, bt333.2.1, bt333.2.2))) else (if bt333.1 = 2 then ((spec_l1Below.f s0_0 bt333.2.1 bt333.2.2 2).bind fun bt344 => (if 0 ≤ (wrap64 (40 + bt344.1)) then (if (wrap64 (40 + bt344.1) : Int).toNat ≤ 281474976710656 then (if t327.length < 2932031007402 then (some (t326, (t327 ++ [(⟨strOfNums (List.replicate (wrap64 (40 + bt344.1) : Int).toNat 0), ([] : List Int), false⟩ : S50)]), bt344.2.1, bt344.2.2)) else (none)) else (none)) else (none))) else (if bt333.1 = 3 then (spec_l8Draw.l0 k s0_0 bt333.2.1 bt333.2.2 t326 t327) else (some (t326, t327, bt333.2.1, bt333.2.2))))))) = some (r1, r2, r3, r4) := H
 have A3 := Aside0.mk A30
 clear A30
 replace H := Option.bind_eq_some_iff.mp H
 obtain ⟨⟨t333, t334, t335⟩, A40, H⟩ := H
 replace H : (if t333 = 0 then ((spec_l1PickInt.f s0_0 t334 t335 (([0, 30, 31] : List Int))).bind fun bt339 => (some (bt339.1, t327, bt339.2.1, bt339.2.2))) else (if t333 = 1 then (if (t327.length : Int) > 0 then (if 0 < (t327.length : Int) then (some (t326, (t327.set (0 : Int).toNat (⟨(rd_T50 t327 0).f0, (rd_T50 t327 0).f1, !((rd_T50 t327 0).f2)⟩ : S50)), t334, t335)) else (none)) else (some (t326, t327, t334, t335))) else (if t333 = 2 then ((spec_l1Below.f s0_0 t334 t335 2).bind fun bt344 => (if 0 ≤ (wrap64 (40 + bt344.1)) then (if (wrap64 (40 + bt344.1) : Int).toNat ≤ 281474976710656 then (if t327.length < 2932031007402 then (some (t326, (t327 ++ [(⟨strOfNums (List.replicate (wrap64 (40 + bt344.1) : Int).toNat 0), ([] : List Int), false⟩ : S50)]), bt344.2.1, bt344.2.2)) else (none)) else (none)) else (none))) else (if t333 = 3 then (spec_l8Draw.l0 k s0_0 t334 t335 t326 t327) else (some (t326, t327, t334, t335)))))) = some (r1, r2, r3, r4) := H
 have A4 := Aside0.mk A40
 clear A40
 by_cases c5 : t333 = 0
 ·rw [if_pos c5] at H
  have c5b0 : (t333 == 0) = true := beq_iff_eq.mpr c5
  have c5b1 : (t333 != 0) = false := bne_eq_false_iff_eq.mpr c5
  clear c5
  obtain ⟨y336, hy336⟩ : ∃ y_ : List Int, y_ = (([0, 30, 31] : List Int)) := ⟨_, rfl⟩
  replace H : ((spec_l1PickInt.f s0_0 t334 t335 y336).bind fun bt339 => (some (bt339.1, t327, bt339.2.1, bt339.2.2))) = some (r1, r2, r3, r4) := by first | (rw [hy336]; with_reducible exact H) | (have H2_ := (Option.bind_some _ _).symm.trans H; rw [hy336]; with_reducible exact H2_) | (have H2_ := (Option.bind_some _ _).symm.trans H; with_reducible exact H2_) | with_reducible exact H | (rw [hy336]; exact H) | exact H
  have Ny336 := Aside0.mk hy336
  clear hy336
  replace H := Option.bind_eq_some_iff.mp H
  obtain ⟨⟨t339, t340, t341⟩, A60, H⟩ := H
  replace H : (some (t339, t327, t340, t341)) = some (r1, r2, r3, r4) := H
  have A6 := Aside0.mk A60
  clear A60
  simp only [Option.some.injEq, Prod.mk.injEq] at H
  obtain ⟨rfl, rfl, rfl, rfl⟩ := H
  go_enter Try.func64, Try.ntmps64
  go_wp2_with (first | ((with_reducible refine gate_dst (N := 3) rfl ?_); (try (refine gate_guard (by rfl) ?_; dsimp only)); refine box_event kr_ (N := 3) kr_ (cs := #[.slice A1_0 l1_0.length c1_0, .int .i64 a1_1]) (t := 31) ks_ ?_; intro gb324 hg w1 hbox hb; replace HB := Aside0.mk (below_step dz25 hb); have BK324 := Aside0.mk (hbox); have GW324 := Aside0.mk ((by rw [hg]; exact (keep_size (w := w) (g := g) (row := none) dz4) : w.heap.size ≤ gb324)); have GE324 := Aside0.mk ((Nat.le_trans HW0.out (by rw [hg]; exact (keep_size (w := w) (g := g) (row := none) dz4) : w.heap.size ≤ gb324) : w0.heap.size ≤ gb324)); replace HK := Aside0.mk (KeepBut.trans dz4 (KeepBut.of_below hb g none) (.inl rfl)); have NB0_324 := Aside0.mk ((by rw [hg]; exact Nat.ne_of_lt (IsS150.lt (show IsS150 w0 _ g s0_0 s0_1 s0_2 from by repeat (first | (with_reducible first | exact HI0.out | apply IsS150.alloc | apply IsS150.drewN | apply IsS150.drew | apply IsS150.set_1 | apply IsS150.set_2) | exact HI0.out))) : g ≠ gb324)); have NB324_0 := Aside0.mk ((by rw [hg]; exact Nat.ne_of_gt (IsS150.lt (show IsS150 w0 _ g s0_0 s0_1 s0_2 from by repeat (first | (with_reducible first | exact HI0.out | apply IsS150.alloc | apply IsS150.drewN | apply IsS150.drew | apply IsS150.set_1 | apply IsS150.set_2) | exact HI0.out))) : gb324 ≠ g)); replace HI0 := Aside0.mk (IsS150.below dz26 hb); clear hb hbox hg) | ((with_reducible refine gate_dst (N := 4) rfl ?_); (try (refine gate_guard (by rfl) ?_; dsimp only)); refine box_event kr_ (N := 4) kr_ (cs := #[.int .i64 0, .slice none 0 0]) (t := 44) ks_ ?_; intro gb325 hg w2 hbox hb; replace HB := Aside0.mk (below_step dz54 hb); have BK325 := Aside0.mk (hbox); have GW325 := Aside0.mk ((by rw [hg]; exact (keep_size (w := w) (g := g) (row := none) dz12) : w.heap.size ≤ gb325)); have GE325 := Aside0.mk ((Nat.le_trans HW0.out (by rw [hg]; exact (keep_size (w := w) (g := g) (row := none) dz12) : w.heap.size ≤ gb325) : w0.heap.size ≤ gb325)); replace HK := Aside0.mk (KeepBut.trans dz12 (KeepBut.of_below hb g none) (.inl rfl)); have NB324_325 := (nbl_ hg BK324); have NB325_324 := (nbr_ hg BK324); replace BK324 := (bkb_ BK324 hb); have NB0_325 := Aside0.mk ((by rw [hg]; exact Nat.ne_of_lt (IsS150.lt (show IsS150 w0 _ g s0_0 s0_1 s0_2 from by repeat (first | (with_reducible first | exact HI0.out | apply IsS150.alloc | apply IsS150.drewN | apply IsS150.drew | apply IsS150.set_1 | apply IsS150.set_2 | refine IsS150.far ?_ NB0_324.out _) | exact HI0.out))) : g ≠ gb325)); have NB325_0 := Aside0.mk ((by rw [hg]; exact Nat.ne_of_gt (IsS150.lt (show IsS150 w0 _ g s0_0 s0_1 s0_2 from by repeat (first | (with_reducible first | exact HI0.out | apply IsS150.alloc | apply IsS150.drewN | apply IsS150.drew | apply IsS150.set_1 | apply IsS150.set_2 | refine IsS150.far ?_ NB0_324.out _) | exact HI0.out))) : gb325 ≠ g)); replace HI0 := Aside0.mk (IsS150.below dz55 hb); clear hb hbox hg; have hnb9 := NB324_325.out; have hnc9 := NB325_324.out; have hnb10 := NB324_0.out; have hnc10 := NB0_324.out; obtain ⟨hcz11_0, hcz11_1, hfz11_0, hfz11_1⟩ := cz2_ BK324) | ((with_reducible refine gate_callee (f := 117) rfl ?_); refine goesL_ (some 8) rfl rfl Try.func117 (by kernel_rfl) rfl #[.pointer (some ⟨g, 0, none⟩), .agg #[.slice A1_0 l1_0.length c1_0, .int .i64 a1_1]] rfl dz1 ?_; (with_reducible refine (spec_l8DrawRight.calls k g s0_0 s0_1 s0_2 _ _ l1_0 a1_1 t326 t327 t330 t331 w0 _ ?side1 ?side2 ?side3 ?side4 ?side5 A3.out).mono ?_); (case side1 => exact dz473); (case side2 => exact dz474); (case side3 => exact Kd.C_keep 0 HR1_0.out dz5 hf1_0); (case side4 => exact HC1_0.out); (case side5 => exact hf1_0); rintro e w3 ⟨v328, rfl, ho0, hi, hb, hk⟩; refine ⟨_, rfl, ?_⟩; have HO329 := Aside0.mk (Kd.N_lower (Kd.N_mono (ok' := fun k_ => (w.heap.size ≤ k_) ∧ k_ ≠ gb324 ∧ k_ ≠ gb325 ∧ k_ ≠ g) ho0 (fun k_ hk_ => ⟨(Nat.le_trans (keep_size (w := w) (g := g) (row := none) dz5) hk_), (Kd.freshB (g := gb324) (o := .cells #[.slice A1_0 l1_0.length c1_0, .int .i64 a1_1] 31 (0, 0)) dz13 k_ hk_), (Kd.freshB (g := gb325) (o := .cells #[.int .i64 0, .slice none 0 0] 44 (0, 0)) dz14 k_ hk_), (IsS150.fresh dz28 k_ hk_)⟩)) (keep_size (w := w) (g := g) (row := none) dz5)); replace BK324 := Aside0.mk (KeepBut.blk hk (g' := gb324) (o := .cells #[.slice A1_0 l1_0.length c1_0, .int .i64 a1_1] 31 (0, 0)) dz13 NB324_0.out (by simp)); replace BK325 := Aside0.mk (KeepBut.blk hk (g' := gb325) (o := .cells #[.int .i64 0, .slice none 0 0] 44 (0, 0)) dz14 NB325_0.out (by simp)); replace HK := Aside0.mk (KeepBut.trans dz5 hk (.inl rfl)); replace HB := Aside0.mk (hb); replace HI0 := Aside0.mk (hi); (try clear hb); (try clear hb2); (try clear hk); (try clear hi); (try clear ho0)) | ((with_reducible refine gate_dst (N := 5) rfl ?_); (try (refine gate_guard (by rfl) ?_; dsimp only)); refine box_event kr_ (N := 5) kr_ (cs := #[.int .i64 0, .slice none 0 0]) (t := 44) ks_ ?_; intro gb332 hg w4 hbox hb; replace HO329 := Aside0.mk (Kd.N_below (Kd.N_elderB dz30 gb332 (Nat.le_of_eq hg.symm)) hb); replace HB := Aside0.mk (below_step dz56 hb); have BK332 := Aside0.mk (hbox); have GW332 := Aside0.mk ((by rw [hg]; exact (keep_size (w := w) (g := g) (row := none) dz5) : w.heap.size ≤ gb332)); have GE332 := Aside0.mk ((Nat.le_trans HW0.out (by rw [hg]; exact (keep_size (w := w) (g := g) (row := none) dz5) : w.heap.size ≤ gb332) : w0.heap.size ≤ gb332)); replace HK := Aside0.mk (KeepBut.trans dz5 (KeepBut.of_below hb g none) (.inl rfl)); have NB324_332 := (nbl_ hg BK324); have NB332_324 := (nbr_ hg BK324); replace BK324 := (bkb_ BK324 hb); have NB325_332 := (nbl_ hg BK325); have NB332_325 := (nbr_ hg BK325); replace BK325 := (bkb_ BK325 hb); have NB0_332 := Aside0.mk ((by rw [hg]; exact Nat.ne_of_lt (IsS150.lt (show IsS150 w0 _ g s0_0 t330 t331 from by repeat (first | (with_reducible first | exact HI0.out | apply IsS150.alloc | apply IsS150.drewN | apply IsS150.drew | apply IsS150.set_1 | apply IsS150.set_2 | refine IsS150.far ?_ NB0_324.out _ | refine IsS150.far ?_ NB0_325.out _) | exact HI0.out))) : g ≠ gb332)); have NB332_0 := Aside0.mk ((by rw [hg]; exact Nat.ne_of_gt (IsS150.lt (show IsS150 w0 _ g s0_0 t330 t331 from by repeat (first | (with_reducible first | exact HI0.out | apply IsS150.alloc | apply IsS150.drewN | apply IsS150.drew | apply IsS150.set_1 | apply IsS150.set_2 | refine IsS150.far ?_ NB0_324.out _ | refine IsS150.far ?_ NB0_325.out _) | exact HI0.out))) : gb332 ≠ g)); replace HI0 := Aside0.mk (IsS150.below dz28 hb); clear hb hbox hg; have hnb14 := NB332_324.out; have hnc14 := NB324_332.out; have hnb15 := NB332_325.out; have hnc15 := NB325_332.out; have hnb16 := NB332_0.out; have hnc16 := NB0_332.out; obtain ⟨hcz17_0, hcz17_1, hfz17_0, hfz17_1⟩ := cz2_ BK332; obtain ⟨Ao18, co18, eo18⟩ := Kd.N_slice HO329.out; subst eo18) | ((with_reducible refine gate_callee (f := 67) rfl ?_); refine goesL_ (some 10) rfl rfl Try.func67 (by kernel_rfl) rfl #[.pointer (some ⟨g, 0, none⟩), .int .i64 25] rfl dz1 ?_; (with_reducible refine (spec_l1Below.calls g s0_0 t330 t331 25 t333 t334 t335 w0 _ ?side1 ?side2 A4.out).mono ?_); (case side1 => exact dz475); (case side2 => exact dz476); rintro e w5 ⟨rfl, hi, hb, hk⟩; refine ⟨_, rfl, ?_⟩; replace BK324 := Aside0.mk (KeepBut.blk hk (g' := gb324) (o := .cells #[.slice A1_0 l1_0.length c1_0, .int .i64 a1_1] 31 (0, 0)) dz57 NB324_0.out (by simp)); replace BK325 := Aside0.mk (KeepBut.blk hk (g' := gb325) (o := .cells #[.int .i64 0, .slice none 0 0] 44 (0, 0)) dz58 NB325_0.out (by simp)); replace HO329 := Aside0.mk (Kd.N_mono (Kd.N_keep (Kd.N_mono (ok := fun k_ => ((((w.heap.size ≤ k_)) ∧ (k_ ≠ gb324 ∧ (k_ ≠ gb325 ∧ k_ ≠ g))) ∧ k_ ≠ gb332)) (by (with_reducible repeat (first | apply Kd.N_alloc | apply Kd.N_drewN | apply Kd.N_drew)); exact (Kd.N_mono (Kd.N_far (p := ⟨gb332, 1, none⟩) (Kd.N_far (p := ⟨gb332, 0, none⟩) (Kd.N_mono HO329.out (fun k_ hk => (⟨hk, hk.2⟩ : _ ∧ k_ ≠ gb332))) (fun _ hk => hk.2) (.int .i64 t326)) (fun _ hk => hk.2) (.slice Ao18 t327.length co18)) (fun _ h_ => h_.1))) (fun k_ hk_ => (⟨hk_, hk_.1.2.2.2⟩ : _ ∧ k_ ≠ g))) hk (fun _ h => h.2)) (fun _ h => h.1)); replace BK332 := Aside0.mk (KeepBut.blk hk (g' := gb332) (o := .cells #[.int .i64 t326, .slice Ao18 t327.length co18] 44 (0, 0)) dz59 NB332_0.out (by simp)); replace HK := Aside0.mk (KeepBut.trans dz11 hk (.inl rfl)); replace HB := Aside0.mk (hb); replace HI0 := Aside0.mk (hi); (try clear hb); (try clear hb2); (try clear hk); (try clear hi)) | ((with_reducible refine gate_dst (N := 14) rfl ?_); (try (refine gate_guard (by rfl) ?_; dsimp only)); refine Kd.R_lit (Kd.int .i64) _ 3 ?hg (N := 14) ?hd (xs := ([0, 30, 31] : List Int)) (inner := [.int .i64 0, .int .i64 30, .int .i64 31]) (ok := fun _ => True) (okp := fun _ => True) ?hr ?hp (fun _ hk => hk) trivial (Below.refl _ _) (Nat.le_refl _) (by simp) ?_; (case hd => rfl); (case hg => rfl); (case hr => first | (go_simp; done) | (go_simp; rfl)); (case hp => exact (Reps.one (show Kd.M (Kd.int .i64) _ _ _ 0 [.int .i64 0] from rfl) (Reps.one (show Kd.M (Kd.int .i64) _ _ _ 30 [.int .i64 30] from rfl) (Reps.one (show Kd.M (Kd.int .i64) _ _ _ 31 [.int .i64 31] from rfl) (Reps.none _ _))))); intro v337 w6 ho21 hb hg_ hnew_; clear hg_ hnew_; (first | rw [← Ny336.out] at ho21 | (simp only [Int.reduceToNat] at ho21; rw [← Ny336.out] at ho21)); replace HO329 := Aside0.mk (Kd.N_elder' dz30 (Kd.R_base ho21) hb); have HO338 := Aside0.mk (Kd.R_lower (Kd.R_newM (M := fun k_ => (w.heap.size ≤ k_)) ho21 (keep_size (w := w) (g := g) (row := none) dz11) (fun k_ h_ => h_)) (keep_size (w := w) (g := g) (row := none) dz11)); replace BK324 := (bkb_ BK324 hb); replace BK325 := (bkb_ BK325 hb); replace BK332 := (bkb_ BK332 hb); replace HK := Aside0.mk (KeepBut.trans dz11 (KeepBut.of_below hb g none) (.inl rfl)); replace HB := Aside0.mk (below_step dz92 hb); replace HI0 := Aside0.mk (IsS150.below dz60 hb); clear hb ho21; obtain ⟨Ao22, co22, eo22⟩ := Kd.R_slice HO338.out; subst eo22) | ((with_reducible refine gate_callee (f := 116) rfl ?_); refine goesL_ (some 15) rfl rfl Try.func116 (by kernel_rfl) rfl #[.pointer (some ⟨g, 0, none⟩), .slice Ao22 y336.length co22] rfl dz1 ?_; (with_reducible refine (spec_l1PickInt.calls g s0_0 t334 t335 _ _ y336 t339 t340 t341 w0 _ ?side1 ?side2 ?side3 ?side4 ?side5 A6.out).mono ?_); (case side1 => exact dz475); (case side2 => exact dz476); (case side3 => repeat (first | exact (Kd.R_reads' HO338.out).2.2 | (with_reducible refine Kd.C_alloc ?_ _) | (with_reducible refine Kd.C_drewN ?_ _) | (with_reducible refine Kd.C_drew ?_))); (case side4 => exact (Kd.R_reads' HO338.out).2.1); (case side5 => exact far_slice (IsS150.own_ne HI0.out HO338.out (by decide))); rintro e w7 ⟨rfl, hi, hb, hk⟩; refine ⟨_, rfl, ?_⟩; replace BK324 := Aside0.mk (KeepBut.blk hk (g' := gb324) (o := .cells #[.slice A1_0 l1_0.length c1_0, .int .i64 a1_1] 31 (0, 0)) dz13 NB324_0.out (by simp)); replace BK325 := Aside0.mk (KeepBut.blk hk (g' := gb325) (o := .cells #[.int .i64 0, .slice none 0 0] 44 (0, 0)) dz14 NB325_0.out (by simp)); replace HO329 := Aside0.mk (Kd.N_mono (Kd.N_keep (Kd.N_mono (ok := fun k_ => (((((w.heap.size ≤ k_)) ∧ (k_ ≠ gb324 ∧ (k_ ≠ gb325 ∧ k_ ≠ g))) ∧ k_ ≠ gb332) ∧ some k_ ≠ (.slice Ao22 y336.length co22 : Value).ownBlock)) dz30 (fun k_ hk_ => (⟨hk_, hk_.1.1.2.2.2⟩ : _ ∧ k_ ≠ g))) hk (fun _ h => h.2)) (fun _ h => h.1)); replace BK332 := Aside0.mk (KeepBut.blk hk (g' := gb332) (o := .cells #[.int .i64 t326, .slice Ao18 t327.length co18] 44 (0, 0)) dz61 NB332_0.out (by simp)); replace HO338 := Aside0.mk (Kd.R_mono (Kd.R_keep (IsS150.apart (show IsS150 w0 _ g s0_0 t334 t335 from by repeat (first | (with_reducible first | exact HI0.out | apply IsS150.alloc | apply IsS150.drewN | apply IsS150.drew | apply IsS150.set_1 | apply IsS150.set_2 | refine IsS150.far ?_ NB0_324.out _ | refine IsS150.far ?_ NB0_325.out _ | refine IsS150.far ?_ NB0_332.out _) | exact HI0.out)) (by (with_reducible repeat (first | apply Kd.R_alloc | apply Kd.R_drewN | apply Kd.R_drew)); exact HO338.out) (by decide)) hk (fun _ h => h.2)) (fun _ h => h.1)); replace HK := Aside0.mk (KeepBut.trans dz11 hk (.inl rfl)); replace HB := Aside0.mk (hb); replace HI0 := Aside0.mk (hi); (try clear hb); (try clear hb2); (try clear hk); (try clear hi); obtain ⟨hcz24_0, hcz24_1, hfz24_0, hfz24_1⟩ := cz2_ BK332; have hnb25 := NB325_0.out; have hnc25 := NB0_325.out; obtain ⟨hcz26_0, hcz26_1, hfz26_0, hfz26_1⟩ := cz2_ BK325))
  refine bodyPost_ret (results_cell_row rfl _ _ gb325 44 #[.int .i64 t339, .slice Ao18 t327.length co18] (0, 0) _ rfl (by (with_reducible repeat (first | refine blk_drewN ?_ _ | refine blk_drew ?_ | refine blk_alloc ?_ _)); refine blk_put (cs := #[.int .i64 t339, .slice none 0 0]) ?_ 1 _ rfl; (with_reducible repeat (first | refine blk_drewN ?_ _ | refine blk_drew ?_ | refine blk_alloc ?_ _)); refine blk_put (cs := #[.int .i64 0, .slice none 0 0]) ?_ 0 _ rfl; (with_reducible repeat (first | refine blk_drewN ?_ _ | refine blk_drew ?_ | refine blk_alloc ?_ _)); refine blk_far ?_ NB325_332.out _; (with_reducible repeat (first | refine blk_drewN ?_ _ | refine blk_drew ?_ | refine blk_alloc ?_ _)); exact BK325.out) Try.underlying44 rfl (by kernel_rfl)) rfl ?_
  exact ⟨_, by first | rfl | (simp [errW_none, errW_some] <;> rfl) | (simp [*, errW_none, errW_some] <;> rfl), by (with_reducible repeat (first | apply Kd.N_alloc | apply Kd.N_drewN | apply Kd.N_drew)); exact Kd.N_mono (Kd.N_far (p := ⟨gb325, 1, none⟩) (Kd.N_far (p := ⟨gb325, 0, none⟩) (Kd.N_far (p := ⟨gb332, 0, none⟩) (Kd.N_mono (Kd.N_mono HO329.out (fun k_ hk => (⟨hk, hk.1.2⟩ : _ ∧ k_ ≠ gb332))) (fun k_ hk => (⟨hk, hk.1.1.1.2.2.1⟩ : _ ∧ k_ ≠ gb325))) (fun _ hk => hk.1.2) (.int .i64 t339)) (fun _ hk => hk.2) (.int .i64 t339)) (fun _ hk => hk.2) (.slice Ao18 t327.length co18)) (fun _ hk => hk.1.1.1.1.1), by repeat (first | (with_reducible first | exact HI0.out | apply IsS150.alloc | apply IsS150.drewN | apply IsS150.drew | apply IsS150.set_1 | apply IsS150.set_2 | refine IsS150.far ?_ NB0_324.out _ | refine IsS150.far ?_ NB0_325.out _ | refine IsS150.far ?_ NB0_332.out _) | exact HI0.out), by repeat (first | (with_reducible first | exact HB.out | apply below_alloc | apply pw_below_drewN | apply below_drew1 | refine below_set ?_ (IsS150.ge HI0.out) | refine below_set ?_ GE324.out | refine below_set ?_ GE325.out | refine below_set ?_ GE332.out) | exact HB.out), by repeat (first | (with_reducible first | exact HK.out | apply KeepBut.set_ | apply keep_drewN | apply keep_drew | apply keep_alloc | refine keep_far ?_ GW324.out _ | refine keep_far ?_ GW325.out _ | refine keep_far ?_ GW332.out _) | exact HK.out)⟩
 rw [if_neg c5] at H
 have c5b0 : (t333 == 0) = false := beq_eq_false_iff_ne.mpr c5
 have c5b1 : (t333 != 0) = true := bne_iff_ne.mpr c5
 by_cases c27 : t333 = 1
 ·rw [if_pos c27] at H
  have c27b0 : (t333 == 1) = true := beq_iff_eq.mpr c27
  have c27b1 : (t333 != 1) = false := bne_eq_false_iff_eq.mpr c27
  clear c27
  by_cases c28 : (t327.length : Int) > 0
  ·rw [if_pos c28] at H
   have c28b0 : decide (0 < (t327.length : Int)) = true := decide_eq_true c28
   have c28b1 : decide (0 < t327.length) = true := decide_eq_true (by omega)
   clear c28
   by_cases c29 : 0 < (t327.length : Int)
   ·rw [if_pos c29] at H
    have c29b0 : decide (0 < (t327.length : Int)) = true := decide_eq_true c29
    have c29b1 : decide (0 < t327.length) = true := decide_eq_true (by omega)
    clear c29
    obtain ⟨y343, hy343⟩ : ∃ y_ : List (S50), y_ = (t327.set (0 : Int).toNat (⟨(rd_T50 t327 0).f0, (rd_T50 t327 0).f1, !((rd_T50 t327 0).f2)⟩ : S50)) := ⟨_, rfl⟩
    replace H : (some (t326, y343, t334, t335)) = some (r1, r2, r3, r4) := by first | (rw [hy343]; with_reducible exact H) | (have H2_ := (Option.bind_some _ _).symm.trans H; rw [hy343]; with_reducible exact H2_) | (have H2_ := (Option.bind_some _ _).symm.trans H; with_reducible exact H2_) | with_reducible exact H | (rw [hy343]; exact H) | exact H
    have Ny343 := Aside0.mk hy343
    clear hy343
    simp only [Option.some.injEq, Prod.mk.injEq] at H
    obtain ⟨rfl, rfl, rfl, rfl⟩ := H
    go_enter Try.func64, Try.ntmps64
    try go_wp2_with (first | ((with_reducible refine gate_dst (N := 3) rfl ?_); (try (refine gate_guard (by rfl) ?_; dsimp only)); refine box_event kr_ (N := 3) kr_ (cs := #[.slice A1_0 l1_0.length c1_0, .int .i64 a1_1]) (t := 31) ks_ ?_; intro gb324 hg w1 hbox hb; replace HB := Aside0.mk (below_step dz25 hb); have BK324 := Aside0.mk (hbox); have GW324 := Aside0.mk ((by rw [hg]; exact (keep_size (w := w) (g := g) (row := none) dz4) : w.heap.size ≤ gb324)); have GE324 := Aside0.mk ((Nat.le_trans HW0.out (by rw [hg]; exact (keep_size (w := w) (g := g) (row := none) dz4) : w.heap.size ≤ gb324) : w0.heap.size ≤ gb324)); replace HK := Aside0.mk (KeepBut.trans dz4 (KeepBut.of_below hb g none) (.inl rfl)); have NB0_324 := Aside0.mk ((by rw [hg]; exact Nat.ne_of_lt (IsS150.lt (show IsS150 w0 _ g s0_0 s0_1 s0_2 from by repeat (first | (with_reducible first | exact HI0.out | apply IsS150.alloc | apply IsS150.drewN | apply IsS150.drew | apply IsS150.set_1 | apply IsS150.set_2) | exact HI0.out))) : g ≠ gb324)); have NB324_0 := Aside0.mk ((by rw [hg]; exact Nat.ne_of_gt (IsS150.lt (show IsS150 w0 _ g s0_0 s0_1 s0_2 from by repeat (first | (with_reducible first | exact HI0.out | apply IsS150.alloc | apply IsS150.drewN | apply IsS150.drew | apply IsS150.set_1 | apply IsS150.set_2) | exact HI0.out))) : gb324 ≠ g)); replace HI0 := Aside0.mk (IsS150.below dz26 hb); clear hb hbox hg) | ((with_reducible refine gate_dst (N := 4) rfl ?_); (try (refine gate_guard (by rfl) ?_; dsimp only)); refine box_event kr_ (N := 4) kr_ (cs := #[.int .i64 0, .slice none 0 0]) (t := 44) ks_ ?_; intro gb325 hg w2 hbox hb; replace HB := Aside0.mk (below_step dz54 hb); have BK325 := Aside0.mk (hbox); have GW325 := Aside0.mk ((by rw [hg]; exact (keep_size (w := w) (g := g) (row := none) dz12) : w.heap.size ≤ gb325)); have GE325 := Aside0.mk ((Nat.le_trans HW0.out (by rw [hg]; exact (keep_size (w := w) (g := g) (row := none) dz12) : w.heap.size ≤ gb325) : w0.heap.size ≤ gb325)); replace HK := Aside0.mk (KeepBut.trans dz12 (KeepBut.of_below hb g none) (.inl rfl)); have NB324_325 := (nbl_ hg BK324); have NB325_324 := (nbr_ hg BK324); replace BK324 := (bkb_ BK324 hb); have NB0_325 := Aside0.mk ((by rw [hg]; exact Nat.ne_of_lt (IsS150.lt (show IsS150 w0 _ g s0_0 s0_1 s0_2 from by repeat (first | (with_reducible first | exact HI0.out | apply IsS150.alloc | apply IsS150.drewN | apply IsS150.drew | apply IsS150.set_1 | apply IsS150.set_2 | refine IsS150.far ?_ NB0_324.out _) | exact HI0.out))) : g ≠ gb325)); have NB325_0 := Aside0.mk ((by rw [hg]; exact Nat.ne_of_gt (IsS150.lt (show IsS150 w0 _ g s0_0 s0_1 s0_2 from by repeat (first | (with_reducible first | exact HI0.out | apply IsS150.alloc | apply IsS150.drewN | apply IsS150.drew | apply IsS150.set_1 | apply IsS150.set_2 | refine IsS150.far ?_ NB0_324.out _) | exact HI0.out))) : gb325 ≠ g)); replace HI0 := Aside0.mk (IsS150.below dz55 hb); clear hb hbox hg; have hnb33 := NB324_325.out; have hnc33 := NB325_324.out; have hnb34 := NB324_0.out; have hnc34 := NB0_324.out; obtain ⟨hcz35_0, hcz35_1, hfz35_0, hfz35_1⟩ := cz2_ BK324) | ((with_reducible refine gate_callee (f := 117) rfl ?_); refine goesL_ (some 8) rfl rfl Try.func117 (by kernel_rfl) rfl #[.pointer (some ⟨g, 0, none⟩), .agg #[.slice A1_0 l1_0.length c1_0, .int .i64 a1_1]] rfl dz1 ?_; (with_reducible refine (spec_l8DrawRight.calls k g s0_0 s0_1 s0_2 _ _ l1_0 a1_1 t326 t327 t330 t331 w0 _ ?side1 ?side2 ?side3 ?side4 ?side5 A3.out).mono ?_); (case side1 => exact dz473); (case side2 => exact dz474); (case side3 => exact Kd.C_keep 0 HR1_0.out dz5 hf1_0); (case side4 => exact HC1_0.out); (case side5 => exact hf1_0); rintro e w3 ⟨v328, rfl, ho0, hi, hb, hk⟩; refine ⟨_, rfl, ?_⟩; have HO329 := Aside0.mk (Kd.N_lower (Kd.N_mono (ok' := fun k_ => (w.heap.size ≤ k_) ∧ k_ ≠ gb324 ∧ k_ ≠ gb325 ∧ k_ ≠ g) ho0 (fun k_ hk_ => ⟨(Nat.le_trans (keep_size (w := w) (g := g) (row := none) dz5) hk_), (Kd.freshB (g := gb324) (o := .cells #[.slice A1_0 l1_0.length c1_0, .int .i64 a1_1] 31 (0, 0)) dz13 k_ hk_), (Kd.freshB (g := gb325) (o := .cells #[.int .i64 0, .slice none 0 0] 44 (0, 0)) dz14 k_ hk_), (IsS150.fresh dz28 k_ hk_)⟩)) (keep_size (w := w) (g := g) (row := none) dz5)); replace BK324 := Aside0.mk (KeepBut.blk hk (g' := gb324) (o := .cells #[.slice A1_0 l1_0.length c1_0, .int .i64 a1_1] 31 (0, 0)) dz13 NB324_0.out (by simp)); replace BK325 := Aside0.mk (KeepBut.blk hk (g' := gb325) (o := .cells #[.int .i64 0, .slice none 0 0] 44 (0, 0)) dz14 NB325_0.out (by simp)); replace HK := Aside0.mk (KeepBut.trans dz5 hk (.inl rfl)); replace HB := Aside0.mk (hb); replace HI0 := Aside0.mk (hi); (try clear hb); (try clear hb2); (try clear hk); (try clear hi); (try clear ho0)) | ((with_reducible refine gate_dst (N := 5) rfl ?_); (try (refine gate_guard (by rfl) ?_; dsimp only)); refine box_event kr_ (N := 5) kr_ (cs := #[.int .i64 0, .slice none 0 0]) (t := 44) ks_ ?_; intro gb332 hg w4 hbox hb; replace HO329 := Aside0.mk (Kd.N_below (Kd.N_elderB dz30 gb332 (Nat.le_of_eq hg.symm)) hb); replace HB := Aside0.mk (below_step dz56 hb); have BK332 := Aside0.mk (hbox); have GW332 := Aside0.mk ((by rw [hg]; exact (keep_size (w := w) (g := g) (row := none) dz5) : w.heap.size ≤ gb332)); have GE332 := Aside0.mk ((Nat.le_trans HW0.out (by rw [hg]; exact (keep_size (w := w) (g := g) (row := none) dz5) : w.heap.size ≤ gb332) : w0.heap.size ≤ gb332)); replace HK := Aside0.mk (KeepBut.trans dz5 (KeepBut.of_below hb g none) (.inl rfl)); have NB324_332 := (nbl_ hg BK324); have NB332_324 := (nbr_ hg BK324); replace BK324 := (bkb_ BK324 hb); have NB325_332 := (nbl_ hg BK325); have NB332_325 := (nbr_ hg BK325); replace BK325 := (bkb_ BK325 hb); have NB0_332 := Aside0.mk ((by rw [hg]; exact Nat.ne_of_lt (IsS150.lt (show IsS150 w0 _ g s0_0 t330 t331 from by repeat (first | (with_reducible first | exact HI0.out | apply IsS150.alloc | apply IsS150.drewN | apply IsS150.drew | apply IsS150.set_1 | apply IsS150.set_2 | refine IsS150.far ?_ NB0_324.out _ | refine IsS150.far ?_ NB0_325.out _) | exact HI0.out))) : g ≠ gb332)); have NB332_0 := Aside0.mk ((by rw [hg]; exact Nat.ne_of_gt (IsS150.lt (show IsS150 w0 _ g s0_0 t330 t331 from by repeat (first | (with_reducible first | exact HI0.out | apply IsS150.alloc | apply IsS150.drewN | apply IsS150.drew | apply IsS150.set_1 | apply IsS150.set_2 | refine IsS150.far ?_ NB0_324.out _ | refine IsS150.far ?_ NB0_325.out _) | exact HI0.out))) : gb332 ≠ g)); replace HI0 := Aside0.mk (IsS150.below dz28 hb); clear hb hbox hg; have hnb38 := NB332_324.out; have hnc38 := NB324_332.out; have hnb39 := NB332_325.out; have hnc39 := NB325_332.out; have hnb40 := NB332_0.out; have hnc40 := NB0_332.out; obtain ⟨hcz41_0, hcz41_1, hfz41_0, hfz41_1⟩ := cz2_ BK332; obtain ⟨Ao42, co42, eo42⟩ := Kd.N_slice HO329.out; subst eo42) | ((with_reducible refine gate_callee (f := 67) rfl ?_); refine goesL_ (some 10) rfl rfl Try.func67 (by kernel_rfl) rfl #[.pointer (some ⟨g, 0, none⟩), .int .i64 25] rfl dz1 ?_; (with_reducible refine (spec_l1Below.calls g s0_0 t330 t331 25 t333 t334 t335 w0 _ ?side1 ?side2 A4.out).mono ?_); (case side1 => exact dz475); (case side2 => exact dz476); rintro e w5 ⟨rfl, hi, hb, hk⟩; refine ⟨_, rfl, ?_⟩; replace BK324 := Aside0.mk (KeepBut.blk hk (g' := gb324) (o := .cells #[.slice A1_0 l1_0.length c1_0, .int .i64 a1_1] 31 (0, 0)) dz57 NB324_0.out (by simp)); replace BK325 := Aside0.mk (KeepBut.blk hk (g' := gb325) (o := .cells #[.int .i64 0, .slice none 0 0] 44 (0, 0)) dz58 NB325_0.out (by simp)); replace HO329 := Aside0.mk (Kd.N_mono (Kd.N_keep (Kd.N_mono (ok := fun k_ => ((((w.heap.size ≤ k_)) ∧ (k_ ≠ gb324 ∧ (k_ ≠ gb325 ∧ k_ ≠ g))) ∧ k_ ≠ gb332)) (by (with_reducible repeat (first | apply Kd.N_alloc | apply Kd.N_drewN | apply Kd.N_drew)); exact (Kd.N_mono (Kd.N_far (p := ⟨gb332, 1, none⟩) (Kd.N_far (p := ⟨gb332, 0, none⟩) (Kd.N_mono HO329.out (fun k_ hk => (⟨hk, hk.2⟩ : _ ∧ k_ ≠ gb332))) (fun _ hk => hk.2) (.int .i64 t326)) (fun _ hk => hk.2) (.slice Ao42 t327.length co42)) (fun _ h_ => h_.1))) (fun k_ hk_ => (⟨hk_, hk_.1.2.2.2⟩ : _ ∧ k_ ≠ g))) hk (fun _ h => h.2)) (fun _ h => h.1)); replace BK332 := Aside0.mk (KeepBut.blk hk (g' := gb332) (o := .cells #[.int .i64 t326, .slice Ao42 t327.length co42] 44 (0, 0)) dz59 NB332_0.out (by simp)); replace HK := Aside0.mk (KeepBut.trans dz11 hk (.inl rfl)); replace HB := Aside0.mk (hb); replace HI0 := Aside0.mk (hi); (try clear hb); (try clear hb2); (try clear hk); (try clear hi); obtain ⟨hcz44_0, hcz44_1, hfz44_0, hfz44_1⟩ := cz2_ BK332))
    replace HO329 := Aside0.mk (Kd.N_drew HO329.out)
    replace BK324 := Aside0.mk (blk_drew BK324.out)
    replace BK325 := Aside0.mk (blk_drew BK325.out)
    replace BK332 := Aside0.mk (blk_drew BK332.out)
    replace HI0 := Aside0.mk (IsS150.drew HI0.out)
    replace HK := Aside0.mk (keep_drew HK.out)
    replace HB := Aside0.mk (below_drew1 HB.out)
    have p342 : 0 ≤ (0 : Int) := (by omega)
    have q342 : 0 < (t327.length : Int) := of_decide_eq_true dz0
    obtain ⟨ad342, A342_1, c342_1, e342, hx342_0, hx342_1, hx342_2, hl342_1, hi342_1⟩ := at_T50 (Kd.N_reads' HO329.out).2.2 0 p342 q342
    cases e342
    obtain ⟨ce342, hce342, hMe342, hcc342⟩ := Kd.N_get HO329.out z50 0 p342 (by first | exact q342 | exact of_decide_eq_true dz0 | (have e_ := (Kd.N_reads' HO329.out).1; omega))
    obtain ⟨ua342_1, uc342_1, rfl, ul342_1, ge342_1⟩ := k50_openF hMe342
    have hv342_1 := hcc342 1 _ rfl
    rw [add_field _ _ 1 (by omega)] at hv342_1
    replace hv342_1 := Option.some.inj (hv342_1.symm.trans hx342_1)
    injection hv342_1 with hva_ hvn_ hvc_
    rw [hva_] at ge342_1
    rw [hvc_] at ul342_1
    have HL342_1 := Aside0.mk (show Kd.V (Kd.int .i64) 3 _ w.heap.size _ _ ((rd_T50 t327 0).f1) from Kd.V_mk ul342_1 ge342_1)
    clear hva_ hvn_ hvc_ ge342_1 ul342_1
    clear hcc342 hce342
    have qi342 : (0 < t327.length) = True := eq_true (by omega)
    (try rw [show ((0 : Int)).toNat = 0 from rfl] at hx342_0)
    (try rw [show 0 * 3 = 0 from rfl] at hx342_0)
    (try rw [Addr.add_zero'] at hx342_0)
    (try rw [show ((0 : Int)).toNat = 0 from rfl] at hx342_1)
    (try rw [show 0 * 3 = 0 from rfl] at hx342_1)
    (try rw [Addr.add_zero'] at hx342_1)
    (try rw [show ((0 : Int)).toNat = 0 from rfl] at hx342_2)
    (try rw [show 0 * 3 = 0 from rfl] at hx342_2)
    (try rw [Addr.add_zero'] at hx342_2)
    have HR342_1 := Aside0.mk hi342_1
    have HC342_1 := Aside0.mk hl342_1
    clear hi342_1 hl342_1
    replace p342 := eq_true p342
    replace q342 := eq_true q342
    have p30 : 0 ≤ (0 : Int) := (by omega)
    have q30 : (0 : Int) < ((t327.length : Int) : Int) := of_decide_eq_true dz0
    have qi30 : (0 < t327.length) = True := eq_true (by omega)
    obtain ⟨go30, co30, eo30, gb30, gl30, cl30, HG30⟩ := Kd.N_form HO329.out (by omega)
    (first | cases eo30 | (injection eo30 with ea_ en_ ec_; (first | subst ea_ | (injection ea_ with ea_; subst ea_)); subst ec_; clear en_))
    have GB30 := Aside0.mk gb30
    have GG30 := Aside0.mk HG30
    clear gb30 gl30 HG30
    (first | simp only [add_plain] at hx342_0 | skip)
    (first | simp only [add_plain] at hx342_1 | skip)
    (first | simp only [add_plain] at hx342_2 | skip)
    obtain ⟨ce30, hcl30, hM30, hcc30, hfr30⟩ := Kd.N_elem HO329.out z50 (0 : Int) p30 q30
    obtain ⟨ua30_1, uc30_1, rfl, ul30_1, ge30_1⟩ := k50_openF hM30
    have hx30_0 : World.cell? _ ⟨go30, (0 : Int).toNat * 3, none⟩ = some (.string ((rd_T50 t327 0).f0)) := hcc30 0 _ rfl
    have hx30_1 : World.cell? _ ⟨go30, (0 : Int).toNat * 3 + 1, none⟩ = some (.slice ua30_1 ((rd_T50 t327 0).f1).length uc30_1) := hcc30 1 _ rfl
    have hx30_2 : World.cell? _ ⟨go30, (0 : Int).toNat * 3 + 2, none⟩ = some (.bool ((rd_T50 t327 0).f2)) := hcc30 2 _ rfl
    have hf30_0 : World.frozen? _ ⟨go30, (0 : Int).toNat * 3, none⟩ = false := hfr30 0
    have hf30_1 : World.frozen? _ ⟨go30, (0 : Int).toNat * 3 + 1, none⟩ = false := hfr30 1
    have hf30_2 : World.frozen? _ ⟨go30, (0 : Int).toNat * 3 + 2, none⟩ = false := hfr30 2
    clear hcl30 hcc30 hfr30; (try clear hM30)
    (try rw [show ((0 : Int)).toNat = 0 from rfl] at hx30_0)
    (try simp only [Nat.reduceMul, Nat.zero_mul, Nat.zero_add, Nat.reduceAdd] at hx30_0)
    (try rw [show ((0 : Int)).toNat = 0 from rfl] at hf30_0)
    (try simp only [Nat.reduceMul, Nat.zero_mul, Nat.zero_add, Nat.reduceAdd] at hf30_0)
    (try rw [show ((0 : Int)).toNat = 0 from rfl] at hx30_1)
    (try simp only [Nat.reduceMul, Nat.zero_mul, Nat.zero_add, Nat.reduceAdd] at hx30_1)
    (try rw [show ((0 : Int)).toNat = 0 from rfl] at hf30_1)
    (try simp only [Nat.reduceMul, Nat.zero_mul, Nat.zero_add, Nat.reduceAdd] at hf30_1)
    (try rw [show ((0 : Int)).toNat = 0 from rfl] at hx30_2)
    (try simp only [Nat.reduceMul, Nat.zero_mul, Nat.zero_add, Nat.reduceAdd] at hx30_2)
    (try rw [show ((0 : Int)).toNat = 0 from rfl] at hf30_2)
    (try simp only [Nat.reduceMul, Nat.zero_mul, Nat.zero_add, Nat.reduceAdd] at hf30_2)
    replace p30 := eq_true p30
    replace q30 := eq_true q30
    have HN0_go30 := Aside0.mk (show g ≠ go30 from by have h_ := IsS150.own_neN HI0.out HO329.out (by decide); intro e_; exact h_ (by rw [e_]; rfl))
    have HX46 := Aside0.mk (show Kd.N k50 50 _ w.heap.size (fun k_ => (w.heap.size ≤ k_) ∧ k_ ≠ gb324 ∧ k_ ≠ gb325 ∧ k_ ≠ gb332 ∧ k_ ≠ g) (.slice (some ⟨go30, 0, none⟩) t327.length co42) t327 from (Kd.N_mono (HO329.out) (fun k_ hk => ⟨hk.1.1, ⟨hk.1.2.1, ⟨hk.1.2.2.1, ⟨hk.2, hk.1.2.2.2⟩⟩⟩⟩)))
    obtain ⟨ce46, hcl46, hM46, hcc46, hfr46⟩ := Kd.N_elem HX46.out z50 (0 : Int) (by omega) (by have h_ : (0 : Int) < ((t327.length : Int) : Int) := of_decide_eq_true dz0; first | exact h_ | (have e_ := (Kd.N_reads' HO329.out).1; omega) | simpa using h_)
    obtain ⟨ua46_1, uc46_1, rfl, ul46_1, ge46_1⟩ := k50_openF hM46
    have HP46 := (Kd.N_seg HX46.out (0 : Int) (by omega) (by have h_ : (0 : Int) < ((t327.length : Int) : Int) := of_decide_eq_true dz0; first | exact h_ | (have e_ := (Kd.N_reads' HO329.out).1; omega) | simpa using h_) (seg := [.bool (!((rd_T50 t327 0).f2))]) (j := 2) hcl46 hcc46 (show 3 ≤ 3 from by decide) (x' := (⟨(rd_T50 t327 0).f0, (rd_T50 t327 0).f1, !((rd_T50 t327 0).f2)⟩ : S50)) (k50_mkF _ _ (⟨(rd_T50 t327 0).f0, (rd_T50 t327 0).f1, !((rd_T50 t327 0).f2)⟩ : S50) ul46_1 ge46_1) (fun _ hk => hk)).1
    rw [← Ny343.out] at HP46
    have HQ46 := Aside0.mk HP46
    clear hcl46 hcc46 hfr46 HP46; (try clear hM46)
    refine start_ (n := 11) (S := fun w' => w'.cell? ⟨gb332, 0, none⟩ = some (.int .i64 t326) ∧ w'.cell? ⟨gb332, 1, none⟩ = some (.slice (some ⟨go30, 0, none⟩) t327.length co42) ∧ w'.cell? ⟨go30, 0, none⟩ = some (.string ((rd_T50 t327 0).f0)) ∧ w'.cell? ⟨go30, 1, none⟩ = some (.slice A342_1 ((rd_T50 t327 0).f1).length c342_1) ∧ w'.cell? ⟨go30, 2, none⟩ = some (.bool ((rd_T50 t327 0).f2))) (ds := [10]) (fl_ 0 11) (by kernel_rfl) rfl rfl ⟨(blk_cell BK332.out 0).trans rfl, (blk_cell BK332.out 1).trans rfl, hx342_0, hx342_1, hx342_2⟩ (fun hHeld => ?_); refine with_tabW spec_l8Draw.tab7 spec_l8Draw.bits7 (fun HT_ HW_ => ?_)
    generalize w5.drew = w45 at HO329 BK324 BK325 BK332 HI0 HK HB GG30 HL342_1 HQ46 HR342_1 hf30_0 hf30_1 hf30_2 hx30_0 hx30_1 hx30_2 hx342_0 hx342_1 hx342_2 hHeld ⊢
    refine pure_ (i := 0) (N := some 23) (v := ?_) (a' := ?_) (fl_ 1 10) rfl rfl (any_of HT_.out (by kernel_rfl)) (fun _ _ _ h => h) (Or.inl ⟨by rfl, ?_⟩) ?_ ?_
    rotate_left
    ·exact dz489
    rotate_left
    ·exact dz490
    refine pure_ (i := 2) (N := some 25) (v := ?_) (a' := ?_) #[true, false, true, false, false, false, false, false, false, false, false] rfl rfl (any_of HT_.out (by kernel_rfl)) (fun _ _ _ h => h) (Or.inl ⟨by rfl, ?_⟩) ?_ ?_
    rotate_left
    ·exact dz489
    rotate_left
    ·exact dz490
    refine take_ (i := 1) (N := some 24) (v := ?_) (a' := ?_) (fl_ 3 8) rfl rfl (take_ofW HT_.out HW_.out (by kernel_rfl)) (fun _ _ _ h => h) (Or.inl ⟨by rfl, ?_⟩) hHeld ?_ ?_
    rotate_left
    ·exact dz494
    rotate_left
    ·exact dz490
    refine take_ (i := 3) (N := some 26) (v := ?_) (a' := ?_) (fl_ 4 7) rfl rfl (take_ofW HT_.out HW_.out (by kernel_rfl)) (fun _ _ _ h => h) (Or.inl ⟨by rfl, ?_⟩) hHeld ?_ ?_
    rotate_left
    ·exact dz494
    rotate_left
    ·exact dz490
    refine pure_ (i := 4) (N := some 27) (v := ?_) (a' := ?_) (fl_ 5 6) rfl rfl (any_of HT_.out (by kernel_rfl)) (fun _ _ _ h => h) (Or.inl ⟨by rfl, ?_⟩) ?_ ?_
    rotate_left
    ·exact dz489
    rotate_left
    ·exact dz490
    refine pure_ (i := 5) (N := some 28) (v := ?_) (a' := ?_) (fl_ 6 5) rfl rfl (any_of HT_.out (by kernel_rfl)) (fun _ _ _ h => h) (Or.inl ⟨by rfl, ?_⟩) ?_ ?_
    rotate_left
    ·exact dz489
    rotate_left
    ·exact dz490
    refine take_ (i := 6) (N := some 29) (v := ?_) (a' := ?_) (fl_ 7 4) rfl rfl (take_ofW HT_.out HW_.out (by kernel_rfl)) (fun _ _ _ h => h) (Or.inl ⟨by rfl, ?_⟩) hHeld ?_ ?_
    rotate_left
    ·exact dz494
    rotate_left
    ·exact dz490
    refine pure_ (i := 7) (N := some 30) (v := ?_) (a' := ?_) (fl_ 8 3) rfl rfl (any_of HT_.out (by kernel_rfl)) (fun _ _ _ h => h) (Or.inl ⟨by rfl, ?_⟩) ?_ ?_
    rotate_left
    ·exact dz489
    rotate_left
    ·exact dz490
    refine pure_ (i := 8) (N := some 31) (v := ?_) (a' := ?_) (fl_ 9 2) rfl rfl (any_of HT_.out (by kernel_rfl)) (fun _ _ _ h => h) (Or.inl ⟨by rfl, ?_⟩) ?_ ?_
    rotate_left
    ·exact dz489
    rotate_left
    ·exact dz490
    refine pure_ (i := 9) (N := some 32) (v := ?_) (a' := ?_) (fl_ 10 1) rfl rfl (any_of HT_.out (by kernel_rfl)) (fun _ _ _ h => h) (Or.inl ⟨by rfl, ?_⟩) ?_ ?_
    rotate_left
    ·exact dz489
    rotate_left
    ·exact dz490
    refine last_ (i := 10) (N := none) (fl_ 11 0) rfl rfl (one_of HT_.out (by kernel_rfl)) (by decide) (fun K hK => ?_)
    refine skip_ (w1 := ?_) (by rfl) rfl ?_ ?_
    rotate_left
    ·go_simp
     rfl
    refine hK.out _ _ ?_
    clear hK K
    refine done_ (done_of HT_.out (by kernel_rfl)) ?_
    have n0_ : Aside0 (Kd.N k50 50 (w45.setCell ⟨go30, 2, none⟩ (.bool (!((rd_T50 t327 0).f2)))) w.heap.size (fun k_ => (w.heap.size ≤ k_) ∧ k_ ≠ gb324 ∧ k_ ≠ gb325 ∧ k_ ≠ g ∧ k_ ≠ gb332) (.slice (some ⟨go30, 0, none⟩) t327.length co42) y343) := ⟨by (with_reducible repeat (first | apply Kd.N_alloc | apply Kd.N_drewN | apply Kd.N_drew)); exact Kd.N_mono HQ46.out (fun _ hk => ⟨hk.1, ⟨hk.2.1, ⟨hk.2.2.1, ⟨hk.2.2.2.2, hk.2.2.2.1⟩⟩⟩⟩)⟩
    have n1_ : Aside0 (Kd.V (Kd.int .i64) 3 (w45.setCell ⟨go30, 2, none⟩ (.bool (!((rd_T50 t327 0).f2)))) w.heap.size (fun k_ => (w.heap.size ≤ k_) ∧ some k_ ≠ (.slice (some ⟨go30, 0, none⟩) t327.length co42 : Value).ownBlock ∧ k_ ≠ gb324 ∧ k_ ≠ gb325 ∧ k_ ≠ g ∧ k_ ≠ gb332) (.slice A342_1 ((rd_T50 t327 0).f1).length c342_1) ((rd_T50 t327 0).f1)) := ⟨by (with_reducible repeat (first | apply Kd.V_alloc | apply Kd.V_drewN | apply Kd.V_drew)); exact Kd.V_mono (Kd.V_far (p := ⟨go30, 2, none⟩) (Kd.V_mono HL342_1.out (fun k_ hk => (⟨hk, fun e_ => hk.2 (by rw [e_]; rfl)⟩ : _ ∧ k_ ≠ go30))) (fun _ hk => hk.2) (.bool (!((rd_T50 t327 0).f2)))) (fun _ hk => ⟨hk.1.1.1.1, ⟨hk.1.2, ⟨hk.1.1.1.2.1, ⟨hk.1.1.1.2.2.1, ⟨hk.1.1.1.2.2.2, hk.1.1.2⟩⟩⟩⟩⟩)⟩
    have n2_ : Aside0 ((w45.setCell ⟨go30, 2, none⟩ (.bool (!((rd_T50 t327 0).f2)))).heap[gb324]? = some (.cells #[.slice A1_0 l1_0.length c1_0, .int .i64 a1_1] 31 (0, 0))) := ⟨by (with_reducible repeat (first | refine blk_drewN ?_ _ | refine blk_drew ?_ | refine blk_alloc ?_ _)); refine blk_far ?_ (by have h_ := Kd.N_away HO329.out (fun _ hk => by first | exact hk.1.2.1 | exact hk.1.1.2.1); intro e_; exact h_ (by rw [e_]; rfl)) _; (with_reducible repeat (first | refine blk_drewN ?_ _ | refine blk_drew ?_ | refine blk_alloc ?_ _)); exact BK324.out⟩
    have n3_ : Aside0 ((w45.setCell ⟨go30, 2, none⟩ (.bool (!((rd_T50 t327 0).f2)))).heap[gb325]? = some (.cells #[.int .i64 0, .slice none 0 0] 44 (0, 0))) := ⟨by (with_reducible repeat (first | refine blk_drewN ?_ _ | refine blk_drew ?_ | refine blk_alloc ?_ _)); refine blk_far ?_ (by have h_ := Kd.N_away HO329.out (fun _ hk => by first | exact hk.1.2.2.1 | exact hk.1.1.2.2.1); intro e_; exact h_ (by rw [e_]; rfl)) _; (with_reducible repeat (first | refine blk_drewN ?_ _ | refine blk_drew ?_ | refine blk_alloc ?_ _)); exact BK325.out⟩
    have n4_ : Aside0 ((w45.setCell ⟨go30, 2, none⟩ (.bool (!((rd_T50 t327 0).f2)))).heap[gb332]? = some (.cells #[.int .i64 t326, .slice (some ⟨go30, 0, none⟩) t327.length co42] 44 (0, 0))) := ⟨by (with_reducible repeat (first | refine blk_drewN ?_ _ | refine blk_drew ?_ | refine blk_alloc ?_ _)); refine blk_far ?_ (by have h_ := Kd.N_away HO329.out (fun _ hk => by first | exact hk.2 | exact hk.1.2); intro e_; exact h_ (by rw [e_]; rfl)) _; (with_reducible repeat (first | refine blk_drewN ?_ _ | refine blk_drew ?_ | refine blk_alloc ?_ _)); exact BK332.out⟩
    have n5_ : Aside0 (IsS150 w0 (w45.setCell ⟨go30, 2, none⟩ (.bool (!((rd_T50 t327 0).f2)))) g s0_0 t334 t335) := ⟨by repeat (first | (with_reducible first | exact HI0.out | apply IsS150.alloc | apply IsS150.drewN | apply IsS150.drew | apply IsS150.set_1 | apply IsS150.set_2 | refine IsS150.far ?_ HN0_go30.out _ | refine IsS150.far ?_ NB0_324.out _ | refine IsS150.far ?_ NB0_325.out _ | refine IsS150.far ?_ NB0_332.out _) | exact HI0.out)⟩
    have n6_ : Aside0 (KeepBut w (w45.setCell ⟨go30, 2, none⟩ (.bool (!((rd_T50 t327 0).f2)))) g none) := ⟨by repeat (first | (with_reducible first | exact HK.out | apply KeepBut.set_ | apply keep_drewN | apply keep_drew | apply keep_alloc | refine keep_far ?_ GB30.out _ | refine keep_far ?_ GW324.out _ | refine keep_far ?_ GW325.out _ | refine keep_far ?_ GW332.out _) | exact HK.out)⟩
    have n7_ : Aside0 (Below w0.heap.size w0 (w45.setCell ⟨go30, 2, none⟩ (.bool (!((rd_T50 t327 0).f2))))) := ⟨by repeat (first | (with_reducible first | exact HB.out | apply below_alloc | apply pw_below_drewN | apply below_drew1 | refine below_set ?_ (Nat.le_trans HL.out GB30.out) | refine below_set ?_ (IsS150.ge HI0.out) | refine below_set ?_ GE324.out | refine below_set ?_ GE325.out | refine below_set ?_ GE332.out) | exact HB.out)⟩
    (try clear HO329)
    (try clear HL342_1)
    (try clear BK324)
    (try clear BK325)
    (try clear BK332)
    (try clear HI0)
    (try clear HK)
    (try clear HB)
    generalize (w45.setCell ⟨go30, 2, none⟩ (.bool (!((rd_T50 t327 0).f2)))) = w47 at n0_ n1_ n2_ n3_ n4_ n5_ n6_ n7_ ⊢
    have HO329 := n0_
    have HL342_1 := n1_
    have BK324 := n2_
    have BK325 := n3_
    have BK332 := n4_
    have HI0 := n5_
    have HK := n6_
    have HB := n7_
    clear n0_ n1_ n2_ n3_ n4_ n5_ n6_ n7_
    obtain ⟨hcz48_0, hcz48_1, hfz48_0, hfz48_1⟩ := cz2_ BK332
    have hnb49 := NB325_0.out
    have hnc49 := NB0_325.out
    obtain ⟨hcz50_0, hcz50_1, hfz50_0, hfz50_1⟩ := cz2_ BK325
    try go_wp2
    refine bodyPost_ret (results_cell_row rfl _ _ gb325 44 #[.int .i64 t326, .slice (some ⟨go30, 0, none⟩) t327.length co42] (0, 0) _ rfl dz72 Try.underlying44 rfl (by kernel_rfl)) rfl ?_
    exact ⟨_, by first | rfl | (simp [errW_none, errW_some] <;> rfl) | (simp [*, errW_none, errW_some] <;> rfl), by (with_reducible repeat (first | apply Kd.N_alloc | apply Kd.N_drewN | apply Kd.N_drew)); exact Kd.N_mono (Kd.N_far (p := ⟨gb325, 1, none⟩) (Kd.N_far (p := ⟨gb325, 0, none⟩) (Kd.N_mono HO329.out (fun k_ hk => (⟨hk, hk.2.2.1⟩ : _ ∧ k_ ≠ gb325))) (fun _ hk => hk.2) (.int .i64 t326)) (fun _ hk => hk.2) (.slice (some ⟨go30, 0, none⟩) t327.length co42)) (fun _ hk => hk.1.1), by repeat (first | (with_reducible first | exact HI0.out | apply IsS150.alloc | apply IsS150.drewN | apply IsS150.drew | apply IsS150.set_1 | apply IsS150.set_2 | refine IsS150.far ?_ NB0_324.out _ | refine IsS150.far ?_ NB0_325.out _ | refine IsS150.far ?_ NB0_332.out _) | exact HI0.out), by repeat (first | (with_reducible first | exact HB.out | apply below_alloc | apply pw_below_drewN | apply below_drew1 | refine below_set ?_ (IsS150.ge HI0.out) | refine below_set ?_ GE324.out | refine below_set ?_ GE325.out | refine below_set ?_ GE332.out) | exact HB.out), by repeat (first | (with_reducible first | exact HK.out | apply KeepBut.set_ | apply keep_drewN | apply keep_drew | apply keep_alloc | refine keep_far ?_ GW324.out _ | refine keep_far ?_ GW325.out _ | refine keep_far ?_ GW332.out _) | exact HK.out)⟩
   rw [if_neg c29] at H
   exact absurd H (by simp)
  rw [if_neg c28] at H
  have c28b0 : decide (0 < (t327.length : Int)) = false := decide_eq_false c28
  have c28b1 : decide (0 < t327.length) = false := decide_eq_false (by omega)
  clear c28
  simp only [Option.some.injEq, Prod.mk.injEq] at H
  obtain ⟨rfl, rfl, rfl, rfl⟩ := H
  go_enter Try.func64, Try.ntmps64
  go_wp2_with (first | ((with_reducible refine gate_dst (N := 3) rfl ?_); (try (refine gate_guard (by rfl) ?_; dsimp only)); refine box_event kr_ (N := 3) kr_ (cs := #[.slice A1_0 l1_0.length c1_0, .int .i64 a1_1]) (t := 31) ks_ ?_; intro gb324 hg w1 hbox hb; replace HB := Aside0.mk (below_step dz25 hb); have BK324 := Aside0.mk (hbox); have GW324 := Aside0.mk ((by rw [hg]; exact (keep_size (w := w) (g := g) (row := none) dz4) : w.heap.size ≤ gb324)); have GE324 := Aside0.mk ((Nat.le_trans HW0.out (by rw [hg]; exact (keep_size (w := w) (g := g) (row := none) dz4) : w.heap.size ≤ gb324) : w0.heap.size ≤ gb324)); replace HK := Aside0.mk (KeepBut.trans dz4 (KeepBut.of_below hb g none) (.inl rfl)); have NB0_324 := Aside0.mk ((by rw [hg]; exact Nat.ne_of_lt (IsS150.lt (show IsS150 w0 _ g s0_0 s0_1 s0_2 from by repeat (first | (with_reducible first | exact HI0.out | apply IsS150.alloc | apply IsS150.drewN | apply IsS150.drew | apply IsS150.set_1 | apply IsS150.set_2) | exact HI0.out))) : g ≠ gb324)); have NB324_0 := Aside0.mk ((by rw [hg]; exact Nat.ne_of_gt (IsS150.lt (show IsS150 w0 _ g s0_0 s0_1 s0_2 from by repeat (first | (with_reducible first | exact HI0.out | apply IsS150.alloc | apply IsS150.drewN | apply IsS150.drew | apply IsS150.set_1 | apply IsS150.set_2) | exact HI0.out))) : gb324 ≠ g)); replace HI0 := Aside0.mk (IsS150.below dz26 hb); clear hb hbox hg) | ((with_reducible refine gate_dst (N := 4) rfl ?_); (try (refine gate_guard (by rfl) ?_; dsimp only)); refine box_event kr_ (N := 4) kr_ (cs := #[.int .i64 0, .slice none 0 0]) (t := 44) ks_ ?_; intro gb325 hg w2 hbox hb; replace HB := Aside0.mk (below_step dz54 hb); have BK325 := Aside0.mk (hbox); have GW325 := Aside0.mk ((by rw [hg]; exact (keep_size (w := w) (g := g) (row := none) dz12) : w.heap.size ≤ gb325)); have GE325 := Aside0.mk ((Nat.le_trans HW0.out (by rw [hg]; exact (keep_size (w := w) (g := g) (row := none) dz12) : w.heap.size ≤ gb325) : w0.heap.size ≤ gb325)); replace HK := Aside0.mk (KeepBut.trans dz12 (KeepBut.of_below hb g none) (.inl rfl)); have NB324_325 := (nbl_ hg BK324); have NB325_324 := (nbr_ hg BK324); replace BK324 := (bkb_ BK324 hb); have NB0_325 := Aside0.mk ((by rw [hg]; exact Nat.ne_of_lt (IsS150.lt (show IsS150 w0 _ g s0_0 s0_1 s0_2 from by repeat (first | (with_reducible first | exact HI0.out | apply IsS150.alloc | apply IsS150.drewN | apply IsS150.drew | apply IsS150.set_1 | apply IsS150.set_2 | refine IsS150.far ?_ NB0_324.out _) | exact HI0.out))) : g ≠ gb325)); have NB325_0 := Aside0.mk ((by rw [hg]; exact Nat.ne_of_gt (IsS150.lt (show IsS150 w0 _ g s0_0 s0_1 s0_2 from by repeat (first | (with_reducible first | exact HI0.out | apply IsS150.alloc | apply IsS150.drewN | apply IsS150.drew | apply IsS150.set_1 | apply IsS150.set_2 | refine IsS150.far ?_ NB0_324.out _) | exact HI0.out))) : gb325 ≠ g)); replace HI0 := Aside0.mk (IsS150.below dz55 hb); clear hb hbox hg; have hnb53 := NB324_325.out; have hnc53 := NB325_324.out; have hnb54 := NB324_0.out; have hnc54 := NB0_324.out; obtain ⟨hcz55_0, hcz55_1, hfz55_0, hfz55_1⟩ := cz2_ BK324) | ((with_reducible refine gate_callee (f := 117) rfl ?_); refine goesL_ (some 8) rfl rfl Try.func117 (by kernel_rfl) rfl #[.pointer (some ⟨g, 0, none⟩), .agg #[.slice A1_0 l1_0.length c1_0, .int .i64 a1_1]] rfl dz1 ?_; (with_reducible refine (spec_l8DrawRight.calls k g s0_0 s0_1 s0_2 _ _ l1_0 a1_1 t326 t327 t330 t331 w0 _ ?side1 ?side2 ?side3 ?side4 ?side5 A3.out).mono ?_); (case side1 => exact dz473); (case side2 => exact dz474); (case side3 => exact Kd.C_keep 0 HR1_0.out dz5 hf1_0); (case side4 => exact HC1_0.out); (case side5 => exact hf1_0); rintro e w3 ⟨v328, rfl, ho0, hi, hb, hk⟩; refine ⟨_, rfl, ?_⟩; have HO329 := Aside0.mk (Kd.N_lower (Kd.N_mono (ok' := fun k_ => (w.heap.size ≤ k_) ∧ k_ ≠ gb324 ∧ k_ ≠ gb325 ∧ k_ ≠ g) ho0 (fun k_ hk_ => ⟨(Nat.le_trans (keep_size (w := w) (g := g) (row := none) dz5) hk_), (Kd.freshB (g := gb324) (o := .cells #[.slice A1_0 l1_0.length c1_0, .int .i64 a1_1] 31 (0, 0)) dz13 k_ hk_), (Kd.freshB (g := gb325) (o := .cells #[.int .i64 0, .slice none 0 0] 44 (0, 0)) dz14 k_ hk_), (IsS150.fresh dz28 k_ hk_)⟩)) (keep_size (w := w) (g := g) (row := none) dz5)); replace BK324 := Aside0.mk (KeepBut.blk hk (g' := gb324) (o := .cells #[.slice A1_0 l1_0.length c1_0, .int .i64 a1_1] 31 (0, 0)) dz13 NB324_0.out (by simp)); replace BK325 := Aside0.mk (KeepBut.blk hk (g' := gb325) (o := .cells #[.int .i64 0, .slice none 0 0] 44 (0, 0)) dz14 NB325_0.out (by simp)); replace HK := Aside0.mk (KeepBut.trans dz5 hk (.inl rfl)); replace HB := Aside0.mk (hb); replace HI0 := Aside0.mk (hi); (try clear hb); (try clear hb2); (try clear hk); (try clear hi); (try clear ho0)) | ((with_reducible refine gate_dst (N := 5) rfl ?_); (try (refine gate_guard (by rfl) ?_; dsimp only)); refine box_event kr_ (N := 5) kr_ (cs := #[.int .i64 0, .slice none 0 0]) (t := 44) ks_ ?_; intro gb332 hg w4 hbox hb; replace HO329 := Aside0.mk (Kd.N_below (Kd.N_elderB dz30 gb332 (Nat.le_of_eq hg.symm)) hb); replace HB := Aside0.mk (below_step dz56 hb); have BK332 := Aside0.mk (hbox); have GW332 := Aside0.mk ((by rw [hg]; exact (keep_size (w := w) (g := g) (row := none) dz5) : w.heap.size ≤ gb332)); have GE332 := Aside0.mk ((Nat.le_trans HW0.out (by rw [hg]; exact (keep_size (w := w) (g := g) (row := none) dz5) : w.heap.size ≤ gb332) : w0.heap.size ≤ gb332)); replace HK := Aside0.mk (KeepBut.trans dz5 (KeepBut.of_below hb g none) (.inl rfl)); have NB324_332 := (nbl_ hg BK324); have NB332_324 := (nbr_ hg BK324); replace BK324 := (bkb_ BK324 hb); have NB325_332 := (nbl_ hg BK325); have NB332_325 := (nbr_ hg BK325); replace BK325 := (bkb_ BK325 hb); have NB0_332 := Aside0.mk ((by rw [hg]; exact Nat.ne_of_lt (IsS150.lt (show IsS150 w0 _ g s0_0 t330 t331 from by repeat (first | (with_reducible first | exact HI0.out | apply IsS150.alloc | apply IsS150.drewN | apply IsS150.drew | apply IsS150.set_1 | apply IsS150.set_2 | refine IsS150.far ?_ NB0_324.out _ | refine IsS150.far ?_ NB0_325.out _) | exact HI0.out))) : g ≠ gb332)); have NB332_0 := Aside0.mk ((by rw [hg]; exact Nat.ne_of_gt (IsS150.lt (show IsS150 w0 _ g s0_0 t330 t331 from by repeat (first | (with_reducible first | exact HI0.out | apply IsS150.alloc | apply IsS150.drewN | apply IsS150.drew | apply IsS150.set_1 | apply IsS150.set_2 | refine IsS150.far ?_ NB0_324.out _ | refine IsS150.far ?_ NB0_325.out _) | exact HI0.out))) : gb332 ≠ g)); replace HI0 := Aside0.mk (IsS150.below dz28 hb); clear hb hbox hg; have hnb58 := NB332_324.out; have hnc58 := NB324_332.out; have hnb59 := NB332_325.out; have hnc59 := NB325_332.out; have hnb60 := NB332_0.out; have hnc60 := NB0_332.out; obtain ⟨hcz61_0, hcz61_1, hfz61_0, hfz61_1⟩ := cz2_ BK332; obtain ⟨Ao62, co62, eo62⟩ := Kd.N_slice HO329.out; subst eo62) | ((with_reducible refine gate_callee (f := 67) rfl ?_); refine goesL_ (some 10) rfl rfl Try.func67 (by kernel_rfl) rfl #[.pointer (some ⟨g, 0, none⟩), .int .i64 25] rfl dz1 ?_; (with_reducible refine (spec_l1Below.calls g s0_0 t330 t331 25 t333 t334 t335 w0 _ ?side1 ?side2 A4.out).mono ?_); (case side1 => exact dz475); (case side2 => exact dz476); rintro e w5 ⟨rfl, hi, hb, hk⟩; refine ⟨_, rfl, ?_⟩; replace BK324 := Aside0.mk (KeepBut.blk hk (g' := gb324) (o := .cells #[.slice A1_0 l1_0.length c1_0, .int .i64 a1_1] 31 (0, 0)) dz57 NB324_0.out (by simp)); replace BK325 := Aside0.mk (KeepBut.blk hk (g' := gb325) (o := .cells #[.int .i64 0, .slice none 0 0] 44 (0, 0)) dz58 NB325_0.out (by simp)); replace HO329 := Aside0.mk (Kd.N_mono (Kd.N_keep (Kd.N_mono (ok := fun k_ => ((((w.heap.size ≤ k_)) ∧ (k_ ≠ gb324 ∧ (k_ ≠ gb325 ∧ k_ ≠ g))) ∧ k_ ≠ gb332)) (by (with_reducible repeat (first | apply Kd.N_alloc | apply Kd.N_drewN | apply Kd.N_drew)); exact (Kd.N_mono (Kd.N_far (p := ⟨gb332, 1, none⟩) (Kd.N_far (p := ⟨gb332, 0, none⟩) (Kd.N_mono HO329.out (fun k_ hk => (⟨hk, hk.2⟩ : _ ∧ k_ ≠ gb332))) (fun _ hk => hk.2) (.int .i64 t326)) (fun _ hk => hk.2) (.slice Ao62 t327.length co62)) (fun _ h_ => h_.1))) (fun k_ hk_ => (⟨hk_, hk_.1.2.2.2⟩ : _ ∧ k_ ≠ g))) hk (fun _ h => h.2)) (fun _ h => h.1)); replace BK332 := Aside0.mk (KeepBut.blk hk (g' := gb332) (o := .cells #[.int .i64 t326, .slice Ao62 t327.length co62] 44 (0, 0)) dz59 NB332_0.out (by simp)); replace HK := Aside0.mk (KeepBut.trans dz11 hk (.inl rfl)); replace HB := Aside0.mk (hb); replace HI0 := Aside0.mk (hi); (try clear hb); (try clear hb2); (try clear hk); (try clear hi); obtain ⟨hcz64_0, hcz64_1, hfz64_0, hfz64_1⟩ := cz2_ BK332; have hnb65 := NB325_0.out; have hnc65 := NB0_325.out; obtain ⟨hcz66_0, hcz66_1, hfz66_0, hfz66_1⟩ := cz2_ BK325))
  refine bodyPost_ret (results_cell_row rfl _ _ gb325 44 #[.int .i64 t326, .slice Ao62 t327.length co62] (0, 0) _ rfl dz72 Try.underlying44 rfl (by kernel_rfl)) rfl ?_
  exact ⟨_, by first | rfl | (simp [errW_none, errW_some] <;> rfl) | (simp [*, errW_none, errW_some] <;> rfl), by (with_reducible repeat (first | apply Kd.N_alloc | apply Kd.N_drewN | apply Kd.N_drew)); exact Kd.N_mono (Kd.N_far (p := ⟨gb325, 1, none⟩) (Kd.N_far (p := ⟨gb325, 0, none⟩) (Kd.N_mono HO329.out (fun k_ hk => (⟨hk, hk.1.2.2.1⟩ : _ ∧ k_ ≠ gb325))) (fun _ hk => hk.2) (.int .i64 t326)) (fun _ hk => hk.2) (.slice Ao62 t327.length co62)) (fun _ hk => hk.1.1.1), by repeat (first | (with_reducible first | exact HI0.out | apply IsS150.alloc | apply IsS150.drewN | apply IsS150.drew | apply IsS150.set_1 | apply IsS150.set_2 | refine IsS150.far ?_ NB0_324.out _ | refine IsS150.far ?_ NB0_325.out _ | refine IsS150.far ?_ NB0_332.out _) | exact HI0.out), by repeat (first | (with_reducible first | exact HB.out | apply below_alloc | apply pw_below_drewN | apply below_drew1 | refine below_set ?_ (IsS150.ge HI0.out) | refine below_set ?_ GE324.out | refine below_set ?_ GE325.out | refine below_set ?_ GE332.out) | exact HB.out), by repeat (first | (with_reducible first | exact HK.out | apply KeepBut.set_ | apply keep_drewN | apply keep_drew | apply keep_alloc | refine keep_far ?_ GW324.out _ | refine keep_far ?_ GW325.out _ | refine keep_far ?_ GW332.out _) | exact HK.out)⟩
 rw [if_neg c27] at H
 have c27b0 : (t333 == 1) = false := beq_eq_false_iff_ne.mpr c27
 have c27b1 : (t333 != 1) = true := bne_iff_ne.mpr c27
 by_cases c67 : t333 = 2
 ·rw [if_pos c67] at H
  have c67b0 : (t333 == 2) = true := beq_iff_eq.mpr c67
  have c67b1 : (t333 != 2) = false := bne_eq_false_iff_eq.mpr c67
  clear c67
  replace H := Option.bind_eq_some_iff.mp H
  obtain ⟨⟨t344, t345, t346⟩, A680, H⟩ := H
  replace H : (if 0 ≤ (wrap64 (40 + t344)) then (if (wrap64 (40 + t344) : Int).toNat ≤ 281474976710656 then (if t327.length < 2932031007402 then (some (t326, (t327 ++ [(⟨strOfNums (List.replicate (wrap64 (40 + t344) : Int).toNat 0), ([] : List Int), false⟩ : S50)]), t345, t346)) else (none)) else (none)) else (none)) = some (r1, r2, r3, r4) := H
  have A68 := Aside0.mk A680
  clear A680
  obtain ⟨ji69, hji69⟩ : ∃ j_ : Int, (wrap64 (40 + t344)) = j_ := ⟨_, rfl⟩
  replace H : (if 0 ≤ (ji69) then (if (ji69 : Int).toNat ≤ 281474976710656 then (if t327.length < 2932031007402 then (some (t326, (t327 ++ [(⟨strOfNums (List.replicate (ji69 : Int).toNat 0), ([] : List Int), false⟩ : S50)]), t345, t346)) else (none)) else (none)) else (none)) = some (r1, r2, r3, r4) := by first | (rw [hji69] at H; exact H) | (simp only [hji69] at H ⊢; exact H)
  (try rw [hji69] at A3)
  (try rw [hji69] at A4)
  (try rw [hji69] at A68)
  have hji69w : (IntKind.i64.wrap (40 + t344)) = ji69 := (i64_w _).trans hji69
  by_cases c70 : 0 ≤ (ji69)
  ·rw [if_pos c70] at H
   have c70b0 := eq_true c70
   have c70b1 : decide (0 ≤ (ji69)) = true := decide_eq_true c70
   clear c70
   by_cases c71 : (ji69 : Int).toNat ≤ 281474976710656
   ·rw [if_pos c71] at H
    have c71b0 := eq_true c71
    have c71b1 : decide ((ji69 : Int).toNat ≤ 281474976710656) = true := decide_eq_true c71
    clear c71
    obtain ⟨y347, hy347⟩ : ∃ y_ : List Int, y_ = (List.replicate (ji69 : Int).toNat 0) := ⟨_, rfl⟩
    replace H : (if t327.length < 2932031007402 then (some (t326, (t327 ++ [(⟨strOfNums y347, ([] : List Int), false⟩ : S50)]), t345, t346)) else (none)) = some (r1, r2, r3, r4) := by first | (rw [hy347]; with_reducible exact H) | (have H2_ := (Option.bind_some _ _).symm.trans H; rw [hy347]; with_reducible exact H2_) | (have H2_ := (Option.bind_some _ _).symm.trans H; with_reducible exact H2_) | with_reducible exact H | (rw [hy347]; exact H) | exact H
    have Ny347 := Aside0.mk hy347
    clear hy347
    by_cases c72 : t327.length < 2932031007402
    ·rw [if_pos c72] at H
     have LMc72 := Aside0.mk c72
     clear c72
     obtain ⟨y350, hy350⟩ : ∃ y_ : List (S50), y_ = (t327 ++ [(⟨strOfNums y347, ([] : List Int), false⟩ : S50)]) := ⟨_, rfl⟩
     replace H : (some (t326, y350, t345, t346)) = some (r1, r2, r3, r4) := by first | (rw [hy350]; with_reducible exact H) | (have H2_ := (Option.bind_some _ _).symm.trans H; rw [hy350]; with_reducible exact H2_) | (have H2_ := (Option.bind_some _ _).symm.trans H; with_reducible exact H2_) | with_reducible exact H | (rw [hy350]; exact H) | exact H
     have Ny350 := Aside0.mk hy350
     clear hy350
     simp only [Option.some.injEq, Prod.mk.injEq] at H
     obtain ⟨rfl, rfl, rfl, rfl⟩ := H
     go_enter Try.func64, Try.ntmps64
     try go_wp2_with (first | ((with_reducible refine gate_dst (N := 3) rfl ?_); (try (refine gate_guard (by rfl) ?_; dsimp only)); refine box_event kr_ (N := 3) kr_ (cs := #[.slice A1_0 l1_0.length c1_0, .int .i64 a1_1]) (t := 31) ks_ ?_; intro gb324 hg w1 hbox hb; replace HB := Aside0.mk (below_step dz25 hb); have BK324 := Aside0.mk (hbox); have GW324 := Aside0.mk ((by rw [hg]; exact (keep_size (w := w) (g := g) (row := none) dz4) : w.heap.size ≤ gb324)); have GE324 := Aside0.mk ((Nat.le_trans HW0.out (by rw [hg]; exact (keep_size (w := w) (g := g) (row := none) dz4) : w.heap.size ≤ gb324) : w0.heap.size ≤ gb324)); replace HK := Aside0.mk (KeepBut.trans dz4 (KeepBut.of_below hb g none) (.inl rfl)); have NB0_324 := Aside0.mk ((by rw [hg]; exact Nat.ne_of_lt (IsS150.lt (show IsS150 w0 _ g s0_0 s0_1 s0_2 from by repeat (first | (with_reducible first | exact HI0.out | apply IsS150.alloc | apply IsS150.drewN | apply IsS150.drew | apply IsS150.set_1 | apply IsS150.set_2) | exact HI0.out))) : g ≠ gb324)); have NB324_0 := Aside0.mk ((by rw [hg]; exact Nat.ne_of_gt (IsS150.lt (show IsS150 w0 _ g s0_0 s0_1 s0_2 from by repeat (first | (with_reducible first | exact HI0.out | apply IsS150.alloc | apply IsS150.drewN | apply IsS150.drew | apply IsS150.set_1 | apply IsS150.set_2) | exact HI0.out))) : gb324 ≠ g)); replace HI0 := Aside0.mk (IsS150.below dz26 hb); clear hb hbox hg) | ((with_reducible refine gate_dst (N := 4) rfl ?_); (try (refine gate_guard (by rfl) ?_; dsimp only)); refine box_event kr_ (N := 4) kr_ (cs := #[.int .i64 0, .slice none 0 0]) (t := 44) ks_ ?_; intro gb325 hg w2 hbox hb; replace HB := Aside0.mk (below_step dz54 hb); have BK325 := Aside0.mk (hbox); have GW325 := Aside0.mk ((by rw [hg]; exact (keep_size (w := w) (g := g) (row := none) dz12) : w.heap.size ≤ gb325)); have GE325 := Aside0.mk ((Nat.le_trans HW0.out (by rw [hg]; exact (keep_size (w := w) (g := g) (row := none) dz12) : w.heap.size ≤ gb325) : w0.heap.size ≤ gb325)); replace HK := Aside0.mk (KeepBut.trans dz12 (KeepBut.of_below hb g none) (.inl rfl)); have NB324_325 := (nbl_ hg BK324); have NB325_324 := (nbr_ hg BK324); replace BK324 := (bkb_ BK324 hb); have NB0_325 := Aside0.mk ((by rw [hg]; exact Nat.ne_of_lt (IsS150.lt (show IsS150 w0 _ g s0_0 s0_1 s0_2 from by repeat (first | (with_reducible first | exact HI0.out | apply IsS150.alloc | apply IsS150.drewN | apply IsS150.drew | apply IsS150.set_1 | apply IsS150.set_2 | refine IsS150.far ?_ NB0_324.out _) | exact HI0.out))) : g ≠ gb325)); have NB325_0 := Aside0.mk ((by rw [hg]; exact Nat.ne_of_gt (IsS150.lt (show IsS150 w0 _ g s0_0 s0_1 s0_2 from by repeat (first | (with_reducible first | exact HI0.out | apply IsS150.alloc | apply IsS150.drewN | apply IsS150.drew | apply IsS150.set_1 | apply IsS150.set_2 | refine IsS150.far ?_ NB0_324.out _) | exact HI0.out))) : gb325 ≠ g)); replace HI0 := Aside0.mk (IsS150.below dz55 hb); clear hb hbox hg; have hnb75 := NB324_325.out; have hnc75 := NB325_324.out; have hnb76 := NB324_0.out; have hnc76 := NB0_324.out; obtain ⟨hcz77_0, hcz77_1, hfz77_0, hfz77_1⟩ := cz2_ BK324) | ((with_reducible refine gate_callee (f := 117) rfl ?_); refine goesL_ (some 8) rfl rfl Try.func117 (by kernel_rfl) rfl #[.pointer (some ⟨g, 0, none⟩), .agg #[.slice A1_0 l1_0.length c1_0, .int .i64 a1_1]] rfl dz1 ?_; (with_reducible refine (spec_l8DrawRight.calls k g s0_0 s0_1 s0_2 _ _ l1_0 a1_1 t326 t327 t330 t331 w0 _ ?side1 ?side2 ?side3 ?side4 ?side5 A3.out).mono ?_); (case side1 => exact dz473); (case side2 => exact dz474); (case side3 => exact Kd.C_keep 0 HR1_0.out dz5 hf1_0); (case side4 => exact HC1_0.out); (case side5 => exact hf1_0); rintro e w3 ⟨v328, rfl, ho0, hi, hb, hk⟩; refine ⟨_, rfl, ?_⟩; have HO329 := Aside0.mk (Kd.N_lower (Kd.N_mono (ok' := fun k_ => (w.heap.size ≤ k_) ∧ k_ ≠ gb324 ∧ k_ ≠ gb325 ∧ k_ ≠ g) ho0 (fun k_ hk_ => ⟨(Nat.le_trans (keep_size (w := w) (g := g) (row := none) dz5) hk_), (Kd.freshB (g := gb324) (o := .cells #[.slice A1_0 l1_0.length c1_0, .int .i64 a1_1] 31 (0, 0)) dz13 k_ hk_), (Kd.freshB (g := gb325) (o := .cells #[.int .i64 0, .slice none 0 0] 44 (0, 0)) dz14 k_ hk_), (IsS150.fresh dz28 k_ hk_)⟩)) (keep_size (w := w) (g := g) (row := none) dz5)); replace BK324 := Aside0.mk (KeepBut.blk hk (g' := gb324) (o := .cells #[.slice A1_0 l1_0.length c1_0, .int .i64 a1_1] 31 (0, 0)) dz13 NB324_0.out (by simp)); replace BK325 := Aside0.mk (KeepBut.blk hk (g' := gb325) (o := .cells #[.int .i64 0, .slice none 0 0] 44 (0, 0)) dz14 NB325_0.out (by simp)); replace HK := Aside0.mk (KeepBut.trans dz5 hk (.inl rfl)); replace HB := Aside0.mk (hb); replace HI0 := Aside0.mk (hi); (try clear hb); (try clear hb2); (try clear hk); (try clear hi); (try clear ho0)) | ((with_reducible refine gate_dst (N := 5) rfl ?_); (try (refine gate_guard (by rfl) ?_; dsimp only)); refine box_event kr_ (N := 5) kr_ (cs := #[.int .i64 0, .slice none 0 0]) (t := 44) ks_ ?_; intro gb332 hg w4 hbox hb; replace HO329 := Aside0.mk (Kd.N_below (Kd.N_elderB dz30 gb332 (Nat.le_of_eq hg.symm)) hb); replace HB := Aside0.mk (below_step dz56 hb); have BK332 := Aside0.mk (hbox); have GW332 := Aside0.mk ((by rw [hg]; exact (keep_size (w := w) (g := g) (row := none) dz5) : w.heap.size ≤ gb332)); have GE332 := Aside0.mk ((Nat.le_trans HW0.out (by rw [hg]; exact (keep_size (w := w) (g := g) (row := none) dz5) : w.heap.size ≤ gb332) : w0.heap.size ≤ gb332)); replace HK := Aside0.mk (KeepBut.trans dz5 (KeepBut.of_below hb g none) (.inl rfl)); have NB324_332 := (nbl_ hg BK324); have NB332_324 := (nbr_ hg BK324); replace BK324 := (bkb_ BK324 hb); have NB325_332 := (nbl_ hg BK325); have NB332_325 := (nbr_ hg BK325); replace BK325 := (bkb_ BK325 hb); have NB0_332 := Aside0.mk ((by rw [hg]; exact Nat.ne_of_lt (IsS150.lt (show IsS150 w0 _ g s0_0 t330 t331 from by repeat (first | (with_reducible first | exact HI0.out | apply IsS150.alloc | apply IsS150.drewN | apply IsS150.drew | apply IsS150.set_1 | apply IsS150.set_2 | refine IsS150.far ?_ NB0_324.out _ | refine IsS150.far ?_ NB0_325.out _) | exact HI0.out))) : g ≠ gb332)); have NB332_0 := Aside0.mk ((by rw [hg]; exact Nat.ne_of_gt (IsS150.lt (show IsS150 w0 _ g s0_0 t330 t331 from by repeat (first | (with_reducible first | exact HI0.out | apply IsS150.alloc | apply IsS150.drewN | apply IsS150.drew | apply IsS150.set_1 | apply IsS150.set_2 | refine IsS150.far ?_ NB0_324.out _ | refine IsS150.far ?_ NB0_325.out _) | exact HI0.out))) : gb332 ≠ g)); replace HI0 := Aside0.mk (IsS150.below dz28 hb); clear hb hbox hg; have hnb80 := NB332_324.out; have hnc80 := NB324_332.out; have hnb81 := NB332_325.out; have hnc81 := NB325_332.out; have hnb82 := NB332_0.out; have hnc82 := NB0_332.out; obtain ⟨hcz83_0, hcz83_1, hfz83_0, hfz83_1⟩ := cz2_ BK332; obtain ⟨Ao84, co84, eo84⟩ := Kd.N_slice HO329.out; subst eo84) | ((with_reducible refine gate_callee (f := 67) rfl ?_); refine goesL_ (some 10) rfl rfl Try.func67 (by kernel_rfl) rfl #[.pointer (some ⟨g, 0, none⟩), .int .i64 25] rfl dz1 ?_; (with_reducible refine (spec_l1Below.calls g s0_0 t330 t331 25 t333 t334 t335 w0 _ ?side1 ?side2 A4.out).mono ?_); (case side1 => exact dz475); (case side2 => exact dz476); rintro e w5 ⟨rfl, hi, hb, hk⟩; refine ⟨_, rfl, ?_⟩; replace BK324 := Aside0.mk (KeepBut.blk hk (g' := gb324) (o := .cells #[.slice A1_0 l1_0.length c1_0, .int .i64 a1_1] 31 (0, 0)) dz57 NB324_0.out (by simp)); replace BK325 := Aside0.mk (KeepBut.blk hk (g' := gb325) (o := .cells #[.int .i64 0, .slice none 0 0] 44 (0, 0)) dz58 NB325_0.out (by simp)); replace HO329 := Aside0.mk (Kd.N_mono (Kd.N_keep (Kd.N_mono (ok := fun k_ => ((((w.heap.size ≤ k_)) ∧ (k_ ≠ gb324 ∧ (k_ ≠ gb325 ∧ k_ ≠ g))) ∧ k_ ≠ gb332)) (by (with_reducible repeat (first | apply Kd.N_alloc | apply Kd.N_drewN | apply Kd.N_drew)); exact (Kd.N_mono (Kd.N_far (p := ⟨gb332, 1, none⟩) (Kd.N_far (p := ⟨gb332, 0, none⟩) (Kd.N_mono HO329.out (fun k_ hk => (⟨hk, hk.2⟩ : _ ∧ k_ ≠ gb332))) (fun _ hk => hk.2) (.int .i64 t326)) (fun _ hk => hk.2) (.slice Ao84 t327.length co84)) (fun _ h_ => h_.1))) (fun k_ hk_ => (⟨hk_, hk_.1.2.2.2⟩ : _ ∧ k_ ≠ g))) hk (fun _ h => h.2)) (fun _ h => h.1)); replace BK332 := Aside0.mk (KeepBut.blk hk (g' := gb332) (o := .cells #[.int .i64 t326, .slice Ao84 t327.length co84] 44 (0, 0)) dz59 NB332_0.out (by simp)); replace HK := Aside0.mk (KeepBut.trans dz11 hk (.inl rfl)); replace HB := Aside0.mk (hb); replace HI0 := Aside0.mk (hi); (try clear hb); (try clear hb2); (try clear hk); (try clear hi)))
     replace HO329 := Aside0.mk (Kd.N_drew HO329.out)
     replace BK324 := Aside0.mk (blk_drew BK324.out)
     replace BK325 := Aside0.mk (blk_drew BK325.out)
     replace BK332 := Aside0.mk (blk_drew BK332.out)
     replace HI0 := Aside0.mk (IsS150.drew HI0.out)
     replace HK := Aside0.mk (keep_drew HK.out)
     replace HB := Aside0.mk (below_drew1 HB.out)
     refine start_ (n := 12) (S := fun w' => w'.cell? ⟨gb332, 0, none⟩ = some (.int .i64 t326) ∧ w'.cell? ⟨gb332, 1, none⟩ = some (.slice Ao84 t327.length co84)) (ds := [11]) (fl_ 0 12) (by kernel_rfl) rfl rfl ⟨(blk_cell BK332.out 0).trans rfl, (blk_cell BK332.out 1).trans rfl⟩ (fun hHeld => ?_); refine with_tabW spec_l8Draw.tab9 spec_l8Draw.bits9 (fun HT_ HW_ => ?_)
     generalize w5.drew = w6 at HO329 BK324 BK325 BK332 HI0 HK HB hHeld ⊢
     refine pure_ (i := 0) (N := some 35) (v := ?_) (a' := ?_) (fl_ 1 11) rfl rfl (any_of HT_.out (by kernel_rfl)) (fun _ _ _ h => h) (Or.inl ⟨by rfl, ?_⟩) ?_ ?_
     rotate_left
     ·exact dz489
     rotate_left
     ·exact dz490
     refine pure_ (i := 2) (N := some 37) (v := ?_) (a' := ?_) #[true, false, true, false, false, false, false, false, false, false, false, false] rfl rfl (any_of HT_.out (by kernel_rfl)) (fun _ _ _ h => h) (Or.inl ⟨by rfl, ?_⟩) ?_ ?_
     rotate_left
     ·exact dz489
     rotate_left
     ·exact dz490
     refine take_ (i := 1) (N := some 36) (v := ?_) (a' := ?_) (fl_ 3 9) rfl rfl (take_ofW HT_.out HW_.out (by kernel_rfl)) (fun _ _ _ h => h) (Or.inl ⟨by rfl, ?_⟩) hHeld ?_ ?_
     rotate_left
     ·exact dz491
     rotate_left
     ·exact dz490
     refine one_ (i := 3) (N := some 38) (fl_ 4 8) rfl rfl (one_of HT_.out (by kernel_rfl)) (by decide) (fun K hK => ?_)
     refine goes_ Try.func67 (by kernel_rfl) rfl #[.pointer (some ⟨g, 0, none⟩), .int .i64 2] (by rfl) rfl rfl dz1 ?_
     with_reducible refine (spec_l1Below.calls g s0_0 t334 t335 2 t344 t345 t346 w0 _ ?side1 ?side2 A68.out).mono ?_
     (case side1 => exact dz475)
     (case side2 => exact dz476)
     rintro e w87 ⟨rfl, hi, hb, hk⟩
     refine ⟨_, rfl, ?_⟩
     replace BK324 := Aside0.mk (KeepBut.blk hk (g' := gb324) (o := .cells #[.slice A1_0 l1_0.length c1_0, .int .i64 a1_1] 31 (0, 0)) dz13 NB324_0.out (by simp))
     replace BK325 := Aside0.mk (KeepBut.blk hk (g' := gb325) (o := .cells #[.int .i64 0, .slice none 0 0] 44 (0, 0)) dz14 NB325_0.out (by simp))
     replace HO329 := Aside0.mk (Kd.N_mono (Kd.N_keep (Kd.N_mono (ok := fun k_ => ((((w.heap.size ≤ k_)) ∧ (k_ ≠ gb324 ∧ (k_ ≠ gb325 ∧ k_ ≠ g))) ∧ k_ ≠ gb332)) dz30 (fun k_ hk_ => (⟨hk_, hk_.1.2.2.2⟩ : _ ∧ k_ ≠ g))) hk (fun _ h => h.2)) (fun _ h => h.1))
     replace BK332 := Aside0.mk (KeepBut.blk hk (g' := gb332) (o := .cells #[.int .i64 t326, .slice Ao84 t327.length co84] 44 (0, 0)) dz61 NB332_0.out (by simp))
     replace HK := Aside0.mk (KeepBut.trans dz11 hk (.inl rfl))
     replace HB := Aside0.mk (hb)
     replace HI0 := Aside0.mk (hi)
     (try clear hb)
     (try clear hb2)
     (try clear hk)
     (try clear hi)
     refine hK.out _ _ ⟨(blk_cell BK332.out 0).trans rfl, (blk_cell BK332.out 1).trans rfl⟩ (fun hHeld => ?_)
     clear hK K
     refine norm_ (a' := ?_) ?_ ?_
     rotate_left
     ·show Act.put _ (some 38) _ = _
      simp only [Act.put, List.setIfInBounds_toArray, List.set_cons_zero, List.set_cons_succ, i64_w, i32_w]
      rfl
     refine pure_ (i := 4) (N := some 39) (v := ?_) (a' := ?_) (fl_ 5 7) rfl rfl (any_of HT_.out (by kernel_rfl)) (fun _ _ _ h => h) (Or.inl ⟨by rfl, ?_⟩) ?_ ?_
     rotate_left
     ·exact dz489
     rotate_left
     ·exact dz490
     refine one_ (i := 5) (N := some 40) (fl_ 6 6) rfl rfl (one_of HT_.out (by kernel_rfl)) (by decide) (fun K hK => ?_)
     refine Kd.R_make_step (Kd.int .u8) _ 5 (by rfl) (N := 40) rfl 40 _ _ rfl ji69 rfl rfl Try.underlying40 (.int .u8 0) 1 info5 rfl (by decide) (by omega) 0 (ok := fun _ => True) (okp := fun _ => True) rfl (fun _ hk => hk) trivial (of_decide_eq_true dz0) (Nat.le_trans (Nat.mul_le_mul_right _ (of_decide_eq_true dz0 : ji69.toNat ≤ 281474976710656)) (by omega)) (Below.refl _ _) (Nat.le_refl _) ?_
     intro v348 w88 ho89 hb hg_ hnew_
     clear hg_ hnew_
     (first | rw [← Ny347.out] at ho89 | (simp only [Int.reduceToNat] at ho89; rw [← Ny347.out] at ho89))
     replace HO329 := Aside0.mk (Kd.N_elder' dz30 (Kd.R_base ho89) hb)
     have HO349 := Aside0.mk (Kd.R_lower (Kd.R_newM (M := fun k_ => (w.heap.size ≤ k_)) ho89 (keep_size (w := w) (g := g) (row := none) dz11) (fun k_ h_ => h_)) (keep_size (w := w) (g := g) (row := none) dz11))
     replace BK324 := (bkb_ BK324 hb)
     replace BK325 := (bkb_ BK325 hb)
     replace BK332 := (bkb_ BK332 hb)
     replace HK := Aside0.mk (KeepBut.trans dz11 (KeepBut.of_below hb g none) (.inl rfl))
     replace HB := Aside0.mk (below_step dz92 hb)
     replace HI0 := Aside0.mk (IsS150.below dz60 hb)
     clear hb ho89
     refine hK.out _ _ ⟨(blk_cell BK332.out 0).trans rfl, (blk_cell BK332.out 1).trans rfl⟩ (fun hHeld => ?_)
     clear hK K
     refine norm_ (a' := ?_) ?_ ?_
     rotate_left
     ·show Act.put _ (some 40) _ = _
      simp only [Act.put, List.setIfInBounds_toArray, List.set_cons_zero, List.set_cons_succ, i64_w, i32_w]
      rfl
     refine one_ (i := 6) (N := some 41) (fl_ 7 5) rfl rfl (one_of HT_.out (by kernel_rfl)) (by decide) (fun K hK => ?_)
     have hcv90 := own_string (P := Try.prog) Try.underlying40 Try.underlying5 Try.underlying9 (Kd.own_of_R HO349.out)
     refine value_ (w1 := ?_) (v := ?_) (by rfl) rfl ?_ ?_
     rotate_left 2
     ·go_simp
      constructor
      ·rfl
      rfl
     clear hcv90
     refine hK.out _ _ ⟨(blk_cell BK332.out 0).trans rfl, (blk_cell BK332.out 1).trans rfl⟩ (fun hHeld => ?_)
     clear hK K
     refine norm_ (a' := ?_) ?_ ?_
     rotate_left
     ·show Act.put _ (some 41) _ = _
      simp only [Act.put, List.setIfInBounds_toArray, List.set_cons_zero, List.set_cons_succ, i64_w, i32_w]
      rfl
     refine pure_ (i := 7) (N := some 42) (v := ?_) (a' := ?_) (fl_ 8 4) rfl rfl (any_of HT_.out (by kernel_rfl)) (fun _ _ _ h => h) (Or.inl ⟨by rfl, ?_⟩) ?_ ?_
     rotate_left
     ·exact dz489
     rotate_left
     ·exact dz490
     refine one_ (i := 8) (N := some 43) (fl_ 9 3) rfl rfl (one_of HT_.out (by kernel_rfl)) (by decide) (fun K hK => ?_)
     refine value_ (w1 := ?_) (v := ?_) (by rfl) rfl ?_ ?_
     rotate_left 2
     ·go_simp
      constructor
      ·rfl
      rfl
     refine hK.out _ _ ⟨(blk_cell (blk_alloc BK332.out _) 0).trans rfl, (blk_cell (blk_alloc BK332.out _) 1).trans rfl⟩ (fun hHeld => ?_)
     clear hK K
     refine norm_ (a' := ?_) ?_ ?_
     rotate_left
     ·exact dz495
     refine one_ (i := 9) (N := some 44) (fl_ 10 2) rfl rfl (one_of HT_.out (by kernel_rfl)) (by decide) (fun K hK => ?_)
     refine Kd.N_append_step k50 w.heap.size (by rfl) (.tmp 36) (.tmp 43) 42 50 (.agg #[(.string ⟨#[]⟩), (.slice none 0 0), (.bool false)]) 48 rfl Try.underlying42 info50 rfl (by decide) (by omega) (.slice Ao84 t327.length co84) t327 (⟨strOfNums y347, ([] : List Int), false⟩ : S50) [.string (strOfNums y347), .slice none 0 0, .bool false] (fun k_ => (w.heap.size ≤ k_) ∧ some k_ ≠ (v348 : Value).ownBlock ∧ k_ ≠ gb324 ∧ k_ ≠ gb325 ∧ k_ ≠ gb332 ∧ k_ ≠ g) (fun k_ => ((fun k_ => (w.heap.size ≤ k_) ∧ some k_ ≠ (v348 : Value).ownBlock ∧ k_ ≠ gb324 ∧ k_ ≠ gb325 ∧ k_ ≠ gb332 ∧ k_ ≠ g)) k_ ∧ some k_ ≠ (.slice Ao84 t327.length co84 : Value).ownBlock) rfl rfl ?aP (fun _ hk => hk) ?aF ?aO (Below.refl _ _) ?aS ?aL ?_
     (case aP => exact (k50_mkF _ _ (⟨strOfNums y347, ([] : List Int), false⟩ : S50) (Nat.le_refl _) (Kd.F_nil _ _ _)))
     (case aF => exact (fun k_ hk => ⟨(Nat.le_trans (keep_size (w := w) (g := g) (row := none) dz11) hk), Kd.fresh' (Kd.R_lt (by (with_reducible repeat (first | apply Kd.R_alloc | apply Kd.R_drewN | apply Kd.R_drew)); exact HO349.out)) k_ hk, Kd.freshB (g := gb324) (o := .cells #[.slice A1_0 l1_0.length c1_0, .int .i64 a1_1] 31 (0, 0)) dz13 k_ hk, Kd.freshB (g := gb325) (o := .cells #[.int .i64 0, .slice none 0 0] 44 (0, 0)) dz14 k_ hk, Kd.freshB (g := gb332) (o := .cells #[.int .i64 t326, .slice Ao84 t327.length co84] 44 (0, 0)) dz61 k_ hk, IsS150.fresh dz60 k_ hk⟩))
     (case aO => exact (by (with_reducible repeat (first | apply Kd.N_alloc | apply Kd.N_drewN | apply Kd.N_drew)); exact Kd.N_mono HO329.out (fun _ hk => ⟨hk.1.1.1, ⟨hk.2, ⟨hk.1.1.2.1, ⟨hk.1.1.2.2.1, ⟨hk.1.2, hk.1.1.2.2.2⟩⟩⟩⟩⟩)))
     (case aS => exact (keep_size (w := w) (g := g) (row := none) dz11))
     (case aL => have := LMc72.out; omega)
     intro v351 w91 ho hb hg hat
     rw [← Ny350.out] at ho
     replace BK324 := Aside0.mk (blk_grown (g := gb324) (o := .cells #[.slice A1_0 l1_0.length c1_0, .int .i64 a1_1] 31 (0, 0)) dz13 hg (Kd.N_ne HO329.out BK324.out (by decide)))
     replace BK325 := Aside0.mk (blk_grown (g := gb325) (o := .cells #[.int .i64 0, .slice none 0 0] 44 (0, 0)) dz14 hg (Kd.N_ne HO329.out BK325.out (by decide)))
     replace BK332 := Aside0.mk (blk_grown (g := gb332) (o := .cells #[.int .i64 t326, .slice Ao84 t327.length co84] 44 (0, 0)) dz61 hg (Kd.N_ne HO329.out BK332.out (by decide)))
     replace HO349 := Aside0.mk (Kd.R_over' (by (with_reducible repeat (first | apply Kd.R_alloc | apply Kd.R_drewN | apply Kd.R_drew)); exact HO349.out) (Kd.N_typed dz30) (by decide) hg)
     replace HB := Aside0.mk (below_weaken dz92 HL.out hb)
     replace HI0 := Aside0.mk (IsS150.grown dz60 hg (IsS150.own_neN HI0.out HO329.out (by decide)))
     replace HK := Aside0.mk (KeepBut.trans dz11 (KeepBut.of_grown hg g) (Kd.N_base2 HO329.out))
     have HO352 := Aside0.mk (ho)
     clear HO329
     clear ho hb hg hat
     obtain ⟨Ao92, co92, eo92⟩ := Kd.N_slice HO352.out
     (first | subst eo92 | (injection eo92 with f1_ f2_ f3_; have f4_ := f1_.symm; have f5_ := f3_.symm; clear f1_ f2_ f3_; subst f4_; subst f5_))
     refine hK.out _ _ ⟨(blk_cell BK332.out 0).trans rfl, (blk_cell BK332.out 1).trans rfl⟩ (fun hHeld => ?_)
     clear hK K
     refine norm_ (a' := ?_) ?_ ?_
     rotate_left
     ·show Act.put _ (some 44) _ = _
      simp only [Act.put, List.setIfInBounds_toArray, List.set_cons_zero, List.set_cons_succ, i64_w, i32_w]
      rfl
     refine pure_ (i := 10) (N := some 45) (v := ?_) (a' := ?_) (fl_ 11 1) rfl rfl (any_of HT_.out (by kernel_rfl)) (fun _ _ _ h => h) (Or.inl ⟨by rfl, ?_⟩) ?_ ?_
     rotate_left
     ·exact dz489
     rotate_left
     ·exact dz490
     refine last_ (i := 11) (N := none) (fl_ 12 0) rfl rfl (one_of HT_.out (by kernel_rfl)) (by decide) (fun K hK => ?_)
     have hs93 : w91.cell? ⟨gb332, 1, none⟩ = some (.slice Ao84 t327.length co84) := (blk_cell BK332.out 1).trans rfl
     have hfs93 := blk_frozen BK332.out 1
     have hns93_0 := NB324_332.out
     have hns93_1 := NB325_332.out
     have hms93_0 := NB332_324.out
     have hms93_1 := NB332_325.out
     refine skip_ (w1 := ?_) (by rfl) rfl ?_ ?_
     rotate_left
     ·go_simp
      rfl
     refine hK.out _ _ ?_
     clear hK K
     refine done_ (done_of HT_.out (by kernel_rfl)) ?_
     obtain ⟨hcz94_0, hcz94_1, hfz94_0, hfz94_1⟩ := cz2_ BK332
     have hnb95 := NB325_0.out
     have hnc95 := NB0_325.out
     obtain ⟨hcz96_0, hcz96_1, hfz96_0, hfz96_1⟩ := cz2_ BK325
     try go_wp2
     refine bodyPost_ret (results_cell_row rfl _ _ gb325 44 #[.int .i64 t326, .slice Ao92 y350.length co92] (0, 0) _ rfl (by (with_reducible repeat (first | refine blk_drewN ?_ _ | refine blk_drew ?_ | refine blk_alloc ?_ _)); refine blk_put (cs := #[.int .i64 t326, .slice none 0 0]) ?_ 1 _ rfl; (with_reducible repeat (first | refine blk_drewN ?_ _ | refine blk_drew ?_ | refine blk_alloc ?_ _)); refine blk_put (cs := #[.int .i64 0, .slice none 0 0]) ?_ 0 _ rfl; (with_reducible repeat (first | refine blk_drewN ?_ _ | refine blk_drew ?_ | refine blk_alloc ?_ _)); refine blk_far ?_ NB325_332.out _; (with_reducible repeat (first | refine blk_drewN ?_ _ | refine blk_drew ?_ | refine blk_alloc ?_ _)); exact BK325.out) Try.underlying44 rfl (by kernel_rfl)) rfl ?_
     exact ⟨_, by first | rfl | (simp [errW_none, errW_some] <;> rfl) | (simp only [← hji69]; first | rfl | (simp [errW_none, errW_some] <;> rfl)) | (simp [*, errW_none, errW_some] <;> rfl), by (with_reducible repeat (first | apply Kd.N_alloc | apply Kd.N_drewN | apply Kd.N_drew)); exact Kd.N_mono (Kd.N_far (p := ⟨gb325, 1, none⟩) (Kd.N_far (p := ⟨gb325, 0, none⟩) (Kd.N_far (p := ⟨gb332, 1, none⟩) (Kd.N_mono (Kd.N_mono HO352.out (fun k_ hk => (⟨hk, hk.2.2.2.2.1⟩ : _ ∧ k_ ≠ gb332))) (fun k_ hk => (⟨hk, hk.1.2.2.2.1⟩ : _ ∧ k_ ≠ gb325))) (fun _ hk => hk.1.2) (.slice Ao92 y350.length co92)) (fun _ hk => hk.2) (.int .i64 t326)) (fun _ hk => hk.2) (.slice Ao92 y350.length co92)) (fun _ hk => hk.1.1.1), by repeat (first | (with_reducible first | exact HI0.out | apply IsS150.alloc | apply IsS150.drewN | apply IsS150.drew | apply IsS150.set_1 | apply IsS150.set_2 | refine IsS150.far ?_ NB0_324.out _ | refine IsS150.far ?_ NB0_325.out _ | refine IsS150.far ?_ NB0_332.out _) | exact HI0.out), by repeat (first | (with_reducible first | exact HB.out | apply below_alloc | apply pw_below_drewN | apply below_drew1 | refine below_set ?_ (IsS150.ge HI0.out) | refine below_set ?_ GE324.out | refine below_set ?_ GE325.out | refine below_set ?_ GE332.out) | exact HB.out), by repeat (first | (with_reducible first | exact HK.out | apply KeepBut.set_ | apply keep_drewN | apply keep_drew | apply keep_alloc | refine keep_far ?_ GW324.out _ | refine keep_far ?_ GW325.out _ | refine keep_far ?_ GW332.out _) | exact HK.out)⟩
    rw [if_neg c72] at H
    exact absurd H (by simp)
   rw [if_neg c71] at H
   exact absurd H (by simp)
  rw [if_neg c70] at H
  exact absurd H (by simp)
 rw [if_neg c67] at H
 have c67b0 : (t333 == 2) = false := beq_eq_false_iff_ne.mpr c67
 have c67b1 : (t333 != 2) = true := bne_iff_ne.mpr c67
 by_cases c97 : t333 = 3
 ·rw [if_pos c97] at H
  have c97b0 : (t333 == 3) = true := beq_iff_eq.mpr c97
  have c97b1 : (t333 != 3) = false := bne_eq_false_iff_eq.mpr c97
  clear c97
  have H' := Aside0.mk H
  clear H
  go_enter Try.func64, Try.ntmps64
  go_wp2_with (first | ((with_reducible refine gate_dst (N := 3) rfl ?_); (try (refine gate_guard (by rfl) ?_; dsimp only)); refine box_event kr_ (N := 3) kr_ (cs := #[.slice A1_0 l1_0.length c1_0, .int .i64 a1_1]) (t := 31) ks_ ?_; intro gb324 hg w1 hbox hb; replace HB := Aside0.mk (below_step dz25 hb); have BK324 := Aside0.mk (hbox); have GW324 := Aside0.mk ((by rw [hg]; exact (keep_size (w := w) (g := g) (row := none) dz4) : w.heap.size ≤ gb324)); have GE324 := Aside0.mk ((Nat.le_trans HW0.out (by rw [hg]; exact (keep_size (w := w) (g := g) (row := none) dz4) : w.heap.size ≤ gb324) : w0.heap.size ≤ gb324)); replace HK := Aside0.mk (KeepBut.trans dz4 (KeepBut.of_below hb g none) (.inl rfl)); have NB0_324 := Aside0.mk ((by rw [hg]; exact Nat.ne_of_lt (IsS150.lt (show IsS150 w0 _ g s0_0 s0_1 s0_2 from by repeat (first | (with_reducible first | exact HI0.out | apply IsS150.alloc | apply IsS150.drewN | apply IsS150.drew | apply IsS150.set_1 | apply IsS150.set_2) | exact HI0.out))) : g ≠ gb324)); have NB324_0 := Aside0.mk ((by rw [hg]; exact Nat.ne_of_gt (IsS150.lt (show IsS150 w0 _ g s0_0 s0_1 s0_2 from by repeat (first | (with_reducible first | exact HI0.out | apply IsS150.alloc | apply IsS150.drewN | apply IsS150.drew | apply IsS150.set_1 | apply IsS150.set_2) | exact HI0.out))) : gb324 ≠ g)); replace HI0 := Aside0.mk (IsS150.below dz26 hb); clear hb hbox hg) | ((with_reducible refine gate_dst (N := 4) rfl ?_); (try (refine gate_guard (by rfl) ?_; dsimp only)); refine box_event kr_ (N := 4) kr_ (cs := #[.int .i64 0, .slice none 0 0]) (t := 44) ks_ ?_; intro gb325 hg w2 hbox hb; replace HB := Aside0.mk (below_step dz54 hb); have BK325 := Aside0.mk (hbox); have GW325 := Aside0.mk ((by rw [hg]; exact (keep_size (w := w) (g := g) (row := none) dz12) : w.heap.size ≤ gb325)); have GE325 := Aside0.mk ((Nat.le_trans HW0.out (by rw [hg]; exact (keep_size (w := w) (g := g) (row := none) dz12) : w.heap.size ≤ gb325) : w0.heap.size ≤ gb325)); replace HK := Aside0.mk (KeepBut.trans dz12 (KeepBut.of_below hb g none) (.inl rfl)); have NB324_325 := (nbl_ hg BK324); have NB325_324 := (nbr_ hg BK324); replace BK324 := (bkb_ BK324 hb); have NB0_325 := Aside0.mk ((by rw [hg]; exact Nat.ne_of_lt (IsS150.lt (show IsS150 w0 _ g s0_0 s0_1 s0_2 from by repeat (first | (with_reducible first | exact HI0.out | apply IsS150.alloc | apply IsS150.drewN | apply IsS150.drew | apply IsS150.set_1 | apply IsS150.set_2 | refine IsS150.far ?_ NB0_324.out _) | exact HI0.out))) : g ≠ gb325)); have NB325_0 := Aside0.mk ((by rw [hg]; exact Nat.ne_of_gt (IsS150.lt (show IsS150 w0 _ g s0_0 s0_1 s0_2 from by repeat (first | (with_reducible first | exact HI0.out | apply IsS150.alloc | apply IsS150.drewN | apply IsS150.drew | apply IsS150.set_1 | apply IsS150.set_2 | refine IsS150.far ?_ NB0_324.out _) | exact HI0.out))) : gb325 ≠ g)); replace HI0 := Aside0.mk (IsS150.below dz55 hb); clear hb hbox hg; have hnb100 := NB324_325.out; have hnc100 := NB325_324.out; have hnb101 := NB324_0.out; have hnc101 := NB0_324.out; obtain ⟨hcz102_0, hcz102_1, hfz102_0, hfz102_1⟩ := cz2_ BK324) | ((with_reducible refine gate_callee (f := 117) rfl ?_); refine goesL_ (some 8) rfl rfl Try.func117 (by kernel_rfl) rfl #[.pointer (some ⟨g, 0, none⟩), .agg #[.slice A1_0 l1_0.length c1_0, .int .i64 a1_1]] rfl dz1 ?_; (with_reducible refine (spec_l8DrawRight.calls k g s0_0 s0_1 s0_2 _ _ l1_0 a1_1 t326 t327 t330 t331 w0 _ ?side1 ?side2 ?side3 ?side4 ?side5 A3.out).mono ?_); (case side1 => exact dz473); (case side2 => exact dz474); (case side3 => exact Kd.C_keep 0 HR1_0.out dz5 hf1_0); (case side4 => exact HC1_0.out); (case side5 => exact hf1_0); rintro e w3 ⟨v328, rfl, ho0, hi, hb, hk⟩; refine ⟨_, rfl, ?_⟩; have HO329 := Aside0.mk (Kd.N_lower (Kd.N_mono (ok' := fun k_ => (w.heap.size ≤ k_) ∧ k_ ≠ gb324 ∧ k_ ≠ gb325 ∧ k_ ≠ g) ho0 (fun k_ hk_ => ⟨(Nat.le_trans (keep_size (w := w) (g := g) (row := none) dz5) hk_), (Kd.freshB (g := gb324) (o := .cells #[.slice A1_0 l1_0.length c1_0, .int .i64 a1_1] 31 (0, 0)) dz13 k_ hk_), (Kd.freshB (g := gb325) (o := .cells #[.int .i64 0, .slice none 0 0] 44 (0, 0)) dz14 k_ hk_), (IsS150.fresh dz28 k_ hk_)⟩)) (keep_size (w := w) (g := g) (row := none) dz5)); replace BK324 := Aside0.mk (KeepBut.blk hk (g' := gb324) (o := .cells #[.slice A1_0 l1_0.length c1_0, .int .i64 a1_1] 31 (0, 0)) dz13 NB324_0.out (by simp)); replace BK325 := Aside0.mk (KeepBut.blk hk (g' := gb325) (o := .cells #[.int .i64 0, .slice none 0 0] 44 (0, 0)) dz14 NB325_0.out (by simp)); replace HK := Aside0.mk (KeepBut.trans dz5 hk (.inl rfl)); replace HB := Aside0.mk (hb); replace HI0 := Aside0.mk (hi); (try clear hb); (try clear hb2); (try clear hk); (try clear hi); (try clear ho0)) | ((with_reducible refine gate_dst (N := 5) rfl ?_); (try (refine gate_guard (by rfl) ?_; dsimp only)); refine box_event kr_ (N := 5) kr_ (cs := #[.int .i64 0, .slice none 0 0]) (t := 44) ks_ ?_; intro gb332 hg w4 hbox hb; replace HO329 := Aside0.mk (Kd.N_below (Kd.N_elderB dz30 gb332 (Nat.le_of_eq hg.symm)) hb); replace HB := Aside0.mk (below_step dz56 hb); have BK332 := Aside0.mk (hbox); have GW332 := Aside0.mk ((by rw [hg]; exact (keep_size (w := w) (g := g) (row := none) dz5) : w.heap.size ≤ gb332)); have GE332 := Aside0.mk ((Nat.le_trans HW0.out (by rw [hg]; exact (keep_size (w := w) (g := g) (row := none) dz5) : w.heap.size ≤ gb332) : w0.heap.size ≤ gb332)); replace HK := Aside0.mk (KeepBut.trans dz5 (KeepBut.of_below hb g none) (.inl rfl)); have NB324_332 := (nbl_ hg BK324); have NB332_324 := (nbr_ hg BK324); replace BK324 := (bkb_ BK324 hb); have NB325_332 := (nbl_ hg BK325); have NB332_325 := (nbr_ hg BK325); replace BK325 := (bkb_ BK325 hb); have NB0_332 := Aside0.mk ((by rw [hg]; exact Nat.ne_of_lt (IsS150.lt (show IsS150 w0 _ g s0_0 t330 t331 from by repeat (first | (with_reducible first | exact HI0.out | apply IsS150.alloc | apply IsS150.drewN | apply IsS150.drew | apply IsS150.set_1 | apply IsS150.set_2 | refine IsS150.far ?_ NB0_324.out _ | refine IsS150.far ?_ NB0_325.out _) | exact HI0.out))) : g ≠ gb332)); have NB332_0 := Aside0.mk ((by rw [hg]; exact Nat.ne_of_gt (IsS150.lt (show IsS150 w0 _ g s0_0 t330 t331 from by repeat (first | (with_reducible first | exact HI0.out | apply IsS150.alloc | apply IsS150.drewN | apply IsS150.drew | apply IsS150.set_1 | apply IsS150.set_2 | refine IsS150.far ?_ NB0_324.out _ | refine IsS150.far ?_ NB0_325.out _) | exact HI0.out))) : gb332 ≠ g)); replace HI0 := Aside0.mk (IsS150.below dz28 hb); clear hb hbox hg; have hnb105 := NB332_324.out; have hnc105 := NB324_332.out; have hnb106 := NB332_325.out; have hnc106 := NB325_332.out; have hnb107 := NB332_0.out; have hnc107 := NB0_332.out; obtain ⟨hcz108_0, hcz108_1, hfz108_0, hfz108_1⟩ := cz2_ BK332; obtain ⟨Ao109, co109, eo109⟩ := Kd.N_slice HO329.out; subst eo109) | ((with_reducible refine gate_callee (f := 67) rfl ?_); refine goesL_ (some 10) rfl rfl Try.func67 (by kernel_rfl) rfl #[.pointer (some ⟨g, 0, none⟩), .int .i64 25] rfl dz1 ?_; (with_reducible refine (spec_l1Below.calls g s0_0 t330 t331 25 t333 t334 t335 w0 _ ?side1 ?side2 A4.out).mono ?_); (case side1 => exact dz475); (case side2 => exact dz476); rintro e w5 ⟨rfl, hi, hb, hk⟩; refine ⟨_, rfl, ?_⟩; replace BK324 := Aside0.mk (KeepBut.blk hk (g' := gb324) (o := .cells #[.slice A1_0 l1_0.length c1_0, .int .i64 a1_1] 31 (0, 0)) dz57 NB324_0.out (by simp)); replace BK325 := Aside0.mk (KeepBut.blk hk (g' := gb325) (o := .cells #[.int .i64 0, .slice none 0 0] 44 (0, 0)) dz58 NB325_0.out (by simp)); replace HO329 := Aside0.mk (Kd.N_mono (Kd.N_keep (Kd.N_mono (ok := fun k_ => ((((w.heap.size ≤ k_)) ∧ (k_ ≠ gb324 ∧ (k_ ≠ gb325 ∧ k_ ≠ g))) ∧ k_ ≠ gb332)) (by (with_reducible repeat (first | apply Kd.N_alloc | apply Kd.N_drewN | apply Kd.N_drew)); exact (Kd.N_mono (Kd.N_far (p := ⟨gb332, 1, none⟩) (Kd.N_far (p := ⟨gb332, 0, none⟩) (Kd.N_mono HO329.out (fun k_ hk => (⟨hk, hk.2⟩ : _ ∧ k_ ≠ gb332))) (fun _ hk => hk.2) (.int .i64 t326)) (fun _ hk => hk.2) (.slice Ao109 t327.length co109)) (fun _ h_ => h_.1))) (fun k_ hk_ => (⟨hk_, hk_.1.2.2.2⟩ : _ ∧ k_ ≠ g))) hk (fun _ h => h.2)) (fun _ h => h.1)); replace BK332 := Aside0.mk (KeepBut.blk hk (g' := gb332) (o := .cells #[.int .i64 t326, .slice Ao109 t327.length co109] 44 (0, 0)) dz59 NB332_0.out (by simp)); replace HK := Aside0.mk (KeepBut.trans dz11 hk (.inl rfl)); replace HB := Aside0.mk (hb); replace HI0 := Aside0.mk (hi); (try clear hb); (try clear hb2); (try clear hk); (try clear hi)))
  go_loopg [] k (fun kq w' => ∃ (x333001_1 : List (S50)) (u333001 : Value), Aside0 (spec_l8Draw.l0 kq s0_0 t334 t335 t326 x333001_1 = some (r1, r2, r3, r4)) ∧ Aside0 (kq ≤ k) ∧ Aside0 (Kd.N k50 50 w' w.heap.size (fun k_ => (w.heap.size ≤ k_) ∧ k_ ≠ gb324 ∧ k_ ≠ gb325 ∧ k_ ≠ gb332 ∧ k_ ≠ g) u333001 x333001_1) ∧ Aside0 (w'.heap[gb324]? = some (.cells #[(.slice A1_0 l1_0.length c1_0), .int .i64 a1_1] 31 (0, 0))) ∧ Aside0 (w'.heap[gb325]? = some (.cells #[.int .i64 0, (.slice none 0 0)] 44 (0, 0))) ∧ Aside0 (w'.heap[gb332]? = some (.cells #[.int .i64 t326, u333001] 44 (0, 0))) ∧ Aside0 (IsS150 w0 w' g s0_0 t334 t335) ∧ Aside0 (KeepBut w w' g none) ∧ Aside0 (Below w0.heap.size w0 w'))
  case atStart => exact ⟨(t327), (.slice Ao109 t327.length co109), H', ⟨Nat.le_refl _⟩, ⟨by (with_reducible repeat (first | apply Kd.N_alloc | apply Kd.N_drewN | apply Kd.N_drew)); exact Kd.N_mono HO329.out (fun _ hk => ⟨hk.1.1, ⟨hk.1.2.1, ⟨hk.1.2.2.1, ⟨hk.2, hk.1.2.2.2⟩⟩⟩⟩)⟩, ⟨by (with_reducible repeat (first | refine blk_drewN ?_ _ | refine blk_drew ?_ | refine blk_alloc ?_ _)); exact BK324.out⟩, ⟨by (with_reducible repeat (first | refine blk_drewN ?_ _ | refine blk_drew ?_ | refine blk_alloc ?_ _)); exact BK325.out⟩, ⟨by (with_reducible repeat (first | refine blk_drewN ?_ _ | refine blk_drew ?_ | refine blk_alloc ?_ _)); exact BK332.out⟩, ⟨by repeat (first | (with_reducible first | exact HI0.out | apply IsS150.alloc | apply IsS150.drewN | apply IsS150.drew | apply IsS150.set_1 | apply IsS150.set_2 | refine IsS150.far ?_ NB0_324.out _ | refine IsS150.far ?_ NB0_325.out _ | refine IsS150.far ?_ NB0_332.out _) | exact HI0.out)⟩, ⟨by repeat (first | (with_reducible first | exact HK.out | apply KeepBut.set_ | apply keep_drewN | apply keep_drew | apply keep_alloc | refine keep_far ?_ GW324.out _ | refine keep_far ?_ GW325.out _ | refine keep_far ?_ GW332.out _) | exact HK.out)⟩, ⟨by repeat (first | (with_reducible first | exact HB.out | apply below_alloc | apply pw_below_drewN | apply below_drew1 | refine below_set ?_ (IsS150.ge HI0.out) | refine below_set ?_ GE324.out | refine below_set ?_ GE325.out | refine below_set ?_ GE332.out) | exact HB.out)⟩⟩
  case round =>
   clear H'
   try clear c1
   try clear c2
   try clear p2
   try clear c3
   try clear p3
   try clear q3
   try clear hx3
   try clear qi3
   try clear hf3
   try clear c4
   try clear c5
   try clear c5b0
   try clear c5b1
   try clear c6
   try clear p6
   try clear c7
   try clear c8
   try clear c9
   try clear hcv9
   try clear c10
   try clear c11
   try clear c14
   try clear c15
   try clear c16
   try clear c25
   try clear c27
   try clear c27b0
   try clear c27b1
   try clear c28
   try clear c28b0
   try clear c28b1
   try clear c29
   try clear c29b0
   try clear c29b1
   try clear c30
   try clear p30
   try clear q30
   try clear hx30
   try clear qi30
   try clear hf30
   try clear c33
   try clear c34
   try clear p34
   try clear q34
   try clear hx34
   try clear qi34
   try clear c38
   try clear c39
   try clear c40
   try clear c46
   try clear c49
   try clear c53
   try clear c54
   try clear c58
   try clear c59
   try clear c60
   try clear c64
   try clear p64
   try clear c65
   try clear c67
   try clear c67b0
   try clear c67b1
   try clear c70
   try clear c70b0
   try clear c70b1
   try clear c71
   try clear c71b0
   try clear c71b1
   try clear c72
   try clear c75
   try clear c76
   try clear c80
   try clear c81
   try clear c82
   try clear hcv90
   try clear c95
   try clear c97
   try clear c97b0
   try clear c97b1
   try clear c100
   try clear c101
   try clear c105
   try clear c106
   try clear c107
   try clear hcz102_0
   try clear hcz102_1
   try clear hcz108_0
   try clear hcz108_1
   try clear hcz11_0
   try clear hcz11_1
   try clear hcz17_0
   try clear hcz17_1
   try clear hcz24_0
   try clear hcz24_1
   try clear hcz26_0
   try clear hcz26_1
   try clear hcz35_0
   try clear hcz35_1
   try clear hcz41_0
   try clear hcz41_1
   try clear hcz44_0
   try clear hcz44_1
   try clear hcz48_0
   try clear hcz48_1
   try clear hcz50_0
   try clear hcz50_1
   try clear hcz55_0
   try clear hcz55_1
   try clear hcz61_0
   try clear hcz61_1
   try clear hcz64_0
   try clear hcz64_1
   try clear hcz66_0
   try clear hcz66_1
   try clear hcz77_0
   try clear hcz77_1
   try clear hcz83_0
   try clear hcz83_1
   try clear hcz94_0
   try clear hcz94_1
   try clear hcz96_0
   try clear hcz96_1
   try clear hfz102_0
   try clear hfz102_1
   try clear hfz108_0
   try clear hfz108_1
   try clear hfz11_0
   try clear hfz11_1
   try clear hfz17_0
   try clear hfz17_1
   try clear hfz24_0
   try clear hfz24_1
   try clear hfz26_0
   try clear hfz26_1
   try clear hfz35_0
   try clear hfz35_1
   try clear hfz41_0
   try clear hfz41_1
   try clear hfz44_0
   try clear hfz44_1
   try clear hfz48_0
   try clear hfz48_1
   try clear hfz50_0
   try clear hfz50_1
   try clear hfz55_0
   try clear hfz55_1
   try clear hfz61_0
   try clear hfz61_1
   try clear hfz64_0
   try clear hfz64_1
   try clear hfz66_0
   try clear hfz66_1
   try clear hfz77_0
   try clear hfz77_1
   try clear hfz83_0
   try clear hfz83_1
   try clear hfz94_0
   try clear hfz94_1
   try clear hfz96_0
   try clear hfz96_1
   try clear hx30_0
   try clear hx30_1
   try clear hx30_2
   try clear hx342_0
   try clear hx342_1
   try clear hx342_2
   try clear p30
   try clear p342
   try clear q30
   try clear q342
   obtain ⟨x333001_1, u333001, HA, HK1, HO_333001, BK324, BK325, BK332, HI0, HK, HB⟩ := hrel
   cases gk with
   | zero => exact absurd HA.out (by simp [spec_l8Draw.l0])
   | succ k1 =>
    have H := HA.out
    clear HA
    simp only [spec_l8Draw.l0] at H
    by_cases c111 : (x333001_1.length : Int) < 60
    ·rw [if_pos c111] at H
     have c111b0 : decide ((x333001_1.length : Int) < 60) = true := decide_eq_true c111
     have c111b1 : decide (x333001_1.length < 60) = true := decide_eq_true (by omega)
     clear c111
     by_cases c112 : (x333001_1.length : Int) > 0
     ·rw [if_pos c112] at H
      have c112b0 : decide (0 < (x333001_1.length : Int)) = true := decide_eq_true c112
      have c112b1 : decide (0 < x333001_1.length) = true := decide_eq_true (by omega)
      clear c112
      by_cases c113 : 0 < (x333001_1.length : Int)
      ·rw [if_pos c113] at H
       have c113b0 : decide (0 < (x333001_1.length : Int)) = true := decide_eq_true c113
       have c113b1 : decide (0 < x333001_1.length) = true := decide_eq_true (by omega)
       clear c113
       by_cases c114 : x333001_1.length < 2932031007402
       ·rw [if_pos c114] at H
        have LMc114 := Aside0.mk c114
        clear c114
        obtain ⟨y354, hy354⟩ : ∃ y_ : List (S50), y_ = (x333001_1 ++ [(⟨(rd_T50 x333001_1 0).f0, (rd_T50 x333001_1 0).f1, (rd_T50 x333001_1 0).f2⟩ : S50)]) := ⟨_, rfl⟩
        replace H : (spec_l8Draw.l0 k1 s0_0 t334 t335 t326 y354) = some (r1, r2, r3, r4) := by first | (rw [hy354]; with_reducible exact H) | (have H2_ := (Option.bind_some _ _).symm.trans H; rw [hy354]; with_reducible exact H2_) | (have H2_ := (Option.bind_some _ _).symm.trans H; with_reducible exact H2_) | with_reducible exact H | (rw [hy354]; exact H) | exact H
        have Ny354 := Aside0.mk hy354
        clear hy354
        have H' := Aside0.mk H
        clear H
        have hnb115 := NB332_324.out
        have hnc115 := NB324_332.out
        have hnb116 := NB332_325.out
        have hnc116 := NB325_332.out
        have hnb117 := NB332_0.out
        have hnc117 := NB0_332.out
        obtain ⟨hcz118_0, hcz118_1, hfz118_0, hfz118_1⟩ := cz2_ BK332
        obtain ⟨Ao119, co119, eo119⟩ := Kd.N_slice HO_333001.out
        subst eo119
        try go_wp2
        replace HO_333001 := Aside0.mk (Kd.N_drew HO_333001.out)
        replace BK324 := Aside0.mk (blk_drew BK324.out)
        replace BK325 := Aside0.mk (blk_drew BK325.out)
        replace BK332 := Aside0.mk (blk_drew BK332.out)
        replace HI0 := Aside0.mk (IsS150.drew HI0.out)
        replace HK := Aside0.mk (keep_drew HK.out)
        replace HB := Aside0.mk (below_drew1 HB.out)
        have p353 : 0 ≤ (0 : Int) := (by omega)
        have q353 : 0 < (x333001_1.length : Int) := of_decide_eq_true dz0
        obtain ⟨ad353, A353_1, c353_1, e353, hx353_0, hx353_1, hx353_2, hl353_1, hi353_1⟩ := at_T50 (Kd.N_reads' HO_333001.out).2.2 0 p353 q353
        cases e353
        obtain ⟨ce353, hce353, hMe353, hcc353⟩ := Kd.N_get HO_333001.out z50 0 p353 (by first | exact q353 | exact of_decide_eq_true dz0 | (have e_ := (Kd.N_reads' HO_333001.out).1; omega))
        obtain ⟨ua353_1, uc353_1, rfl, ul353_1, ge353_1⟩ := k50_openF hMe353
        have hv353_1 := hcc353 1 _ rfl
        rw [add_field _ _ 1 (by omega)] at hv353_1
        replace hv353_1 := Option.some.inj (hv353_1.symm.trans hx353_1)
        injection hv353_1 with hva_ hvn_ hvc_
        rw [hva_] at ge353_1
        rw [hvc_] at ul353_1
        have HL353_1 := Aside0.mk (show Kd.V (Kd.int .i64) 3 _ w.heap.size _ _ ((rd_T50 x333001_1 0).f1) from Kd.V_mk ul353_1 ge353_1)
        clear hva_ hvn_ hvc_ ge353_1 ul353_1
        clear hcc353 hce353
        have qi353 : (0 < x333001_1.length) = True := eq_true (by omega)
        (try rw [show ((0 : Int)).toNat = 0 from rfl] at hx353_0)
        (try rw [show 0 * 3 = 0 from rfl] at hx353_0)
        (try rw [Addr.add_zero'] at hx353_0)
        (try rw [show ((0 : Int)).toNat = 0 from rfl] at hx353_1)
        (try rw [show 0 * 3 = 0 from rfl] at hx353_1)
        (try rw [Addr.add_zero'] at hx353_1)
        (try rw [show ((0 : Int)).toNat = 0 from rfl] at hx353_2)
        (try rw [show 0 * 3 = 0 from rfl] at hx353_2)
        (try rw [Addr.add_zero'] at hx353_2)
        have HR353_1 := Aside0.mk hi353_1
        have HC353_1 := Aside0.mk hl353_1
        clear hi353_1 hl353_1
        replace p353 := eq_true p353
        replace q353 := eq_true q353
        refine start_ (n := 10) (S := fun w' => w'.cell? ⟨gb332, 0, none⟩ = some (.int .i64 t326) ∧ w'.cell? ⟨gb332, 1, none⟩ = some (.slice (some ad353) x333001_1.length co119) ∧ w'.cell? ad353 = some (.string ((rd_T50 x333001_1 0).f0)) ∧ w'.cell? ⟨ad353.block, ad353.off + 1, none⟩ = some (.slice A353_1 ((rd_T50 x333001_1 0).f1).length c353_1) ∧ w'.cell? ⟨ad353.block, ad353.off + 2, none⟩ = some (.bool ((rd_T50 x333001_1 0).f2))) (ds := [7, 9]) (fl_ 0 10) (by kernel_rfl) rfl rfl ⟨(blk_cell BK332.out 0).trans rfl, (blk_cell BK332.out 1).trans rfl, hx353_0, hx353_1, hx353_2⟩ (fun hHeld => ?_); refine with_tabW spec_l8Draw.tab12 spec_l8Draw.bits12 (fun HT_ HW_ => ?_)
        generalize wr.drew = w120 at HO_333001 BK324 BK325 BK332 HI0 HK HB HL353_1 HR353_1 hx353_0 hx353_1 hx353_2 hHeld ⊢
        refine pure_ (i := 0) (N := some 58) (v := ?_) (a' := ?_) (fl_ 1 9) rfl rfl (any_of HT_.out (by kernel_rfl)) (fun _ _ _ h => h) (Or.inl ⟨by rfl, ?_⟩) ?_ ?_
        rotate_left
        ·exact dz489
        rotate_left
        ·exact dz490
        refine pure_ (i := 2) (N := some 60) (v := ?_) (a' := ?_) #[true, false, true, false, false, false, false, false, false, false] rfl rfl (any_of HT_.out (by kernel_rfl)) (fun _ _ _ h => h) (Or.inl ⟨by rfl, ?_⟩) ?_ ?_
        rotate_left
        ·exact dz489
        rotate_left
        ·exact dz490
        refine take_ (i := 1) (N := some 59) (v := ?_) (a' := ?_) (fl_ 3 7) rfl rfl (take_ofW HT_.out HW_.out (by kernel_rfl)) (fun _ _ _ h => h) (Or.inl ⟨by rfl, ?_⟩) hHeld ?_ ?_
        rotate_left
        ·exact dz494
        rotate_left
        ·exact dz490
        refine take_ (i := 3) (N := some 61) (v := ?_) (a' := ?_) (fl_ 4 6) rfl rfl (take_ofW HT_.out HW_.out (by kernel_rfl)) (fun _ _ _ h => h) (Or.inl ⟨by rfl, ?_⟩) hHeld ?_ ?_
        rotate_left
        ·exact dz494
        rotate_left
        ·exact dz490
        refine pure_ (i := 4) (N := some 62) (v := ?_) (a' := ?_) (fl_ 5 5) rfl rfl (any_of HT_.out (by kernel_rfl)) (fun _ _ _ h => h) (Or.inl ⟨by rfl, ?_⟩) ?_ ?_
        rotate_left
        ·exact dz489
        rotate_left
        ·exact dz490
        refine take_ (i := 5) (N := some 63) (v := ?_) (a' := ?_) (fl_ 6 4) rfl rfl (take_ofW HT_.out HW_.out (by kernel_rfl)) (fun _ _ _ h => h) (Or.inl ⟨by rfl, ?_⟩) hHeld ?_ ?_
        rotate_left
        ·exact dz494
        rotate_left
        ·exact dz490
        refine one_ (i := 6) (N := some 64) (fl_ 7 3) rfl rfl (one_of HT_.out (by kernel_rfl)) (by decide) (fun K hK => ?_)
        refine value_ (w1 := ?_) (v := ?_) (by rfl) rfl ?_ ?_
        rotate_left 2
        ·go_simp
         constructor
         ·rfl
         rfl
        refine hK.out _ _ ⟨(blk_cell (blk_alloc BK332.out _) 0).trans rfl, (blk_cell (blk_alloc BK332.out _) 1).trans rfl, (World.cell?_alloc_lt _ _ _ (World.block_lt_of_cell? _ _ (hHeld.2.2.1))).trans (hHeld.2.2.1), (World.cell?_alloc_lt _ _ _ (World.block_lt_of_cell? _ _ (hHeld.2.2.2.1))).trans (hHeld.2.2.2.1), (World.cell?_alloc_lt _ _ _ (World.block_lt_of_cell? _ _ (hHeld.2.2.2.2))).trans (hHeld.2.2.2.2)⟩ (fun hHeld => ?_)
        clear hK K
        refine norm_ (a' := ?_) ?_ ?_
        rotate_left
        ·show Act.put _ (some 64) _ = _
         simp only [Act.put, List.setIfInBounds_toArray, List.set_cons_zero, List.set_cons_succ, i64_w, i32_w]
         rfl
        refine last_ (i := 7) (N := some 65) (fl_ 8 2) rfl rfl (one_of HT_.out (by kernel_rfl)) (by decide) (fun K hK => ?_)
        refine Kd.N_append_step k50 w.heap.size (by rfl) (.tmp 59) (.tmp 64) 42 50 (.agg #[(.string ⟨#[]⟩), (.slice none 0 0), (.bool false)]) 48 rfl Try.underlying42 info50 rfl (by decide) (by omega) (.slice (some ad353) x333001_1.length co119) x333001_1 (⟨(rd_T50 x333001_1 0).f0, (rd_T50 x333001_1 0).f1, (rd_T50 x333001_1 0).f2⟩ : S50) [.string ((rd_T50 x333001_1 0).f0), .slice A353_1 ((rd_T50 x333001_1 0).f1).length c353_1, .bool ((rd_T50 x333001_1 0).f2)] (fun k_ => (w.heap.size ≤ k_) ∧ k_ ≠ gb324 ∧ k_ ≠ gb325 ∧ k_ ≠ gb332 ∧ k_ ≠ g) (fun k_ => ((fun k_ => (w.heap.size ≤ k_) ∧ k_ ≠ gb324 ∧ k_ ≠ gb325 ∧ k_ ≠ gb332 ∧ k_ ≠ g)) k_ ∧ some k_ ≠ (.slice (some ad353) x333001_1.length co119 : Value).ownBlock) rfl rfl ?aP (fun _ hk => hk) ?aF ?aO (Below.refl _ _) ?aS ?aL ?_
        (case aP => exact (k50_mkF _ _ (⟨(rd_T50 x333001_1 0).f0, (rd_T50 x333001_1 0).f1, (rd_T50 x333001_1 0).f2⟩ : S50) (Kd.V_reads' (Kd.V_mono (ok' := (fun k_ => ((fun k_ => (w.heap.size ≤ k_) ∧ k_ ≠ gb324 ∧ k_ ≠ gb325 ∧ k_ ≠ gb332 ∧ k_ ≠ g)) k_ ∧ some k_ ≠ (.slice (some ad353) x333001_1.length co119 : Value).ownBlock)) (HL353_1.out) (fun k_ hk => ⟨⟨hk.1.1, ⟨hk.1.2.1, ⟨hk.1.2.2.1, ⟨hk.1.2.2.2.1, hk.1.2.2.2.2⟩⟩⟩⟩, hk.2⟩))).2.1 (Kd.V_F (Kd.V_mono (ok' := (fun k_ => ((fun k_ => (w.heap.size ≤ k_) ∧ k_ ≠ gb324 ∧ k_ ≠ gb325 ∧ k_ ≠ gb332 ∧ k_ ≠ g)) k_ ∧ some k_ ≠ (.slice (some ad353) x333001_1.length co119 : Value).ownBlock)) (HL353_1.out) (fun k_ hk => ⟨⟨hk.1.1, ⟨hk.1.2.1, ⟨hk.1.2.2.1, ⟨hk.1.2.2.2.1, hk.1.2.2.2.2⟩⟩⟩⟩, hk.2⟩)))))
        (case aF => exact (fun k_ hk => ⟨(Nat.le_trans (keep_size (w := w) (g := g) (row := none) dz11) hk), Kd.freshB (g := gb324) (o := .cells #[.slice A1_0 l1_0.length c1_0, .int .i64 a1_1] 31 (0, 0)) dz13 k_ hk, Kd.freshB (g := gb325) (o := .cells #[.int .i64 0, .slice none 0 0] 44 (0, 0)) dz14 k_ hk, Kd.freshB (g := gb332) (o := .cells #[.int .i64 t326, .slice (some ad353) x333001_1.length co119] 44 (0, 0)) dz61 k_ hk, IsS150.fresh dz60 k_ hk⟩))
        (case aO => exact (by (with_reducible repeat (first | apply Kd.N_alloc | apply Kd.N_drewN | apply Kd.N_drew)); exact HO_333001.out))
        (case aS => exact (keep_size (w := w) (g := g) (row := none) dz11))
        (case aL => have := LMc114.out; omega)
        intro v355 w121 ho hb hg hat
        rw [← Ny354.out] at ho
        replace BK324 := Aside0.mk (blk_grown (g := gb324) (o := .cells #[.slice A1_0 l1_0.length c1_0, .int .i64 a1_1] 31 (0, 0)) dz13 hg (Kd.N_ne HO_333001.out BK324.out (by decide)))
        replace BK325 := Aside0.mk (blk_grown (g := gb325) (o := .cells #[.int .i64 0, .slice none 0 0] 44 (0, 0)) dz14 hg (Kd.N_ne HO_333001.out BK325.out (by decide)))
        replace BK332 := Aside0.mk (blk_grown (g := gb332) (o := .cells #[.int .i64 t326, .slice (some ad353) x333001_1.length co119] 44 (0, 0)) dz61 hg (Kd.N_ne HO_333001.out BK332.out (by decide)))
        replace HL353_1 := Aside0.mk (Kd.V_afterv (ok := (fun k_ => (w.heap.size ≤ k_) ∧ k_ ≠ gb324 ∧ k_ ≠ gb325 ∧ k_ ≠ gb332 ∧ k_ ≠ g)) (by (with_reducible repeat (first | apply Kd.V_alloc | apply Kd.V_drewN | apply Kd.V_drew)); exact HL353_1.out) hg hat)
        replace HB := Aside0.mk (below_weaken dz92 HL.out hb)
        replace HI0 := Aside0.mk (IsS150.grown dz60 hg (IsS150.own_neN HI0.out HO_333001.out (by decide)))
        replace HK := Aside0.mk (KeepBut.trans dz11 (KeepBut.of_grown hg g) (Kd.N_base2 HO_333001.out))
        have HO356 := Aside0.mk (ho)
        clear HO_333001
        clear ho hb hg hat
        obtain ⟨Ao122, co122, eo122⟩ := Kd.N_slice HO356.out
        (first | subst eo122 | (injection eo122 with f1_ f2_ f3_; have f4_ := f1_.symm; have f5_ := f3_.symm; clear f1_ f2_ f3_; subst f4_; subst f5_))
        refine hK.out _ _ ?_
        clear hK K
        refine norm_ (a' := ?_) ?_ ?_
        rotate_left
        ·show Act.put _ (some 65) _ = _
         simp only [Act.put, List.setIfInBounds_toArray, List.set_cons_zero, List.set_cons_succ, i64_w, i32_w]
         rfl
        refine pure_ (i := 8) (N := some 66) (v := ?_) (a' := ?_) (fl_ 9 1) rfl rfl (any_of HT_.out (by kernel_rfl)) (fun _ _ _ h => h) (Or.inl ⟨by rfl, ?_⟩) ?_ ?_
        rotate_left
        ·exact dz489
        rotate_left
        ·exact dz490
        refine last_ (i := 9) (N := none) (fl_ 10 0) rfl rfl (one_of HT_.out (by kernel_rfl)) (by decide) (fun K hK => ?_)
        have hs123 : w121.cell? ⟨gb332, 1, none⟩ = some (.slice (some ad353) x333001_1.length co119) := (blk_cell BK332.out 1).trans rfl
        have hfs123 := blk_frozen BK332.out 1
        have hns123_0 := NB324_332.out
        have hns123_1 := NB325_332.out
        have hms123_0 := NB332_324.out
        have hms123_1 := NB332_325.out
        refine skip_ (w1 := ?_) (by rfl) rfl ?_ ?_
        rotate_left
        ·go_simp
         rfl
        refine hK.out _ _ ?_
        clear hK K
        refine done_ (done_of HT_.out (by kernel_rfl)) ?_
        try go_wp2
        go_roundg k1
        case measure => have := HK1.out; omega
        case rel => exact ⟨(y354), (.slice Ao122 y354.length co122), H', ⟨by have := HK1.out; omega⟩, ⟨by (with_reducible repeat (first | apply Kd.N_alloc | apply Kd.N_drewN | apply Kd.N_drew)); exact Kd.N_mono (Kd.N_far (p := ⟨gb332, 1, none⟩) (Kd.N_mono HO356.out (fun k_ hk => (⟨hk, hk.2.2.2.1⟩ : _ ∧ k_ ≠ gb332))) (fun _ hk => hk.2) (.slice Ao122 y354.length co122)) (fun _ hk => ⟨hk.1.1, ⟨hk.1.2.1, ⟨hk.1.2.2.1, ⟨hk.1.2.2.2.1, hk.1.2.2.2.2⟩⟩⟩⟩)⟩, ⟨by (with_reducible repeat (first | refine blk_drewN ?_ _ | refine blk_drew ?_ | refine blk_alloc ?_ _)); refine blk_far ?_ NB324_332.out _; (with_reducible repeat (first | refine blk_drewN ?_ _ | refine blk_drew ?_ | refine blk_alloc ?_ _)); exact BK324.out⟩, ⟨by (with_reducible repeat (first | refine blk_drewN ?_ _ | refine blk_drew ?_ | refine blk_alloc ?_ _)); refine blk_far ?_ NB325_332.out _; (with_reducible repeat (first | refine blk_drewN ?_ _ | refine blk_drew ?_ | refine blk_alloc ?_ _)); exact BK325.out⟩, ⟨by (with_reducible repeat (first | refine blk_drewN ?_ _ | refine blk_drew ?_ | refine blk_alloc ?_ _)); refine blk_put (cs := #[.int .i64 t326, .slice (some ad353) x333001_1.length co119]) ?_ 1 _ rfl; (with_reducible repeat (first | refine blk_drewN ?_ _ | refine blk_drew ?_ | refine blk_alloc ?_ _)); exact BK332.out⟩, ⟨by repeat (first | (with_reducible first | exact HI0.out | apply IsS150.alloc | apply IsS150.drewN | apply IsS150.drew | apply IsS150.set_1 | apply IsS150.set_2 | refine IsS150.far ?_ NB0_324.out _ | refine IsS150.far ?_ NB0_325.out _ | refine IsS150.far ?_ NB0_332.out _) | exact HI0.out)⟩, ⟨by repeat (first | (with_reducible first | exact HK.out | apply KeepBut.set_ | apply keep_drewN | apply keep_drew | apply keep_alloc | refine keep_far ?_ GW324.out _ | refine keep_far ?_ GW325.out _ | refine keep_far ?_ GW332.out _) | exact HK.out)⟩, ⟨by repeat (first | (with_reducible first | exact HB.out | apply below_alloc | apply pw_below_drewN | apply below_drew1 | refine below_set ?_ (IsS150.ge HI0.out) | refine below_set ?_ GE324.out | refine below_set ?_ GE325.out | refine below_set ?_ GE332.out) | exact HB.out)⟩⟩
       rw [if_neg c114] at H
       exact absurd H (by simp)
      rw [if_neg c113] at H
      exact absurd H (by simp)
     rw [if_neg c112] at H
     have c112b0 : decide (0 < (x333001_1.length : Int)) = false := decide_eq_false c112
     have c112b1 : decide (0 < x333001_1.length) = false := decide_eq_false (by omega)
     clear c112
     simp only [Option.some.injEq, Prod.mk.injEq] at H
     obtain ⟨rfl, rfl, rfl, rfl⟩ := H
     have hnb124 := NB332_324.out
     have hnc124 := NB324_332.out
     have hnb125 := NB332_325.out
     have hnc125 := NB325_332.out
     have hnb126 := NB332_0.out
     have hnc126 := NB0_332.out
     obtain ⟨hcz127_0, hcz127_1, hfz127_0, hfz127_1⟩ := cz2_ BK332
     obtain ⟨Ao128, co128, eo128⟩ := Kd.N_slice HO_333001.out
     subst eo128
     have hnb129 := NB325_324.out
     have hnc129 := NB324_325.out
     have hnb130 := NB325_0.out
     have hnc130 := NB0_325.out
     obtain ⟨hcz131_0, hcz131_1, hfz131_0, hfz131_1⟩ := cz2_ BK325
     go_wp2
     refine bodyPost_ret (results_cell_row rfl _ _ gb325 44 #[.int .i64 t326, .slice Ao128 x333001_1.length co128] (0, 0) _ rfl dz72 Try.underlying44 rfl (by kernel_rfl)) rfl ?_
     exact ⟨_, by first | rfl | (simp [errW_none, errW_some] <;> rfl) | (simp [*, errW_none, errW_some] <;> rfl), by (with_reducible repeat (first | apply Kd.N_alloc | apply Kd.N_drewN | apply Kd.N_drew)); exact Kd.N_mono (Kd.N_far (p := ⟨gb325, 1, none⟩) (Kd.N_far (p := ⟨gb325, 0, none⟩) (Kd.N_mono HO_333001.out (fun k_ hk => (⟨hk, hk.2.2.1⟩ : _ ∧ k_ ≠ gb325))) (fun _ hk => hk.2) (.int .i64 t326)) (fun _ hk => hk.2) (.slice Ao128 x333001_1.length co128)) (fun _ hk => hk.1.1), by repeat (first | (with_reducible first | exact HI0.out | apply IsS150.alloc | apply IsS150.drewN | apply IsS150.drew | apply IsS150.set_1 | apply IsS150.set_2 | refine IsS150.far ?_ NB0_324.out _ | refine IsS150.far ?_ NB0_325.out _ | refine IsS150.far ?_ NB0_332.out _) | exact HI0.out), by repeat (first | (with_reducible first | exact HB.out | apply below_alloc | apply pw_below_drewN | apply below_drew1 | refine below_set ?_ (IsS150.ge HI0.out) | refine below_set ?_ GE324.out | refine below_set ?_ GE325.out | refine below_set ?_ GE332.out) | exact HB.out), by repeat (first | (with_reducible first | exact HK.out | apply KeepBut.set_ | apply keep_drewN | apply keep_drew | apply keep_alloc | refine keep_far ?_ GW324.out _ | refine keep_far ?_ GW325.out _ | refine keep_far ?_ GW332.out _) | exact HK.out)⟩
    rw [if_neg c111] at H
    have c111b0 : decide ((x333001_1.length : Int) < 60) = false := decide_eq_false c111
    have c111b1 : decide (x333001_1.length < 60) = false := decide_eq_false (by omega)
    clear c111
    simp only [Option.some.injEq, Prod.mk.injEq] at H
    obtain ⟨rfl, rfl, rfl, rfl⟩ := H
    have hnb132 := NB332_324.out
    have hnc132 := NB324_332.out
    have hnb133 := NB332_325.out
    have hnc133 := NB325_332.out
    have hnb134 := NB332_0.out
    have hnc134 := NB0_332.out
    obtain ⟨hcz135_0, hcz135_1, hfz135_0, hfz135_1⟩ := cz2_ BK332
    obtain ⟨Ao136, co136, eo136⟩ := Kd.N_slice HO_333001.out
    subst eo136
    have hnb137 := NB325_324.out
    have hnc137 := NB324_325.out
    have hnb138 := NB325_0.out
    have hnc138 := NB0_325.out
    obtain ⟨hcz139_0, hcz139_1, hfz139_0, hfz139_1⟩ := cz2_ BK325
    go_wp2
    refine bodyPost_ret (results_cell_row rfl _ _ gb325 44 #[.int .i64 t326, .slice Ao136 x333001_1.length co136] (0, 0) _ rfl dz72 Try.underlying44 rfl (by kernel_rfl)) rfl ?_
    exact ⟨_, by first | rfl | (simp [errW_none, errW_some] <;> rfl) | (simp [*, errW_none, errW_some] <;> rfl), by (with_reducible repeat (first | apply Kd.N_alloc | apply Kd.N_drewN | apply Kd.N_drew)); exact Kd.N_mono (Kd.N_far (p := ⟨gb325, 1, none⟩) (Kd.N_far (p := ⟨gb325, 0, none⟩) (Kd.N_mono HO_333001.out (fun k_ hk => (⟨hk, hk.2.2.1⟩ : _ ∧ k_ ≠ gb325))) (fun _ hk => hk.2) (.int .i64 t326)) (fun _ hk => hk.2) (.slice Ao136 x333001_1.length co136)) (fun _ hk => hk.1.1), by repeat (first | (with_reducible first | exact HI0.out | apply IsS150.alloc | apply IsS150.drewN | apply IsS150.drew | apply IsS150.set_1 | apply IsS150.set_2 | refine IsS150.far ?_ NB0_324.out _ | refine IsS150.far ?_ NB0_325.out _ | refine IsS150.far ?_ NB0_332.out _) | exact HI0.out), by repeat (first | (with_reducible first | exact HB.out | apply below_alloc | apply pw_below_drewN | apply below_drew1 | refine below_set ?_ (IsS150.ge HI0.out) | refine below_set ?_ GE324.out | refine below_set ?_ GE325.out | refine below_set ?_ GE332.out) | exact HB.out), by repeat (first | (with_reducible first | exact HK.out | apply KeepBut.set_ | apply keep_drewN | apply keep_drew | apply keep_alloc | refine keep_far ?_ GW324.out _ | refine keep_far ?_ GW325.out _ | refine keep_far ?_ GW332.out _) | exact HK.out)⟩
 rw [if_neg c97] at H
 have c97b0 : (t333 == 3) = false := beq_eq_false_iff_ne.mpr c97
 have c97b1 : (t333 != 3) = true := bne_iff_ne.mpr c97
 simp only [Option.some.injEq, Prod.mk.injEq] at H
 obtain ⟨rfl, rfl, rfl, rfl⟩ := H
 go_enter Try.func64, Try.ntmps64
 go_wp2_with (first | ((with_reducible refine gate_dst (N := 3) rfl ?_); (try (refine gate_guard (by rfl) ?_; dsimp only)); refine box_event kr_ (N := 3) kr_ (cs := #[.slice A1_0 l1_0.length c1_0, .int .i64 a1_1]) (t := 31) ks_ ?_; intro gb324 hg w1 hbox hb; replace HB := Aside0.mk (below_step dz25 hb); have BK324 := Aside0.mk (hbox); have GW324 := Aside0.mk ((by rw [hg]; exact (keep_size (w := w) (g := g) (row := none) dz4) : w.heap.size ≤ gb324)); have GE324 := Aside0.mk ((Nat.le_trans HW0.out (by rw [hg]; exact (keep_size (w := w) (g := g) (row := none) dz4) : w.heap.size ≤ gb324) : w0.heap.size ≤ gb324)); replace HK := Aside0.mk (KeepBut.trans dz4 (KeepBut.of_below hb g none) (.inl rfl)); have NB0_324 := Aside0.mk ((by rw [hg]; exact Nat.ne_of_lt (IsS150.lt (show IsS150 w0 _ g s0_0 s0_1 s0_2 from by repeat (first | (with_reducible first | exact HI0.out | apply IsS150.alloc | apply IsS150.drewN | apply IsS150.drew | apply IsS150.set_1 | apply IsS150.set_2) | exact HI0.out))) : g ≠ gb324)); have NB324_0 := Aside0.mk ((by rw [hg]; exact Nat.ne_of_gt (IsS150.lt (show IsS150 w0 _ g s0_0 s0_1 s0_2 from by repeat (first | (with_reducible first | exact HI0.out | apply IsS150.alloc | apply IsS150.drewN | apply IsS150.drew | apply IsS150.set_1 | apply IsS150.set_2) | exact HI0.out))) : gb324 ≠ g)); replace HI0 := Aside0.mk (IsS150.below dz26 hb); clear hb hbox hg) | ((with_reducible refine gate_dst (N := 4) rfl ?_); (try (refine gate_guard (by rfl) ?_; dsimp only)); refine box_event kr_ (N := 4) kr_ (cs := #[.int .i64 0, .slice none 0 0]) (t := 44) ks_ ?_; intro gb325 hg w2 hbox hb; replace HB := Aside0.mk (below_step dz54 hb); have BK325 := Aside0.mk (hbox); have GW325 := Aside0.mk ((by rw [hg]; exact (keep_size (w := w) (g := g) (row := none) dz12) : w.heap.size ≤ gb325)); have GE325 := Aside0.mk ((Nat.le_trans HW0.out (by rw [hg]; exact (keep_size (w := w) (g := g) (row := none) dz12) : w.heap.size ≤ gb325) : w0.heap.size ≤ gb325)); replace HK := Aside0.mk (KeepBut.trans dz12 (KeepBut.of_below hb g none) (.inl rfl)); have NB324_325 := (nbl_ hg BK324); have NB325_324 := (nbr_ hg BK324); replace BK324 := (bkb_ BK324 hb); have NB0_325 := Aside0.mk ((by rw [hg]; exact Nat.ne_of_lt (IsS150.lt (show IsS150 w0 _ g s0_0 s0_1 s0_2 from by repeat (first | (with_reducible first | exact HI0.out | apply IsS150.alloc | apply IsS150.drewN | apply IsS150.drew | apply IsS150.set_1 | apply IsS150.set_2 | refine IsS150.far ?_ NB0_324.out _) | exact HI0.out))) : g ≠ gb325)); have NB325_0 := Aside0.mk ((by rw [hg]; exact Nat.ne_of_gt (IsS150.lt (show IsS150 w0 _ g s0_0 s0_1 s0_2 from by repeat (first | (with_reducible first | exact HI0.out | apply IsS150.alloc | apply IsS150.drewN | apply IsS150.drew | apply IsS150.set_1 | apply IsS150.set_2 | refine IsS150.far ?_ NB0_324.out _) | exact HI0.out))) : gb325 ≠ g)); replace HI0 := Aside0.mk (IsS150.below dz55 hb); clear hb hbox hg; have hnb142 := NB324_325.out; have hnc142 := NB325_324.out; have hnb143 := NB324_0.out; have hnc143 := NB0_324.out; obtain ⟨hcz144_0, hcz144_1, hfz144_0, hfz144_1⟩ := cz2_ BK324) | ((with_reducible refine gate_callee (f := 117) rfl ?_); refine goesL_ (some 8) rfl rfl Try.func117 (by kernel_rfl) rfl #[.pointer (some ⟨g, 0, none⟩), .agg #[.slice A1_0 l1_0.length c1_0, .int .i64 a1_1]] rfl dz1 ?_; (with_reducible refine (spec_l8DrawRight.calls k g s0_0 s0_1 s0_2 _ _ l1_0 a1_1 t326 t327 t330 t331 w0 _ ?side1 ?side2 ?side3 ?side4 ?side5 A3.out).mono ?_); (case side1 => exact dz473); (case side2 => exact dz474); (case side3 => exact Kd.C_keep 0 HR1_0.out dz5 hf1_0); (case side4 => exact HC1_0.out); (case side5 => exact hf1_0); rintro e w3 ⟨v328, rfl, ho0, hi, hb, hk⟩; refine ⟨_, rfl, ?_⟩; have HO329 := Aside0.mk (Kd.N_lower (Kd.N_mono (ok' := fun k_ => (w.heap.size ≤ k_) ∧ k_ ≠ gb324 ∧ k_ ≠ gb325 ∧ k_ ≠ g) ho0 (fun k_ hk_ => ⟨(Nat.le_trans (keep_size (w := w) (g := g) (row := none) dz5) hk_), (Kd.freshB (g := gb324) (o := .cells #[.slice A1_0 l1_0.length c1_0, .int .i64 a1_1] 31 (0, 0)) dz13 k_ hk_), (Kd.freshB (g := gb325) (o := .cells #[.int .i64 0, .slice none 0 0] 44 (0, 0)) dz14 k_ hk_), (IsS150.fresh dz28 k_ hk_)⟩)) (keep_size (w := w) (g := g) (row := none) dz5)); replace BK324 := Aside0.mk (KeepBut.blk hk (g' := gb324) (o := .cells #[.slice A1_0 l1_0.length c1_0, .int .i64 a1_1] 31 (0, 0)) dz13 NB324_0.out (by simp)); replace BK325 := Aside0.mk (KeepBut.blk hk (g' := gb325) (o := .cells #[.int .i64 0, .slice none 0 0] 44 (0, 0)) dz14 NB325_0.out (by simp)); replace HK := Aside0.mk (KeepBut.trans dz5 hk (.inl rfl)); replace HB := Aside0.mk (hb); replace HI0 := Aside0.mk (hi); (try clear hb); (try clear hb2); (try clear hk); (try clear hi); (try clear ho0)) | ((with_reducible refine gate_dst (N := 5) rfl ?_); (try (refine gate_guard (by rfl) ?_; dsimp only)); refine box_event kr_ (N := 5) kr_ (cs := #[.int .i64 0, .slice none 0 0]) (t := 44) ks_ ?_; intro gb332 hg w4 hbox hb; replace HO329 := Aside0.mk (Kd.N_below (Kd.N_elderB dz30 gb332 (Nat.le_of_eq hg.symm)) hb); replace HB := Aside0.mk (below_step dz56 hb); have BK332 := Aside0.mk (hbox); have GW332 := Aside0.mk ((by rw [hg]; exact (keep_size (w := w) (g := g) (row := none) dz5) : w.heap.size ≤ gb332)); have GE332 := Aside0.mk ((Nat.le_trans HW0.out (by rw [hg]; exact (keep_size (w := w) (g := g) (row := none) dz5) : w.heap.size ≤ gb332) : w0.heap.size ≤ gb332)); replace HK := Aside0.mk (KeepBut.trans dz5 (KeepBut.of_below hb g none) (.inl rfl)); have NB324_332 := (nbl_ hg BK324); have NB332_324 := (nbr_ hg BK324); replace BK324 := (bkb_ BK324 hb); have NB325_332 := (nbl_ hg BK325); have NB332_325 := (nbr_ hg BK325); replace BK325 := (bkb_ BK325 hb); have NB0_332 := Aside0.mk ((by rw [hg]; exact Nat.ne_of_lt (IsS150.lt (show IsS150 w0 _ g s0_0 t330 t331 from by repeat (first | (with_reducible first | exact HI0.out | apply IsS150.alloc | apply IsS150.drewN | apply IsS150.drew | apply IsS150.set_1 | apply IsS150.set_2 | refine IsS150.far ?_ NB0_324.out _ | refine IsS150.far ?_ NB0_325.out _) | exact HI0.out))) : g ≠ gb332)); have NB332_0 := Aside0.mk ((by rw [hg]; exact Nat.ne_of_gt (IsS150.lt (show IsS150 w0 _ g s0_0 t330 t331 from by repeat (first | (with_reducible first | exact HI0.out | apply IsS150.alloc | apply IsS150.drewN | apply IsS150.drew | apply IsS150.set_1 | apply IsS150.set_2 | refine IsS150.far ?_ NB0_324.out _ | refine IsS150.far ?_ NB0_325.out _) | exact HI0.out))) : gb332 ≠ g)); replace HI0 := Aside0.mk (IsS150.below dz28 hb); clear hb hbox hg; have hnb147 := NB332_324.out; have hnc147 := NB324_332.out; have hnb148 := NB332_325.out; have hnc148 := NB325_332.out; have hnb149 := NB332_0.out; have hnc149 := NB0_332.out; obtain ⟨hcz150_0, hcz150_1, hfz150_0, hfz150_1⟩ := cz2_ BK332; obtain ⟨Ao151, co151, eo151⟩ := Kd.N_slice HO329.out; subst eo151) | ((with_reducible refine gate_callee (f := 67) rfl ?_); refine goesL_ (some 10) rfl rfl Try.func67 (by kernel_rfl) rfl #[.pointer (some ⟨g, 0, none⟩), .int .i64 25] rfl dz1 ?_; (with_reducible refine (spec_l1Below.calls g s0_0 t330 t331 25 t333 t334 t335 w0 _ ?side1 ?side2 A4.out).mono ?_); (case side1 => exact dz475); (case side2 => exact dz476); rintro e w5 ⟨rfl, hi, hb, hk⟩; refine ⟨_, rfl, ?_⟩; replace BK324 := Aside0.mk (KeepBut.blk hk (g' := gb324) (o := .cells #[.slice A1_0 l1_0.length c1_0, .int .i64 a1_1] 31 (0, 0)) dz57 NB324_0.out (by simp)); replace BK325 := Aside0.mk (KeepBut.blk hk (g' := gb325) (o := .cells #[.int .i64 0, .slice none 0 0] 44 (0, 0)) dz58 NB325_0.out (by simp)); replace HO329 := Aside0.mk (Kd.N_mono (Kd.N_keep (Kd.N_mono (ok := fun k_ => ((((w.heap.size ≤ k_)) ∧ (k_ ≠ gb324 ∧ (k_ ≠ gb325 ∧ k_ ≠ g))) ∧ k_ ≠ gb332)) (by (with_reducible repeat (first | apply Kd.N_alloc | apply Kd.N_drewN | apply Kd.N_drew)); exact (Kd.N_mono (Kd.N_far (p := ⟨gb332, 1, none⟩) (Kd.N_far (p := ⟨gb332, 0, none⟩) (Kd.N_mono HO329.out (fun k_ hk => (⟨hk, hk.2⟩ : _ ∧ k_ ≠ gb332))) (fun _ hk => hk.2) (.int .i64 t326)) (fun _ hk => hk.2) (.slice Ao151 t327.length co151)) (fun _ h_ => h_.1))) (fun k_ hk_ => (⟨hk_, hk_.1.2.2.2⟩ : _ ∧ k_ ≠ g))) hk (fun _ h => h.2)) (fun _ h => h.1)); replace BK332 := Aside0.mk (KeepBut.blk hk (g' := gb332) (o := .cells #[.int .i64 t326, .slice Ao151 t327.length co151] 44 (0, 0)) dz59 NB332_0.out (by simp)); replace HK := Aside0.mk (KeepBut.trans dz11 hk (.inl rfl)); replace HB := Aside0.mk (hb); replace HI0 := Aside0.mk (hi); (try clear hb); (try clear hb2); (try clear hk); (try clear hi); obtain ⟨hcz153_0, hcz153_1, hfz153_0, hfz153_1⟩ := cz2_ BK332; have hnb154 := NB325_0.out; have hnc154 := NB0_325.out; obtain ⟨hcz155_0, hcz155_1, hfz155_0, hfz155_1⟩ := cz2_ BK325))
 refine bodyPost_ret (results_cell_row rfl _ _ gb325 44 #[.int .i64 t326, .slice Ao151 t327.length co151] (0, 0) _ rfl dz72 Try.underlying44 rfl (by kernel_rfl)) rfl ?_
 exact ⟨_, by first | rfl | (simp [errW_none, errW_some] <;> rfl) | (simp [*, errW_none, errW_some] <;> rfl), by (with_reducible repeat (first | apply Kd.N_alloc | apply Kd.N_drewN | apply Kd.N_drew)); exact Kd.N_mono (Kd.N_far (p := ⟨gb325, 1, none⟩) (Kd.N_far (p := ⟨gb325, 0, none⟩) (Kd.N_mono HO329.out (fun k_ hk => (⟨hk, hk.1.2.2.1⟩ : _ ∧ k_ ≠ gb325))) (fun _ hk => hk.2) (.int .i64 t326)) (fun _ hk => hk.2) (.slice Ao151 t327.length co151)) (fun _ hk => hk.1.1.1), by repeat (first | (with_reducible first | exact HI0.out | apply IsS150.alloc | apply IsS150.drewN | apply IsS150.drew | apply IsS150.set_1 | apply IsS150.set_2 | refine IsS150.far ?_ NB0_324.out _ | refine IsS150.far ?_ NB0_325.out _ | refine IsS150.far ?_ NB0_332.out _) | exact HI0.out), by repeat (first | (with_reducible first | exact HB.out | apply below_alloc | apply pw_below_drewN | apply below_drew1 | refine below_set ?_ (IsS150.ge HI0.out) | refine below_set ?_ GE324.out | refine below_set ?_ GE325.out | refine below_set ?_ GE332.out) | exact HB.out), by repeat (first | (with_reducible first | exact HK.out | apply KeepBut.set_ | apply keep_drewN | apply keep_drew | apply keep_alloc | refine keep_far ?_ GW324.out _ | refine keep_far ?_ GW325.out _ | refine keep_far ?_ GW332.out _) | exact HK.out)⟩
end Go.Proofs.Ytdkdhciogedoiab.PFnAdded
