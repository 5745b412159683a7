-- Written by wip/gen/pack.py of this repo. Lean checks it.
import Derived.Test.YtdkdhciogedoiabKFnAddedP0
import Derived.Test.YtdkdhciogedoiabKFnAddedP1
import Derived.Test.YtdkdhciogedoiabKFnAddedP5
import Derived.Test.YtdkdhciogedoiabKFnAddedP6
import Derived.Test.YtdkdhciogedoiabKFnAddedP7
import Derived.Test.YtdkdhciogedoiabKFnAddedD
namespace Go.Proofs.Ytdkdhciogedoiab.PFnAdded
open Go.RowKit Go.Proofs.YtdkdhciogedoiabW.PrintWords Go.Proofs.YtdkdhciogedoiabW.PrintLast Go.Proofs.YtdkdhciogedoiabW.PrintMore Go.Proofs.YtdkdhciogedoiabW.Sq
attribute [local go_sem] max2_int min2_int max_two min_two max_three min_three max_four min_four
set_option linter.unusedVariables false
set_option linter.unusedSimpArgs false
mutual
def spec_l8DrawRight.l0 : Nat → Int → List Int → Int → Int → List Int → Int → Int → List (S50) → Option (Int × (List (S50)) × Int × Int)
 | 0, _, _, _, _, _, _, _, _ => none
 | k + 1, x6, x1000, x1001, x1002, x288000, x288001, x293000, x293001 => (spec_l1Below.f x1000 x1001 x1002 14).bind fun bt293 => (if x6 < bt293.1 then ((spec_l1Pick.f x1000 bt293.2.1 bt293.2.2 (([(⟨#[]⟩ : ByteArray), (⟨#[97]⟩ : ByteArray), (⟨#[98, 99]⟩ : ByteArray)] : List ByteArray))).bind fun bt299 => ((spec_WriterAdd.f k x288000 x288001 x293000 x293001 bt299.1).bind fun bt302 => ((spec_l1Once.f x1000 bt299.2.1 bt299.2.2 2).bind fun bt309 => (if bt309.1 = true then ((spec_l1Max.f (x293001.length : Int) 1).bind fun t312 => ((spec_l1Below.f x1000 bt309.2.1 bt309.2.2 t312).bind fun bt313 => ((spec_l1Below.f x1000 bt313.2.1 bt313.2.2 (x288000.length : Int)).bind fun bt316 => ((spec_WriterAck.f k x288000 x288001 x293000 x293001 (wrap64 (1 + bt313.1)) bt316.1).bind fun bt319 => (spec_l8DrawRight.j1 k x6 bt319.2.2 x1000 bt316.2.1 bt316.2.2 x288000 x288001 x293000 x293001 bt319.1 bt319.2.1))))) else (spec_l8DrawRight.j1 k x6 bt302.2.2.2 x1000 bt309.2.1 bt309.2.2 x288000 x288001 x293000 x293001 bt302.1 bt302.2.1))))) else (some (x293000, x293001, bt293.2.1, bt293.2.2)))
def spec_l8DrawRight.j1 : Nat → Int → Bool → List Int → Int → Int → List Int → Int → Int → List (S50) → Int → List (S50) → Option (Int × (List (S50)) × Int × Int)
 | 0, _, _, _, _, _, _, _, _, _, _, _ => none
 | k + 1, x6, x9, x1000, x1001, x1002, x288000, x288001, x293000, x293001, x309000, x309001 => if x9 = true then (spec_l8DrawRight.l0 k (wrap64 (x6 + 1)) x1000 x1001 x1002 x288000 x288001 x309000 x309001) else (spec_l8DrawRight.l0 k (wrap64 (x6 + 1)) x1000 x1001 x1002 x288000 x288001 x293000 x293001)
end
def spec_l8DrawRight.f (k : Nat) (s0_0 : List Int) (s0_1 : Int) (s0_2 : Int) (l1_0 : List Int) (a1_1 : Int) : Option (Int × (List (S50)) × Int × Int) := (spec_l1Below.f s0_0 s0_1 s0_2 4).bind fun bt289 => (spec_l8DrawRight.l0 k 0 s0_0 bt289.2.1 bt289.2.2 l1_0 a1_1 (wrap64 (1 + bt289.1)) ([] : List (S50)))
def spec_l8DrawRight.T5 : Bool × List (List Nat × List Nat) := (true, [([], []), ([], []), ([], []), ([], []), ([2, 3], [2, 3]), ([0, 1, 4, 4], [0, 1, 4]), ([5], [5]), ([6], [6]), ([6], [6]), ([6], [6]), ([], []), ([10, 7, 5, 0, 1, 2, 3, 4, 5, 6, 7, 10], [7, 10]), ([8, 11, 0, 1, 2, 3, 4, 5, 6, 7, 8, 10, 11], [8]), ([9, 12, 0, 1, 2, 3, 4, 5, 6, 7, 8, 9, 10, 11, 12], [9])])
def spec_l8DrawRight.B5 : List Nat := [0, 0, 0, 0, 12, 31, 63, 127, 127, 127, 0, 1279, 3583, 8191]
theorem spec_l8DrawRight.tab5 : rtab .any (opsOf Try.f117 5) = spec_l8DrawRight.T5 := by kernel_rfl
theorem spec_l8DrawRight.bits5 : waitsOk spec_l8DrawRight.T5.2 spec_l8DrawRight.B5 = true := by kernel_rfl
def spec_l8DrawRight.T7 : Bool × List (List Nat × List Nat) := (true, [([], []), ([], []), ([], []), ([], []), ([3], [3]), ([4], [4]), ([5], [5]), ([2, 6, 6], [2, 6]), ([7], [7]), ([], []), ([], []), ([10], [10]), ([11], [11]), ([9, 12, 7], [9, 12]), ([0, 1, 8, 13, 13], [0, 1, 8, 13]), ([14], [14]), ([15], [15]), ([15], [15]), ([16, 14, 0, 1, 2, 3, 4, 5, 6, 7, 8, 9, 10, 11, 12, 13, 14, 15, 16], [16]), ([17, 18, 0, 1, 2, 3, 4, 5, 6, 7, 8, 9, 10, 11, 12, 13, 14, 15, 16, 17, 18], [17])])
def spec_l8DrawRight.B7 : List Nat := [0, 0, 0, 0, 8, 24, 56, 124, 252, 0, 0, 1024, 3072, 7932, 16383, 32767, 65535, 65535, 131071, 524287]
theorem spec_l8DrawRight.tab7 : rtab .any (opsOf Try.f117 7) = spec_l8DrawRight.T7 := by kernel_rfl
theorem spec_l8DrawRight.bits7 : waitsOk spec_l8DrawRight.T7.2 spec_l8DrawRight.B7 = true := by kernel_rfl
set_option maxHeartbeats 8000000 in
set_option maxRecDepth 100000 in
theorem spec_l8DrawRight.calls (k : Nat) (g : Nat) (s0_0 : List Int) (s0_1 : Int) (s0_2 : Int) (A1_0 : Option Addr) (c1_0 : Nat) (l1_0 : List Int) (a1_1 : Int) (r1 : Int) (r2 : List (S50)) (r3 : Int) (r4 : Int) (w0 w : World) (hI : IsS150 w0 w g s0_0 s0_1 s0_2) (hB : Below w0.heap.size w0 w) (hr1_0 : Kd.C (Kd.int .i64) w A1_0 l1_0.length l1_0) (hc1_0 : l1_0.length ≤ c1_0) (hf1_0 : ∀ ad, A1_0 = some ad → 0 < l1_0.length → ad.block ≠ g) (h : spec_l8DrawRight.f k s0_0 s0_1 s0_2 l1_0 a1_1 = some (r1, r2, r3, r4)) :
  Calls Try.prog 117 #[.pointer (some ⟨g, 0, none⟩), .agg #[.slice A1_0 l1_0.length c1_0, .int .i64 a1_1]] w fun e w' => ∃ v1_ : Value, e = .returned (.agg #[.int .i64 r1, v1_]) ∧ Kd.N k50 50 w' w.heap.size (fun k_ => (w.heap.size ≤ k_)) v1_ r2 ∧ IsS150 w0 w' g s0_0 r3 r4 ∧ Below w0.heap.size w0 w' ∧ KeepBut w w' g none := by
 have hu31 := Try.underlying31
 have hu44 := Try.underlying44
 have HR1_0 := Aside0.mk hr1_0
 have HC1_0 := Aside0.mk hc1_0
 clear hr1_0 hc1_0
 have HI0 := Aside0.mk hI
 have HK := Aside0.mk (KeepBut.refl w g none)
 have HL := Aside0.mk hB.size
 clear hI
 have HW0 := Aside0.mk hB.size
 have HB := Aside0.mk hB
 clear hB
 have H : ((spec_l1Below.f s0_0 s0_1 s0_2 4).bind fun bt289 => (spec_l8DrawRight.l0 k 0 s0_0 bt289.2.1 bt289.2.2 l1_0 a1_1 (wrap64 (1 + bt289.1)) ([] : List (S50)))) = some (r1, r2, r3, r4) := h
 clear h
 replace H := Option.bind_eq_some_iff.mp H
 obtain ⟨⟨t289, t290, t291⟩, A30, H⟩ := H
 replace H : (spec_l8DrawRight.l0 k 0 s0_0 t290 t291 l1_0 a1_1 (wrap64 (1 + t289)) ([] : List (S50))) = some (r1, r2, r3, r4) := H
 have A3 := Aside0.mk A30
 clear A30
 have H' := Aside0.mk H
 clear H
 go_enter Try.func117, Try.ntmps117
 go_wp2_with (first | ((with_reducible refine gate_dst (N := 3) rfl ?_); refine box_event kr_ (N := 3) kr_ (cs := #[.slice A1_0 l1_0.length c1_0, .int .i64 a1_1]) (t := 31) ks_ ?_; intro gb287 hg w1 hbox hb; replace HB := Aside0.mk (below_step dz25 hb); have BK287 := Aside0.mk (hbox); have GW287 := Aside0.mk ((by rw [hg]; exact (keep_size (w := w) (g := g) (row := none) dz4) : w.heap.size ≤ gb287)); have GE287 := Aside0.mk ((Nat.le_trans HW0.out (by rw [hg]; exact (keep_size (w := w) (g := g) (row := none) dz4) : w.heap.size ≤ gb287) : w0.heap.size ≤ gb287)); replace HK := Aside0.mk (KeepBut.trans dz4 (KeepBut.of_below hb g none) (.inl rfl)); have NB0_287 := Aside0.mk ((by rw [hg]; exact Nat.ne_of_lt (IsS150.lt (show IsS150 w0 _ g s0_0 s0_1 s0_2 from by repeat (first | (with_reducible first | exact HI0.out | apply IsS150.alloc | apply IsS150.drewN | apply IsS150.drew | apply IsS150.set_1 | apply IsS150.set_2) | exact HI0.out))) : g ≠ gb287)); have NB287_0 := Aside0.mk ((by rw [hg]; exact Nat.ne_of_gt (IsS150.lt (show IsS150 w0 _ g s0_0 s0_1 s0_2 from by repeat (first | (with_reducible first | exact HI0.out | apply IsS150.alloc | apply IsS150.drewN | apply IsS150.drew | apply IsS150.set_1 | apply IsS150.set_2) | exact HI0.out))) : gb287 ≠ g)); replace HI0 := Aside0.mk (IsS150.below dz26 hb); clear hb hbox hg) | ((with_reducible refine gate_dst (N := 4) rfl ?_); refine box_event kr_ (N := 4) kr_ (cs := #[.int .i64 0, .slice none 0 0]) (t := 44) ks_ ?_; intro gb288 hg w2 hbox hb; replace HB := Aside0.mk (below_step (by repeat (first | (with_reducible first | exact HB.out | apply below_alloc | apply pw_below_drewN | apply below_drew1 | refine below_set ?_ (IsS150.ge HI0.out) | refine below_set ?_ GE287.out) | exact HB.out)) hb); have BK288 := Aside0.mk (hbox); have GW288 := Aside0.mk ((by rw [hg]; exact (keep_size (w := w) (g := g) (row := none) dz113) : w.heap.size ≤ gb288)); have GE288 := Aside0.mk ((Nat.le_trans HW0.out (by rw [hg]; exact (keep_size (w := w) (g := g) (row := none) dz113) : w.heap.size ≤ gb288) : w0.heap.size ≤ gb288)); replace HK := Aside0.mk (KeepBut.trans dz113 (KeepBut.of_below hb g none) (.inl rfl)); have NB287_288 := (nbl_ hg BK287); have NB288_287 := (nbr_ hg BK287); replace BK287 := (bkb_ BK287 hb); have NB0_288 := Aside0.mk ((by rw [hg]; exact Nat.ne_of_lt (IsS150.lt (show IsS150 w0 _ g s0_0 s0_1 s0_2 from by repeat (first | (with_reducible first | exact HI0.out | apply IsS150.alloc | apply IsS150.drewN | apply IsS150.drew | apply IsS150.set_1 | apply IsS150.set_2 | refine IsS150.far ?_ NB0_287.out _) | exact HI0.out))) : g ≠ gb288)); have NB288_0 := Aside0.mk ((by rw [hg]; exact Nat.ne_of_gt (IsS150.lt (show IsS150 w0 _ g s0_0 s0_1 s0_2 from by repeat (first | (with_reducible first | exact HI0.out | apply IsS150.alloc | apply IsS150.drewN | apply IsS150.drew | apply IsS150.set_1 | apply IsS150.set_2 | refine IsS150.far ?_ NB0_287.out _) | exact HI0.out))) : gb288 ≠ g)); replace HI0 := Aside0.mk (IsS150.below (by repeat (first | (with_reducible first | exact HI0.out | apply IsS150.alloc | apply IsS150.drewN | apply IsS150.drew | apply IsS150.set_1 | apply IsS150.set_2 | refine IsS150.far ?_ NB0_287.out _) | exact HI0.out)) hb); clear hb hbox hg) | ((with_reducible refine gate_callee (f := 67) rfl ?_); refine goesL_ (some 11) rfl rfl Try.func67 (by kernel_rfl) rfl #[.pointer (some ⟨g, 0, none⟩), .int .i64 4] rfl dz1 ?_; (with_reducible refine (spec_l1Below.calls g s0_0 s0_1 s0_2 4 t289 t290 t291 w0 _ ?side1 ?side2 A3.out).mono ?_); (case side1 => repeat (first | (with_reducible first | exact HI0.out | apply IsS150.alloc | apply IsS150.drewN | apply IsS150.drew | apply IsS150.set_1 | apply IsS150.set_2 | refine IsS150.far ?_ NB0_287.out _ | refine IsS150.far ?_ NB0_288.out _) | exact HI0.out)); (case side2 => repeat (first | (with_reducible first | exact HB.out | apply below_alloc | apply pw_below_drewN | apply below_drew1 | refine below_set ?_ (IsS150.ge HI0.out) | refine below_set ?_ GE287.out | refine below_set ?_ GE288.out) | exact HB.out)); rintro e w3 ⟨rfl, hi, hb, hk⟩; refine ⟨_, rfl, ?_⟩; replace BK287 := Aside0.mk (KeepBut.blk hk (g' := gb287) (o := .cells #[.slice A1_0 l1_0.length c1_0, .int .i64 a1_1] 31 (0, 0)) dz15 NB287_0.out (by simp)); replace BK288 := Aside0.mk (KeepBut.blk hk (g' := gb288) (o := .cells #[.int .i64 0, .slice none 0 0] 44 (0, 0)) dz16 NB288_0.out (by simp)); replace HK := Aside0.mk (KeepBut.trans dz89 hk (.inl rfl)); replace HB := Aside0.mk (hb); replace HI0 := Aside0.mk (hi); (try clear hb); (try clear hb2); (try clear hk); (try clear hi)) | ((with_reducible refine gate_dst (N := 5) rfl ?_); refine box_event kr_ (N := 5) kr_ (cs := #[.int .i64 0, .slice none 0 0]) (t := 44) ks_ ?_; intro gb292 hg w4 hbox hb; replace HB := Aside0.mk (below_step (by repeat (first | (with_reducible first | exact HB.out | apply below_alloc | apply pw_below_drewN | apply below_drew1 | refine below_set ?_ (IsS150.ge HI0.out) | refine below_set ?_ GE287.out | refine below_set ?_ GE288.out) | exact HB.out)) hb); have BK292 := Aside0.mk (hbox); have GW292 := Aside0.mk ((by rw [hg]; exact (keep_size (w := w) (g := g) (row := none) dz89) : w.heap.size ≤ gb292)); have GE292 := Aside0.mk ((Nat.le_trans HW0.out (by rw [hg]; exact (keep_size (w := w) (g := g) (row := none) dz89) : w.heap.size ≤ gb292) : w0.heap.size ≤ gb292)); replace HK := Aside0.mk (KeepBut.trans dz89 (KeepBut.of_below hb g none) (.inl rfl)); have NB287_292 := (nbl_ hg BK287); have NB292_287 := (nbr_ hg BK287); replace BK287 := (bkb_ BK287 hb); have NB288_292 := (nbl_ hg BK288); have NB292_288 := (nbr_ hg BK288); replace BK288 := (bkb_ BK288 hb); have NB0_292 := Aside0.mk ((by rw [hg]; exact Nat.ne_of_lt (IsS150.lt (show IsS150 w0 _ g s0_0 t290 t291 from by repeat (first | (with_reducible first | exact HI0.out | apply IsS150.alloc | apply IsS150.drewN | apply IsS150.drew | apply IsS150.set_1 | apply IsS150.set_2 | refine IsS150.far ?_ NB0_287.out _ | refine IsS150.far ?_ NB0_288.out _) | exact HI0.out))) : g ≠ gb292)); have NB292_0 := Aside0.mk ((by rw [hg]; exact Nat.ne_of_gt (IsS150.lt (show IsS150 w0 _ g s0_0 t290 t291 from by repeat (first | (with_reducible first | exact HI0.out | apply IsS150.alloc | apply IsS150.drewN | apply IsS150.drew | apply IsS150.set_1 | apply IsS150.set_2 | refine IsS150.far ?_ NB0_287.out _ | refine IsS150.far ?_ NB0_288.out _) | exact HI0.out))) : gb292 ≠ g)); replace HI0 := Aside0.mk (IsS150.below (by repeat (first | (with_reducible first | exact HI0.out | apply IsS150.alloc | apply IsS150.drewN | apply IsS150.drew | apply IsS150.set_1 | apply IsS150.set_2 | refine IsS150.far ?_ NB0_287.out _ | refine IsS150.far ?_ NB0_288.out _) | exact HI0.out)) hb); clear hb hbox hg; have hnb8 := NB292_287.out; have hnc8 := NB287_292.out; have hnb9 := NB292_288.out; have hnc9 := NB288_292.out; have hnb10 := NB292_0.out; have hnc10 := NB0_292.out; obtain ⟨hcz11_0, hcz11_1, hfz11_0, hfz11_1⟩ := cz2_ BK292))
 go_loopg [6] k (fun kq v6 w' => ∃ (x6_1 : Int) (x1001_1 : Int) (x1002_1 : Int) (x293000_1 : Int) (x293001_1 : List (S50)) (u293001 : Value), v6 = .int .i64 x6_1 ∧ Aside0 (spec_l8DrawRight.l0 kq x6_1 s0_0 x1001_1 x1002_1 l1_0 a1_1 x293000_1 x293001_1 = some (r1, r2, r3, r4)) ∧ Aside0 (kq ≤ k) ∧ Aside0 (Kd.N k50 50 w' w.heap.size (fun k_ => (w.heap.size ≤ k_) ∧ k_ ≠ gb287 ∧ k_ ≠ gb288 ∧ k_ ≠ gb292 ∧ k_ ≠ g) u293001 x293001_1) ∧ Aside0 (w'.heap[gb287]? = some (.cells #[(.slice A1_0 l1_0.length c1_0), .int .i64 a1_1] 31 (0, 0))) ∧ Aside0 (w'.heap[gb288]? = some (.cells #[.int .i64 0, (.slice none 0 0)] 44 (0, 0))) ∧ Aside0 (w'.heap[gb292]? = some (.cells #[.int .i64 x293000_1, u293001] 44 (0, 0))) ∧ Aside0 (IsS150 w0 w' g s0_0 x1001_1 x1002_1) ∧ Aside0 (KeepBut w w' g none) ∧ Aside0 (Below w0.heap.size w0 w'))
 case atStart => exact ⟨(0), (t290), (t291), (wrap64 (1 + t289)), (([] : List (S50))), (.slice none 0 0), dz3, H', ⟨Nat.le_refl _⟩, ⟨by first | exact Kd.S_nil _ _ _ _ _ | exact Kd.N_nil _ _ _ _ _ | exact Kd.V_nil _ _ _ _ _ | exact Kd.Q_nil _ _ _ _ _ | exact Kd.R_nil _ _ _ _ _⟩, ⟨by (with_reducible repeat (first | refine blk_drewN ?_ _ | refine blk_drew ?_ | refine blk_alloc ?_ _)); refine blk_far ?_ NB287_292.out _; (with_reducible repeat (first | refine blk_drewN ?_ _ | refine blk_drew ?_ | refine blk_alloc ?_ _)); refine blk_far ?_ NB287_292.out _; (with_reducible repeat (first | refine blk_drewN ?_ _ | refine blk_drew ?_ | refine blk_alloc ?_ _)); exact BK287.out⟩, ⟨by (with_reducible repeat (first | refine blk_drewN ?_ _ | refine blk_drew ?_ | refine blk_alloc ?_ _)); refine blk_far ?_ NB288_292.out _; (with_reducible repeat (first | refine blk_drewN ?_ _ | refine blk_drew ?_ | refine blk_alloc ?_ _)); refine blk_far ?_ NB288_292.out _; (with_reducible repeat (first | refine blk_drewN ?_ _ | refine blk_drew ?_ | refine blk_alloc ?_ _)); exact BK288.out⟩, ⟨by (with_reducible repeat (first | refine blk_drewN ?_ _ | refine blk_drew ?_ | refine blk_alloc ?_ _)); refine blk_put (cs := #[.int .i64 (wrap64 (1 + t289)), .slice none 0 0]) ?_ 1 _ rfl; (with_reducible repeat (first | refine blk_drewN ?_ _ | refine blk_drew ?_ | refine blk_alloc ?_ _)); refine blk_put (cs := #[.int .i64 0, .slice none 0 0]) ?_ 0 _ rfl; (with_reducible repeat (first | refine blk_drewN ?_ _ | refine blk_drew ?_ | refine blk_alloc ?_ _)); exact BK292.out⟩, ⟨by repeat (first | (with_reducible first | exact HI0.out | apply IsS150.alloc | apply IsS150.drewN | apply IsS150.drew | apply IsS150.set_1 | apply IsS150.set_2 | refine IsS150.far ?_ NB0_287.out _ | refine IsS150.far ?_ NB0_288.out _ | refine IsS150.far ?_ NB0_292.out _) | exact HI0.out)⟩, ⟨by repeat (first | (with_reducible first | exact HK.out | apply KeepBut.set_ | apply keep_drewN | apply keep_drew | apply keep_alloc | refine keep_far ?_ GW287.out _ | refine keep_far ?_ GW288.out _ | refine keep_far ?_ GW292.out _) | exact HK.out)⟩, ⟨by repeat (first | (with_reducible first | exact HB.out | apply below_alloc | apply pw_below_drewN | apply below_drew1 | refine below_set ?_ (IsS150.ge HI0.out) | refine below_set ?_ GE287.out | refine below_set ?_ GE288.out | refine below_set ?_ GE292.out) | exact HB.out)⟩⟩
 case round =>
  clear H'
  try clear c1
  try clear p2
  try clear c6
  try clear p6
  try clear c8
  try clear c9
  try clear c10
  try clear c11
  try clear hcz11_0
  try clear hcz11_1
  try clear hfz11_0
  try clear hfz11_1
  obtain ⟨x6_1, x1001_1, x1002_1, x293000_1, x293001_1, u293001, rfl, HA, HK1, HO_293001, BK287, BK288, BK292, HI0, HK, HB⟩ := hrel
  cases gk with
  | zero => exact absurd HA.out (by simp [spec_l8DrawRight.l0])
  | succ k1 =>
   have H := HA.out
   clear HA
   simp only [spec_l8DrawRight.l0] at H
   replace H := Option.bind_eq_some_iff.mp H
   obtain ⟨⟨t293, t294, t295⟩, A120, H⟩ := H
   replace H : (if x6_1 < t293 then ((spec_l1Pick.f s0_0 t294 t295 (([(⟨#[]⟩ : ByteArray), (⟨#[97]⟩ : ByteArray), (⟨#[98, 99]⟩ : ByteArray)] : List ByteArray))).bind fun bt299 => ((spec_WriterAdd.f k1 l1_0 a1_1 x293000_1 x293001_1 bt299.1).bind fun bt302 => ((spec_l1Once.f s0_0 bt299.2.1 bt299.2.2 2).bind fun bt309 => (if bt309.1 = true then ((spec_l1Max.f (x293001_1.length : Int) 1).bind fun t312 => ((spec_l1Below.f s0_0 bt309.2.1 bt309.2.2 t312).bind fun bt313 => ((spec_l1Below.f s0_0 bt313.2.1 bt313.2.2 (l1_0.length : Int)).bind fun bt316 => ((spec_WriterAck.f k1 l1_0 a1_1 x293000_1 x293001_1 (wrap64 (1 + bt313.1)) bt316.1).bind fun bt319 => (spec_l8DrawRight.j1 k1 x6_1 bt319.2.2 s0_0 bt316.2.1 bt316.2.2 l1_0 a1_1 x293000_1 x293001_1 bt319.1 bt319.2.1))))) else (spec_l8DrawRight.j1 k1 x6_1 bt302.2.2.2 s0_0 bt309.2.1 bt309.2.2 l1_0 a1_1 x293000_1 x293001_1 bt302.1 bt302.2.1))))) else (some (x293000_1, x293001_1, t294, t295))) = some (r1, r2, r3, r4) := H
   have A12 := Aside0.mk A120
   clear A120
   by_cases c13 : x6_1 < t293
   ·rw [if_pos c13] at H
    have c13b0 : decide (x6_1 < t293) = true := decide_eq_true c13
    clear c13
    obtain ⟨y296, hy296⟩ : ∃ y_ : List ByteArray, y_ = (([(⟨#[]⟩ : ByteArray), (⟨#[97]⟩ : ByteArray), (⟨#[98, 99]⟩ : ByteArray)] : List ByteArray)) := ⟨_, rfl⟩
    replace H : ((spec_l1Pick.f s0_0 t294 t295 y296).bind fun bt299 => ((spec_WriterAdd.f k1 l1_0 a1_1 x293000_1 x293001_1 bt299.1).bind fun bt302 => ((spec_l1Once.f s0_0 bt299.2.1 bt299.2.2 2).bind fun bt309 => (if bt309.1 = true then ((spec_l1Max.f (x293001_1.length : Int) 1).bind fun t312 => ((spec_l1Below.f s0_0 bt309.2.1 bt309.2.2 t312).bind fun bt313 => ((spec_l1Below.f s0_0 bt313.2.1 bt313.2.2 (l1_0.length : Int)).bind fun bt316 => ((spec_WriterAck.f k1 l1_0 a1_1 x293000_1 x293001_1 (wrap64 (1 + bt313.1)) bt316.1).bind fun bt319 => (spec_l8DrawRight.j1 k1 x6_1 bt319.2.2 s0_0 bt316.2.1 bt316.2.2 l1_0 a1_1 x293000_1 x293001_1 bt319.1 bt319.2.1))))) else (spec_l8DrawRight.j1 k1 x6_1 bt302.2.2.2 s0_0 bt309.2.1 bt309.2.2 l1_0 a1_1 x293000_1 x293001_1 bt302.1 bt302.2.1))))) = some (r1, r2, r3, r4) := by first | (rw [hy296]; with_reducible exact H) | (have H2_ := (Option.bind_some _ _).symm.trans H; rw [hy296]; with_reducible exact H2_) | (have H2_ := (Option.bind_some _ _).symm.trans H; with_reducible exact H2_) | with_reducible exact H | (rw [hy296]; exact H) | exact H
    have Ny296 := Aside0.mk hy296
    clear hy296
    replace H := Option.bind_eq_some_iff.mp H
    obtain ⟨⟨t299, t300, t301⟩, A140, H⟩ := H
    replace H : ((spec_WriterAdd.f k1 l1_0 a1_1 x293000_1 x293001_1 t299).bind fun bt302 => ((spec_l1Once.f s0_0 t300 t301 2).bind fun bt309 => (if bt309.1 = true then ((spec_l1Max.f (x293001_1.length : Int) 1).bind fun t312 => ((spec_l1Below.f s0_0 bt309.2.1 bt309.2.2 t312).bind fun bt313 => ((spec_l1Below.f s0_0 bt313.2.1 bt313.2.2 (l1_0.length : Int)).bind fun bt316 => ((spec_WriterAck.f k1 l1_0 a1_1 x293000_1 x293001_1 (wrap64 (1 + bt313.1)) bt316.1).bind fun bt319 => (spec_l8DrawRight.j1 k1 x6_1 bt319.2.2 s0_0 bt316.2.1 bt316.2.2 l1_0 a1_1 x293000_1 x293001_1 bt319.1 bt319.2.1))))) else (spec_l8DrawRight.j1 k1 x6_1 bt302.2.2.2 s0_0 bt309.2.1 bt309.2.2 l1_0 a1_1 x293000_1 x293001_1 bt302.1 bt302.2.1)))) = some (r1, r2, r3, r4) := H
    have A14 := Aside0.mk A140
    clear A140
    replace H := Option.bind_eq_some_iff.mp H
    obtain ⟨⟨t302, t303, t306, t307⟩, A150, H⟩ := H
    replace H : ((spec_l1Once.f s0_0 t300 t301 2).bind fun bt309 => (if bt309.1 = true then ((spec_l1Max.f (x293001_1.length : Int) 1).bind fun t312 => ((spec_l1Below.f s0_0 bt309.2.1 bt309.2.2 t312).bind fun bt313 => ((spec_l1Below.f s0_0 bt313.2.1 bt313.2.2 (l1_0.length : Int)).bind fun bt316 => ((spec_WriterAck.f k1 l1_0 a1_1 x293000_1 x293001_1 (wrap64 (1 + bt313.1)) bt316.1).bind fun bt319 => (spec_l8DrawRight.j1 k1 x6_1 bt319.2.2 s0_0 bt316.2.1 bt316.2.2 l1_0 a1_1 x293000_1 x293001_1 bt319.1 bt319.2.1))))) else (spec_l8DrawRight.j1 k1 x6_1 t307 s0_0 bt309.2.1 bt309.2.2 l1_0 a1_1 x293000_1 x293001_1 t302 t303))) = some (r1, r2, r3, r4) := H
    have A15 := Aside0.mk A150
    clear A150
    replace H := Option.bind_eq_some_iff.mp H
    obtain ⟨⟨t309, t310, t311⟩, A160, H⟩ := H
    replace H : (if t309 = true then ((spec_l1Max.f (x293001_1.length : Int) 1).bind fun t312 => ((spec_l1Below.f s0_0 t310 t311 t312).bind fun bt313 => ((spec_l1Below.f s0_0 bt313.2.1 bt313.2.2 (l1_0.length : Int)).bind fun bt316 => ((spec_WriterAck.f k1 l1_0 a1_1 x293000_1 x293001_1 (wrap64 (1 + bt313.1)) bt316.1).bind fun bt319 => (spec_l8DrawRight.j1 k1 x6_1 bt319.2.2 s0_0 bt316.2.1 bt316.2.2 l1_0 a1_1 x293000_1 x293001_1 bt319.1 bt319.2.1))))) else (spec_l8DrawRight.j1 k1 x6_1 t307 s0_0 t310 t311 l1_0 a1_1 x293000_1 x293001_1 t302 t303)) = some (r1, r2, r3, r4) := H
    have A16 := Aside0.mk A160
    clear A160
    have HC17 := Aside0.mk H
    clear H
    try go_wp2_with (first | ((with_reducible refine gate_callee (f := 67) rfl ?_); refine goesL_ (some 16) rfl rfl Try.func67 (by kernel_rfl) rfl #[.pointer (some ⟨g, 0, none⟩), .int .i64 14] rfl dz1 ?_; (with_reducible refine (spec_l1Below.calls g s0_0 x1001_1 x1002_1 14 t293 t294 t295 w0 _ ?side1 ?side2 A12.out).mono ?_); (case side1 => exact dz466); (case side2 => exact dz467); rintro e w18 ⟨rfl, hi, hb, hk⟩; refine ⟨_, rfl, ?_⟩; replace HO_293001 := Aside0.mk (Kd.N_mono (Kd.N_keep (Kd.N_mono (ok := fun k_ => (((w.heap.size ≤ k_)) ∧ (k_ ≠ gb287 ∧ (k_ ≠ gb288 ∧ (k_ ≠ gb292 ∧ k_ ≠ g))))) dz7 (fun k_ hk_ => (⟨hk_, hk_.2.2.2.2⟩ : _ ∧ k_ ≠ g))) hk (fun _ h => h.2)) (fun _ h => h.1)); replace BK287 := Aside0.mk (KeepBut.blk hk (g' := gb287) (o := .cells #[.slice A1_0 l1_0.length c1_0, .int .i64 a1_1] 31 (0, 0)) dz15 NB287_0.out (by simp)); replace BK288 := Aside0.mk (KeepBut.blk hk (g' := gb288) (o := .cells #[.int .i64 0, .slice none 0 0] 44 (0, 0)) dz16 NB288_0.out (by simp)); replace BK292 := Aside0.mk (KeepBut.blk hk (g' := gb292) (o := .cells #[.int .i64 x293000_1, u293001] 44 (0, 0)) dz17 NB292_0.out (by simp)); replace HK := Aside0.mk (KeepBut.trans dz8 hk (.inl rfl)); replace HB := Aside0.mk (hb); replace HI0 := Aside0.mk (hi); (try clear hb); (try clear hb2); (try clear hk); (try clear hi); obtain ⟨Ao19, co19, eo19⟩ := Kd.N_slice HO_293001.out; subst eo19))
    replace HO_293001 := Aside0.mk (Kd.N_drew HO_293001.out)
    replace BK287 := Aside0.mk (blk_drew BK287.out)
    replace BK288 := Aside0.mk (blk_drew BK288.out)
    replace BK292 := Aside0.mk (blk_drew BK292.out)
    replace HI0 := Aside0.mk (IsS150.drew HI0.out)
    replace HK := Aside0.mk (keep_drew HK.out)
    replace HB := Aside0.mk (below_drew1 HB.out)
    refine start_ (n := 14) (S := fun w' => w'.cell? ⟨gb287, 0, none⟩ = some (.slice A1_0 l1_0.length c1_0) ∧ w'.cell? ⟨gb287, 1, none⟩ = some (.int .i64 a1_1) ∧ w'.cell? ⟨gb292, 0, none⟩ = some (.int .i64 x293000_1) ∧ w'.cell? ⟨gb292, 1, none⟩ = some (.slice Ao19 x293001_1.length co19)) (ds := []) (fl_ 0 14) (by kernel_rfl) rfl rfl ⟨(blk_cell BK287.out 0).trans rfl, (blk_cell BK287.out 1).trans rfl, (blk_cell BK292.out 0).trans rfl, (blk_cell BK292.out 1).trans rfl⟩ (fun hHeld => ?_); refine with_tabW spec_l8DrawRight.tab5 spec_l8DrawRight.bits5 (fun HT_ HW_ => ?_)
    generalize w18.drew = w20 at HO_293001 BK287 BK288 BK292 HI0 HK HB hHeld ⊢
    refine pure_ (i := 2) (N := some 23) (v := ?_) (a' := ?_) #[false, false, true, false, false, false, false, false, false, false, false, false, false, false] rfl rfl (any_of HT_.out (by kernel_rfl)) (fun _ _ _ h => h) (Or.inl ⟨by rfl, ?_⟩) ?_ ?_
    rotate_left
    ·exact dz489
    rotate_left
    ·exact dz490
    refine take_ (i := 0) (N := some 21) (v := ?_) (a' := ?_) #[true, false, true, false, false, false, false, false, false, false, false, false, false, false] rfl rfl (take_ofW HT_.out HW_.out (by kernel_rfl)) (fun _ _ _ h => h) (Or.inl ⟨by rfl, ?_⟩) hHeld ?_ ?_
    rotate_left
    ·exact dz497
    rotate_left
    ·exact dz490
    refine take_ (i := 1) (N := some 22) (v := ?_) (a' := ?_) (fl_ 3 11) rfl rfl (take_ofW HT_.out HW_.out (by kernel_rfl)) (fun _ _ _ h => h) (Or.inl ⟨by rfl, ?_⟩) hHeld ?_ ?_
    rotate_left
    ·exact dz497
    rotate_left
    ·exact dz490
    refine join_ (σ := Value × Value × Nat) 3 (fl_ 11 3) (fun s_ => [(24, s_.1), (25, .string t299), (26, .tuple #[.agg #[.int .i64 t302, s_.2.1], .int .i64 t306, .bool t307]), (7, .pointer (some ⟨s_.2.2, 0, none⟩)), (20, .tuple #[.agg #[.int .i64 t302, s_.2.1], .int .i64 t306, .bool t307]), (27, .agg #[.int .i64 t302, s_.2.1]), (28, .int .i64 t306), (29, .bool t307)]) (fun s_ w' => (w'.cell? ⟨gb287, 0, none⟩ = some (.slice A1_0 l1_0.length c1_0) ∧ w'.cell? ⟨gb287, 1, none⟩ = some (.int .i64 a1_1) ∧ w'.cell? ⟨gb292, 0, none⟩ = some (.int .i64 x293000_1) ∧ w'.cell? ⟨gb292, 1, none⟩ = some (.slice Ao19 x293001_1.length co19)) ∧ (Kd.R Kd.string 9 w' w.heap.size (fun k_ => (w.heap.size ≤ k_)) s_.1 y296) ∧ (Kd.N k50 50 w' w.heap.size (fun k_ => (w.heap.size ≤ k_) ∧ some k_ ≠ (s_.1 : Value).ownBlock ∧ some k_ ≠ (.slice Ao19 x293001_1.length co19 : Value).ownBlock ∧ k_ ≠ g ∧ k_ ≠ gb287 ∧ k_ ≠ gb288 ∧ k_ ≠ gb292 ∧ k_ ≠ s_.2.2) s_.2.1 t303) ∧ (Kd.N k50 50 w' w.heap.size (fun k_ => (w.heap.size ≤ k_) ∧ some k_ ≠ (s_.1 : Value).ownBlock ∧ some k_ ≠ (s_.2.1 : Value).ownBlock ∧ k_ ≠ g ∧ k_ ≠ gb287 ∧ k_ ≠ gb288 ∧ k_ ≠ gb292 ∧ k_ ≠ s_.2.2) (.slice Ao19 x293001_1.length co19) x293001_1) ∧ (w'.heap[gb287]? = some (.cells #[.slice A1_0 l1_0.length c1_0, .int .i64 a1_1] 31 (0, 0))) ∧ (w'.heap[gb288]? = some (.cells #[.int .i64 0, .slice none 0 0] 44 (0, 0))) ∧ (w'.heap[gb292]? = some (.cells #[.int .i64 x293000_1, .slice Ao19 x293001_1.length co19] 44 (0, 0))) ∧ (w'.heap[s_.2.2]? = some (.cells #[.int .i64 0, .slice none 0 0] 44 (0, 0))) ∧ (w.heap.size ≤ s_.2.2) ∧ (w0.heap.size ≤ s_.2.2) ∧ (g ≠ s_.2.2) ∧ (s_.2.2 ≠ g) ∧ (gb287 ≠ s_.2.2) ∧ (s_.2.2 ≠ gb287) ∧ (gb288 ≠ s_.2.2) ∧ (s_.2.2 ≠ gb288) ∧ (gb292 ≠ s_.2.2) ∧ (s_.2.2 ≠ gb292) ∧ (IsS150 w0 w' g s0_0 t300 t301) ∧ (KeepBut w w' g none) ∧ (Below w0.heap.size w0 w')) ?_ ?_
    rotate_left
    ·intro hCont
     refine two_ (i := 3) (j := 10) (Ni := some 24) (Nj := some 7) (fl_ 4 10) #[true, true, true, false, false, false, false, false, false, false, true, false, false, false] rfl rfl rfl rfl (two_of HT_.out (by kernel_rfl)) (by decide) (by decide) (fun K hK => ?_) (fun K hK => ?_)
     ·skip
      refine Kd.R_lit_step Kd.string _ 9 ?hg (N := 24) ?hd (xs := ([(⟨#[]⟩ : ByteArray), (⟨#[97]⟩ : ByteArray), (⟨#[98, 99]⟩ : ByteArray)] : List ByteArray)) (inner := [.string (⟨#[]⟩ : ByteArray), .string (⟨#[97]⟩ : ByteArray), .string (⟨#[98, 99]⟩ : ByteArray)]) (ok := fun _ => True) (okp := fun _ => True) ?hr ?hp (fun _ hk => hk) trivial (Below.refl _ _) (Nat.le_refl _) (by simp) ?_; (case hd => rfl); (case hg => rfl); (case hr => first | (go_simp; done) | (go_simp; rfl)); (case hp => exact dz468)
      intro v297 w21 ho22 hb hg_ hnew_
      clear hg_ hnew_
      (first | rw [← Ny296.out] at ho22 | (simp only [Int.reduceToNat] at ho22; rw [← Ny296.out] at ho22))
      replace HO_293001 := Aside0.mk (Kd.N_elder' dz7 (Kd.R_base ho22) hb)
      have HO298 := Aside0.mk (Kd.R_lower (Kd.R_newM (M := fun k_ => (w.heap.size ≤ k_)) ho22 (keep_size (w := w) (g := g) (row := none) dz8) (fun k_ h_ => h_)) (keep_size (w := w) (g := g) (row := none) dz8))
      replace BK287 := (bkb_ BK287 hb)
      replace BK288 := (bkb_ BK288 hb)
      replace BK292 := (bkb_ BK292 hb)
      replace HK := Aside0.mk (KeepBut.trans dz8 (KeepBut.of_below hb g none) (.inl rfl))
      replace HB := Aside0.mk (below_step dz53 hb)
      replace HI0 := Aside0.mk (IsS150.below dz47 hb)
      clear hb ho22
      obtain ⟨Ao23, co23, eo23⟩ := Kd.R_slice HO298.out
      (first | subst eo23 | (injection eo23 with f1_ f2_ f3_; have f4_ := f1_.symm; have f5_ := f3_.symm; clear f1_ f2_ f3_; subst f4_; subst f5_))
      refine hK.out _ _ ⟨(blk_cell BK287.out 0).trans rfl, (blk_cell BK287.out 1).trans rfl, (blk_cell BK292.out 0).trans rfl, (blk_cell BK292.out 1).trans rfl⟩ (fun hHeld => ?_)
      clear hK K
      refine norm_ (a' := ?_) ?_ ?_
      rotate_left
      ·show Act.put _ (some 24) _ = _
       simp only [Act.put, List.setIfInBounds_toArray, List.set_cons_zero, List.set_cons_succ, i64_w, i32_w]
       rfl
      refine two_ (i := 4) (j := 10) (Ni := some 25) (Nj := some 7) (fl_ 5 9) #[true, true, true, true, false, false, false, false, false, false, true, false, false, false] rfl rfl rfl rfl (two_of HT_.out (by kernel_rfl)) (by decide) (by decide) (fun K hK => ?_) (fun K hK => ?_)
      ·skip
       refine goes_ Try.func65 (by kernel_rfl) rfl #[.pointer (some ⟨g, 0, none⟩), .slice Ao23 y296.length co23] (by rfl) rfl rfl dz1 ?_
       with_reducible refine (spec_l1Pick.calls g s0_0 t294 t295 _ _ y296 t299 t300 t301 w0 _ ?side1 ?side2 ?side3 ?side4 ?side5 A14.out).mono ?_
       (case side1 => exact dz466)
       (case side2 => exact dz467)
       (case side3 => exact dz469)
       (case side4 => exact (Kd.R_reads' HO298.out).2.1)
       (case side5 => exact far_slice (IsS150.own_ne HI0.out HO298.out (by decide)))
       rintro e w24 ⟨rfl, hi, hb, hk⟩
       refine ⟨_, rfl, ?_⟩
       replace HO_293001 := Aside0.mk (Kd.N_mono (Kd.N_keep (Kd.N_mono (ok := fun k_ => ((((w.heap.size ≤ k_)) ∧ (k_ ≠ gb287 ∧ (k_ ≠ gb288 ∧ (k_ ≠ gb292 ∧ k_ ≠ g)))) ∧ some k_ ≠ (.slice Ao23 y296.length co23 : Value).ownBlock)) dz7 (fun k_ hk_ => (⟨hk_, hk_.1.2.2.2.2⟩ : _ ∧ k_ ≠ g))) hk (fun _ h => h.2)) (fun _ h => h.1))
       replace BK287 := Aside0.mk (KeepBut.blk hk (g' := gb287) (o := .cells #[.slice A1_0 l1_0.length c1_0, .int .i64 a1_1] 31 (0, 0)) dz15 NB287_0.out (by simp))
       replace BK288 := Aside0.mk (KeepBut.blk hk (g' := gb288) (o := .cells #[.int .i64 0, .slice none 0 0] 44 (0, 0)) dz16 NB288_0.out (by simp))
       replace BK292 := Aside0.mk (KeepBut.blk hk (g' := gb292) (o := .cells #[.int .i64 x293000_1, .slice Ao19 x293001_1.length co19] 44 (0, 0)) dz17 NB292_0.out (by simp))
       replace HO298 := Aside0.mk (Kd.R_mono (Kd.R_keep (IsS150.apart (show IsS150 w0 _ g s0_0 t294 t295 from by repeat (first | (with_reducible first | exact HI0.out | apply IsS150.alloc | apply IsS150.drewN | apply IsS150.drew | apply IsS150.set_1 | apply IsS150.set_2 | refine IsS150.far ?_ NB0_287.out _ | refine IsS150.far ?_ NB0_288.out _ | refine IsS150.far ?_ NB0_292.out _) | exact HI0.out)) dz33 (by decide)) hk (fun _ h => h.2)) (fun _ h => h.1))
       replace HK := Aside0.mk (KeepBut.trans dz8 hk (.inl rfl))
       replace HB := Aside0.mk (hb)
       replace HI0 := Aside0.mk (hi)
       (try clear hb)
       (try clear hb2)
       (try clear hk)
       (try clear hi)
       refine hK.out _ _ ⟨(blk_cell BK287.out 0).trans rfl, (blk_cell BK287.out 1).trans rfl, (blk_cell BK292.out 0).trans rfl, (blk_cell BK292.out 1).trans rfl⟩ (fun hHeld => ?_)
       clear hK K
       refine norm_ (a' := ?_) ?_ ?_
       rotate_left
       ·exact dz498
       refine two_ (i := 5) (j := 10) (Ni := some 26) (Nj := some 7) (fl_ 6 8) #[true, true, true, true, true, false, false, false, false, false, true, false, false, false] rfl rfl rfl rfl (two_of HT_.out (by kernel_rfl)) (by decide) (by decide) (fun K hK => ?_) (fun K hK => ?_)
       ·skip
        refine goes_ Try.func20 (by kernel_rfl) rfl #[.agg #[.slice A1_0 l1_0.length c1_0, .int .i64 a1_1], .agg #[.int .i64 x293000_1, .slice Ao19 x293001_1.length co19], .string t299] (by rfl) rfl rfl dz1 ?_
        with_reducible refine (spec_WriterAdd.calls k1 _ _ l1_0 a1_1 x293000_1 _ _ x293001_1 t299 t302 t303 t306 t307 _ ?side1 ?side2 ?side3 ?side4 A15.out).mono ?_
        (case side1 => exact Kd.C_keep 0 HR1_0.out dz8 hf1_0)
        (case side2 => exact HC1_0.out)
        (case side3 => exact dz470)
        (case side4 => exact (Kd.N_reads' HO_293001.out).2.1)
        rintro e w25 ⟨v304, rfl, ho0, hb⟩
        refine ⟨_, rfl, ?_⟩
        have HO305 := Aside0.mk (Kd.N_lower (Kd.N_mono (ok' := fun k_ => (w.heap.size ≤ k_) ∧ some k_ ≠ (.slice Ao19 x293001_1.length co19 : Value).ownBlock ∧ some k_ ≠ (.slice Ao23 y296.length co23 : Value).ownBlock ∧ k_ ≠ gb287 ∧ k_ ≠ gb288 ∧ k_ ≠ gb292 ∧ k_ ≠ g) (Kd.S_N (Kd.S_bound ho0)) (fun k_ hk_ => ⟨(Nat.le_trans (keep_size (w := w) (g := g) (row := none) dz8) hk_.2.1), (Kd.fresh' (Kd.N_lt dz7) k_ hk_.2.1), (Kd.fresh' (Kd.R_lt dz33) k_ hk_.2.1), (Kd.freshB (g := gb287) (o := .cells #[.slice A1_0 l1_0.length c1_0, .int .i64 a1_1] 31 (0, 0)) dz15 k_ hk_.2.1), (Kd.freshB (g := gb288) (o := .cells #[.int .i64 0, .slice none 0 0] 44 (0, 0)) dz16 k_ hk_.2.1), (Kd.freshB (g := gb292) (o := .cells #[.int .i64 x293000_1, .slice Ao19 x293001_1.length co19] 44 (0, 0)) dz17 k_ hk_.2.1), (IsS150.fresh dz47 k_ hk_.2.1)⟩)) (keep_size (w := w) (g := g) (row := none) dz8))
        replace HO_293001 := Aside0.mk (Kd.N_elder' dz7 dz38 hb)
        replace HO298 := (rbb_ HO298 hb)
        replace BK287 := (bkb_ BK287 hb)
        replace BK288 := (bkb_ BK288 hb)
        replace BK292 := (bkb_ BK292 hb)
        replace HK := Aside0.mk (KeepBut.trans dz8 (KeepBut.of_below hb g none) (.inl rfl))
        replace HB := Aside0.mk (below_step dz53 hb)
        replace HI0 := Aside0.mk (IsS150.below dz47 hb)
        (try clear hb)
        (try clear hb2)
        (try clear hk)
        (try clear hi)
        (try clear ho0)
        refine hK.out _ _ ⟨(blk_cell BK287.out 0).trans rfl, (blk_cell BK287.out 1).trans rfl, (blk_cell BK292.out 0).trans rfl, (blk_cell BK292.out 1).trans rfl⟩ (fun hHeld => ?_)
        clear hK K
        refine norm_ (a' := ?_) ?_ ?_
        rotate_left
        ·exact dz499
        refine pure_ (i := 6) (N := some 20) (v := ?_) (a' := ?_) (fl_ 7 7) rfl rfl (any_of HT_.out (by kernel_rfl)) (fun _ _ _ h => h) (Or.inl ⟨by rfl, ?_⟩) ?_ ?_
        rotate_left
        ·exact dz489
        rotate_left
        ·exact dz490
        refine pure_ (i := 7) (N := some 27) (v := ?_) (a' := ?_) (fl_ 8 6) rfl rfl (any_of HT_.out (by kernel_rfl)) (fun _ _ _ h => h) (Or.inl ⟨by rfl, ?_⟩) ?_ ?_
        rotate_left
        ·exact dz489
        rotate_left
        ·exact dz490
        refine pure_ (i := 8) (N := some 28) (v := ?_) (a' := ?_) (fl_ 9 5) rfl rfl (any_of HT_.out (by kernel_rfl)) (fun _ _ _ h => h) (Or.inl ⟨by rfl, ?_⟩) ?_ ?_
        rotate_left
        ·exact dz489
        rotate_left
        ·exact dz490
        refine pure_ (i := 9) (N := some 29) (v := ?_) (a' := ?_) (fl_ 10 4) rfl rfl (any_of HT_.out (by kernel_rfl)) (fun _ _ _ h => h) (Or.inl ⟨by rfl, ?_⟩) ?_ ?_
        rotate_left
        ·exact dz489
        rotate_left
        ·exact dz490
        refine one_ (i := 10) (N := some 7) (fl_ 11 3) rfl rfl (one_of HT_.out (by kernel_rfl)) (by decide) (fun K hK => ?_)
        refine box_step ?hg (N := 7) ?hd (cs := #[.int .i64 0, .slice none 0 0]) (t := 44) ?hr ?_; (case hd => rfl); (case hg => rfl); (case hr => first | (go_simp; done) | (go_simp; rfl))
        intro gb308 hg w26 hbox hb
        replace HO_293001 := Aside0.mk (Kd.N_below (Kd.N_elderB dz7 gb308 (Nat.le_of_eq hg.symm)) hb)
        replace HO298 := (rbb_ HO298 hb)
        replace HO305 := Aside0.mk (Kd.N_below (Kd.N_elderB dz71 gb308 (Nat.le_of_eq hg.symm)) hb)
        replace HB := Aside0.mk (below_step dz53 hb)
        have BK308 := Aside0.mk (hbox)
        have GW308 := Aside0.mk ((by rw [hg]; exact (keep_size (w := w) (g := g) (row := none) dz8) : w.heap.size ≤ gb308))
        have GE308 := Aside0.mk ((Nat.le_trans HW0.out (by rw [hg]; exact (keep_size (w := w) (g := g) (row := none) dz8) : w.heap.size ≤ gb308) : w0.heap.size ≤ gb308))
        replace HK := Aside0.mk (KeepBut.trans dz8 (KeepBut.of_below hb g none) (.inl rfl))
        have NB287_308 := (nbl_ hg BK287)
        have NB308_287 := (nbr_ hg BK287)
        replace BK287 := (bkb_ BK287 hb)
        have NB288_308 := (nbl_ hg BK288)
        have NB308_288 := (nbr_ hg BK288)
        replace BK288 := (bkb_ BK288 hb)
        have NB292_308 := (nbl_ hg BK292)
        have NB308_292 := (nbr_ hg BK292)
        replace BK292 := (bkb_ BK292 hb)
        have NB0_308 := Aside0.mk ((by rw [hg]; exact Nat.ne_of_lt (IsS150.lt (show IsS150 w0 _ g s0_0 t300 t301 from by repeat (first | (with_reducible first | exact HI0.out | apply IsS150.alloc | apply IsS150.drewN | apply IsS150.drew | apply IsS150.set_1 | apply IsS150.set_2 | refine IsS150.far ?_ NB0_287.out _ | refine IsS150.far ?_ NB0_288.out _ | refine IsS150.far ?_ NB0_292.out _) | exact HI0.out))) : g ≠ gb308))
        have NB308_0 := Aside0.mk ((by rw [hg]; exact Nat.ne_of_gt (IsS150.lt (show IsS150 w0 _ g s0_0 t300 t301 from by repeat (first | (with_reducible first | exact HI0.out | apply IsS150.alloc | apply IsS150.drewN | apply IsS150.drew | apply IsS150.set_1 | apply IsS150.set_2 | refine IsS150.far ?_ NB0_287.out _ | refine IsS150.far ?_ NB0_288.out _ | refine IsS150.far ?_ NB0_292.out _) | exact HI0.out))) : gb308 ≠ g))
        replace HI0 := Aside0.mk (IsS150.below dz47 hb)
        clear hb hbox hg
        refine hK.out _ _ ⟨(blk_cell BK287.out 0).trans rfl, (blk_cell BK287.out 1).trans rfl, (blk_cell BK292.out 0).trans rfl, (blk_cell BK292.out 1).trans rfl⟩ (fun hHeld => ?_)
        clear hK K
        refine norm_ (a' := ?_) ?_ ?_
        rotate_left
        ·exact dz493
        exact norm_ dz90 (hCont (.slice Ao23 y296.length co23, v304, gb308) _ ⟨hHeld, dz91, (by (with_reducible repeat (first | apply Kd.N_alloc | apply Kd.N_drewN | apply Kd.N_drew)); exact Kd.N_mono HO305.out (fun _ hk => ⟨hk.1.1, ⟨hk.1.2.2.1, ⟨hk.1.2.1, ⟨hk.1.2.2.2.2.2.2, ⟨hk.1.2.2.2.1, ⟨hk.1.2.2.2.2.1, ⟨hk.1.2.2.2.2.2.1, hk.2⟩⟩⟩⟩⟩⟩⟩)), (by (with_reducible repeat (first | apply Kd.N_alloc | apply Kd.N_drewN | apply Kd.N_drew)); exact Kd.N_mono HO_293001.out (fun _ hk => ⟨hk.1.1.1.1, ⟨hk.1.1.2, ⟨hk.1.2, ⟨hk.1.1.1.2.2.2.2, ⟨hk.1.1.1.2.1, ⟨hk.1.1.1.2.2.1, ⟨hk.1.1.1.2.2.2.1, hk.2⟩⟩⟩⟩⟩⟩⟩)), dz15, dz16, dz17, dz27, GW308.out, GE308.out, NB0_308.out, NB308_0.out, NB287_308.out, NB308_287.out, NB288_308.out, NB308_288.out, NB292_308.out, NB308_292.out, dz22, dz6, dz39⟩)
       skip
       refine box_step ?hg (N := 7) ?hd (cs := #[.int .i64 0, .slice none 0 0]) (t := 44) ?hr ?_; (case hd => rfl); (case hg => rfl); (case hr => first | (go_simp; done) | (go_simp; rfl))
       intro gb308 hg w25 hbox hb
       replace HO_293001 := Aside0.mk (Kd.N_below (Kd.N_elderB dz7 gb308 (Nat.le_of_eq hg.symm)) hb)
       replace HO298 := (rbb_ HO298 hb)
       replace HB := Aside0.mk (below_step dz53 hb)
       have BK308 := Aside0.mk (hbox)
       have GW308 := Aside0.mk ((by rw [hg]; exact (keep_size (w := w) (g := g) (row := none) dz8) : w.heap.size ≤ gb308))
       have GE308 := Aside0.mk ((Nat.le_trans HW0.out (by rw [hg]; exact (keep_size (w := w) (g := g) (row := none) dz8) : w.heap.size ≤ gb308) : w0.heap.size ≤ gb308))
       replace HK := Aside0.mk (KeepBut.trans dz8 (KeepBut.of_below hb g none) (.inl rfl))
       have NB287_308 := (nbl_ hg BK287)
       have NB308_287 := (nbr_ hg BK287)
       replace BK287 := (bkb_ BK287 hb)
       have NB288_308 := (nbl_ hg BK288)
       have NB308_288 := (nbr_ hg BK288)
       replace BK288 := (bkb_ BK288 hb)
       have NB292_308 := (nbl_ hg BK292)
       have NB308_292 := (nbr_ hg BK292)
       replace BK292 := (bkb_ BK292 hb)
       have NB0_308 := Aside0.mk ((by rw [hg]; exact Nat.ne_of_lt (IsS150.lt (show IsS150 w0 _ g s0_0 t300 t301 from by repeat (first | (with_reducible first | exact HI0.out | apply IsS150.alloc | apply IsS150.drewN | apply IsS150.drew | apply IsS150.set_1 | apply IsS150.set_2 | refine IsS150.far ?_ NB0_287.out _ | refine IsS150.far ?_ NB0_288.out _ | refine IsS150.far ?_ NB0_292.out _) | exact HI0.out))) : g ≠ gb308))
       have NB308_0 := Aside0.mk ((by rw [hg]; exact Nat.ne_of_gt (IsS150.lt (show IsS150 w0 _ g s0_0 t300 t301 from by repeat (first | (with_reducible first | exact HI0.out | apply IsS150.alloc | apply IsS150.drewN | apply IsS150.drew | apply IsS150.set_1 | apply IsS150.set_2 | refine IsS150.far ?_ NB0_287.out _ | refine IsS150.far ?_ NB0_288.out _ | refine IsS150.far ?_ NB0_292.out _) | exact HI0.out))) : gb308 ≠ g))
       replace HI0 := Aside0.mk (IsS150.below dz47 hb)
       clear hb hbox hg
       refine hK.out _ _ ⟨(blk_cell BK287.out 0).trans rfl, (blk_cell BK287.out 1).trans rfl, (blk_cell BK292.out 0).trans rfl, (blk_cell BK292.out 1).trans rfl⟩ (fun hHeld => ?_)
       clear hK K
       refine norm_ (a' := ?_) ?_ ?_
       rotate_left
       ·exact dz493
       refine one_ (i := 5) (N := some 26) #[true, true, true, true, true, true, false, false, false, false, true, false, false, false] rfl rfl (one_of HT_.out (by kernel_rfl)) (by decide) (fun K hK => ?_)
       refine goes_ Try.func20 (by kernel_rfl) rfl #[.agg #[.slice A1_0 l1_0.length c1_0, .int .i64 a1_1], .agg #[.int .i64 x293000_1, .slice Ao19 x293001_1.length co19], .string t299] (by rfl) rfl rfl dz1 ?_
       with_reducible refine (spec_WriterAdd.calls k1 _ _ l1_0 a1_1 x293000_1 _ _ x293001_1 t299 t302 t303 t306 t307 _ ?side1 ?side2 ?side3 ?side4 A15.out).mono ?_
       (case side1 => exact Kd.C_keep 0 HR1_0.out dz6 hf1_0)
       (case side2 => exact HC1_0.out)
       (case side3 => exact dz470)
       (case side4 => exact (Kd.N_reads' HO_293001.out).2.1)
       rintro e w26 ⟨v304, rfl, ho0, hb⟩
       refine ⟨_, rfl, ?_⟩
       have HO305 := Aside0.mk (Kd.N_lower (Kd.N_mono (ok' := fun k_ => (w.heap.size ≤ k_) ∧ some k_ ≠ (.slice Ao19 x293001_1.length co19 : Value).ownBlock ∧ some k_ ≠ (.slice Ao23 y296.length co23 : Value).ownBlock ∧ k_ ≠ gb287 ∧ k_ ≠ gb288 ∧ k_ ≠ gb292 ∧ k_ ≠ gb308 ∧ k_ ≠ g) (Kd.S_N (Kd.S_bound ho0)) (fun k_ hk_ => ⟨(Nat.le_trans (keep_size (w := w) (g := g) (row := none) dz6) hk_.2.1), (Kd.fresh' (Kd.N_lt dz7) k_ hk_.2.1), (Kd.fresh' (Kd.R_lt dz33) k_ hk_.2.1), (Kd.freshB (g := gb287) (o := .cells #[.slice A1_0 l1_0.length c1_0, .int .i64 a1_1] 31 (0, 0)) dz15 k_ hk_.2.1), (Kd.freshB (g := gb288) (o := .cells #[.int .i64 0, .slice none 0 0] 44 (0, 0)) dz16 k_ hk_.2.1), (Kd.freshB (g := gb292) (o := .cells #[.int .i64 x293000_1, .slice Ao19 x293001_1.length co19] 44 (0, 0)) dz17 k_ hk_.2.1), (Kd.freshB (g := gb308) (o := .cells #[.int .i64 0, .slice none 0 0] 44 (0, 0)) dz27 k_ hk_.2.1), (IsS150.fresh dz22 k_ hk_.2.1)⟩)) (keep_size (w := w) (g := g) (row := none) dz6))
       replace HO_293001 := Aside0.mk (Kd.N_elder' dz7 dz38 hb)
       replace HO298 := (rbb_ HO298 hb)
       replace BK287 := (bkb_ BK287 hb)
       replace BK288 := (bkb_ BK288 hb)
       replace BK292 := (bkb_ BK292 hb)
       replace BK308 := (bkb_ BK308 hb)
       replace HK := Aside0.mk (KeepBut.trans dz6 (KeepBut.of_below hb g none) (.inl rfl))
       replace HB := Aside0.mk (below_step dz39 hb)
       replace HI0 := Aside0.mk (IsS150.below dz22 hb)
       (try clear hb)
       (try clear hb2)
       (try clear hk)
       (try clear hi)
       (try clear ho0)
       refine hK.out _ _ ⟨(blk_cell BK287.out 0).trans rfl, (blk_cell BK287.out 1).trans rfl, (blk_cell BK292.out 0).trans rfl, (blk_cell BK292.out 1).trans rfl⟩ (fun hHeld => ?_)
       clear hK K
       refine norm_ (a' := ?_) ?_ ?_
       rotate_left
       ·exact dz499
       refine pure_ (i := 6) (N := some 20) (v := ?_) (a' := ?_) #[true, true, true, true, true, true, true, false, false, false, true, false, false, false] rfl rfl (any_of HT_.out (by kernel_rfl)) (fun _ _ _ h => h) (Or.inl ⟨by rfl, ?_⟩) ?_ ?_
       rotate_left
       ·exact dz489
       rotate_left
       ·exact dz490
       refine pure_ (i := 7) (N := some 27) (v := ?_) (a' := ?_) #[true, true, true, true, true, true, true, true, false, false, true, false, false, false] rfl rfl (any_of HT_.out (by kernel_rfl)) (fun _ _ _ h => h) (Or.inl ⟨by rfl, ?_⟩) ?_ ?_
       rotate_left
       ·exact dz489
       rotate_left
       ·exact dz490
       refine pure_ (i := 8) (N := some 28) (v := ?_) (a' := ?_) #[true, true, true, true, true, true, true, true, true, false, true, false, false, false] rfl rfl (any_of HT_.out (by kernel_rfl)) (fun _ _ _ h => h) (Or.inl ⟨by rfl, ?_⟩) ?_ ?_
       rotate_left
       ·exact dz489
       rotate_left
       ·exact dz490
       refine pure_ (i := 9) (N := some 29) (v := ?_) (a' := ?_) (fl_ 11 3) rfl rfl (any_of HT_.out (by kernel_rfl)) (fun _ _ _ h => h) (Or.inl ⟨by rfl, ?_⟩) ?_ ?_
       rotate_left
       ·exact dz489
       rotate_left
       ·exact dz490
       exact norm_ dz90 (hCont (.slice Ao23 y296.length co23, v304, gb308) _ ⟨hHeld, dz91, dz114, dz153, dz15, dz16, dz17, dz27, GW308.out, GE308.out, NB0_308.out, NB308_0.out, NB287_308.out, NB308_287.out, NB288_308.out, NB308_288.out, NB292_308.out, NB308_292.out, dz22, dz6, dz39⟩)
      skip
      refine box_step ?hg (N := 7) ?hd (cs := #[.int .i64 0, .slice none 0 0]) (t := 44) ?hr ?_; (case hd => rfl); (case hg => rfl); (case hr => first | (go_simp; done) | (go_simp; rfl))
      intro gb308 hg w23 hbox hb
      replace HO_293001 := Aside0.mk (Kd.N_below (Kd.N_elderB dz7 gb308 (Nat.le_of_eq hg.symm)) hb)
      replace HO298 := (rbb_ HO298 hb)
      replace HB := Aside0.mk (below_step dz53 hb)
      have BK308 := Aside0.mk (hbox)
      have GW308 := Aside0.mk ((by rw [hg]; exact (keep_size (w := w) (g := g) (row := none) dz8) : w.heap.size ≤ gb308))
      have GE308 := Aside0.mk ((Nat.le_trans HW0.out (by rw [hg]; exact (keep_size (w := w) (g := g) (row := none) dz8) : w.heap.size ≤ gb308) : w0.heap.size ≤ gb308))
      replace HK := Aside0.mk (KeepBut.trans dz8 (KeepBut.of_below hb g none) (.inl rfl))
      have NB287_308 := (nbl_ hg BK287)
      have NB308_287 := (nbr_ hg BK287)
      replace BK287 := (bkb_ BK287 hb)
      have NB288_308 := (nbl_ hg BK288)
      have NB308_288 := (nbr_ hg BK288)
      replace BK288 := (bkb_ BK288 hb)
      have NB292_308 := (nbl_ hg BK292)
      have NB308_292 := (nbr_ hg BK292)
      replace BK292 := (bkb_ BK292 hb)
      have NB0_308 := Aside0.mk ((by rw [hg]; exact Nat.ne_of_lt (IsS150.lt (show IsS150 w0 _ g s0_0 t294 t295 from by repeat (first | (with_reducible first | exact HI0.out | apply IsS150.alloc | apply IsS150.drewN | apply IsS150.drew | apply IsS150.set_1 | apply IsS150.set_2 | refine IsS150.far ?_ NB0_287.out _ | refine IsS150.far ?_ NB0_288.out _ | refine IsS150.far ?_ NB0_292.out _) | exact HI0.out))) : g ≠ gb308))
      have NB308_0 := Aside0.mk ((by rw [hg]; exact Nat.ne_of_gt (IsS150.lt (show IsS150 w0 _ g s0_0 t294 t295 from by repeat (first | (with_reducible first | exact HI0.out | apply IsS150.alloc | apply IsS150.drewN | apply IsS150.drew | apply IsS150.set_1 | apply IsS150.set_2 | refine IsS150.far ?_ NB0_287.out _ | refine IsS150.far ?_ NB0_288.out _ | refine IsS150.far ?_ NB0_292.out _) | exact HI0.out))) : gb308 ≠ g))
      replace HI0 := Aside0.mk (IsS150.below dz47 hb)
      clear hb hbox hg
      obtain ⟨Ao24, co24, eo24⟩ := Kd.R_slice HO298.out
      (first | subst eo24 | (injection eo24 with f1_ f2_ f3_; have f4_ := f1_.symm; have f5_ := f3_.symm; clear f1_ f2_ f3_; subst f4_; subst f5_))
      refine hK.out _ _ ⟨(blk_cell BK287.out 0).trans rfl, (blk_cell BK287.out 1).trans rfl, (blk_cell BK292.out 0).trans rfl, (blk_cell BK292.out 1).trans rfl⟩ (fun hHeld => ?_)
      clear hK K
      refine norm_ (a' := ?_) ?_ ?_
      rotate_left
      ·exact dz493
      refine one_ (i := 4) (N := some 25) #[true, true, true, true, true, false, false, false, false, false, true, false, false, false] rfl rfl (one_of HT_.out (by kernel_rfl)) (by decide) (fun K hK => ?_)
      refine goes_ Try.func65 (by kernel_rfl) rfl #[.pointer (some ⟨g, 0, none⟩), .slice Ao24 y296.length co24] (by rfl) rfl rfl dz1 ?_
      with_reducible refine (spec_l1Pick.calls g s0_0 t294 t295 _ _ y296 t299 t300 t301 w0 _ ?side1 ?side2 ?side3 ?side4 ?side5 A14.out).mono ?_
      (case side1 => exact dz471)
      (case side2 => exact dz472)
      (case side3 => exact dz469)
      (case side4 => exact (Kd.R_reads' HO298.out).2.1)
      (case side5 => exact far_slice (IsS150.own_ne HI0.out HO298.out (by decide)))
      rintro e w25 ⟨rfl, hi, hb, hk⟩
      refine ⟨_, rfl, ?_⟩
      replace HO_293001 := Aside0.mk (Kd.N_mono (Kd.N_keep (Kd.N_mono (ok := fun k_ => (((((w.heap.size ≤ k_)) ∧ (k_ ≠ gb287 ∧ (k_ ≠ gb288 ∧ (k_ ≠ gb292 ∧ k_ ≠ g)))) ∧ some k_ ≠ (.slice Ao24 y296.length co24 : Value).ownBlock) ∧ k_ ≠ gb308)) dz7 (fun k_ hk_ => (⟨hk_, hk_.1.1.2.2.2.2⟩ : _ ∧ k_ ≠ g))) hk (fun _ h => h.2)) (fun _ h => h.1))
      replace BK287 := Aside0.mk (KeepBut.blk hk (g' := gb287) (o := .cells #[.slice A1_0 l1_0.length c1_0, .int .i64 a1_1] 31 (0, 0)) dz15 NB287_0.out (by simp))
      replace BK288 := Aside0.mk (KeepBut.blk hk (g' := gb288) (o := .cells #[.int .i64 0, .slice none 0 0] 44 (0, 0)) dz16 NB288_0.out (by simp))
      replace BK292 := Aside0.mk (KeepBut.blk hk (g' := gb292) (o := .cells #[.int .i64 x293000_1, .slice Ao19 x293001_1.length co19] 44 (0, 0)) dz17 NB292_0.out (by simp))
      replace HO298 := Aside0.mk (Kd.R_mono (Kd.R_keep (IsS150.apart (show IsS150 w0 _ g s0_0 t294 t295 from by repeat (first | (with_reducible first | exact HI0.out | apply IsS150.alloc | apply IsS150.drewN | apply IsS150.drew | apply IsS150.set_1 | apply IsS150.set_2 | refine IsS150.far ?_ NB0_287.out _ | refine IsS150.far ?_ NB0_288.out _ | refine IsS150.far ?_ NB0_292.out _ | refine IsS150.far ?_ NB0_308.out _) | exact HI0.out)) dz33 (by decide)) hk (fun _ h => h.2)) (fun _ h => h.1))
      replace BK308 := Aside0.mk (KeepBut.blk hk (g' := gb308) (o := .cells #[.int .i64 0, .slice none 0 0] 44 (0, 0)) dz27 NB308_0.out (by simp))
      replace HK := Aside0.mk (KeepBut.trans dz6 hk (.inl rfl))
      replace HB := Aside0.mk (hb)
      replace HI0 := Aside0.mk (hi)
      (try clear hb)
      (try clear hb2)
      (try clear hk)
      (try clear hi)
      refine hK.out _ _ ⟨(blk_cell BK287.out 0).trans rfl, (blk_cell BK287.out 1).trans rfl, (blk_cell BK292.out 0).trans rfl, (blk_cell BK292.out 1).trans rfl⟩ (fun hHeld => ?_)
      clear hK K
      refine norm_ (a' := ?_) ?_ ?_
      rotate_left
      ·exact dz498
      refine one_ (i := 5) (N := some 26) #[true, true, true, true, true, true, false, false, false, false, true, false, false, false] rfl rfl (one_of HT_.out (by kernel_rfl)) (by decide) (fun K hK => ?_)
      refine goes_ Try.func20 (by kernel_rfl) rfl #[.agg #[.slice A1_0 l1_0.length c1_0, .int .i64 a1_1], .agg #[.int .i64 x293000_1, .slice Ao19 x293001_1.length co19], .string t299] (by rfl) rfl rfl dz1 ?_
      with_reducible refine (spec_WriterAdd.calls k1 _ _ l1_0 a1_1 x293000_1 _ _ x293001_1 t299 t302 t303 t306 t307 _ ?side1 ?side2 ?side3 ?side4 A15.out).mono ?_
      (case side1 => exact Kd.C_keep 0 HR1_0.out dz6 hf1_0)
      (case side2 => exact HC1_0.out)
      (case side3 => exact dz470)
      (case side4 => exact (Kd.N_reads' HO_293001.out).2.1)
      rintro e w26 ⟨v304, rfl, ho0, hb⟩
      refine ⟨_, rfl, ?_⟩
      have HO305 := Aside0.mk (Kd.N_lower (Kd.N_mono (ok' := fun k_ => (w.heap.size ≤ k_) ∧ some k_ ≠ (.slice Ao19 x293001_1.length co19 : Value).ownBlock ∧ some k_ ≠ (.slice Ao24 y296.length co24 : Value).ownBlock ∧ k_ ≠ gb287 ∧ k_ ≠ gb288 ∧ k_ ≠ gb292 ∧ k_ ≠ gb308 ∧ k_ ≠ g) (Kd.S_N (Kd.S_bound ho0)) (fun k_ hk_ => ⟨(Nat.le_trans (keep_size (w := w) (g := g) (row := none) dz6) hk_.2.1), (Kd.fresh' (Kd.N_lt dz7) k_ hk_.2.1), (Kd.fresh' (Kd.R_lt dz33) k_ hk_.2.1), (Kd.freshB (g := gb287) (o := .cells #[.slice A1_0 l1_0.length c1_0, .int .i64 a1_1] 31 (0, 0)) dz15 k_ hk_.2.1), (Kd.freshB (g := gb288) (o := .cells #[.int .i64 0, .slice none 0 0] 44 (0, 0)) dz16 k_ hk_.2.1), (Kd.freshB (g := gb292) (o := .cells #[.int .i64 x293000_1, .slice Ao19 x293001_1.length co19] 44 (0, 0)) dz17 k_ hk_.2.1), (Kd.freshB (g := gb308) (o := .cells #[.int .i64 0, .slice none 0 0] 44 (0, 0)) dz27 k_ hk_.2.1), (IsS150.fresh dz22 k_ hk_.2.1)⟩)) (keep_size (w := w) (g := g) (row := none) dz6))
      replace HO_293001 := Aside0.mk (Kd.N_elder' dz7 dz38 hb)
      replace HO298 := (rbb_ HO298 hb)
      replace BK287 := (bkb_ BK287 hb)
      replace BK288 := (bkb_ BK288 hb)
      replace BK292 := (bkb_ BK292 hb)
      replace BK308 := (bkb_ BK308 hb)
      replace HK := Aside0.mk (KeepBut.trans dz6 (KeepBut.of_below hb g none) (.inl rfl))
      replace HB := Aside0.mk (below_step dz39 hb)
      replace HI0 := Aside0.mk (IsS150.below dz22 hb)
      (try clear hb)
      (try clear hb2)
      (try clear hk)
      (try clear hi)
      (try clear ho0)
      refine hK.out _ _ ⟨(blk_cell BK287.out 0).trans rfl, (blk_cell BK287.out 1).trans rfl, (blk_cell BK292.out 0).trans rfl, (blk_cell BK292.out 1).trans rfl⟩ (fun hHeld => ?_)
      clear hK K
      refine norm_ (a' := ?_) ?_ ?_
      rotate_left
      ·exact dz499
      refine pure_ (i := 6) (N := some 20) (v := ?_) (a' := ?_) #[true, true, true, true, true, true, true, false, false, false, true, false, false, false] rfl rfl (any_of HT_.out (by kernel_rfl)) (fun _ _ _ h => h) (Or.inl ⟨by rfl, ?_⟩) ?_ ?_
      rotate_left
      ·exact dz489
      rotate_left
      ·exact dz490
      refine pure_ (i := 7) (N := some 27) (v := ?_) (a' := ?_) #[true, true, true, true, true, true, true, true, false, false, true, false, false, false] rfl rfl (any_of HT_.out (by kernel_rfl)) (fun _ _ _ h => h) (Or.inl ⟨by rfl, ?_⟩) ?_ ?_
      rotate_left
      ·exact dz489
      rotate_left
      ·exact dz490
      refine pure_ (i := 8) (N := some 28) (v := ?_) (a' := ?_) #[true, true, true, true, true, true, true, true, true, false, true, false, false, false] rfl rfl (any_of HT_.out (by kernel_rfl)) (fun _ _ _ h => h) (Or.inl ⟨by rfl, ?_⟩) ?_ ?_
      rotate_left
      ·exact dz489
      rotate_left
      ·exact dz490
      refine pure_ (i := 9) (N := some 29) (v := ?_) (a' := ?_) (fl_ 11 3) rfl rfl (any_of HT_.out (by kernel_rfl)) (fun _ _ _ h => h) (Or.inl ⟨by rfl, ?_⟩) ?_ ?_
      rotate_left
      ·exact dz489
      rotate_left
      ·exact dz490
      exact norm_ dz90 (hCont (.slice Ao24 y296.length co24, v304, gb308) _ ⟨hHeld, dz91, dz114, dz153, dz15, dz16, dz17, dz27, GW308.out, GE308.out, NB0_308.out, NB308_0.out, NB287_308.out, NB308_287.out, NB288_308.out, NB308_288.out, NB292_308.out, NB308_292.out, dz22, dz6, dz39⟩)
     skip
     refine box_step ?hg (N := 7) ?hd (cs := #[.int .i64 0, .slice none 0 0]) (t := 44) ?hr ?_; (case hd => rfl); (case hg => rfl); (case hr => first | (go_simp; done) | (go_simp; rfl))
     intro gb308 hg w21 hbox hb
     replace HO_293001 := Aside0.mk (Kd.N_below (Kd.N_elderB dz7 gb308 (Nat.le_of_eq hg.symm)) hb)
     replace HB := Aside0.mk (below_step dz53 hb)
     have BK308 := Aside0.mk (hbox)
     have GW308 := Aside0.mk ((by rw [hg]; exact (keep_size (w := w) (g := g) (row := none) dz8) : w.heap.size ≤ gb308))
     have GE308 := Aside0.mk ((Nat.le_trans HW0.out (by rw [hg]; exact (keep_size (w := w) (g := g) (row := none) dz8) : w.heap.size ≤ gb308) : w0.heap.size ≤ gb308))
     replace HK := Aside0.mk (KeepBut.trans dz8 (KeepBut.of_below hb g none) (.inl rfl))
     have NB287_308 := (nbl_ hg BK287)
     have NB308_287 := (nbr_ hg BK287)
     replace BK287 := (bkb_ BK287 hb)
     have NB288_308 := (nbl_ hg BK288)
     have NB308_288 := (nbr_ hg BK288)
     replace BK288 := (bkb_ BK288 hb)
     have NB292_308 := (nbl_ hg BK292)
     have NB308_292 := (nbr_ hg BK292)
     replace BK292 := (bkb_ BK292 hb)
     have NB0_308 := Aside0.mk ((by rw [hg]; exact Nat.ne_of_lt (IsS150.lt (show IsS150 w0 _ g s0_0 t294 t295 from by repeat (first | (with_reducible first | exact HI0.out | apply IsS150.alloc | apply IsS150.drewN | apply IsS150.drew | apply IsS150.set_1 | apply IsS150.set_2 | refine IsS150.far ?_ NB0_287.out _ | refine IsS150.far ?_ NB0_288.out _ | refine IsS150.far ?_ NB0_292.out _) | exact HI0.out))) : g ≠ gb308))
     have NB308_0 := Aside0.mk ((by rw [hg]; exact Nat.ne_of_gt (IsS150.lt (show IsS150 w0 _ g s0_0 t294 t295 from by repeat (first | (with_reducible first | exact HI0.out | apply IsS150.alloc | apply IsS150.drewN | apply IsS150.drew | apply IsS150.set_1 | apply IsS150.set_2 | refine IsS150.far ?_ NB0_287.out _ | refine IsS150.far ?_ NB0_288.out _ | refine IsS150.far ?_ NB0_292.out _) | exact HI0.out))) : gb308 ≠ g))
     replace HI0 := Aside0.mk (IsS150.below dz47 hb)
     clear hb hbox hg
     refine hK.out _ _ ⟨(blk_cell BK287.out 0).trans rfl, (blk_cell BK287.out 1).trans rfl, (blk_cell BK292.out 0).trans rfl, (blk_cell BK292.out 1).trans rfl⟩ (fun hHeld => ?_)
     clear hK K
     refine norm_ (a' := ?_) ?_ ?_
     rotate_left
     ·exact dz493
     refine one_ (i := 3) (N := some 24) #[true, true, true, true, false, false, false, false, false, false, true, false, false, false] rfl rfl (one_of HT_.out (by kernel_rfl)) (by decide) (fun K hK => ?_)
     refine Kd.R_lit_step Kd.string _ 9 ?hg (N := 24) ?hd (xs := ([(⟨#[]⟩ : ByteArray), (⟨#[97]⟩ : ByteArray), (⟨#[98, 99]⟩ : ByteArray)] : List ByteArray)) (inner := [.string (⟨#[]⟩ : ByteArray), .string (⟨#[97]⟩ : ByteArray), .string (⟨#[98, 99]⟩ : ByteArray)]) (ok := fun _ => True) (okp := fun _ => True) ?hr ?hp (fun _ hk => hk) trivial (Below.refl _ _) (Nat.le_refl _) (by simp) ?_; (case hd => rfl); (case hg => rfl); (case hr => first | (go_simp; done) | (go_simp; rfl)); (case hp => exact dz468)
     intro v297 w22 ho23 hb hg_ hnew_
     clear hg_ hnew_
     (first | rw [← Ny296.out] at ho23 | (simp only [Int.reduceToNat] at ho23; rw [← Ny296.out] at ho23))
     replace HO_293001 := Aside0.mk (Kd.N_elder' dz7 (Kd.R_base ho23) hb)
     have HO298 := Aside0.mk (Kd.R_lower (Kd.R_newM (M := fun k_ => (w.heap.size ≤ k_)) ho23 (keep_size (w := w) (g := g) (row := none) dz6) (fun k_ h_ => h_)) (keep_size (w := w) (g := g) (row := none) dz6))
     replace BK287 := (bkb_ BK287 hb)
     replace BK288 := (bkb_ BK288 hb)
     replace BK292 := (bkb_ BK292 hb)
     replace BK308 := (bkb_ BK308 hb)
     replace HK := Aside0.mk (KeepBut.trans dz6 (KeepBut.of_below hb g none) (.inl rfl))
     replace HB := Aside0.mk (below_step dz39 hb)
     replace HI0 := Aside0.mk (IsS150.below dz22 hb)
     clear hb ho23
     obtain ⟨Ao24, co24, eo24⟩ := Kd.R_slice HO298.out
     (first | subst eo24 | (injection eo24 with f1_ f2_ f3_; have f4_ := f1_.symm; have f5_ := f3_.symm; clear f1_ f2_ f3_; subst f4_; subst f5_))
     refine hK.out _ _ ⟨(blk_cell BK287.out 0).trans rfl, (blk_cell BK287.out 1).trans rfl, (blk_cell BK292.out 0).trans rfl, (blk_cell BK292.out 1).trans rfl⟩ (fun hHeld => ?_)
     clear hK K
     refine norm_ (a' := ?_) ?_ ?_
     rotate_left
     ·show Act.put _ (some 24) _ = _
      simp only [Act.put, List.setIfInBounds_toArray, List.set_cons_zero, List.set_cons_succ, i64_w, i32_w]
      rfl
     refine one_ (i := 4) (N := some 25) #[true, true, true, true, true, false, false, false, false, false, true, false, false, false] rfl rfl (one_of HT_.out (by kernel_rfl)) (by decide) (fun K hK => ?_)
     refine goes_ Try.func65 (by kernel_rfl) rfl #[.pointer (some ⟨g, 0, none⟩), .slice Ao24 y296.length co24] (by rfl) rfl rfl dz1 ?_
     with_reducible refine (spec_l1Pick.calls g s0_0 t294 t295 _ _ y296 t299 t300 t301 w0 _ ?side1 ?side2 ?side3 ?side4 ?side5 A14.out).mono ?_
     (case side1 => exact dz471)
     (case side2 => exact dz472)
     (case side3 => exact dz469)
     (case side4 => exact (Kd.R_reads' HO298.out).2.1)
     (case side5 => exact far_slice (IsS150.own_ne HI0.out HO298.out (by decide)))
     rintro e w25 ⟨rfl, hi, hb, hk⟩
     refine ⟨_, rfl, ?_⟩
     replace HO_293001 := Aside0.mk (Kd.N_mono (Kd.N_keep (Kd.N_mono (ok := fun k_ => (((((w.heap.size ≤ k_)) ∧ (k_ ≠ gb287 ∧ (k_ ≠ gb288 ∧ (k_ ≠ gb292 ∧ k_ ≠ g)))) ∧ k_ ≠ gb308) ∧ some k_ ≠ (.slice Ao24 y296.length co24 : Value).ownBlock)) dz7 (fun k_ hk_ => (⟨hk_, hk_.1.1.2.2.2.2⟩ : _ ∧ k_ ≠ g))) hk (fun _ h => h.2)) (fun _ h => h.1))
     replace BK287 := Aside0.mk (KeepBut.blk hk (g' := gb287) (o := .cells #[.slice A1_0 l1_0.length c1_0, .int .i64 a1_1] 31 (0, 0)) dz15 NB287_0.out (by simp))
     replace BK288 := Aside0.mk (KeepBut.blk hk (g' := gb288) (o := .cells #[.int .i64 0, .slice none 0 0] 44 (0, 0)) dz16 NB288_0.out (by simp))
     replace BK292 := Aside0.mk (KeepBut.blk hk (g' := gb292) (o := .cells #[.int .i64 x293000_1, .slice Ao19 x293001_1.length co19] 44 (0, 0)) dz17 NB292_0.out (by simp))
     replace BK308 := Aside0.mk (KeepBut.blk hk (g' := gb308) (o := .cells #[.int .i64 0, .slice none 0 0] 44 (0, 0)) dz27 NB308_0.out (by simp))
     replace HO298 := Aside0.mk (Kd.R_mono (Kd.R_keep (IsS150.apart (show IsS150 w0 _ g s0_0 t294 t295 from by repeat (first | (with_reducible first | exact HI0.out | apply IsS150.alloc | apply IsS150.drewN | apply IsS150.drew | apply IsS150.set_1 | apply IsS150.set_2 | refine IsS150.far ?_ NB0_287.out _ | refine IsS150.far ?_ NB0_288.out _ | refine IsS150.far ?_ NB0_292.out _ | refine IsS150.far ?_ NB0_308.out _) | exact HI0.out)) dz33 (by decide)) hk (fun _ h => h.2)) (fun _ h => h.1))
     replace HK := Aside0.mk (KeepBut.trans dz6 hk (.inl rfl))
     replace HB := Aside0.mk (hb)
     replace HI0 := Aside0.mk (hi)
     (try clear hb)
     (try clear hb2)
     (try clear hk)
     (try clear hi)
     refine hK.out _ _ ⟨(blk_cell BK287.out 0).trans rfl, (blk_cell BK287.out 1).trans rfl, (blk_cell BK292.out 0).trans rfl, (blk_cell BK292.out 1).trans rfl⟩ (fun hHeld => ?_)
     clear hK K
     refine norm_ (a' := ?_) ?_ ?_
     rotate_left
     ·exact dz498
     refine one_ (i := 5) (N := some 26) #[true, true, true, true, true, true, false, false, false, false, true, false, false, false] rfl rfl (one_of HT_.out (by kernel_rfl)) (by decide) (fun K hK => ?_)
     refine goes_ Try.func20 (by kernel_rfl) rfl #[.agg #[.slice A1_0 l1_0.length c1_0, .int .i64 a1_1], .agg #[.int .i64 x293000_1, .slice Ao19 x293001_1.length co19], .string t299] (by rfl) rfl rfl dz1 ?_
     with_reducible refine (spec_WriterAdd.calls k1 _ _ l1_0 a1_1 x293000_1 _ _ x293001_1 t299 t302 t303 t306 t307 _ ?side1 ?side2 ?side3 ?side4 A15.out).mono ?_
     (case side1 => exact Kd.C_keep 0 HR1_0.out dz6 hf1_0)
     (case side2 => exact HC1_0.out)
     (case side3 => exact dz470)
     (case side4 => exact (Kd.N_reads' HO_293001.out).2.1)
     rintro e w26 ⟨v304, rfl, ho0, hb⟩
     refine ⟨_, rfl, ?_⟩
     have HO305 := Aside0.mk (Kd.N_lower (Kd.N_mono (ok' := fun k_ => (w.heap.size ≤ k_) ∧ some k_ ≠ (.slice Ao19 x293001_1.length co19 : Value).ownBlock ∧ some k_ ≠ (.slice Ao24 y296.length co24 : Value).ownBlock ∧ k_ ≠ gb287 ∧ k_ ≠ gb288 ∧ k_ ≠ gb292 ∧ k_ ≠ gb308 ∧ k_ ≠ g) (Kd.S_N (Kd.S_bound ho0)) (fun k_ hk_ => ⟨(Nat.le_trans (keep_size (w := w) (g := g) (row := none) dz6) hk_.2.1), (Kd.fresh' (Kd.N_lt dz7) k_ hk_.2.1), (Kd.fresh' (Kd.R_lt dz33) k_ hk_.2.1), (Kd.freshB (g := gb287) (o := .cells #[.slice A1_0 l1_0.length c1_0, .int .i64 a1_1] 31 (0, 0)) dz15 k_ hk_.2.1), (Kd.freshB (g := gb288) (o := .cells #[.int .i64 0, .slice none 0 0] 44 (0, 0)) dz16 k_ hk_.2.1), (Kd.freshB (g := gb292) (o := .cells #[.int .i64 x293000_1, .slice Ao19 x293001_1.length co19] 44 (0, 0)) dz17 k_ hk_.2.1), (Kd.freshB (g := gb308) (o := .cells #[.int .i64 0, .slice none 0 0] 44 (0, 0)) dz27 k_ hk_.2.1), (IsS150.fresh dz22 k_ hk_.2.1)⟩)) (keep_size (w := w) (g := g) (row := none) dz6))
     replace HO_293001 := Aside0.mk (Kd.N_elder' dz7 dz38 hb)
     replace HO298 := (rbb_ HO298 hb)
     replace BK287 := (bkb_ BK287 hb)
     replace BK288 := (bkb_ BK288 hb)
     replace BK292 := (bkb_ BK292 hb)
     replace BK308 := (bkb_ BK308 hb)
     replace HK := Aside0.mk (KeepBut.trans dz6 (KeepBut.of_below hb g none) (.inl rfl))
     replace HB := Aside0.mk (below_step dz39 hb)
     replace HI0 := Aside0.mk (IsS150.below dz22 hb)
     (try clear hb)
     (try clear hb2)
     (try clear hk)
     (try clear hi)
     (try clear ho0)
     refine hK.out _ _ ⟨(blk_cell BK287.out 0).trans rfl, (blk_cell BK287.out 1).trans rfl, (blk_cell BK292.out 0).trans rfl, (blk_cell BK292.out 1).trans rfl⟩ (fun hHeld => ?_)
     clear hK K
     refine norm_ (a' := ?_) ?_ ?_
     rotate_left
     ·exact dz499
     refine pure_ (i := 6) (N := some 20) (v := ?_) (a' := ?_) #[true, true, true, true, true, true, true, false, false, false, true, false, false, false] rfl rfl (any_of HT_.out (by kernel_rfl)) (fun _ _ _ h => h) (Or.inl ⟨by rfl, ?_⟩) ?_ ?_
     rotate_left
     ·exact dz489
     rotate_left
     ·exact dz490
     refine pure_ (i := 7) (N := some 27) (v := ?_) (a' := ?_) #[true, true, true, true, true, true, true, true, false, false, true, false, false, false] rfl rfl (any_of HT_.out (by kernel_rfl)) (fun _ _ _ h => h) (Or.inl ⟨by rfl, ?_⟩) ?_ ?_
     rotate_left
     ·exact dz489
     rotate_left
     ·exact dz490
     refine pure_ (i := 8) (N := some 28) (v := ?_) (a' := ?_) #[true, true, true, true, true, true, true, true, true, false, true, false, false, false] rfl rfl (any_of HT_.out (by kernel_rfl)) (fun _ _ _ h => h) (Or.inl ⟨by rfl, ?_⟩) ?_ ?_
     rotate_left
     ·exact dz489
     rotate_left
     ·exact dz490
     refine pure_ (i := 9) (N := some 29) (v := ?_) (a' := ?_) (fl_ 11 3) rfl rfl (any_of HT_.out (by kernel_rfl)) (fun _ _ _ h => h) (Or.inl ⟨by rfl, ?_⟩) ?_ ?_
     rotate_left
     ·exact dz489
     rotate_left
     ·exact dz490
     exact norm_ dz90 (hCont (.slice Ao24 y296.length co24, v304, gb308) _ ⟨hHeld, dz91, dz114, (by (with_reducible repeat (first | apply Kd.N_alloc | apply Kd.N_drewN | apply Kd.N_drew)); exact Kd.N_mono HO_293001.out (fun _ hk => ⟨hk.1.1.1.1, ⟨hk.1.2, ⟨hk.2, ⟨hk.1.1.1.2.2.2.2, ⟨hk.1.1.1.2.1, ⟨hk.1.1.1.2.2.1, ⟨hk.1.1.1.2.2.2.1, hk.1.1.2⟩⟩⟩⟩⟩⟩⟩)), dz15, dz16, dz17, dz27, GW308.out, GE308.out, NB0_308.out, NB308_0.out, NB287_308.out, NB308_287.out, NB288_308.out, NB308_288.out, NB292_308.out, NB308_292.out, dz22, dz6, dz39⟩)
    rintro ⟨v297, v304, gb308⟩ w27 ⟨hS_, h0_, h1_, h2_, h3_, h4_, h5_, h6_, h7_, h8_, h9_, h10_, h11_, h12_, h13_, h14_, h15_, h16_, h17_, h18_, h19_⟩
    have n0_ : Aside0 (Kd.R Kd.string 9 w27 w.heap.size (fun k_ => (w.heap.size ≤ k_)) v297 y296) := ⟨h0_⟩
    have n1_ : Aside0 (Kd.N k50 50 w27 w.heap.size (fun k_ => (w.heap.size ≤ k_) ∧ some k_ ≠ (v297 : Value).ownBlock ∧ some k_ ≠ (.slice Ao19 x293001_1.length co19 : Value).ownBlock ∧ k_ ≠ g ∧ k_ ≠ gb287 ∧ k_ ≠ gb288 ∧ k_ ≠ gb292 ∧ k_ ≠ gb308) v304 t303) := ⟨h1_⟩
    have n2_ : Aside0 (Kd.N k50 50 w27 w.heap.size (fun k_ => (w.heap.size ≤ k_) ∧ some k_ ≠ (v297 : Value).ownBlock ∧ some k_ ≠ (v304 : Value).ownBlock ∧ k_ ≠ g ∧ k_ ≠ gb287 ∧ k_ ≠ gb288 ∧ k_ ≠ gb292 ∧ k_ ≠ gb308) (.slice Ao19 x293001_1.length co19) x293001_1) := ⟨h2_⟩
    have n3_ : Aside0 (w27.heap[gb287]? = some (.cells #[.slice A1_0 l1_0.length c1_0, .int .i64 a1_1] 31 (0, 0))) := ⟨h3_⟩
    have n4_ : Aside0 (w27.heap[gb288]? = some (.cells #[.int .i64 0, .slice none 0 0] 44 (0, 0))) := ⟨h4_⟩
    have n5_ : Aside0 (w27.heap[gb292]? = some (.cells #[.int .i64 x293000_1, .slice Ao19 x293001_1.length co19] 44 (0, 0))) := ⟨h5_⟩
    have n6_ : Aside0 (w27.heap[gb308]? = some (.cells #[.int .i64 0, .slice none 0 0] 44 (0, 0))) := ⟨h6_⟩
    have n7_ : Aside0 (w.heap.size ≤ gb308) := ⟨h7_⟩
    have n8_ : Aside0 (w0.heap.size ≤ gb308) := ⟨h8_⟩
    have n9_ : Aside0 (g ≠ gb308) := ⟨h9_⟩
    have n10_ : Aside0 (gb308 ≠ g) := ⟨h10_⟩
    have n11_ : Aside0 (gb287 ≠ gb308) := ⟨h11_⟩
    have n12_ : Aside0 (gb308 ≠ gb287) := ⟨h12_⟩
    have n13_ : Aside0 (gb288 ≠ gb308) := ⟨h13_⟩
    have n14_ : Aside0 (gb308 ≠ gb288) := ⟨h14_⟩
    have n15_ : Aside0 (gb292 ≠ gb308) := ⟨h15_⟩
    have n16_ : Aside0 (gb308 ≠ gb292) := ⟨h16_⟩
    have n17_ : Aside0 (IsS150 w0 w27 g s0_0 t300 t301) := ⟨h17_⟩
    have n18_ : Aside0 (KeepBut w w27 g none) := ⟨h18_⟩
    have n19_ : Aside0 (Below w0.heap.size w0 w27) := ⟨h19_⟩
    clear HO_293001
    clear BK287
    clear BK288
    clear BK292
    clear HI0
    clear HK
    clear HB
    clear h0_ h1_ h2_ h3_ h4_ h5_ h6_ h7_ h8_ h9_ h10_ h11_ h12_ h13_ h14_ h15_ h16_ h17_ h18_ h19_
    have HO298 := n0_
    have HO305 := n1_
    have HO_293001 := n2_
    have BK287 := n3_
    have BK288 := n4_
    have BK292 := n5_
    have BK308 := n6_
    have GW308 := n7_
    have GE308 := n8_
    have NB0_308 := n9_
    have NB308_0 := n10_
    have NB287_308 := n11_
    have NB308_287 := n12_
    have NB288_308 := n13_
    have NB308_288 := n14_
    have NB292_308 := n15_
    have NB308_292 := n16_
    have HI0 := n17_
    have HK := n18_
    have HB := n19_
    clear n0_ n1_ n2_ n3_ n4_ n5_ n6_ n7_ n8_ n9_ n10_ n11_ n12_ n13_ n14_ n15_ n16_ n17_ n18_ n19_
    have hHeld : w27.cell? ⟨gb287, 0, none⟩ = some (.slice A1_0 l1_0.length c1_0) ∧ w27.cell? ⟨gb287, 1, none⟩ = some (.int .i64 a1_1) ∧ w27.cell? ⟨gb292, 0, none⟩ = some (.int .i64 x293000_1) ∧ w27.cell? ⟨gb292, 1, none⟩ = some (.slice Ao19 x293001_1.length co19) := hS_
    obtain ⟨Ao29, co29, eo29⟩ := Kd.N_slice HO305.out
    (first | subst eo29 | (injection eo29 with f1_ f2_ f3_; have f4_ := f1_.symm; have f5_ := f3_.symm; clear f1_ f2_ f3_; subst f4_; subst f5_))
    refine norm_ (a' := ?_) ?_ ?_
    rotate_left
    ·simp only [putAll, Act.put, List.setIfInBounds_toArray, List.set_cons_zero, List.set_cons_succ]
     rfl
    refine one_ (i := 11) (N := none) (fl_ 12 2) rfl rfl (one_of HT_.out (by kernel_rfl)) (by decide) (fun K hK => ?_)
    have hs28 : w27.cell? ⟨gb308, 0, none⟩ = some (.int .i64 0) := (blk_cell BK308.out 0).trans rfl
    have hfs28 := blk_frozen BK308.out 0
    have hns28_0 := NB287_308.out
    have hns28_1 := NB288_308.out
    have hns28_2 := NB292_308.out
    have hms28_0 := NB308_287.out
    have hms28_1 := NB308_288.out
    have hms28_2 := NB308_292.out
    have hs30 : w27.cell? ⟨gb308, 1, none⟩ = some (.slice none 0 0) := (blk_cell BK308.out 1).trans rfl
    have hfs30 := blk_frozen BK308.out 1
    have hns30_0 := NB287_308.out
    have hns30_1 := NB288_308.out
    have hns30_2 := NB292_308.out
    have hms30_0 := NB308_287.out
    have hms30_1 := NB308_288.out
    have hms30_2 := NB308_292.out
    refine skip_ (w1 := ?_) (by rfl) rfl ?_ ?_
    rotate_left
    ·go_simp
     rfl
    refine hK.out _ _ ⟨((cell_far (p := ⟨gb308, _, none⟩) NB287_308.out _).trans (((cell_far (p := ⟨gb308, _, none⟩) NB287_308.out _).trans (hHeld.1)))), ((cell_far (p := ⟨gb308, _, none⟩) NB287_308.out _).trans (((cell_far (p := ⟨gb308, _, none⟩) NB287_308.out _).trans (hHeld.2.1)))), ((cell_far (p := ⟨gb308, _, none⟩) NB292_308.out _).trans (((cell_far (p := ⟨gb308, _, none⟩) NB292_308.out _).trans (hHeld.2.2.1)))), ((cell_far (p := ⟨gb308, _, none⟩) NB292_308.out _).trans (((cell_far (p := ⟨gb308, _, none⟩) NB292_308.out _).trans (hHeld.2.2.2))))⟩ (fun hHeld => ?_)
    clear hK K
    refine pure_ (i := 12) (N := some 8) (v := ?_) (a' := ?_) (fl_ 13 1) rfl rfl (any_of HT_.out (by kernel_rfl)) (fun _ _ _ h => h) (Or.inl ⟨by rfl, ?_⟩) ?_ ?_
    rotate_left
    ·exact dz489
    rotate_left
    ·exact dz490
    refine pure_ (i := 13) (N := some 9) (v := ?_) (a' := ?_) (fl_ 14 0) rfl rfl (any_of HT_.out (by kernel_rfl)) (fun _ _ _ h => h) (Or.inl ⟨by rfl, ?_⟩) ?_ ?_
    rotate_left
    ·exact dz489
    rotate_left
    ·exact dz490
    refine done_ (done_of HT_.out (by kernel_rfl)) ?_
    go_upto_if 31 with (first | ((with_reducible refine gate_callee (f := 66) rfl ?_); refine goesL_ (some 31) rfl rfl Try.func66 (by kernel_rfl) rfl #[.pointer (some ⟨g, 0, none⟩), .int .i64 2] rfl dz1 ?_; (with_reducible refine (spec_l1Once.calls g s0_0 t300 t301 2 t309 t310 t311 w0 _ ?side1 ?side2 A16.out).mono ?_); (case side1 => exact dz471); (case side2 => exact dz472); rintro e w31 ⟨rfl, hi, hb, hk⟩; refine ⟨_, rfl, ?_⟩; replace HO_293001 := Aside0.mk (Kd.N_mono (Kd.N_keep (Kd.N_mono (ok := fun k_ => (((w.heap.size ≤ k_)) ∧ (some k_ ≠ (v297 : Value).ownBlock ∧ (some k_ ≠ (.slice Ao29 t303.length co29 : Value).ownBlock ∧ (k_ ≠ g ∧ (k_ ≠ gb287 ∧ (k_ ≠ gb288 ∧ (k_ ≠ gb292 ∧ k_ ≠ gb308)))))))) (by (with_reducible repeat (first | apply Kd.N_alloc | apply Kd.N_drewN | apply Kd.N_drew)); exact (Kd.N_mono (Kd.N_far (p := ⟨gb308, 1, none⟩) (Kd.N_far (p := ⟨gb308, 0, none⟩) (Kd.N_mono HO_293001.out (fun k_ hk => (⟨hk, hk.2.2.2.2.2.2.2⟩ : _ ∧ k_ ≠ gb308))) (fun _ hk => hk.2) (.int .i64 t302)) (fun _ hk => hk.2) (.slice Ao29 t303.length co29)) (fun _ h_ => h_.1))) (fun k_ hk_ => (⟨hk_, hk_.2.2.2.1⟩ : _ ∧ k_ ≠ g))) hk (fun _ h => h.2)) (fun _ h => h.1)); replace BK287 := Aside0.mk (KeepBut.blk hk (g' := gb287) (o := .cells #[.slice A1_0 l1_0.length c1_0, .int .i64 a1_1] 31 (0, 0)) (by (with_reducible repeat (first | refine blk_drewN ?_ _ | refine blk_drew ?_ | refine blk_alloc ?_ _)); refine blk_far ?_ NB287_308.out _; (with_reducible repeat (first | refine blk_drewN ?_ _ | refine blk_drew ?_ | refine blk_alloc ?_ _)); refine blk_far ?_ NB287_308.out _; (with_reducible repeat (first | refine blk_drewN ?_ _ | refine blk_drew ?_ | refine blk_alloc ?_ _)); exact BK287.out) NB287_0.out (by simp)); replace BK288 := Aside0.mk (KeepBut.blk hk (g' := gb288) (o := .cells #[.int .i64 0, .slice none 0 0] 44 (0, 0)) (by (with_reducible repeat (first | refine blk_drewN ?_ _ | refine blk_drew ?_ | refine blk_alloc ?_ _)); refine blk_far ?_ NB288_308.out _; (with_reducible repeat (first | refine blk_drewN ?_ _ | refine blk_drew ?_ | refine blk_alloc ?_ _)); refine blk_far ?_ NB288_308.out _; (with_reducible repeat (first | refine blk_drewN ?_ _ | refine blk_drew ?_ | refine blk_alloc ?_ _)); exact BK288.out) NB288_0.out (by simp)); replace BK292 := Aside0.mk (KeepBut.blk hk (g' := gb292) (o := .cells #[.int .i64 x293000_1, .slice Ao19 x293001_1.length co19] 44 (0, 0)) (by (with_reducible repeat (first | refine blk_drewN ?_ _ | refine blk_drew ?_ | refine blk_alloc ?_ _)); refine blk_far ?_ NB292_308.out _; (with_reducible repeat (first | refine blk_drewN ?_ _ | refine blk_drew ?_ | refine blk_alloc ?_ _)); refine blk_far ?_ NB292_308.out _; (with_reducible repeat (first | refine blk_drewN ?_ _ | refine blk_drew ?_ | refine blk_alloc ?_ _)); exact BK292.out) NB292_0.out (by simp)); replace HO298 := Aside0.mk (Kd.R_mono (Kd.R_keep (IsS150.apart (show IsS150 w0 _ g s0_0 t300 t301 from by repeat (first | (with_reducible first | exact HI0.out | apply IsS150.alloc | apply IsS150.drewN | apply IsS150.drew | apply IsS150.set_1 | apply IsS150.set_2 | refine IsS150.far ?_ NB0_287.out _ | refine IsS150.far ?_ NB0_288.out _ | refine IsS150.far ?_ NB0_292.out _ | refine IsS150.far ?_ NB0_308.out _) | exact HI0.out)) (by (with_reducible repeat (first | apply Kd.R_alloc | apply Kd.R_drewN | apply Kd.R_drew)); exact (Kd.R_mono (Kd.R_far (p := ⟨gb308, 1, none⟩) (Kd.R_far (p := ⟨gb308, 0, none⟩) (Kd.R_types HO298.out BK308.out (by decide)) (fun _ hk => hk.2) (.int .i64 t302)) (fun _ hk => hk.2) (.slice Ao29 t303.length co29)) (fun _ h_ => h_.1))) (by decide)) hk (fun _ h => h.2)) (fun _ h => h.1)); replace HO305 := Aside0.mk (Kd.N_mono (Kd.N_keep (Kd.N_mono (ok := fun k_ => (((w.heap.size ≤ k_)) ∧ (some k_ ≠ (v297 : Value).ownBlock ∧ (some k_ ≠ (.slice Ao19 x293001_1.length co19 : Value).ownBlock ∧ (k_ ≠ g ∧ (k_ ≠ gb287 ∧ (k_ ≠ gb288 ∧ (k_ ≠ gb292 ∧ k_ ≠ gb308)))))))) (by (with_reducible repeat (first | apply Kd.N_alloc | apply Kd.N_drewN | apply Kd.N_drew)); exact (Kd.N_mono (Kd.N_far (p := ⟨gb308, 1, none⟩) (Kd.N_far (p := ⟨gb308, 0, none⟩) (Kd.N_mono HO305.out (fun k_ hk => (⟨hk, hk.2.2.2.2.2.2.2⟩ : _ ∧ k_ ≠ gb308))) (fun _ hk => hk.2) (.int .i64 t302)) (fun _ hk => hk.2) (.slice Ao29 t303.length co29)) (fun _ h_ => h_.1))) (fun k_ hk_ => (⟨hk_, hk_.2.2.2.1⟩ : _ ∧ k_ ≠ g))) hk (fun _ h => h.2)) (fun _ h => h.1)); replace BK308 := Aside0.mk (KeepBut.blk hk (g' := gb308) (o := .cells #[.int .i64 t302, .slice Ao29 t303.length co29] 44 (0, 0)) (by (with_reducible repeat (first | refine blk_drewN ?_ _ | refine blk_drew ?_ | refine blk_alloc ?_ _)); refine blk_put (cs := #[.int .i64 t302, .slice none 0 0]) ?_ 1 _ rfl; (with_reducible repeat (first | refine blk_drewN ?_ _ | refine blk_drew ?_ | refine blk_alloc ?_ _)); refine blk_put (cs := #[.int .i64 0, .slice none 0 0]) ?_ 0 _ rfl; (with_reducible repeat (first | refine blk_drewN ?_ _ | refine blk_drew ?_ | refine blk_alloc ?_ _)); exact BK308.out) NB308_0.out (by simp)); replace HK := Aside0.mk (KeepBut.trans dz6 hk (.inl rfl)); replace HB := Aside0.mk (hb); replace HI0 := Aside0.mk (hi); (try clear hb); (try clear hb2); (try clear hk); (try clear hi)))
    (try simp only [Act.put, List.setIfInBounds_toArray, List.set_cons_zero, List.set_cons_succ])
    go_cut [9] (fun v9 wc => ∃ (kq : Nat) (x9_16 : Bool) (x1001_16 : Int) (x1002_16 : Int) (x309000_16 : Int) (x309001_16 : List (S50)) (u309001 : Value), v9 = .bool x9_16 ∧ Aside0 (spec_l8DrawRight.j1 kq x6_1 x9_16 s0_0 x1001_16 x1002_16 l1_0 a1_1 x293000_1 x293001_1 x309000_16 x309001_16 = some (r1, r2, r3, r4)) ∧ Aside0 (kq ≤ k1) ∧ Aside0 (Kd.N k50 50 wc w.heap.size (fun k_ => (w.heap.size ≤ k_) ∧ some k_ ≠ (u309001 : Value).ownBlock ∧ k_ ≠ gb287 ∧ k_ ≠ gb288 ∧ k_ ≠ gb292 ∧ k_ ≠ gb308 ∧ k_ ≠ g) (.slice Ao19 x293001_1.length co19) x293001_1) ∧ Aside0 (Kd.N k50 50 wc w.heap.size (fun k_ => (w.heap.size ≤ k_) ∧ some k_ ≠ ((.slice Ao19 x293001_1.length co19) : Value).ownBlock ∧ k_ ≠ gb287 ∧ k_ ≠ gb288 ∧ k_ ≠ gb292 ∧ k_ ≠ gb308 ∧ k_ ≠ g) u309001 x309001_16) ∧ Aside0 (wc.heap[gb287]? = some (.cells #[(.slice A1_0 l1_0.length c1_0), .int .i64 a1_1] 31 (0, 0))) ∧ Aside0 (wc.heap[gb288]? = some (.cells #[.int .i64 0, (.slice none 0 0)] 44 (0, 0))) ∧ Aside0 (wc.heap[gb292]? = some (.cells #[.int .i64 x293000_1, (.slice Ao19 x293001_1.length co19)] 44 (0, 0))) ∧ Aside0 (wc.heap[gb308]? = some (.cells #[.int .i64 x309000_16, u309001] 44 (0, 0))) ∧ Aside0 (IsS150 w0 wc g s0_0 x1001_16 x1002_16) ∧ Aside0 (KeepBut w wc g none) ∧ Aside0 (Below w0.heap.size w0 wc))
    case first =>
     have H := HC17.out
     clear HC17
     by_cases c32 : t309 = true
     ·subst c32
      have H1 : ((spec_l1Max.f (x293001_1.length : Int) 1).bind fun t312 => ((spec_l1Below.f s0_0 t310 t311 t312).bind fun bt313 => ((spec_l1Below.f s0_0 bt313.2.1 bt313.2.2 (l1_0.length : Int)).bind fun bt316 => ((spec_WriterAck.f k1 l1_0 a1_1 x293000_1 x293001_1 (wrap64 (1 + bt313.1)) bt316.1).bind fun bt319 => (spec_l8DrawRight.j1 k1 x6_1 bt319.2.2 s0_0 bt316.2.1 bt316.2.2 l1_0 a1_1 x293000_1 x293001_1 bt319.1 bt319.2.1))))) = some (r1, r2, r3, r4) := by rw [if_pos rfl] at H; exact H
      clear H
      have H := H1
      clear H1
      replace H := Option.bind_eq_some_iff.mp H
      obtain ⟨t312, A330, H⟩ := H
      replace H : ((spec_l1Below.f s0_0 t310 t311 t312).bind fun bt313 => ((spec_l1Below.f s0_0 bt313.2.1 bt313.2.2 (l1_0.length : Int)).bind fun bt316 => ((spec_WriterAck.f k1 l1_0 a1_1 x293000_1 x293001_1 (wrap64 (1 + bt313.1)) bt316.1).bind fun bt319 => (spec_l8DrawRight.j1 k1 x6_1 bt319.2.2 s0_0 bt316.2.1 bt316.2.2 l1_0 a1_1 x293000_1 x293001_1 bt319.1 bt319.2.1)))) = some (r1, r2, r3, r4) := H
      have A33 := Aside0.mk A330
      clear A330
      replace H := Option.bind_eq_some_iff.mp H
      obtain ⟨⟨t313, t314, t315⟩, A340, H⟩ := H
      replace H : ((spec_l1Below.f s0_0 t314 t315 (l1_0.length : Int)).bind fun bt316 => ((spec_WriterAck.f k1 l1_0 a1_1 x293000_1 x293001_1 (wrap64 (1 + t313)) bt316.1).bind fun bt319 => (spec_l8DrawRight.j1 k1 x6_1 bt319.2.2 s0_0 bt316.2.1 bt316.2.2 l1_0 a1_1 x293000_1 x293001_1 bt319.1 bt319.2.1))) = some (r1, r2, r3, r4) := H
      have A34 := Aside0.mk A340
      clear A340
      replace H := Option.bind_eq_some_iff.mp H
      obtain ⟨⟨t316, t317, t318⟩, A350, H⟩ := H
      replace H : ((spec_WriterAck.f k1 l1_0 a1_1 x293000_1 x293001_1 (wrap64 (1 + t313)) t316).bind fun bt319 => (spec_l8DrawRight.j1 k1 x6_1 bt319.2.2 s0_0 t317 t318 l1_0 a1_1 x293000_1 x293001_1 bt319.1 bt319.2.1)) = some (r1, r2, r3, r4) := H
      have A35 := Aside0.mk A350
      clear A350
      replace H := Option.bind_eq_some_iff.mp H
      obtain ⟨⟨t319, t320, t323⟩, A360, H⟩ := H
      replace H : (spec_l8DrawRight.j1 k1 x6_1 t323 s0_0 t317 t318 l1_0 a1_1 x293000_1 x293001_1 t319 t320) = some (r1, r2, r3, r4) := H
      have A36 := Aside0.mk A360
      clear A360
      have H' := Aside0.mk H
      clear H
      try go_wp2
      replace HO_293001 := Aside0.mk (Kd.N_drew HO_293001.out)
      replace HO298 := Aside0.mk (Kd.R_drew HO298.out)
      replace HO305 := Aside0.mk (Kd.N_drew HO305.out)
      replace BK287 := Aside0.mk (blk_drew BK287.out)
      replace BK288 := Aside0.mk (blk_drew BK288.out)
      replace BK292 := Aside0.mk (blk_drew BK292.out)
      replace BK308 := Aside0.mk (blk_drew BK308.out)
      replace HI0 := Aside0.mk (IsS150.drew HI0.out)
      replace HK := Aside0.mk (keep_drew HK.out)
      replace HB := Aside0.mk (below_drew1 HB.out)
      refine start_ (n := 20) (S := fun w' => w'.cell? ⟨gb287, 0, none⟩ = some (.slice A1_0 l1_0.length c1_0) ∧ w'.cell? ⟨gb287, 1, none⟩ = some (.int .i64 a1_1) ∧ w'.cell? ⟨gb292, 0, none⟩ = some (.int .i64 x293000_1) ∧ w'.cell? ⟨gb292, 1, none⟩ = some (.slice Ao19 x293001_1.length co19)) (ds := []) (fl_ 0 20) (by kernel_rfl) rfl rfl ⟨(blk_cell BK287.out 0).trans rfl, (blk_cell BK287.out 1).trans rfl, (blk_cell BK292.out 0).trans rfl, (blk_cell BK292.out 1).trans rfl⟩ (fun hHeld => ?_); refine with_tabW spec_l8DrawRight.tab7 spec_l8DrawRight.bits7 (fun HT_ HW_ => ?_)
      generalize w31.drew = w37 at HO_293001 HO298 HO305 BK287 BK288 BK292 BK308 HI0 HK HB hHeld ⊢
      refine pure_ (i := 2) (N := some 35) (v := ?_) (a' := ?_) #[false, false, true, false, false, false, false, false, false, false, false, false, false, false, false, false, false, false, false, false] rfl rfl (any_of HT_.out (by kernel_rfl)) (fun _ _ _ h => h) (Or.inl ⟨by rfl, ?_⟩) ?_ ?_
      rotate_left
      ·exact dz489
      rotate_left
      ·exact dz490
      refine pure_ (i := 3) (N := some 36) (v := ?_) (a' := ?_) #[false, false, true, true, false, false, false, false, false, false, false, false, false, false, false, false, false, false, false, false] rfl rfl (any_of HT_.out (by kernel_rfl)) (fun _ _ _ h => h) (Or.inl ⟨by rfl, ?_⟩) ?_ ?_
      rotate_left
      ·exact dz489
      rotate_left
      ·exact dz490
      refine pure_ (i := 9) (N := some 42) (v := ?_) (a' := ?_) #[false, false, true, true, false, false, false, false, false, true, false, false, false, false, false, false, false, false, false, false] rfl rfl (any_of HT_.out (by kernel_rfl)) (fun _ _ _ h => h) (Or.inl ⟨by rfl, ?_⟩) ?_ ?_
      rotate_left
      ·exact dz489
      rotate_left
      ·exact dz490
      refine pure_ (i := 10) (N := some 43) (v := ?_) (a' := ?_) #[false, false, true, true, false, false, false, false, false, true, true, false, false, false, false, false, false, false, false, false] rfl rfl (any_of HT_.out (by kernel_rfl)) (fun _ _ _ h => h) (Or.inl ⟨by rfl, ?_⟩) ?_ ?_
      rotate_left
      ·exact dz489
      rotate_left
      ·exact dz490
      refine take_ (i := 0) (N := some 33) (v := ?_) (a' := ?_) #[true, false, true, true, false, false, false, false, false, true, true, false, false, false, false, false, false, false, false, false] rfl rfl (take_ofW HT_.out HW_.out (by kernel_rfl)) (fun _ _ _ h => h) (Or.inl ⟨by rfl, ?_⟩) hHeld ?_ ?_
      rotate_left
      ·exact dz497
      rotate_left
      ·exact dz490
      refine take_ (i := 1) (N := some 34) (v := ?_) (a' := ?_) #[true, true, true, true, false, false, false, false, false, true, true, false, false, false, false, false, false, false, false, false] rfl rfl (take_ofW HT_.out HW_.out (by kernel_rfl)) (fun _ _ _ h => h) (Or.inl ⟨by rfl, ?_⟩) hHeld ?_ ?_
      rotate_left
      ·exact dz497
      rotate_left
      ·exact dz490
      refine take_ (i := 4) (N := some 37) (v := ?_) (a' := ?_) #[true, true, true, true, true, false, false, false, false, true, true, false, false, false, false, false, false, false, false, false] rfl rfl (take_ofW HT_.out HW_.out (by kernel_rfl)) (fun _ _ _ h => h) (Or.inl ⟨by rfl, ?_⟩) hHeld ?_ ?_
      rotate_left
      ·exact dz497
      rotate_left
      ·exact dz490
      refine pure_ (i := 5) (N := some 38) (v := ?_) (a' := ?_) #[true, true, true, true, true, true, false, false, false, true, true, false, false, false, false, false, false, false, false, false] rfl rfl (any_of HT_.out (by kernel_rfl)) (fun _ _ _ h => h) (Or.inl ⟨by rfl, ?_⟩) ?_ ?_
      rotate_left
      ·exact dz489
      rotate_left
      ·exact dz490
      refine take_ (i := 11) (N := some 44) (v := ?_) (a' := ?_) #[true, true, true, true, true, true, false, false, false, true, true, true, false, false, false, false, false, false, false, false] rfl rfl (take_ofW HT_.out HW_.out (by kernel_rfl)) (fun _ _ _ h => h) (Or.inl ⟨by rfl, ?_⟩) hHeld ?_ ?_
      rotate_left
      ·exact dz497
      rotate_left
      ·exact dz490
      refine pure_ (i := 12) (N := some 45) (v := ?_) (a' := ?_) #[true, true, true, true, true, true, false, false, false, true, true, true, true, false, false, false, false, false, false, false] rfl rfl (any_of HT_.out (by kernel_rfl)) (fun _ _ _ h => h) (Or.inl ⟨by rfl, ?_⟩) ?_ ?_
      rotate_left
      ·exact dz489
      rotate_left
      ·exact dz490
      refine one_ (i := 6) (N := some 39) #[true, true, true, true, true, true, true, false, false, true, true, true, true, false, false, false, false, false, false, false] rfl rfl (one_of HT_.out (by kernel_rfl)) (by decide) (fun K hK => ?_)
      refine goes_ Try.func142 (by kernel_rfl) rfl #[.int .i64 (x293001_1.length : Int), .int .i64 1] (by rfl) rfl rfl dz1 ?_
      with_reducible refine (spec_l1Max.calls (x293001_1.length : Int) 1 t312 _ A33.out).mono ?_
      rintro e w' ⟨rfl, ⟨nd, rfl⟩⟩
      refine ⟨_, rfl, ?_⟩
      refine hK.out _ _ ⟨(blk_cell BK287.out 0).trans rfl, (blk_cell BK287.out 1).trans rfl, (blk_cell BK292.out 0).trans rfl, (blk_cell BK292.out 1).trans rfl⟩ (fun hHeld => ?_)
      clear hK K
      refine norm_ (a' := ?_) ?_ ?_
      rotate_left
      ·show Act.put _ (some 39) _ = _
       simp only [Act.put, List.setIfInBounds_toArray, List.set_cons_zero, List.set_cons_succ, i64_w, i32_w]
       rfl
      refine one_ (i := 7) (N := some 40) #[true, true, true, true, true, true, true, true, false, true, true, true, true, false, false, false, false, false, false, false] rfl rfl (one_of HT_.out (by kernel_rfl)) (by decide) (fun K hK => ?_)
      refine goes_ Try.func67 (by kernel_rfl) rfl #[.pointer (some ⟨g, 0, none⟩), .int .i64 t312] (by rfl) rfl rfl dz1 ?_
      with_reducible refine (spec_l1Below.calls g s0_0 t310 t311 t312 t313 t314 t315 w0 _ ?side1 ?side2 A34.out).mono ?_
      (case side1 => exact dz471)
      (case side2 => exact dz472)
      rintro e w38 ⟨rfl, hi, hb, hk⟩
      refine ⟨_, rfl, ?_⟩
      replace HO_293001 := Aside0.mk (Kd.N_mono (Kd.N_keep (Kd.N_mono (ok := fun k_ => (((w.heap.size ≤ k_)) ∧ (some k_ ≠ (v297 : Value).ownBlock ∧ (some k_ ≠ (.slice Ao29 t303.length co29 : Value).ownBlock ∧ (k_ ≠ g ∧ (k_ ≠ gb287 ∧ (k_ ≠ gb288 ∧ (k_ ≠ gb292 ∧ k_ ≠ gb308)))))))) dz7 (fun k_ hk_ => (⟨hk_, hk_.2.2.2.1⟩ : _ ∧ k_ ≠ g))) hk (fun _ h => h.2)) (fun _ h => h.1))
      replace BK287 := Aside0.mk (KeepBut.blk hk (g' := gb287) (o := .cells #[.slice A1_0 l1_0.length c1_0, .int .i64 a1_1] 31 (0, 0)) dz15 NB287_0.out (by simp))
      replace BK288 := Aside0.mk (KeepBut.blk hk (g' := gb288) (o := .cells #[.int .i64 0, .slice none 0 0] 44 (0, 0)) dz16 NB288_0.out (by simp))
      replace BK292 := Aside0.mk (KeepBut.blk hk (g' := gb292) (o := .cells #[.int .i64 x293000_1, .slice Ao19 x293001_1.length co19] 44 (0, 0)) dz17 NB292_0.out (by simp))
      replace HO298 := Aside0.mk (Kd.R_mono (Kd.R_keep (IsS150.apart (show IsS150 w0 _ g s0_0 t310 t311 from by repeat (first | (with_reducible first | exact HI0.out | apply IsS150.alloc | apply IsS150.drewN | apply IsS150.drew | apply IsS150.set_1 | apply IsS150.set_2 | refine IsS150.far ?_ NB0_287.out _ | refine IsS150.far ?_ NB0_288.out _ | refine IsS150.far ?_ NB0_292.out _ | refine IsS150.far ?_ NB0_308.out _) | exact HI0.out)) dz33 (by decide)) hk (fun _ h => h.2)) (fun _ h => h.1))
      replace HO305 := Aside0.mk (Kd.N_mono (Kd.N_keep (Kd.N_mono (ok := fun k_ => (((w.heap.size ≤ k_)) ∧ (some k_ ≠ (v297 : Value).ownBlock ∧ (some k_ ≠ (.slice Ao19 x293001_1.length co19 : Value).ownBlock ∧ (k_ ≠ g ∧ (k_ ≠ gb287 ∧ (k_ ≠ gb288 ∧ (k_ ≠ gb292 ∧ k_ ≠ gb308)))))))) dz71 (fun k_ hk_ => (⟨hk_, hk_.2.2.2.1⟩ : _ ∧ k_ ≠ g))) hk (fun _ h => h.2)) (fun _ h => h.1))
      replace BK308 := Aside0.mk (KeepBut.blk hk (g' := gb308) (o := .cells #[.int .i64 t302, .slice Ao29 t303.length co29] 44 (0, 0)) dz27 NB308_0.out (by simp))
      replace HK := Aside0.mk (KeepBut.trans dz6 hk (.inl rfl))
      replace HB := Aside0.mk (hb)
      replace HI0 := Aside0.mk (hi)
      (try clear hb)
      (try clear hb2)
      (try clear hk)
      (try clear hi)
      refine hK.out _ _ ⟨(blk_cell BK287.out 0).trans rfl, (blk_cell BK287.out 1).trans rfl, (blk_cell BK292.out 0).trans rfl, (blk_cell BK292.out 1).trans rfl⟩ (fun hHeld => ?_)
      clear hK K
      refine norm_ (a' := ?_) ?_ ?_
      rotate_left
      ·show Act.put _ (some 40) _ = _
       simp only [Act.put, List.setIfInBounds_toArray, List.set_cons_zero, List.set_cons_succ, i64_w, i32_w]
       rfl
      refine pure_ (i := 8) (N := some 41) (v := ?_) (a' := ?_) (fl_ 13 7) rfl rfl (any_of HT_.out (by kernel_rfl)) (fun _ _ _ h => h) (Or.inl ⟨by rfl, ?_⟩) ?_ ?_
      rotate_left
      ·exact dz489
      rotate_left
      ·exact dz490
      refine one_ (i := 13) (N := some 46) (fl_ 14 6) rfl rfl (one_of HT_.out (by kernel_rfl)) (by decide) (fun K hK => ?_)
      refine goes_ Try.func67 (by kernel_rfl) rfl #[.pointer (some ⟨g, 0, none⟩), .int .i64 (l1_0.length : Int)] (by rfl) rfl rfl dz1 ?_
      with_reducible refine (spec_l1Below.calls g s0_0 t314 t315 (l1_0.length : Int) t316 t317 t318 w0 _ ?side1 ?side2 A35.out).mono ?_
      (case side1 => exact dz471)
      (case side2 => exact dz472)
      rintro e w39 ⟨rfl, hi, hb, hk⟩
      refine ⟨_, rfl, ?_⟩
      replace HO_293001 := Aside0.mk (Kd.N_mono (Kd.N_keep (Kd.N_mono (ok := fun k_ => (((w.heap.size ≤ k_)) ∧ (some k_ ≠ (v297 : Value).ownBlock ∧ (some k_ ≠ (.slice Ao29 t303.length co29 : Value).ownBlock ∧ (k_ ≠ g ∧ (k_ ≠ gb287 ∧ (k_ ≠ gb288 ∧ (k_ ≠ gb292 ∧ k_ ≠ gb308)))))))) dz7 (fun k_ hk_ => (⟨hk_, hk_.2.2.2.1⟩ : _ ∧ k_ ≠ g))) hk (fun _ h => h.2)) (fun _ h => h.1))
      replace BK287 := Aside0.mk (KeepBut.blk hk (g' := gb287) (o := .cells #[.slice A1_0 l1_0.length c1_0, .int .i64 a1_1] 31 (0, 0)) dz15 NB287_0.out (by simp))
      replace BK288 := Aside0.mk (KeepBut.blk hk (g' := gb288) (o := .cells #[.int .i64 0, .slice none 0 0] 44 (0, 0)) dz16 NB288_0.out (by simp))
      replace BK292 := Aside0.mk (KeepBut.blk hk (g' := gb292) (o := .cells #[.int .i64 x293000_1, .slice Ao19 x293001_1.length co19] 44 (0, 0)) dz17 NB292_0.out (by simp))
      replace HO298 := Aside0.mk (Kd.R_mono (Kd.R_keep (IsS150.apart (show IsS150 w0 _ g s0_0 t314 t315 from by repeat (first | (with_reducible first | exact HI0.out | apply IsS150.alloc | apply IsS150.drewN | apply IsS150.drew | apply IsS150.set_1 | apply IsS150.set_2 | refine IsS150.far ?_ NB0_287.out _ | refine IsS150.far ?_ NB0_288.out _ | refine IsS150.far ?_ NB0_292.out _ | refine IsS150.far ?_ NB0_308.out _) | exact HI0.out)) dz33 (by decide)) hk (fun _ h => h.2)) (fun _ h => h.1))
      replace HO305 := Aside0.mk (Kd.N_mono (Kd.N_keep (Kd.N_mono (ok := fun k_ => (((w.heap.size ≤ k_)) ∧ (some k_ ≠ (v297 : Value).ownBlock ∧ (some k_ ≠ (.slice Ao19 x293001_1.length co19 : Value).ownBlock ∧ (k_ ≠ g ∧ (k_ ≠ gb287 ∧ (k_ ≠ gb288 ∧ (k_ ≠ gb292 ∧ k_ ≠ gb308)))))))) dz71 (fun k_ hk_ => (⟨hk_, hk_.2.2.2.1⟩ : _ ∧ k_ ≠ g))) hk (fun _ h => h.2)) (fun _ h => h.1))
      replace BK308 := Aside0.mk (KeepBut.blk hk (g' := gb308) (o := .cells #[.int .i64 t302, .slice Ao29 t303.length co29] 44 (0, 0)) dz27 NB308_0.out (by simp))
      replace HK := Aside0.mk (KeepBut.trans dz6 hk (.inl rfl))
      replace HB := Aside0.mk (hb)
      replace HI0 := Aside0.mk (hi)
      (try clear hb)
      (try clear hb2)
      (try clear hk)
      (try clear hi)
      refine hK.out _ _ ⟨(blk_cell BK287.out 0).trans rfl, (blk_cell BK287.out 1).trans rfl, (blk_cell BK292.out 0).trans rfl, (blk_cell BK292.out 1).trans rfl⟩ (fun hHeld => ?_)
      clear hK K
      refine norm_ (a' := ?_) ?_ ?_
      rotate_left
      ·show Act.put _ (some 46) _ = _
       simp only [Act.put, List.setIfInBounds_toArray, List.set_cons_zero, List.set_cons_succ, i64_w, i32_w]
       rfl
      refine one_ (i := 14) (N := some 47) (fl_ 15 5) rfl rfl (one_of HT_.out (by kernel_rfl)) (by decide) (fun K hK => ?_)
      refine goes_ Try.func141 (by kernel_rfl) rfl #[.agg #[.slice A1_0 l1_0.length c1_0, .int .i64 a1_1], .agg #[.int .i64 x293000_1, .slice Ao19 x293001_1.length co19], .int .i64 (wrap64 (1 + t313)), .int .i64 t316] (by rfl) rfl rfl dz1 ?_
      with_reducible refine (spec_WriterAck.calls k1 _ _ l1_0 a1_1 x293000_1 _ _ x293001_1 (wrap64 (1 + t313)) t316 t319 t320 t323 _ ?side1 ?side2 ?side3 ?side4 A36.out).mono ?_
      (case side1 => exact Kd.C_keep 0 HR1_0.out dz6 hf1_0)
      (case side2 => exact HC1_0.out)
      (case side3 => exact dz470)
      (case side4 => exact (Kd.N_reads' HO_293001.out).2.1)
      rintro e w40 ⟨v321, rfl, ho0, hb⟩
      refine ⟨_, rfl, ?_⟩
      have HO322 := Aside0.mk (Kd.N_lower (Kd.N_mono (ok' := fun k_ => (w.heap.size ≤ k_) ∧ some k_ ≠ (.slice Ao19 x293001_1.length co19 : Value).ownBlock ∧ some k_ ≠ (v297 : Value).ownBlock ∧ some k_ ≠ (.slice Ao29 t303.length co29 : Value).ownBlock ∧ k_ ≠ gb287 ∧ k_ ≠ gb288 ∧ k_ ≠ gb292 ∧ k_ ≠ gb308 ∧ k_ ≠ g) ho0 (fun k_ hk_ => ⟨(Nat.le_trans (keep_size (w := w) (g := g) (row := none) dz6) hk_), (Kd.fresh' (Kd.N_lt dz7) k_ hk_), (Kd.fresh' (Kd.R_lt dz33) k_ hk_), (Kd.fresh' (Kd.N_lt dz71) k_ hk_), (Kd.freshB (g := gb287) (o := .cells #[.slice A1_0 l1_0.length c1_0, .int .i64 a1_1] 31 (0, 0)) dz15 k_ hk_), (Kd.freshB (g := gb288) (o := .cells #[.int .i64 0, .slice none 0 0] 44 (0, 0)) dz16 k_ hk_), (Kd.freshB (g := gb292) (o := .cells #[.int .i64 x293000_1, .slice Ao19 x293001_1.length co19] 44 (0, 0)) dz17 k_ hk_), (Kd.freshB (g := gb308) (o := .cells #[.int .i64 t302, .slice Ao29 t303.length co29] 44 (0, 0)) dz27 k_ hk_), (IsS150.fresh dz22 k_ hk_)⟩)) (keep_size (w := w) (g := g) (row := none) dz6))
      replace HO_293001 := Aside0.mk (Kd.N_elder' dz7 dz38 hb)
      replace HO298 := (rbb_ HO298 hb)
      replace HO305 := Aside0.mk (Kd.N_elder' dz71 dz38 hb)
      replace BK287 := (bkb_ BK287 hb)
      replace BK288 := (bkb_ BK288 hb)
      replace BK292 := (bkb_ BK292 hb)
      replace BK308 := (bkb_ BK308 hb)
      replace HK := Aside0.mk (KeepBut.trans dz6 (KeepBut.of_below hb g none) (.inl rfl))
      replace HB := Aside0.mk (below_step dz39 hb)
      replace HI0 := Aside0.mk (IsS150.below dz22 hb)
      (try clear hb)
      (try clear hb2)
      (try clear hk)
      (try clear hi)
      (try clear ho0)
      obtain ⟨Ao42, co42, eo42⟩ := Kd.N_slice HO322.out
      (first | subst eo42 | (injection eo42 with f1_ f2_ f3_; have f4_ := f1_.symm; have f5_ := f3_.symm; clear f1_ f2_ f3_; subst f4_; subst f5_))
      refine hK.out _ _ ⟨(blk_cell BK287.out 0).trans rfl, (blk_cell BK287.out 1).trans rfl, (blk_cell BK292.out 0).trans rfl, (blk_cell BK292.out 1).trans rfl⟩ (fun hHeld => ?_)
      clear hK K
      refine norm_ (a' := ?_) ?_ ?_
      rotate_left
      ·show Act.put _ (some 47) _ = _
       simp only [Act.put, List.setIfInBounds_toArray, List.set_cons_zero, List.set_cons_succ, i64_w, i32_w]
       rfl
      refine pure_ (i := 15) (N := some 32) (v := ?_) (a' := ?_) (fl_ 16 4) rfl rfl (any_of HT_.out (by kernel_rfl)) (fun _ _ _ h => h) (Or.inl ⟨by rfl, ?_⟩) ?_ ?_
      rotate_left
      ·exact dz489
      rotate_left
      ·exact dz490
      refine pure_ (i := 16) (N := some 48) (v := ?_) (a' := ?_) (fl_ 17 3) rfl rfl (any_of HT_.out (by kernel_rfl)) (fun _ _ _ h => h) (Or.inl ⟨by rfl, ?_⟩) ?_ ?_
      rotate_left
      ·exact dz489
      rotate_left
      ·exact dz490
      refine pure_ (i := 17) (N := some 49) (v := ?_) (a' := ?_) (fl_ 18 2) rfl rfl (any_of HT_.out (by kernel_rfl)) (fun _ _ _ h => h) (Or.inl ⟨by rfl, ?_⟩) ?_ ?_
      rotate_left
      ·exact dz489
      rotate_left
      ·exact dz490
      refine one_ (i := 18) (N := none) (fl_ 19 1) rfl rfl (one_of HT_.out (by kernel_rfl)) (by decide) (fun K hK => ?_)
      have hs41 : w40.cell? ⟨gb308, 0, none⟩ = some (.int .i64 t302) := (blk_cell BK308.out 0).trans rfl
      have hfs41 := blk_frozen BK308.out 0
      have hns41_0 := NB287_308.out
      have hns41_1 := NB288_308.out
      have hns41_2 := NB292_308.out
      have hms41_0 := NB308_287.out
      have hms41_1 := NB308_288.out
      have hms41_2 := NB308_292.out
      have hs43 : w40.cell? ⟨gb308, 1, none⟩ = some (.slice Ao29 t303.length co29) := (blk_cell BK308.out 1).trans rfl
      have hfs43 := blk_frozen BK308.out 1
      have hns43_0 := NB287_308.out
      have hns43_1 := NB288_308.out
      have hns43_2 := NB292_308.out
      have hms43_0 := NB308_287.out
      have hms43_1 := NB308_288.out
      have hms43_2 := NB308_292.out
      refine skip_ (w1 := ?_) (by rfl) rfl ?_ ?_
      rotate_left
      ·go_simp
       rfl
      refine hK.out _ _ ⟨((cell_far (p := ⟨gb308, _, none⟩) NB287_308.out _).trans (((cell_far (p := ⟨gb308, _, none⟩) NB287_308.out _).trans (hHeld.1)))), ((cell_far (p := ⟨gb308, _, none⟩) NB287_308.out _).trans (((cell_far (p := ⟨gb308, _, none⟩) NB287_308.out _).trans (hHeld.2.1)))), ((cell_far (p := ⟨gb308, _, none⟩) NB292_308.out _).trans (((cell_far (p := ⟨gb308, _, none⟩) NB292_308.out _).trans (hHeld.2.2.1)))), ((cell_far (p := ⟨gb308, _, none⟩) NB292_308.out _).trans (((cell_far (p := ⟨gb308, _, none⟩) NB292_308.out _).trans (hHeld.2.2.2))))⟩ (fun hHeld => ?_)
      clear hK K
      refine pure_ (i := 19) (N := some 9) (v := ?_) (a' := ?_) (fl_ 20 0) rfl rfl (any_of HT_.out (by kernel_rfl)) (fun _ _ _ h => h) (Or.inl ⟨by rfl, ?_⟩) ?_ ?_
      rotate_left
      ·exact dz489
      rotate_left
      ·exact dz490
      refine done_ (done_of HT_.out (by kernel_rfl)) ?_
      try go_wp2
      go_meet
      case rel => exact ⟨_, (t323), (t317), (t318), (t319), (t320), (.slice Ao42 t320.length co42), dz3, H', ⟨by have := HK1.out; first | omega | exact Nat.le_refl _⟩, ⟨by (with_reducible repeat (first | apply Kd.N_alloc | apply Kd.N_drewN | apply Kd.N_drew)); exact Kd.N_mono (Kd.N_far (p := ⟨gb308, 1, none⟩) (Kd.N_far (p := ⟨gb308, 0, none⟩) (Kd.N_mono HO_293001.out (fun k_ hk => (⟨hk, hk.1.2.2.2.2.2.2.2⟩ : _ ∧ k_ ≠ gb308))) (fun _ hk => hk.2) (.int .i64 t319)) (fun _ hk => hk.2) (.slice Ao42 t320.length co42)) (fun _ hk => ⟨hk.1.1.1, ⟨hk.1.2, ⟨hk.1.1.2.2.2.2.1, ⟨hk.1.1.2.2.2.2.2.1, ⟨hk.1.1.2.2.2.2.2.2.1, ⟨hk.1.1.2.2.2.2.2.2.2, hk.1.1.2.2.2.1⟩⟩⟩⟩⟩⟩)⟩, ⟨by (with_reducible repeat (first | apply Kd.N_alloc | apply Kd.N_drewN | apply Kd.N_drew)); exact Kd.N_mono (Kd.N_far (p := ⟨gb308, 1, none⟩) (Kd.N_far (p := ⟨gb308, 0, none⟩) (Kd.N_mono HO322.out (fun k_ hk => (⟨hk, hk.2.2.2.2.2.2.2.1⟩ : _ ∧ k_ ≠ gb308))) (fun _ hk => hk.2) (.int .i64 t319)) (fun _ hk => hk.2) (.slice Ao42 t320.length co42)) (fun _ hk => ⟨hk.1.1, ⟨hk.1.2.1, ⟨hk.1.2.2.2.2.1, ⟨hk.1.2.2.2.2.2.1, ⟨hk.1.2.2.2.2.2.2.1, ⟨hk.1.2.2.2.2.2.2.2.1, hk.1.2.2.2.2.2.2.2.2⟩⟩⟩⟩⟩⟩)⟩, ⟨by (with_reducible repeat (first | refine blk_drewN ?_ _ | refine blk_drew ?_ | refine blk_alloc ?_ _)); refine blk_far ?_ NB287_308.out _; (with_reducible repeat (first | refine blk_drewN ?_ _ | refine blk_drew ?_ | refine blk_alloc ?_ _)); refine blk_far ?_ NB287_308.out _; (with_reducible repeat (first | refine blk_drewN ?_ _ | refine blk_drew ?_ | refine blk_alloc ?_ _)); exact BK287.out⟩, ⟨by (with_reducible repeat (first | refine blk_drewN ?_ _ | refine blk_drew ?_ | refine blk_alloc ?_ _)); refine blk_far ?_ NB288_308.out _; (with_reducible repeat (first | refine blk_drewN ?_ _ | refine blk_drew ?_ | refine blk_alloc ?_ _)); refine blk_far ?_ NB288_308.out _; (with_reducible repeat (first | refine blk_drewN ?_ _ | refine blk_drew ?_ | refine blk_alloc ?_ _)); exact BK288.out⟩, ⟨by (with_reducible repeat (first | refine blk_drewN ?_ _ | refine blk_drew ?_ | refine blk_alloc ?_ _)); refine blk_far ?_ NB292_308.out _; (with_reducible repeat (first | refine blk_drewN ?_ _ | refine blk_drew ?_ | refine blk_alloc ?_ _)); refine blk_far ?_ NB292_308.out _; (with_reducible repeat (first | refine blk_drewN ?_ _ | refine blk_drew ?_ | refine blk_alloc ?_ _)); exact BK292.out⟩, ⟨by (with_reducible repeat (first | refine blk_drewN ?_ _ | refine blk_drew ?_ | refine blk_alloc ?_ _)); refine blk_put (cs := #[.int .i64 t319, .slice Ao29 t303.length co29]) ?_ 1 _ rfl; (with_reducible repeat (first | refine blk_drewN ?_ _ | refine blk_drew ?_ | refine blk_alloc ?_ _)); refine blk_put (cs := #[.int .i64 t302, .slice Ao29 t303.length co29]) ?_ 0 _ rfl; (with_reducible repeat (first | refine blk_drewN ?_ _ | refine blk_drew ?_ | refine blk_alloc ?_ _)); exact BK308.out⟩, ⟨by repeat (first | (with_reducible first | exact HI0.out | apply IsS150.alloc | apply IsS150.drewN | apply IsS150.drew | apply IsS150.set_1 | apply IsS150.set_2 | refine IsS150.far ?_ NB0_287.out _ | refine IsS150.far ?_ NB0_288.out _ | refine IsS150.far ?_ NB0_292.out _ | refine IsS150.far ?_ NB0_308.out _) | exact HI0.out)⟩, ⟨by repeat (first | (with_reducible first | exact HK.out | apply KeepBut.set_ | apply keep_drewN | apply keep_drew | apply keep_alloc | refine keep_far ?_ GW287.out _ | refine keep_far ?_ GW288.out _ | refine keep_far ?_ GW292.out _ | refine keep_far ?_ GW308.out _) | exact HK.out)⟩, ⟨by repeat (first | (with_reducible first | exact HB.out | apply below_alloc | apply pw_below_drewN | apply below_drew1 | refine below_set ?_ (IsS150.ge HI0.out) | refine below_set ?_ GE287.out | refine below_set ?_ GE288.out | refine below_set ?_ GE292.out | refine below_set ?_ GE308.out) | exact HB.out)⟩⟩
     replace c32 := Bool.eq_false_iff.mpr c32
     subst c32
     have H1 : (spec_l8DrawRight.j1 k1 x6_1 t307 s0_0 t310 t311 l1_0 a1_1 x293000_1 x293001_1 t302 t303) = some (r1, r2, r3, r4) := by rw [if_neg (show ¬ (false = true) by decide)] at H; exact H
     clear H
     have H := H1
     clear H1
     have H' := Aside0.mk H
     clear H
     go_wp2
     go_meet
     case rel => exact ⟨_, (t307), (t310), (t311), (t302), (t303), (.slice Ao29 t303.length co29), dz3, H', ⟨by have := HK1.out; first | omega | exact Nat.le_refl _⟩, ⟨by (with_reducible repeat (first | apply Kd.N_alloc | apply Kd.N_drewN | apply Kd.N_drew)); exact Kd.N_mono HO_293001.out (fun _ hk => ⟨hk.1, ⟨hk.2.2.1, ⟨hk.2.2.2.2.1, ⟨hk.2.2.2.2.2.1, ⟨hk.2.2.2.2.2.2.1, ⟨hk.2.2.2.2.2.2.2, hk.2.2.2.1⟩⟩⟩⟩⟩⟩)⟩, ⟨by (with_reducible repeat (first | apply Kd.N_alloc | apply Kd.N_drewN | apply Kd.N_drew)); exact Kd.N_mono HO305.out (fun _ hk => ⟨hk.1, ⟨hk.2.2.1, ⟨hk.2.2.2.2.1, ⟨hk.2.2.2.2.2.1, ⟨hk.2.2.2.2.2.2.1, ⟨hk.2.2.2.2.2.2.2, hk.2.2.2.1⟩⟩⟩⟩⟩⟩)⟩, ⟨by (with_reducible repeat (first | refine blk_drewN ?_ _ | refine blk_drew ?_ | refine blk_alloc ?_ _)); exact BK287.out⟩, ⟨by (with_reducible repeat (first | refine blk_drewN ?_ _ | refine blk_drew ?_ | refine blk_alloc ?_ _)); exact BK288.out⟩, ⟨by (with_reducible repeat (first | refine blk_drewN ?_ _ | refine blk_drew ?_ | refine blk_alloc ?_ _)); exact BK292.out⟩, ⟨by (with_reducible repeat (first | refine blk_drewN ?_ _ | refine blk_drew ?_ | refine blk_alloc ?_ _)); exact BK308.out⟩, ⟨by repeat (first | (with_reducible first | exact HI0.out | apply IsS150.alloc | apply IsS150.drewN | apply IsS150.drew | apply IsS150.set_1 | apply IsS150.set_2 | refine IsS150.far ?_ NB0_287.out _ | refine IsS150.far ?_ NB0_288.out _ | refine IsS150.far ?_ NB0_292.out _ | refine IsS150.far ?_ NB0_308.out _) | exact HI0.out)⟩, ⟨by repeat (first | (with_reducible first | exact HK.out | apply KeepBut.set_ | apply keep_drewN | apply keep_drew | apply keep_alloc | refine keep_far ?_ GW287.out _ | refine keep_far ?_ GW288.out _ | refine keep_far ?_ GW292.out _ | refine keep_far ?_ GW308.out _) | exact HK.out)⟩, ⟨by repeat (first | (with_reducible first | exact HB.out | apply below_alloc | apply pw_below_drewN | apply below_drew1 | refine below_set ?_ (IsS150.ge HI0.out) | refine below_set ?_ GE287.out | refine below_set ?_ GE288.out | refine below_set ?_ GE292.out | refine below_set ?_ GE308.out) | exact HB.out)⟩⟩
    case rest =>
     clear HC17
     try clear c1
     try clear c2
     try clear p2
     try clear c3
     try clear c6
     try clear p6
     try clear c14
     try clear c20
     try clear c32
     obtain ⟨kq, x9_16, x1001_16, x1002_16, x309000_16, x309001_16, u309001, rfl, HA, HJ16, HO_293001, HO_309001, BK287, BK288, BK292, BK308, HI0, HK, HB⟩ := hcut
     cases kq with
     | zero => exact absurd HA.out (by simp [spec_l8DrawRight.j1])
     | succ kj16 =>
      have H := HA.out
      clear HA
      simp only [spec_l8DrawRight.j1] at H
      by_cases c44 : x9_16 = true
      ·subst c44
       have H1 : (spec_l8DrawRight.l0 kj16 (wrap64 (x6_1 + 1)) s0_0 x1001_16 x1002_16 l1_0 a1_1 x309000_16 x309001_16) = some (r1, r2, r3, r4) := by rw [if_pos rfl] at H; exact H
       clear H
       have H := H1
       clear H1
       have H' := Aside0.mk H
       clear H
       have hnb45 := NB308_287.out
       have hnc45 := NB287_308.out
       have hnb46 := NB308_288.out
       have hnc46 := NB288_308.out
       have hnb47 := NB308_292.out
       have hnc47 := NB292_308.out
       have hnb48 := NB308_0.out
       have hnc48 := NB0_308.out
       obtain ⟨hcz49_0, hcz49_1, hfz49_0, hfz49_1⟩ := cz2_ BK308
       have hnb50 := NB292_287.out
       have hnc50 := NB287_292.out
       have hnb51 := NB292_288.out
       have hnc51 := NB288_292.out
       have hnb52 := NB292_0.out
       have hnc52 := NB0_292.out
       obtain ⟨hcz53_0, hcz53_1, hfz53_0, hfz53_1⟩ := cz2_ BK292
       obtain ⟨Ao54, co54, eo54⟩ := Kd.N_slice HO_309001.out
       subst eo54
       go_wp2
       go_roundg kj16
       case measure => have := HK1.out; have := HJ16.out; omega
       case rel => exact ⟨(wrap64 (x6_1 + 1)), (x1001_16), (x1002_16), (x309000_16), (x309001_16), (.slice Ao54 x309001_16.length co54), dz3, H', ⟨by have := HK1.out; have := HJ16.out; omega⟩, ⟨by (with_reducible repeat (first | apply Kd.N_alloc | apply Kd.N_drewN | apply Kd.N_drew)); exact Kd.N_mono (Kd.N_far (p := ⟨gb292, 1, none⟩) (Kd.N_far (p := ⟨gb292, 0, none⟩) (Kd.N_mono HO_309001.out (fun k_ hk => (⟨hk, hk.2.2.2.2.1⟩ : _ ∧ k_ ≠ gb292))) (fun _ hk => hk.2) (.int .i64 x309000_16)) (fun _ hk => hk.2) (.slice Ao54 x309001_16.length co54)) (fun _ hk => ⟨hk.1.1, ⟨hk.1.2.2.1, ⟨hk.1.2.2.2.1, ⟨hk.1.2.2.2.2.1, hk.1.2.2.2.2.2.2⟩⟩⟩⟩)⟩, ⟨by (with_reducible repeat (first | refine blk_drewN ?_ _ | refine blk_drew ?_ | refine blk_alloc ?_ _)); refine blk_far ?_ NB287_292.out _; (with_reducible repeat (first | refine blk_drewN ?_ _ | refine blk_drew ?_ | refine blk_alloc ?_ _)); refine blk_far ?_ NB287_292.out _; (with_reducible repeat (first | refine blk_drewN ?_ _ | refine blk_drew ?_ | refine blk_alloc ?_ _)); exact BK287.out⟩, ⟨by (with_reducible repeat (first | refine blk_drewN ?_ _ | refine blk_drew ?_ | refine blk_alloc ?_ _)); refine blk_far ?_ NB288_292.out _; (with_reducible repeat (first | refine blk_drewN ?_ _ | refine blk_drew ?_ | refine blk_alloc ?_ _)); refine blk_far ?_ NB288_292.out _; (with_reducible repeat (first | refine blk_drewN ?_ _ | refine blk_drew ?_ | refine blk_alloc ?_ _)); exact BK288.out⟩, ⟨by (with_reducible repeat (first | refine blk_drewN ?_ _ | refine blk_drew ?_ | refine blk_alloc ?_ _)); refine blk_put (cs := #[.int .i64 x309000_16, .slice Ao19 x293001_1.length co19]) ?_ 1 _ rfl; (with_reducible repeat (first | refine blk_drewN ?_ _ | refine blk_drew ?_ | refine blk_alloc ?_ _)); refine blk_put (cs := #[.int .i64 x293000_1, .slice Ao19 x293001_1.length co19]) ?_ 0 _ rfl; (with_reducible repeat (first | refine blk_drewN ?_ _ | refine blk_drew ?_ | refine blk_alloc ?_ _)); exact BK292.out⟩, ⟨by repeat (first | (with_reducible first | exact HI0.out | apply IsS150.alloc | apply IsS150.drewN | apply IsS150.drew | apply IsS150.set_1 | apply IsS150.set_2 | refine IsS150.far ?_ NB0_287.out _ | refine IsS150.far ?_ NB0_288.out _ | refine IsS150.far ?_ NB0_292.out _ | refine IsS150.far ?_ NB0_308.out _) | exact HI0.out)⟩, ⟨by repeat (first | (with_reducible first | exact HK.out | apply KeepBut.set_ | apply keep_drewN | apply keep_drew | apply keep_alloc | refine keep_far ?_ GW287.out _ | refine keep_far ?_ GW288.out _ | refine keep_far ?_ GW292.out _ | refine keep_far ?_ GW308.out _) | exact HK.out)⟩, ⟨by repeat (first | (with_reducible first | exact HB.out | apply below_alloc | apply pw_below_drewN | apply below_drew1 | refine below_set ?_ (IsS150.ge HI0.out) | refine below_set ?_ GE287.out | refine below_set ?_ GE288.out | refine below_set ?_ GE292.out | refine below_set ?_ GE308.out) | exact HB.out)⟩⟩
      replace c44 := Bool.eq_false_iff.mpr c44
      subst c44
      have H1 : (spec_l8DrawRight.l0 kj16 (wrap64 (x6_1 + 1)) s0_0 x1001_16 x1002_16 l1_0 a1_1 x293000_1 x293001_1) = some (r1, r2, r3, r4) := by rw [if_neg (show ¬ (false = true) by decide)] at H; exact H
      clear H
      have H := H1
      clear H1
      have H' := Aside0.mk H
      clear H
      go_wp2
      go_roundg kj16
      case measure => have := HK1.out; have := HJ16.out; omega
      case rel => exact ⟨(wrap64 (x6_1 + 1)), (x1001_16), (x1002_16), (x293000_1), (x293001_1), (.slice Ao19 x293001_1.length co19), dz3, H', ⟨by have := HK1.out; have := HJ16.out; omega⟩, ⟨by (with_reducible repeat (first | apply Kd.N_alloc | apply Kd.N_drewN | apply Kd.N_drew)); exact Kd.N_mono HO_293001.out (fun _ hk => ⟨hk.1, ⟨hk.2.2.1, ⟨hk.2.2.2.1, ⟨hk.2.2.2.2.1, hk.2.2.2.2.2.2⟩⟩⟩⟩)⟩, ⟨by (with_reducible repeat (first | refine blk_drewN ?_ _ | refine blk_drew ?_ | refine blk_alloc ?_ _)); exact BK287.out⟩, ⟨by (with_reducible repeat (first | refine blk_drewN ?_ _ | refine blk_drew ?_ | refine blk_alloc ?_ _)); exact BK288.out⟩, ⟨by (with_reducible repeat (first | refine blk_drewN ?_ _ | refine blk_drew ?_ | refine blk_alloc ?_ _)); exact BK292.out⟩, ⟨by repeat (first | (with_reducible first | exact HI0.out | apply IsS150.alloc | apply IsS150.drewN | apply IsS150.drew | apply IsS150.set_1 | apply IsS150.set_2 | refine IsS150.far ?_ NB0_287.out _ | refine IsS150.far ?_ NB0_288.out _ | refine IsS150.far ?_ NB0_292.out _ | refine IsS150.far ?_ NB0_308.out _) | exact HI0.out)⟩, ⟨by repeat (first | (with_reducible first | exact HK.out | apply KeepBut.set_ | apply keep_drewN | apply keep_drew | apply keep_alloc | refine keep_far ?_ GW287.out _ | refine keep_far ?_ GW288.out _ | refine keep_far ?_ GW292.out _ | refine keep_far ?_ GW308.out _) | exact HK.out)⟩, ⟨by repeat (first | (with_reducible first | exact HB.out | apply below_alloc | apply pw_below_drewN | apply below_drew1 | refine below_set ?_ (IsS150.ge HI0.out) | refine below_set ?_ GE287.out | refine below_set ?_ GE288.out | refine below_set ?_ GE292.out | refine below_set ?_ GE308.out) | exact HB.out)⟩⟩
   rw [if_neg c13] at H
   have c13b0 : decide (x6_1 < t293) = false := decide_eq_false c13
   clear c13
   simp only [Option.some.injEq, Prod.mk.injEq] at H
   obtain ⟨rfl, rfl, rfl, rfl⟩ := H
   go_wp2_with (first | ((with_reducible refine gate_callee (f := 67) rfl ?_); refine goesL_ (some 16) rfl rfl Try.func67 (by kernel_rfl) rfl #[.pointer (some ⟨g, 0, none⟩), .int .i64 14] rfl dz1 ?_; (with_reducible refine (spec_l1Below.calls g s0_0 x1001_1 x1002_1 14 t293 t294 t295 w0 _ ?side1 ?side2 A12.out).mono ?_); (case side1 => exact dz466); (case side2 => exact dz467); rintro e w55 ⟨rfl, hi, hb, hk⟩; refine ⟨_, rfl, ?_⟩; replace HO_293001 := Aside0.mk (Kd.N_mono (Kd.N_keep (Kd.N_mono (ok := fun k_ => (((w.heap.size ≤ k_)) ∧ (k_ ≠ gb287 ∧ (k_ ≠ gb288 ∧ (k_ ≠ gb292 ∧ k_ ≠ g))))) dz7 (fun k_ hk_ => (⟨hk_, hk_.2.2.2.2⟩ : _ ∧ k_ ≠ g))) hk (fun _ h => h.2)) (fun _ h => h.1)); replace BK287 := Aside0.mk (KeepBut.blk hk (g' := gb287) (o := .cells #[.slice A1_0 l1_0.length c1_0, .int .i64 a1_1] 31 (0, 0)) dz15 NB287_0.out (by simp)); replace BK288 := Aside0.mk (KeepBut.blk hk (g' := gb288) (o := .cells #[.int .i64 0, .slice none 0 0] 44 (0, 0)) dz16 NB288_0.out (by simp)); replace BK292 := Aside0.mk (KeepBut.blk hk (g' := gb292) (o := .cells #[.int .i64 x293000_1, u293001] 44 (0, 0)) dz17 NB292_0.out (by simp)); replace HK := Aside0.mk (KeepBut.trans dz8 hk (.inl rfl)); replace HB := Aside0.mk (hb); replace HI0 := Aside0.mk (hi); (try clear hb); (try clear hb2); (try clear hk); (try clear hi); have hnb56 := NB292_287.out; have hnc56 := NB287_292.out; have hnb57 := NB292_288.out; have hnc57 := NB288_292.out; have hnb58 := NB292_0.out; have hnc58 := NB0_292.out; obtain ⟨hcz59_0, hcz59_1, hfz59_0, hfz59_1⟩ := cz2_ BK292; have hnb60 := NB288_287.out; have hnc60 := NB287_288.out; have hnb61 := NB288_0.out; have hnc61 := NB0_288.out; obtain ⟨hcz62_0, hcz62_1, hfz62_0, hfz62_1⟩ := cz2_ BK288; obtain ⟨Ao63, co63, eo63⟩ := Kd.N_slice HO_293001.out; subst eo63))
   refine bodyPost_ret (results_cell_row rfl _ _ gb288 44 #[.int .i64 x293000_1, .slice Ao63 x293001_1.length co63] (0, 0) _ rfl (by (with_reducible repeat (first | refine blk_drewN ?_ _ | refine blk_drew ?_ | refine blk_alloc ?_ _)); refine blk_put (cs := #[.int .i64 x293000_1, .slice none 0 0]) ?_ 1 _ rfl; (with_reducible repeat (first | refine blk_drewN ?_ _ | refine blk_drew ?_ | refine blk_alloc ?_ _)); refine blk_put (cs := #[.int .i64 0, .slice none 0 0]) ?_ 0 _ rfl; (with_reducible repeat (first | refine blk_drewN ?_ _ | refine blk_drew ?_ | refine blk_alloc ?_ _)); exact BK288.out) Try.underlying44 rfl (by kernel_rfl)) rfl ?_
   exact ⟨_, by first | rfl | (simp [errW_none, errW_some] <;> rfl) | (simp [*, errW_none, errW_some] <;> rfl), by (with_reducible repeat (first | apply Kd.N_alloc | apply Kd.N_drewN | apply Kd.N_drew)); exact Kd.N_mono (Kd.N_far (p := ⟨gb288, 1, none⟩) (Kd.N_far (p := ⟨gb288, 0, none⟩) (Kd.N_mono HO_293001.out (fun k_ hk => (⟨hk, hk.2.2.1⟩ : _ ∧ k_ ≠ gb288))) (fun _ hk => hk.2) (.int .i64 x293000_1)) (fun _ hk => hk.2) (.slice Ao63 x293001_1.length co63)) (fun _ hk => hk.1.1), by repeat (first | (with_reducible first | exact HI0.out | apply IsS150.alloc | apply IsS150.drewN | apply IsS150.drew | apply IsS150.set_1 | apply IsS150.set_2 | refine IsS150.far ?_ NB0_287.out _ | refine IsS150.far ?_ NB0_288.out _ | refine IsS150.far ?_ NB0_292.out _) | exact HI0.out), by repeat (first | (with_reducible first | exact HB.out | apply below_alloc | apply pw_below_drewN | apply below_drew1 | refine below_set ?_ (IsS150.ge HI0.out) | refine below_set ?_ GE287.out | refine below_set ?_ GE288.out | refine below_set ?_ GE292.out) | exact HB.out), by repeat (first | (with_reducible first | exact HK.out | apply KeepBut.set_ | apply keep_drewN | apply keep_drew | apply keep_alloc | refine keep_far ?_ GW287.out _ | refine keep_far ?_ GW288.out _ | refine keep_far ?_ GW292.out _) | exact HK.out)⟩
end Go.Proofs.Ytdkdhciogedoiab.PFnAdded
