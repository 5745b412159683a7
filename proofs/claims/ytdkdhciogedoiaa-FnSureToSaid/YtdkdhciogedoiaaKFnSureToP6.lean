-- Written by wip/gen/pack.py of this repo. Lean checks it.
import Derived.Test.YtdkdhciogedoiaaKFnSureToP0
import Derived.Test.YtdkdhciogedoiaaKFnSureToP1
import Derived.Test.YtdkdhciogedoiaaKFnSureToP4
import Derived.Test.YtdkdhciogedoiaaKFnSureToP5
import Derived.Test.YtdkdhciogedoiaaKFnSureToD
namespace Go.Proofs.Ytdkdhciogedoiaa.PFnSureTo
open Go.RowKit Go.Proofs.YtdkdhciogedoiaaW.PrintWords Go.Proofs.YtdkdhciogedoiaaW.PrintLast Go.Proofs.YtdkdhciogedoiaaW.PrintMore Go.Proofs.YtdkdhciogedoiaaW.Sq
attribute [local go_sem] max2_int min2_int max_two min_two max_three min_three max_four min_four
set_option linter.unusedVariables false
set_option linter.unusedSimpArgs false
mutual
def spec_l8DrawRight.l0 : Nat → Int → List Int → Int → Int → List Int → Int → Int → List (S53) → Option (Int × (List (S53)) × Int × Int)
 | 0, _, _, _, _, _, _, _, _ => none
 | k + 1, x6, x1000, x1001, x1002, x234000, x234001, x239000, x239001 => (spec_l1Below.f x1000 x1001 x1002 14).bind fun bt239 => (if x6 < bt239.1 then ((spec_l1Pick.f x1000 bt239.2.1 bt239.2.2 (([(⟨#[]⟩ : ByteArray), (⟨#[97]⟩ : ByteArray), (⟨#[98, 99]⟩ : ByteArray)] : List ByteArray))).bind fun bt245 => ((spec_WriterAdd.f k x234000 x234001 x239000 x239001 bt245.1).bind fun bt248 => ((spec_l1Once.f x1000 bt245.2.1 bt245.2.2 2).bind fun bt255 => (if bt255.1 = true then ((spec_l1Max.f (x239001.length : Int) 1).bind fun t258 => ((spec_l1Below.f x1000 bt255.2.1 bt255.2.2 t258).bind fun bt259 => ((spec_l1Below.f x1000 bt259.2.1 bt259.2.2 (x234000.length : Int)).bind fun bt262 => ((spec_WriterAck.f k x234000 x234001 x239000 x239001 (wrap64 (1 + bt259.1)) bt262.1).bind fun bt265 => (spec_l8DrawRight.j1 k x6 bt265.2.2 x1000 bt262.2.1 bt262.2.2 x234000 x234001 x239000 x239001 bt265.1 bt265.2.1))))) else (spec_l8DrawRight.j1 k x6 bt248.2.2.2 x1000 bt255.2.1 bt255.2.2 x234000 x234001 x239000 x239001 bt248.1 bt248.2.1))))) else (some (x239000, x239001, bt239.2.1, bt239.2.2)))
def spec_l8DrawRight.j1 : Nat → Int → Bool → List Int → Int → Int → List Int → Int → Int → List (S53) → Int → List (S53) → Option (Int × (List (S53)) × Int × Int)
 | 0, _, _, _, _, _, _, _, _, _, _, _ => none
 | k + 1, x6, x9, x1000, x1001, x1002, x234000, x234001, x239000, x239001, x255000, x255001 => if x9 = true then (spec_l8DrawRight.l0 k (wrap64 (x6 + 1)) x1000 x1001 x1002 x234000 x234001 x255000 x255001) else (spec_l8DrawRight.l0 k (wrap64 (x6 + 1)) x1000 x1001 x1002 x234000 x234001 x239000 x239001)
end
def spec_l8DrawRight.f (k : Nat) (s0_0 : List Int) (s0_1 : Int) (s0_2 : Int) (l1_0 : List Int) (a1_1 : Int) : Option (Int × (List (S53)) × Int × Int) := (spec_l1Below.f s0_0 s0_1 s0_2 4).bind fun bt235 => (spec_l8DrawRight.l0 k 0 s0_0 bt235.2.1 bt235.2.2 l1_0 a1_1 (wrap64 (1 + bt235.1)) ([] : List (S53)))
def spec_l8DrawRight.T5 : Bool × List (List Nat × List Nat) := (true, [([], []), ([], []), ([], []), ([], []), ([2, 3], [2, 3]), ([0, 1, 4, 4], [0, 1, 4]), ([5], [5]), ([6], [6]), ([6], [6]), ([6], [6]), ([], []), ([10, 7, 5, 0, 1, 2, 3, 4, 5, 6, 7, 10], [7, 10]), ([8, 11, 0, 1, 2, 3, 4, 5, 6, 7, 8, 10, 11], [8]), ([9, 12, 0, 1, 2, 3, 4, 5, 6, 7, 8, 9, 10, 11, 12], [9])])
def spec_l8DrawRight.B5 : List Nat := [0, 0, 0, 0, 12, 31, 63, 127, 127, 127, 0, 1279, 3583, 8191]
theorem spec_l8DrawRight.tab5 : rtab .any (opsOf Try.f104 5) = spec_l8DrawRight.T5 := by kernel_rfl
theorem spec_l8DrawRight.bits5 : waitsOk spec_l8DrawRight.T5.2 spec_l8DrawRight.B5 = true := by kernel_rfl
def spec_l8DrawRight.T7 : Bool × List (List Nat × List Nat) := (true, [([], []), ([], []), ([], []), ([], []), ([3], [3]), ([4], [4]), ([5], [5]), ([2, 6, 6], [2, 6]), ([7], [7]), ([], []), ([], []), ([10], [10]), ([11], [11]), ([9, 12, 7], [9, 12]), ([0, 1, 8, 13, 13], [0, 1, 8, 13]), ([14], [14]), ([15], [15]), ([15], [15]), ([16, 14, 0, 1, 2, 3, 4, 5, 6, 7, 8, 9, 10, 11, 12, 13, 14, 15, 16], [16]), ([17, 18, 0, 1, 2, 3, 4, 5, 6, 7, 8, 9, 10, 11, 12, 13, 14, 15, 16, 17, 18], [17])])
def spec_l8DrawRight.B7 : List Nat := [0, 0, 0, 0, 8, 24, 56, 124, 252, 0, 0, 1024, 3072, 7932, 16383, 32767, 65535, 65535, 131071, 524287]
theorem spec_l8DrawRight.tab7 : rtab .any (opsOf Try.f104 7) = spec_l8DrawRight.T7 := by kernel_rfl
theorem spec_l8DrawRight.bits7 : waitsOk spec_l8DrawRight.T7.2 spec_l8DrawRight.B7 = true := by kernel_rfl
set_option maxHeartbeats 8000000 in
set_option maxRecDepth 100000 in
theorem spec_l8DrawRight.calls (k : Nat) (g : Nat) (s0_0 : List Int) (s0_1 : Int) (s0_2 : Int) (A1_0 : Option Addr) (c1_0 : Nat) (l1_0 : List Int) (a1_1 : Int) (r1 : Int) (r2 : List (S53)) (r3 : Int) (r4 : Int) (w0 w : World) (hI : IsS133 w0 w g s0_0 s0_1 s0_2) (hB : Below w0.heap.size w0 w) (hr1_0 : Kd.C (Kd.int .i64) w A1_0 l1_0.length l1_0) (hc1_0 : l1_0.length ≤ c1_0) (hf1_0 : ∀ ad, A1_0 = some ad → 0 < l1_0.length → ad.block ≠ g) (h : spec_l8DrawRight.f k s0_0 s0_1 s0_2 l1_0 a1_1 = some (r1, r2, r3, r4)) :
  Calls Try.prog 104 #[.pointer (some ⟨g, 0, none⟩), .agg #[.slice A1_0 l1_0.length c1_0, .int .i64 a1_1]] w fun e w' => ∃ v1_ : Value, e = .returned (.agg #[.int .i64 r1, v1_]) ∧ Kd.N k53 53 w' w.heap.size (fun k_ => (w.heap.size ≤ k_)) v1_ r2 ∧ IsS133 w0 w' g s0_0 r3 r4 ∧ Below w0.heap.size w0 w' ∧ KeepBut w w' g none := by
 have hu73 := Try.underlying73
 have hu49 := Try.underlying49
 have HR1_0 := Aside0.mk hr1_0
 have HC1_0 := Aside0.mk hc1_0
 clear hr1_0 hc1_0
 have HI0 := Aside0.mk hI
 have HK := Aside0.mk (KeepBut.refl w g none)
 have HL := Aside0.mk hB.size
 clear hI
 have HW0 := Aside0.mk hB.size
 have HB := Aside0.mk hB
 clear hB
 have H : ((spec_l1Below.f s0_0 s0_1 s0_2 4).bind fun bt235 => (spec_l8DrawRight.l0 k 0 s0_0 bt235.2.1 bt235.2.2 l1_0 a1_1 (wrap64 (1 + bt235.1)) ([] : List (S53)))) = some (r1, r2, r3, r4) := h
 clear h
 replace H := Option.bind_eq_some_iff.mp H
 obtain ⟨⟨t235, t236, t237⟩, A30, H⟩ := H
 replace H : (spec_l8DrawRight.l0 k 0 s0_0 t236 t237 l1_0 a1_1 (wrap64 (1 + t235)) ([] : List (S53))) = some (r1, r2, r3, r4) := H
 have A3 := Aside0.mk A30
 clear A30
 have H' := Aside0.mk H
 clear H
 go_enter Try.func104, Try.ntmps104
 go_wp2_with (first | ((with_reducible refine gate_dst (N := 3) rfl ?_); refine box_event kr_ (N := 3) kr_ (cs := #[.slice A1_0 l1_0.length c1_0, .int .i64 a1_1]) (t := 73) ks_ ?_; intro gb233 hg w2 hbox hb; replace HB := Aside0.mk (below_step dz27 hb); have BK233 := Aside0.mk (hbox); have GW233 := Aside0.mk ((by rw [hg]; exact (keep_size (w := w) (g := g) (row := none) dz5) : w.heap.size ≤ gb233)); have GE233 := Aside0.mk ((Nat.le_trans HW0.out (by rw [hg]; exact (keep_size (w := w) (g := g) (row := none) dz5) : w.heap.size ≤ gb233) : w0.heap.size ≤ gb233)); replace HK := Aside0.mk (KeepBut.trans dz5 (KeepBut.of_below hb g none) (.inl rfl)); have NB0_233 := Aside0.mk ((by rw [hg]; exact Nat.ne_of_lt (IsS133.lt (show IsS133 w0 _ g s0_0 s0_1 s0_2 from by repeat (first | (with_reducible first | exact HI0.out | apply IsS133.alloc | apply IsS133.drewN | apply IsS133.drew | apply IsS133.set_1 | apply IsS133.set_2) | exact HI0.out))) : g ≠ gb233)); have NB233_0 := Aside0.mk ((by rw [hg]; exact Nat.ne_of_gt (IsS133.lt (show IsS133 w0 _ g s0_0 s0_1 s0_2 from by repeat (first | (with_reducible first | exact HI0.out | apply IsS133.alloc | apply IsS133.drewN | apply IsS133.drew | apply IsS133.set_1 | apply IsS133.set_2) | exact HI0.out))) : gb233 ≠ g)); replace HI0 := Aside0.mk (IsS133.below dz28 hb); clear hb hbox hg) | ((with_reducible refine gate_dst (N := 4) rfl ?_); refine box_event kr_ (N := 4) kr_ (cs := #[.int .i64 0, .slice none 0 0]) (t := 49) ks_ ?_; intro gb234 hg w3 hbox hb; replace HB := Aside0.mk (below_step (by repeat (first | (with_reducible first | exact HB.out | apply below_alloc | apply pw_below_drewN | apply below_drew1 | refine below_set ?_ (IsS133.ge HI0.out) | refine below_set ?_ GE233.out) | exact HB.out)) hb); have BK234 := Aside0.mk (hbox); have GW234 := Aside0.mk ((by rw [hg]; exact (keep_size (w := w) (g := g) (row := none) dz76) : w.heap.size ≤ gb234)); have GE234 := Aside0.mk ((Nat.le_trans HW0.out (by rw [hg]; exact (keep_size (w := w) (g := g) (row := none) dz76) : w.heap.size ≤ gb234) : w0.heap.size ≤ gb234)); replace HK := Aside0.mk (KeepBut.trans dz76 (KeepBut.of_below hb g none) (.inl rfl)); have NB233_234 := (nbl_ hg BK233); have NB234_233 := (nbr_ hg BK233); replace BK233 := (bkb_ BK233 hb); have NB0_234 := Aside0.mk ((by rw [hg]; exact Nat.ne_of_lt (IsS133.lt (show IsS133 w0 _ g s0_0 s0_1 s0_2 from by repeat (first | (with_reducible first | exact HI0.out | apply IsS133.alloc | apply IsS133.drewN | apply IsS133.drew | apply IsS133.set_1 | apply IsS133.set_2 | refine IsS133.far ?_ NB0_233.out _) | exact HI0.out))) : g ≠ gb234)); have NB234_0 := Aside0.mk ((by rw [hg]; exact Nat.ne_of_gt (IsS133.lt (show IsS133 w0 _ g s0_0 s0_1 s0_2 from by repeat (first | (with_reducible first | exact HI0.out | apply IsS133.alloc | apply IsS133.drewN | apply IsS133.drew | apply IsS133.set_1 | apply IsS133.set_2 | refine IsS133.far ?_ NB0_233.out _) | exact HI0.out))) : gb234 ≠ g)); replace HI0 := Aside0.mk (IsS133.below (by repeat (first | (with_reducible first | exact HI0.out | apply IsS133.alloc | apply IsS133.drewN | apply IsS133.drew | apply IsS133.set_1 | apply IsS133.set_2 | refine IsS133.far ?_ NB0_233.out _) | exact HI0.out)) hb); clear hb hbox hg) | ((with_reducible refine gate_callee (f := 105) rfl ?_); refine goesL_ (some 11) rfl rfl Try.func105 (by kernel_rfl) rfl #[.pointer (some ⟨g, 0, none⟩), .int .i64 4] rfl dz1 ?_; (with_reducible refine (spec_l1Below.calls g s0_0 s0_1 s0_2 4 t235 t236 t237 w0 _ ?side1 ?side2 A3.out).mono ?_); (case side1 => repeat (first | (with_reducible first | exact HI0.out | apply IsS133.alloc | apply IsS133.drewN | apply IsS133.drew | apply IsS133.set_1 | apply IsS133.set_2 | refine IsS133.far ?_ NB0_233.out _ | refine IsS133.far ?_ NB0_234.out _) | exact HI0.out)); (case side2 => repeat (first | (with_reducible first | exact HB.out | apply below_alloc | apply pw_below_drewN | apply below_drew1 | refine below_set ?_ (IsS133.ge HI0.out) | refine below_set ?_ GE233.out | refine below_set ?_ GE234.out) | exact HB.out)); rintro e w4 ⟨rfl, hi, hb, hk⟩; refine ⟨_, rfl, ?_⟩; replace BK233 := Aside0.mk (KeepBut.blk hk (g' := gb233) (o := .cells #[.slice A1_0 l1_0.length c1_0, .int .i64 a1_1] 73 (0, 0)) dz13 NB233_0.out (by simp)); replace BK234 := Aside0.mk (KeepBut.blk hk (g' := gb234) (o := .cells #[.int .i64 0, .slice none 0 0] 49 (0, 0)) dz14 NB234_0.out (by simp)); replace HK := Aside0.mk (KeepBut.trans dz54 hk (.inl rfl)); replace HB := Aside0.mk (hb); replace HI0 := Aside0.mk (hi); (try clear hb); (try clear hb2); (try clear hk); (try clear hi)) | ((with_reducible refine gate_dst (N := 5) rfl ?_); refine box_event kr_ (N := 5) kr_ (cs := #[.int .i64 0, .slice none 0 0]) (t := 49) ks_ ?_; intro gb238 hg w5 hbox hb; replace HB := Aside0.mk (below_step (by repeat (first | (with_reducible first | exact HB.out | apply below_alloc | apply pw_below_drewN | apply below_drew1 | refine below_set ?_ (IsS133.ge HI0.out) | refine below_set ?_ GE233.out | refine below_set ?_ GE234.out) | exact HB.out)) hb); have BK238 := Aside0.mk (hbox); have GW238 := Aside0.mk ((by rw [hg]; exact (keep_size (w := w) (g := g) (row := none) dz54) : w.heap.size ≤ gb238)); have GE238 := Aside0.mk ((Nat.le_trans HW0.out (by rw [hg]; exact (keep_size (w := w) (g := g) (row := none) dz54) : w.heap.size ≤ gb238) : w0.heap.size ≤ gb238)); replace HK := Aside0.mk (KeepBut.trans dz54 (KeepBut.of_below hb g none) (.inl rfl)); have NB233_238 := (nbl_ hg BK233); have NB238_233 := (nbr_ hg BK233); replace BK233 := (bkb_ BK233 hb); have NB234_238 := (nbl_ hg BK234); have NB238_234 := (nbr_ hg BK234); replace BK234 := (bkb_ BK234 hb); have NB0_238 := Aside0.mk ((by rw [hg]; exact Nat.ne_of_lt (IsS133.lt (show IsS133 w0 _ g s0_0 t236 t237 from by repeat (first | (with_reducible first | exact HI0.out | apply IsS133.alloc | apply IsS133.drewN | apply IsS133.drew | apply IsS133.set_1 | apply IsS133.set_2 | refine IsS133.far ?_ NB0_233.out _ | refine IsS133.far ?_ NB0_234.out _) | exact HI0.out))) : g ≠ gb238)); have NB238_0 := Aside0.mk ((by rw [hg]; exact Nat.ne_of_gt (IsS133.lt (show IsS133 w0 _ g s0_0 t236 t237 from by repeat (first | (with_reducible first | exact HI0.out | apply IsS133.alloc | apply IsS133.drewN | apply IsS133.drew | apply IsS133.set_1 | apply IsS133.set_2 | refine IsS133.far ?_ NB0_233.out _ | refine IsS133.far ?_ NB0_234.out _) | exact HI0.out))) : gb238 ≠ g)); replace HI0 := Aside0.mk (IsS133.below (by repeat (first | (with_reducible first | exact HI0.out | apply IsS133.alloc | apply IsS133.drewN | apply IsS133.drew | apply IsS133.set_1 | apply IsS133.set_2 | refine IsS133.far ?_ NB0_233.out _ | refine IsS133.far ?_ NB0_234.out _) | exact HI0.out)) hb); clear hb hbox hg; have hnb8 := NB238_233.out; have hnc8 := NB233_238.out; have hnb9 := NB238_234.out; have hnc9 := NB234_238.out; have hnb10 := NB238_0.out; have hnc10 := NB0_238.out; obtain ⟨hcz11_0, hcz11_1, hfz11_0, hfz11_1⟩ := cz2_ BK238))
 go_loopg [6] k (fun kq v6 w' => ∃ (x6_1 : Int) (x1001_1 : Int) (x1002_1 : Int) (x239000_1 : Int) (x239001_1 : List (S53)) (u239001 : Value), v6 = .int .i64 x6_1 ∧ Aside0 (spec_l8DrawRight.l0 kq x6_1 s0_0 x1001_1 x1002_1 l1_0 a1_1 x239000_1 x239001_1 = some (r1, r2, r3, r4)) ∧ Aside0 (kq ≤ k) ∧ Aside0 (Kd.N k53 53 w' w.heap.size (fun k_ => (w.heap.size ≤ k_) ∧ k_ ≠ gb233 ∧ k_ ≠ gb234 ∧ k_ ≠ gb238 ∧ k_ ≠ g) u239001 x239001_1) ∧ Aside0 (w'.heap[gb233]? = some (.cells #[(.slice A1_0 l1_0.length c1_0), .int .i64 a1_1] 73 (0, 0))) ∧ Aside0 (w'.heap[gb234]? = some (.cells #[.int .i64 0, (.slice none 0 0)] 49 (0, 0))) ∧ Aside0 (w'.heap[gb238]? = some (.cells #[.int .i64 x239000_1, u239001] 49 (0, 0))) ∧ Aside0 (IsS133 w0 w' g s0_0 x1001_1 x1002_1) ∧ Aside0 (KeepBut w w' g none) ∧ Aside0 (Below w0.heap.size w0 w'))
 case atStart => exact ⟨(0), (t236), (t237), (wrap64 (1 + t235)), (([] : List (S53))), (.slice none 0 0), dz3, H', ⟨Nat.le_refl _⟩, ⟨by first | exact Kd.S_nil _ _ _ _ _ | exact Kd.N_nil _ _ _ _ _ | exact Kd.V_nil _ _ _ _ _ | exact Kd.Q_nil _ _ _ _ _ | exact Kd.R_nil _ _ _ _ _⟩, ⟨by (with_reducible repeat (first | refine blk_drewN ?_ _ | refine blk_drew ?_ | refine blk_alloc ?_ _)); refine blk_far ?_ NB233_238.out _; (with_reducible repeat (first | refine blk_drewN ?_ _ | refine blk_drew ?_ | refine blk_alloc ?_ _)); refine blk_far ?_ NB233_238.out _; (with_reducible repeat (first | refine blk_drewN ?_ _ | refine blk_drew ?_ | refine blk_alloc ?_ _)); exact BK233.out⟩, ⟨by (with_reducible repeat (first | refine blk_drewN ?_ _ | refine blk_drew ?_ | refine blk_alloc ?_ _)); refine blk_far ?_ NB234_238.out _; (with_reducible repeat (first | refine blk_drewN ?_ _ | refine blk_drew ?_ | refine blk_alloc ?_ _)); refine blk_far ?_ NB234_238.out _; (with_reducible repeat (first | refine blk_drewN ?_ _ | refine blk_drew ?_ | refine blk_alloc ?_ _)); exact BK234.out⟩, ⟨by (with_reducible repeat (first | refine blk_drewN ?_ _ | refine blk_drew ?_ | refine blk_alloc ?_ _)); refine blk_put (cs := #[.int .i64 (wrap64 (1 + t235)), .slice none 0 0]) ?_ 1 _ rfl; (with_reducible repeat (first | refine blk_drewN ?_ _ | refine blk_drew ?_ | refine blk_alloc ?_ _)); refine blk_put (cs := #[.int .i64 0, .slice none 0 0]) ?_ 0 _ rfl; (with_reducible repeat (first | refine blk_drewN ?_ _ | refine blk_drew ?_ | refine blk_alloc ?_ _)); exact BK238.out⟩, ⟨by repeat (first | (with_reducible first | exact HI0.out | apply IsS133.alloc | apply IsS133.drewN | apply IsS133.drew | apply IsS133.set_1 | apply IsS133.set_2 | refine IsS133.far ?_ NB0_233.out _ | refine IsS133.far ?_ NB0_234.out _ | refine IsS133.far ?_ NB0_238.out _) | exact HI0.out)⟩, ⟨by repeat (first | (with_reducible first | exact HK.out | apply KeepBut.set_ | apply keep_drewN | apply keep_drew | apply keep_alloc | refine keep_far ?_ GW233.out _ | refine keep_far ?_ GW234.out _ | refine keep_far ?_ GW238.out _) | exact HK.out)⟩, ⟨by repeat (first | (with_reducible first | exact HB.out | apply below_alloc | apply pw_below_drewN | apply below_drew1 | refine below_set ?_ (IsS133.ge HI0.out) | refine below_set ?_ GE233.out | refine below_set ?_ GE234.out | refine below_set ?_ GE238.out) | exact HB.out)⟩⟩
 case round =>
  clear H'
  try clear c1
  try clear p2
  try clear p6
  try clear c8
  try clear c9
  try clear c10
  try clear hcz11_0
  try clear hcz11_1
  try clear hfz11_0
  try clear hfz11_1
  obtain ⟨x6_1, x1001_1, x1002_1, x239000_1, x239001_1, u239001, rfl, HA, HK1, HO_239001, BK233, BK234, BK238, HI0, HK, HB⟩ := hrel
  cases gk with
  | zero => exact absurd HA.out (by simp [spec_l8DrawRight.l0])
  | succ k1 =>
   have H := HA.out
   clear HA
   simp only [spec_l8DrawRight.l0] at H
   replace H := Option.bind_eq_some_iff.mp H
   obtain ⟨⟨t239, t240, t241⟩, A120, H⟩ := H
   replace H : (if x6_1 < t239 then ((spec_l1Pick.f s0_0 t240 t241 (([(⟨#[]⟩ : ByteArray), (⟨#[97]⟩ : ByteArray), (⟨#[98, 99]⟩ : ByteArray)] : List ByteArray))).bind fun bt245 => ((spec_WriterAdd.f k1 l1_0 a1_1 x239000_1 x239001_1 bt245.1).bind fun bt248 => ((spec_l1Once.f s0_0 bt245.2.1 bt245.2.2 2).bind fun bt255 => (if bt255.1 = true then ((spec_l1Max.f (x239001_1.length : Int) 1).bind fun t258 => ((spec_l1Below.f s0_0 bt255.2.1 bt255.2.2 t258).bind fun bt259 => ((spec_l1Below.f s0_0 bt259.2.1 bt259.2.2 (l1_0.length : Int)).bind fun bt262 => ((spec_WriterAck.f k1 l1_0 a1_1 x239000_1 x239001_1 (wrap64 (1 + bt259.1)) bt262.1).bind fun bt265 => (spec_l8DrawRight.j1 k1 x6_1 bt265.2.2 s0_0 bt262.2.1 bt262.2.2 l1_0 a1_1 x239000_1 x239001_1 bt265.1 bt265.2.1))))) else (spec_l8DrawRight.j1 k1 x6_1 bt248.2.2.2 s0_0 bt255.2.1 bt255.2.2 l1_0 a1_1 x239000_1 x239001_1 bt248.1 bt248.2.1))))) else (some (x239000_1, x239001_1, t240, t241))) = some (r1, r2, r3, r4) := H
   have A12 := Aside0.mk A120
   clear A120
   by_cases c13 : x6_1 < t239
   ·rw [if_pos c13] at H
    have c13b0 : decide (x6_1 < t239) = true := decide_eq_true c13
    clear c13
    obtain ⟨y242, hy242⟩ : ∃ y_ : List ByteArray, y_ = (([(⟨#[]⟩ : ByteArray), (⟨#[97]⟩ : ByteArray), (⟨#[98, 99]⟩ : ByteArray)] : List ByteArray)) := ⟨_, rfl⟩
    replace H : ((spec_l1Pick.f s0_0 t240 t241 y242).bind fun bt245 => ((spec_WriterAdd.f k1 l1_0 a1_1 x239000_1 x239001_1 bt245.1).bind fun bt248 => ((spec_l1Once.f s0_0 bt245.2.1 bt245.2.2 2).bind fun bt255 => (if bt255.1 = true then ((spec_l1Max.f (x239001_1.length : Int) 1).bind fun t258 => ((spec_l1Below.f s0_0 bt255.2.1 bt255.2.2 t258).bind fun bt259 => ((spec_l1Below.f s0_0 bt259.2.1 bt259.2.2 (l1_0.length : Int)).bind fun bt262 => ((spec_WriterAck.f k1 l1_0 a1_1 x239000_1 x239001_1 (wrap64 (1 + bt259.1)) bt262.1).bind fun bt265 => (spec_l8DrawRight.j1 k1 x6_1 bt265.2.2 s0_0 bt262.2.1 bt262.2.2 l1_0 a1_1 x239000_1 x239001_1 bt265.1 bt265.2.1))))) else (spec_l8DrawRight.j1 k1 x6_1 bt248.2.2.2 s0_0 bt255.2.1 bt255.2.2 l1_0 a1_1 x239000_1 x239001_1 bt248.1 bt248.2.1))))) = some (r1, r2, r3, r4) := by first | (rw [hy242]; with_reducible exact H) | (have H2_ := (Option.bind_some _ _).symm.trans H; rw [hy242]; with_reducible exact H2_) | (have H2_ := (Option.bind_some _ _).symm.trans H; with_reducible exact H2_) | with_reducible exact H | (rw [hy242]; exact H) | exact H
    have Ny242 := Aside0.mk hy242
    clear hy242
    replace H := Option.bind_eq_some_iff.mp H
    obtain ⟨⟨t245, t246, t247⟩, A140, H⟩ := H
    replace H : ((spec_WriterAdd.f k1 l1_0 a1_1 x239000_1 x239001_1 t245).bind fun bt248 => ((spec_l1Once.f s0_0 t246 t247 2).bind fun bt255 => (if bt255.1 = true then ((spec_l1Max.f (x239001_1.length : Int) 1).bind fun t258 => ((spec_l1Below.f s0_0 bt255.2.1 bt255.2.2 t258).bind fun bt259 => ((spec_l1Below.f s0_0 bt259.2.1 bt259.2.2 (l1_0.length : Int)).bind fun bt262 => ((spec_WriterAck.f k1 l1_0 a1_1 x239000_1 x239001_1 (wrap64 (1 + bt259.1)) bt262.1).bind fun bt265 => (spec_l8DrawRight.j1 k1 x6_1 bt265.2.2 s0_0 bt262.2.1 bt262.2.2 l1_0 a1_1 x239000_1 x239001_1 bt265.1 bt265.2.1))))) else (spec_l8DrawRight.j1 k1 x6_1 bt248.2.2.2 s0_0 bt255.2.1 bt255.2.2 l1_0 a1_1 x239000_1 x239001_1 bt248.1 bt248.2.1)))) = some (r1, r2, r3, r4) := H
    have A14 := Aside0.mk A140
    clear A140
    replace H := Option.bind_eq_some_iff.mp H
    obtain ⟨⟨t248, t249, t252, t253⟩, A150, H⟩ := H
    replace H : ((spec_l1Once.f s0_0 t246 t247 2).bind fun bt255 => (if bt255.1 = true then ((spec_l1Max.f (x239001_1.length : Int) 1).bind fun t258 => ((spec_l1Below.f s0_0 bt255.2.1 bt255.2.2 t258).bind fun bt259 => ((spec_l1Below.f s0_0 bt259.2.1 bt259.2.2 (l1_0.length : Int)).bind fun bt262 => ((spec_WriterAck.f k1 l1_0 a1_1 x239000_1 x239001_1 (wrap64 (1 + bt259.1)) bt262.1).bind fun bt265 => (spec_l8DrawRight.j1 k1 x6_1 bt265.2.2 s0_0 bt262.2.1 bt262.2.2 l1_0 a1_1 x239000_1 x239001_1 bt265.1 bt265.2.1))))) else (spec_l8DrawRight.j1 k1 x6_1 t253 s0_0 bt255.2.1 bt255.2.2 l1_0 a1_1 x239000_1 x239001_1 t248 t249))) = some (r1, r2, r3, r4) := H
    have A15 := Aside0.mk A150
    clear A150
    replace H := Option.bind_eq_some_iff.mp H
    obtain ⟨⟨t255, t256, t257⟩, A160, H⟩ := H
    replace H : (if t255 = true then ((spec_l1Max.f (x239001_1.length : Int) 1).bind fun t258 => ((spec_l1Below.f s0_0 t256 t257 t258).bind fun bt259 => ((spec_l1Below.f s0_0 bt259.2.1 bt259.2.2 (l1_0.length : Int)).bind fun bt262 => ((spec_WriterAck.f k1 l1_0 a1_1 x239000_1 x239001_1 (wrap64 (1 + bt259.1)) bt262.1).bind fun bt265 => (spec_l8DrawRight.j1 k1 x6_1 bt265.2.2 s0_0 bt262.2.1 bt262.2.2 l1_0 a1_1 x239000_1 x239001_1 bt265.1 bt265.2.1))))) else (spec_l8DrawRight.j1 k1 x6_1 t253 s0_0 t256 t257 l1_0 a1_1 x239000_1 x239001_1 t248 t249)) = some (r1, r2, r3, r4) := H
    have A16 := Aside0.mk A160
    clear A160
    have HC17 := Aside0.mk H
    clear H
    try go_wp2_with (first | ((with_reducible refine gate_callee (f := 105) rfl ?_); refine goesL_ (some 16) rfl rfl Try.func105 (by kernel_rfl) rfl #[.pointer (some ⟨g, 0, none⟩), .int .i64 14] rfl dz1 ?_; (with_reducible refine (spec_l1Below.calls g s0_0 x1001_1 x1002_1 14 t239 t240 t241 w0 _ ?side1 ?side2 A12.out).mono ?_); (case side1 => exact dz294); (case side2 => exact dz295); rintro e w18 ⟨rfl, hi, hb, hk⟩; refine ⟨_, rfl, ?_⟩; replace HO_239001 := Aside0.mk (Kd.N_mono (Kd.N_keep (Kd.N_mono (ok := fun k_ => (((w.heap.size ≤ k_)) ∧ (k_ ≠ gb233 ∧ (k_ ≠ gb234 ∧ (k_ ≠ gb238 ∧ k_ ≠ g))))) dz7 (fun k_ hk_ => (⟨hk_, hk_.2.2.2.2⟩ : _ ∧ k_ ≠ g))) hk (fun _ h => h.2)) (fun _ h => h.1)); replace BK233 := Aside0.mk (KeepBut.blk hk (g' := gb233) (o := .cells #[.slice A1_0 l1_0.length c1_0, .int .i64 a1_1] 73 (0, 0)) dz13 NB233_0.out (by simp)); replace BK234 := Aside0.mk (KeepBut.blk hk (g' := gb234) (o := .cells #[.int .i64 0, .slice none 0 0] 49 (0, 0)) dz14 NB234_0.out (by simp)); replace BK238 := Aside0.mk (KeepBut.blk hk (g' := gb238) (o := .cells #[.int .i64 x239000_1, u239001] 49 (0, 0)) dz15 NB238_0.out (by simp)); replace HK := Aside0.mk (KeepBut.trans dz8 hk (.inl rfl)); replace HB := Aside0.mk (hb); replace HI0 := Aside0.mk (hi); (try clear hb); (try clear hb2); (try clear hk); (try clear hi); obtain ⟨Ao19, co19, eo19⟩ := Kd.N_slice HO_239001.out; subst eo19))
    replace HO_239001 := Aside0.mk (Kd.N_drew HO_239001.out)
    replace BK233 := Aside0.mk (blk_drew BK233.out)
    replace BK234 := Aside0.mk (blk_drew BK234.out)
    replace BK238 := Aside0.mk (blk_drew BK238.out)
    replace HI0 := Aside0.mk (IsS133.drew HI0.out)
    replace HK := Aside0.mk (keep_drew HK.out)
    replace HB := Aside0.mk (below_drew1 HB.out)
    refine start_ (n := 14) (S := fun w' => w'.cell? ⟨gb233, 0, none⟩ = some (.slice A1_0 l1_0.length c1_0) ∧ w'.cell? ⟨gb233, 1, none⟩ = some (.int .i64 a1_1) ∧ w'.cell? ⟨gb238, 0, none⟩ = some (.int .i64 x239000_1) ∧ w'.cell? ⟨gb238, 1, none⟩ = some (.slice Ao19 x239001_1.length co19)) (ds := []) (fl_ 0 14) (by kernel_rfl) rfl rfl ⟨(blk_cell BK233.out 0).trans rfl, (blk_cell BK233.out 1).trans rfl, (blk_cell BK238.out 0).trans rfl, (blk_cell BK238.out 1).trans rfl⟩ (fun hHeld => ?_); refine with_tabW spec_l8DrawRight.tab5 spec_l8DrawRight.bits5 (fun HT_ HW_ => ?_)
    generalize w18.drew = w20 at HO_239001 BK233 BK234 BK238 HI0 HK HB hHeld ⊢
    refine pure_ (i := 2) (N := some 23) (v := ?_) (a' := ?_) #[false, false, true, false, false, false, false, false, false, false, false, false, false, false] rfl rfl (any_of HT_.out (by kernel_rfl)) (fun _ _ _ h => h) (Or.inl ⟨by rfl, ?_⟩) ?_ ?_
    rotate_left
    ·exact dz311
    rotate_left
    ·exact dz312
    refine take_ (i := 0) (N := some 21) (v := ?_) (a' := ?_) #[true, false, true, false, false, false, false, false, false, false, false, false, false, false] rfl rfl (take_ofW HT_.out HW_.out (by kernel_rfl)) (fun _ _ _ h => h) (Or.inl ⟨by rfl, ?_⟩) hHeld ?_ ?_
    rotate_left
    ·exact dz318
    rotate_left
    ·exact dz312
    refine take_ (i := 1) (N := some 22) (v := ?_) (a' := ?_) (fl_ 3 11) rfl rfl (take_ofW HT_.out HW_.out (by kernel_rfl)) (fun _ _ _ h => h) (Or.inl ⟨by rfl, ?_⟩) hHeld ?_ ?_
    rotate_left
    ·exact dz318
    rotate_left
    ·exact dz312
    refine join_ (σ := Value × Value × Nat) 3 (fl_ 11 3) (fun s_ => [(24, s_.1), (25, .string t245), (26, .tuple #[.agg #[.int .i64 t248, s_.2.1], .int .i64 t252, .bool t253]), (7, .pointer (some ⟨s_.2.2, 0, none⟩)), (20, .tuple #[.agg #[.int .i64 t248, s_.2.1], .int .i64 t252, .bool t253]), (27, .agg #[.int .i64 t248, s_.2.1]), (28, .int .i64 t252), (29, .bool t253)]) (fun s_ w' => (w'.cell? ⟨gb233, 0, none⟩ = some (.slice A1_0 l1_0.length c1_0) ∧ w'.cell? ⟨gb233, 1, none⟩ = some (.int .i64 a1_1) ∧ w'.cell? ⟨gb238, 0, none⟩ = some (.int .i64 x239000_1) ∧ w'.cell? ⟨gb238, 1, none⟩ = some (.slice Ao19 x239001_1.length co19)) ∧ (Kd.R Kd.string 9 w' w.heap.size (fun k_ => (w.heap.size ≤ k_)) s_.1 y242) ∧ (Kd.N k53 53 w' w.heap.size (fun k_ => (w.heap.size ≤ k_) ∧ some k_ ≠ (s_.1 : Value).ownBlock ∧ some k_ ≠ (.slice Ao19 x239001_1.length co19 : Value).ownBlock ∧ k_ ≠ g ∧ k_ ≠ gb233 ∧ k_ ≠ gb234 ∧ k_ ≠ gb238 ∧ k_ ≠ s_.2.2) s_.2.1 t249) ∧ (Kd.N k53 53 w' w.heap.size (fun k_ => (w.heap.size ≤ k_) ∧ some k_ ≠ (s_.1 : Value).ownBlock ∧ some k_ ≠ (s_.2.1 : Value).ownBlock ∧ k_ ≠ g ∧ k_ ≠ gb233 ∧ k_ ≠ gb234 ∧ k_ ≠ gb238 ∧ k_ ≠ s_.2.2) (.slice Ao19 x239001_1.length co19) x239001_1) ∧ (w'.heap[gb233]? = some (.cells #[.slice A1_0 l1_0.length c1_0, .int .i64 a1_1] 73 (0, 0))) ∧ (w'.heap[gb234]? = some (.cells #[.int .i64 0, .slice none 0 0] 49 (0, 0))) ∧ (w'.heap[gb238]? = some (.cells #[.int .i64 x239000_1, .slice Ao19 x239001_1.length co19] 49 (0, 0))) ∧ (w'.heap[s_.2.2]? = some (.cells #[.int .i64 0, .slice none 0 0] 49 (0, 0))) ∧ (w.heap.size ≤ s_.2.2) ∧ (w0.heap.size ≤ s_.2.2) ∧ (g ≠ s_.2.2) ∧ (s_.2.2 ≠ g) ∧ (gb233 ≠ s_.2.2) ∧ (s_.2.2 ≠ gb233) ∧ (gb234 ≠ s_.2.2) ∧ (s_.2.2 ≠ gb234) ∧ (gb238 ≠ s_.2.2) ∧ (s_.2.2 ≠ gb238) ∧ (IsS133 w0 w' g s0_0 t246 t247) ∧ (KeepBut w w' g none) ∧ (Below w0.heap.size w0 w')) ?_ ?_
    rotate_left
    ·intro hCont
     refine two_ (i := 3) (j := 10) (Ni := some 24) (Nj := some 7) (fl_ 4 10) #[true, true, true, false, false, false, false, false, false, false, true, false, false, false] rfl rfl rfl rfl (two_of HT_.out (by kernel_rfl)) (by decide) (by decide) (fun K hK => ?_) (fun K hK => ?_)
     ·skip
      refine Kd.R_lit_step Kd.string _ 9 ?hg (N := 24) ?hd (xs := ([(⟨#[]⟩ : ByteArray), (⟨#[97]⟩ : ByteArray), (⟨#[98, 99]⟩ : ByteArray)] : List ByteArray)) (inner := [.string (⟨#[]⟩ : ByteArray), .string (⟨#[97]⟩ : ByteArray), .string (⟨#[98, 99]⟩ : ByteArray)]) (ok := fun _ => True) (okp := fun _ => True) ?hr ?hp (fun _ hk => hk) trivial (Below.refl _ _) (Nat.le_refl _) (by simp) ?_; (case hd => rfl); (case hg => rfl); (case hr => first | (go_simp; done) | (go_simp; rfl)); (case hp => exact dz296)
      intro v243 w21 ho22 hb hg_ hnew_
      clear hg_ hnew_
      (first | rw [← Ny242.out] at ho22 | (simp only [Int.reduceToNat] at ho22; rw [← Ny242.out] at ho22))
      replace HO_239001 := Aside0.mk (Kd.N_elder' dz7 (Kd.R_base ho22) hb)
      have HO244 := Aside0.mk (Kd.R_lower (Kd.R_newM (M := fun k_ => (w.heap.size ≤ k_)) ho22 (keep_size (w := w) (g := g) (row := none) dz8) (fun k_ h_ => h_)) (keep_size (w := w) (g := g) (row := none) dz8))
      replace BK233 := (bkb_ BK233 hb)
      replace BK234 := (bkb_ BK234 hb)
      replace BK238 := (bkb_ BK238 hb)
      replace HK := Aside0.mk (KeepBut.trans dz8 (KeepBut.of_below hb g none) (.inl rfl))
      replace HB := Aside0.mk (below_step dz35 hb)
      replace HI0 := Aside0.mk (IsS133.below dz30 hb)
      clear hb ho22
      obtain ⟨Ao23, co23, eo23⟩ := Kd.R_slice HO244.out
      (first | subst eo23 | (injection eo23 with f1_ f2_ f3_; have f4_ := f1_.symm; have f5_ := f3_.symm; clear f1_ f2_ f3_; subst f4_; subst f5_))
      refine hK.out _ _ ⟨(blk_cell BK233.out 0).trans rfl, (blk_cell BK233.out 1).trans rfl, (blk_cell BK238.out 0).trans rfl, (blk_cell BK238.out 1).trans rfl⟩ (fun hHeld => ?_)
      clear hK K
      refine norm_ (a' := ?_) ?_ ?_
      rotate_left
      ·show Act.put _ (some 24) _ = _
       simp only [Act.put, List.setIfInBounds_toArray, List.set_cons_zero, List.set_cons_succ, i64_w, i32_w]
       rfl
      refine two_ (i := 4) (j := 10) (Ni := some 25) (Nj := some 7) (fl_ 5 9) #[true, true, true, true, false, false, false, false, false, false, true, false, false, false] rfl rfl rfl rfl (two_of HT_.out (by kernel_rfl)) (by decide) (by decide) (fun K hK => ?_) (fun K hK => ?_)
      ·skip
       refine goes_ Try.func134 (by kernel_rfl) rfl #[.pointer (some ⟨g, 0, none⟩), .slice Ao23 y242.length co23] (by rfl) rfl rfl dz1 ?_
       with_reducible refine (spec_l1Pick.calls g s0_0 t240 t241 _ _ y242 t245 t246 t247 w0 _ ?side1 ?side2 ?side3 ?side4 ?side5 A14.out).mono ?_
       (case side1 => exact dz294)
       (case side2 => exact dz295)
       (case side3 => exact dz297)
       (case side4 => exact (Kd.R_reads' HO244.out).2.1)
       (case side5 => exact far_slice (IsS133.own_ne HI0.out HO244.out (by decide)))
       rintro e w24 ⟨rfl, hi, hb, hk⟩
       refine ⟨_, rfl, ?_⟩
       replace HO_239001 := Aside0.mk (Kd.N_mono (Kd.N_keep (Kd.N_mono (ok := fun k_ => ((((w.heap.size ≤ k_)) ∧ (k_ ≠ gb233 ∧ (k_ ≠ gb234 ∧ (k_ ≠ gb238 ∧ k_ ≠ g)))) ∧ some k_ ≠ (.slice Ao23 y242.length co23 : Value).ownBlock)) dz7 (fun k_ hk_ => (⟨hk_, hk_.1.2.2.2.2⟩ : _ ∧ k_ ≠ g))) hk (fun _ h => h.2)) (fun _ h => h.1))
       replace BK233 := Aside0.mk (KeepBut.blk hk (g' := gb233) (o := .cells #[.slice A1_0 l1_0.length c1_0, .int .i64 a1_1] 73 (0, 0)) dz13 NB233_0.out (by simp))
       replace BK234 := Aside0.mk (KeepBut.blk hk (g' := gb234) (o := .cells #[.int .i64 0, .slice none 0 0] 49 (0, 0)) dz14 NB234_0.out (by simp))
       replace BK238 := Aside0.mk (KeepBut.blk hk (g' := gb238) (o := .cells #[.int .i64 x239000_1, .slice Ao19 x239001_1.length co19] 49 (0, 0)) dz15 NB238_0.out (by simp))
       replace HO244 := Aside0.mk (Kd.R_mono (Kd.R_keep (IsS133.apart (show IsS133 w0 _ g s0_0 t240 t241 from by repeat (first | (with_reducible first | exact HI0.out | apply IsS133.alloc | apply IsS133.drewN | apply IsS133.drew | apply IsS133.set_1 | apply IsS133.set_2 | refine IsS133.far ?_ NB0_233.out _ | refine IsS133.far ?_ NB0_234.out _ | refine IsS133.far ?_ NB0_238.out _) | exact HI0.out)) dz22 (by decide)) hk (fun _ h => h.2)) (fun _ h => h.1))
       replace HK := Aside0.mk (KeepBut.trans dz8 hk (.inl rfl))
       replace HB := Aside0.mk (hb)
       replace HI0 := Aside0.mk (hi)
       (try clear hb)
       (try clear hb2)
       (try clear hk)
       (try clear hi)
       refine hK.out _ _ ⟨(blk_cell BK233.out 0).trans rfl, (blk_cell BK233.out 1).trans rfl, (blk_cell BK238.out 0).trans rfl, (blk_cell BK238.out 1).trans rfl⟩ (fun hHeld => ?_)
       clear hK K
       refine norm_ (a' := ?_) ?_ ?_
       rotate_left
       ·exact dz319
       refine two_ (i := 5) (j := 10) (Ni := some 26) (Nj := some 7) (fl_ 6 8) #[true, true, true, true, true, false, false, false, false, false, true, false, false, false] rfl rfl rfl rfl (two_of HT_.out (by kernel_rfl)) (by decide) (by decide) (fun K hK => ?_) (fun K hK => ?_)
       ·skip
        refine goes_ Try.func133 (by kernel_rfl) rfl #[.agg #[.slice A1_0 l1_0.length c1_0, .int .i64 a1_1], .agg #[.int .i64 x239000_1, .slice Ao19 x239001_1.length co19], .string t245] (by rfl) rfl rfl dz1 ?_
        with_reducible refine (spec_WriterAdd.calls k1 _ _ l1_0 a1_1 x239000_1 _ _ x239001_1 t245 t248 t249 t252 t253 _ ?side1 ?side2 ?side3 ?side4 A15.out).mono ?_
        (case side1 => exact Kd.C_keep 0 HR1_0.out dz8 hf1_0)
        (case side2 => exact HC1_0.out)
        (case side3 => exact dz298)
        (case side4 => exact (Kd.N_reads' HO_239001.out).2.1)
        rintro e w25 ⟨v250, rfl, ho0, hb⟩
        refine ⟨_, rfl, ?_⟩
        have HO251 := Aside0.mk (Kd.N_lower (Kd.N_mono (ok' := fun k_ => (w.heap.size ≤ k_) ∧ some k_ ≠ (.slice Ao19 x239001_1.length co19 : Value).ownBlock ∧ some k_ ≠ (.slice Ao23 y242.length co23 : Value).ownBlock ∧ k_ ≠ gb233 ∧ k_ ≠ gb234 ∧ k_ ≠ gb238 ∧ k_ ≠ g) (Kd.S_N (Kd.S_bound ho0)) (fun k_ hk_ => ⟨(Nat.le_trans (keep_size (w := w) (g := g) (row := none) dz8) hk_.2.1), (Kd.fresh' (Kd.N_lt dz7) k_ hk_.2.1), (Kd.fresh' (Kd.R_lt dz22) k_ hk_.2.1), (Kd.freshB (g := gb233) (o := .cells #[.slice A1_0 l1_0.length c1_0, .int .i64 a1_1] 73 (0, 0)) dz13 k_ hk_.2.1), (Kd.freshB (g := gb234) (o := .cells #[.int .i64 0, .slice none 0 0] 49 (0, 0)) dz14 k_ hk_.2.1), (Kd.freshB (g := gb238) (o := .cells #[.int .i64 x239000_1, .slice Ao19 x239001_1.length co19] 49 (0, 0)) dz15 k_ hk_.2.1), (IsS133.fresh dz30 k_ hk_.2.1)⟩)) (keep_size (w := w) (g := g) (row := none) dz8))
        replace HO_239001 := Aside0.mk (Kd.N_elder' dz7 dz36 hb)
        replace HO244 := (rbb_ HO244 hb)
        replace BK233 := (bkb_ BK233 hb)
        replace BK234 := (bkb_ BK234 hb)
        replace BK238 := (bkb_ BK238 hb)
        replace HK := Aside0.mk (KeepBut.trans dz8 (KeepBut.of_below hb g none) (.inl rfl))
        replace HB := Aside0.mk (below_step dz35 hb)
        replace HI0 := Aside0.mk (IsS133.below dz30 hb)
        (try clear hb)
        (try clear hb2)
        (try clear hk)
        (try clear hi)
        (try clear ho0)
        refine hK.out _ _ ⟨(blk_cell BK233.out 0).trans rfl, (blk_cell BK233.out 1).trans rfl, (blk_cell BK238.out 0).trans rfl, (blk_cell BK238.out 1).trans rfl⟩ (fun hHeld => ?_)
        clear hK K
        refine norm_ (a' := ?_) ?_ ?_
        rotate_left
        ·exact dz320
        refine pure_ (i := 6) (N := some 20) (v := ?_) (a' := ?_) (fl_ 7 7) rfl rfl (any_of HT_.out (by kernel_rfl)) (fun _ _ _ h => h) (Or.inl ⟨by rfl, ?_⟩) ?_ ?_
        rotate_left
        ·exact dz311
        rotate_left
        ·exact dz312
        refine pure_ (i := 7) (N := some 27) (v := ?_) (a' := ?_) (fl_ 8 6) rfl rfl (any_of HT_.out (by kernel_rfl)) (fun _ _ _ h => h) (Or.inl ⟨by rfl, ?_⟩) ?_ ?_
        rotate_left
        ·exact dz311
        rotate_left
        ·exact dz312
        refine pure_ (i := 8) (N := some 28) (v := ?_) (a' := ?_) (fl_ 9 5) rfl rfl (any_of HT_.out (by kernel_rfl)) (fun _ _ _ h => h) (Or.inl ⟨by rfl, ?_⟩) ?_ ?_
        rotate_left
        ·exact dz311
        rotate_left
        ·exact dz312
        refine pure_ (i := 9) (N := some 29) (v := ?_) (a' := ?_) (fl_ 10 4) rfl rfl (any_of HT_.out (by kernel_rfl)) (fun _ _ _ h => h) (Or.inl ⟨by rfl, ?_⟩) ?_ ?_
        rotate_left
        ·exact dz311
        rotate_left
        ·exact dz312
        refine one_ (i := 10) (N := some 7) (fl_ 11 3) rfl rfl (one_of HT_.out (by kernel_rfl)) (by decide) (fun K hK => ?_)
        refine box_step ?hg (N := 7) ?hd (cs := #[.int .i64 0, .slice none 0 0]) (t := 49) ?hr ?_; (case hd => rfl); (case hg => rfl); (case hr => first | (go_simp; done) | (go_simp; rfl))
        intro gb254 hg w26 hbox hb
        replace HO_239001 := Aside0.mk (Kd.N_below (Kd.N_elderB dz7 gb254 (Nat.le_of_eq hg.symm)) hb)
        replace HO244 := (rbb_ HO244 hb)
        replace HO251 := Aside0.mk (Kd.N_below (Kd.N_elderB dz48 gb254 (Nat.le_of_eq hg.symm)) hb)
        replace HB := Aside0.mk (below_step dz35 hb)
        have BK254 := Aside0.mk (hbox)
        have GW254 := Aside0.mk ((by rw [hg]; exact (keep_size (w := w) (g := g) (row := none) dz8) : w.heap.size ≤ gb254))
        have GE254 := Aside0.mk ((Nat.le_trans HW0.out (by rw [hg]; exact (keep_size (w := w) (g := g) (row := none) dz8) : w.heap.size ≤ gb254) : w0.heap.size ≤ gb254))
        replace HK := Aside0.mk (KeepBut.trans dz8 (KeepBut.of_below hb g none) (.inl rfl))
        have NB233_254 := (nbl_ hg BK233)
        have NB254_233 := (nbr_ hg BK233)
        replace BK233 := (bkb_ BK233 hb)
        have NB234_254 := (nbl_ hg BK234)
        have NB254_234 := (nbr_ hg BK234)
        replace BK234 := (bkb_ BK234 hb)
        have NB238_254 := (nbl_ hg BK238)
        have NB254_238 := (nbr_ hg BK238)
        replace BK238 := (bkb_ BK238 hb)
        have NB0_254 := Aside0.mk ((by rw [hg]; exact Nat.ne_of_lt (IsS133.lt (show IsS133 w0 _ g s0_0 t246 t247 from by repeat (first | (with_reducible first | exact HI0.out | apply IsS133.alloc | apply IsS133.drewN | apply IsS133.drew | apply IsS133.set_1 | apply IsS133.set_2 | refine IsS133.far ?_ NB0_233.out _ | refine IsS133.far ?_ NB0_234.out _ | refine IsS133.far ?_ NB0_238.out _) | exact HI0.out))) : g ≠ gb254))
        have NB254_0 := Aside0.mk ((by rw [hg]; exact Nat.ne_of_gt (IsS133.lt (show IsS133 w0 _ g s0_0 t246 t247 from by repeat (first | (with_reducible first | exact HI0.out | apply IsS133.alloc | apply IsS133.drewN | apply IsS133.drew | apply IsS133.set_1 | apply IsS133.set_2 | refine IsS133.far ?_ NB0_233.out _ | refine IsS133.far ?_ NB0_234.out _ | refine IsS133.far ?_ NB0_238.out _) | exact HI0.out))) : gb254 ≠ g))
        replace HI0 := Aside0.mk (IsS133.below dz30 hb)
        clear hb hbox hg
        refine hK.out _ _ ⟨(blk_cell BK233.out 0).trans rfl, (blk_cell BK233.out 1).trans rfl, (blk_cell BK238.out 0).trans rfl, (blk_cell BK238.out 1).trans rfl⟩ (fun hHeld => ?_)
        clear hK K
        refine norm_ (a' := ?_) ?_ ?_
        rotate_left
        ·exact dz314
        exact norm_ dz55 (hCont (.slice Ao23 y242.length co23, v250, gb254) _ ⟨hHeld, dz56, (by (with_reducible repeat (first | apply Kd.N_alloc | apply Kd.N_drewN | apply Kd.N_drew)); exact Kd.N_mono HO251.out (fun _ hk => ⟨hk.1.1, ⟨hk.1.2.2.1, ⟨hk.1.2.1, ⟨hk.1.2.2.2.2.2.2, ⟨hk.1.2.2.2.1, ⟨hk.1.2.2.2.2.1, ⟨hk.1.2.2.2.2.2.1, hk.2⟩⟩⟩⟩⟩⟩⟩)), (by (with_reducible repeat (first | apply Kd.N_alloc | apply Kd.N_drewN | apply Kd.N_drew)); exact Kd.N_mono HO_239001.out (fun _ hk => ⟨hk.1.1.1.1, ⟨hk.1.1.2, ⟨hk.1.2, ⟨hk.1.1.1.2.2.2.2, ⟨hk.1.1.1.2.1, ⟨hk.1.1.1.2.2.1, ⟨hk.1.1.1.2.2.2.1, hk.2⟩⟩⟩⟩⟩⟩⟩)), dz13, dz14, dz15, dz18, GW254.out, GE254.out, NB0_254.out, NB254_0.out, NB233_254.out, NB254_233.out, NB234_254.out, NB254_234.out, NB238_254.out, NB254_238.out, dz17, dz6, dz25⟩)
       skip
       refine box_step ?hg (N := 7) ?hd (cs := #[.int .i64 0, .slice none 0 0]) (t := 49) ?hr ?_; (case hd => rfl); (case hg => rfl); (case hr => first | (go_simp; done) | (go_simp; rfl))
       intro gb254 hg w25 hbox hb
       replace HO_239001 := Aside0.mk (Kd.N_below (Kd.N_elderB dz7 gb254 (Nat.le_of_eq hg.symm)) hb)
       replace HO244 := (rbb_ HO244 hb)
       replace HB := Aside0.mk (below_step dz35 hb)
       have BK254 := Aside0.mk (hbox)
       have GW254 := Aside0.mk ((by rw [hg]; exact (keep_size (w := w) (g := g) (row := none) dz8) : w.heap.size ≤ gb254))
       have GE254 := Aside0.mk ((Nat.le_trans HW0.out (by rw [hg]; exact (keep_size (w := w) (g := g) (row := none) dz8) : w.heap.size ≤ gb254) : w0.heap.size ≤ gb254))
       replace HK := Aside0.mk (KeepBut.trans dz8 (KeepBut.of_below hb g none) (.inl rfl))
       have NB233_254 := (nbl_ hg BK233)
       have NB254_233 := (nbr_ hg BK233)
       replace BK233 := (bkb_ BK233 hb)
       have NB234_254 := (nbl_ hg BK234)
       have NB254_234 := (nbr_ hg BK234)
       replace BK234 := (bkb_ BK234 hb)
       have NB238_254 := (nbl_ hg BK238)
       have NB254_238 := (nbr_ hg BK238)
       replace BK238 := (bkb_ BK238 hb)
       have NB0_254 := Aside0.mk ((by rw [hg]; exact Nat.ne_of_lt (IsS133.lt (show IsS133 w0 _ g s0_0 t246 t247 from by repeat (first | (with_reducible first | exact HI0.out | apply IsS133.alloc | apply IsS133.drewN | apply IsS133.drew | apply IsS133.set_1 | apply IsS133.set_2 | refine IsS133.far ?_ NB0_233.out _ | refine IsS133.far ?_ NB0_234.out _ | refine IsS133.far ?_ NB0_238.out _) | exact HI0.out))) : g ≠ gb254))
       have NB254_0 := Aside0.mk ((by rw [hg]; exact Nat.ne_of_gt (IsS133.lt (show IsS133 w0 _ g s0_0 t246 t247 from by repeat (first | (with_reducible first | exact HI0.out | apply IsS133.alloc | apply IsS133.drewN | apply IsS133.drew | apply IsS133.set_1 | apply IsS133.set_2 | refine IsS133.far ?_ NB0_233.out _ | refine IsS133.far ?_ NB0_234.out _ | refine IsS133.far ?_ NB0_238.out _) | exact HI0.out))) : gb254 ≠ g))
       replace HI0 := Aside0.mk (IsS133.below dz30 hb)
       clear hb hbox hg
       refine hK.out _ _ ⟨(blk_cell BK233.out 0).trans rfl, (blk_cell BK233.out 1).trans rfl, (blk_cell BK238.out 0).trans rfl, (blk_cell BK238.out 1).trans rfl⟩ (fun hHeld => ?_)
       clear hK K
       refine norm_ (a' := ?_) ?_ ?_
       rotate_left
       ·exact dz314
       refine one_ (i := 5) (N := some 26) #[true, true, true, true, true, true, false, false, false, false, true, false, false, false] rfl rfl (one_of HT_.out (by kernel_rfl)) (by decide) (fun K hK => ?_)
       refine goes_ Try.func133 (by kernel_rfl) rfl #[.agg #[.slice A1_0 l1_0.length c1_0, .int .i64 a1_1], .agg #[.int .i64 x239000_1, .slice Ao19 x239001_1.length co19], .string t245] (by rfl) rfl rfl dz1 ?_
       with_reducible refine (spec_WriterAdd.calls k1 _ _ l1_0 a1_1 x239000_1 _ _ x239001_1 t245 t248 t249 t252 t253 _ ?side1 ?side2 ?side3 ?side4 A15.out).mono ?_
       (case side1 => exact Kd.C_keep 0 HR1_0.out dz6 hf1_0)
       (case side2 => exact HC1_0.out)
       (case side3 => exact dz298)
       (case side4 => exact (Kd.N_reads' HO_239001.out).2.1)
       rintro e w26 ⟨v250, rfl, ho0, hb⟩
       refine ⟨_, rfl, ?_⟩
       have HO251 := Aside0.mk (Kd.N_lower (Kd.N_mono (ok' := fun k_ => (w.heap.size ≤ k_) ∧ some k_ ≠ (.slice Ao19 x239001_1.length co19 : Value).ownBlock ∧ some k_ ≠ (.slice Ao23 y242.length co23 : Value).ownBlock ∧ k_ ≠ gb233 ∧ k_ ≠ gb234 ∧ k_ ≠ gb238 ∧ k_ ≠ gb254 ∧ k_ ≠ g) (Kd.S_N (Kd.S_bound ho0)) (fun k_ hk_ => ⟨(Nat.le_trans (keep_size (w := w) (g := g) (row := none) dz6) hk_.2.1), (Kd.fresh' (Kd.N_lt dz7) k_ hk_.2.1), (Kd.fresh' (Kd.R_lt dz22) k_ hk_.2.1), (Kd.freshB (g := gb233) (o := .cells #[.slice A1_0 l1_0.length c1_0, .int .i64 a1_1] 73 (0, 0)) dz13 k_ hk_.2.1), (Kd.freshB (g := gb234) (o := .cells #[.int .i64 0, .slice none 0 0] 49 (0, 0)) dz14 k_ hk_.2.1), (Kd.freshB (g := gb238) (o := .cells #[.int .i64 x239000_1, .slice Ao19 x239001_1.length co19] 49 (0, 0)) dz15 k_ hk_.2.1), (Kd.freshB (g := gb254) (o := .cells #[.int .i64 0, .slice none 0 0] 49 (0, 0)) dz18 k_ hk_.2.1), (IsS133.fresh dz17 k_ hk_.2.1)⟩)) (keep_size (w := w) (g := g) (row := none) dz6))
       replace HO_239001 := Aside0.mk (Kd.N_elder' dz7 dz36 hb)
       replace HO244 := (rbb_ HO244 hb)
       replace BK233 := (bkb_ BK233 hb)
       replace BK234 := (bkb_ BK234 hb)
       replace BK238 := (bkb_ BK238 hb)
       replace BK254 := (bkb_ BK254 hb)
       replace HK := Aside0.mk (KeepBut.trans dz6 (KeepBut.of_below hb g none) (.inl rfl))
       replace HB := Aside0.mk (below_step dz25 hb)
       replace HI0 := Aside0.mk (IsS133.below dz17 hb)
       (try clear hb)
       (try clear hb2)
       (try clear hk)
       (try clear hi)
       (try clear ho0)
       refine hK.out _ _ ⟨(blk_cell BK233.out 0).trans rfl, (blk_cell BK233.out 1).trans rfl, (blk_cell BK238.out 0).trans rfl, (blk_cell BK238.out 1).trans rfl⟩ (fun hHeld => ?_)
       clear hK K
       refine norm_ (a' := ?_) ?_ ?_
       rotate_left
       ·exact dz320
       refine pure_ (i := 6) (N := some 20) (v := ?_) (a' := ?_) #[true, true, true, true, true, true, true, false, false, false, true, false, false, false] rfl rfl (any_of HT_.out (by kernel_rfl)) (fun _ _ _ h => h) (Or.inl ⟨by rfl, ?_⟩) ?_ ?_
       rotate_left
       ·exact dz311
       rotate_left
       ·exact dz312
       refine pure_ (i := 7) (N := some 27) (v := ?_) (a' := ?_) #[true, true, true, true, true, true, true, true, false, false, true, false, false, false] rfl rfl (any_of HT_.out (by kernel_rfl)) (fun _ _ _ h => h) (Or.inl ⟨by rfl, ?_⟩) ?_ ?_
       rotate_left
       ·exact dz311
       rotate_left
       ·exact dz312
       refine pure_ (i := 8) (N := some 28) (v := ?_) (a' := ?_) #[true, true, true, true, true, true, true, true, true, false, true, false, false, false] rfl rfl (any_of HT_.out (by kernel_rfl)) (fun _ _ _ h => h) (Or.inl ⟨by rfl, ?_⟩) ?_ ?_
       rotate_left
       ·exact dz311
       rotate_left
       ·exact dz312
       refine pure_ (i := 9) (N := some 29) (v := ?_) (a' := ?_) (fl_ 11 3) rfl rfl (any_of HT_.out (by kernel_rfl)) (fun _ _ _ h => h) (Or.inl ⟨by rfl, ?_⟩) ?_ ?_
       rotate_left
       ·exact dz311
       rotate_left
       ·exact dz312
       exact norm_ dz55 (hCont (.slice Ao23 y242.length co23, v250, gb254) _ ⟨hHeld, dz56, dz77, dz97, dz13, dz14, dz15, dz18, GW254.out, GE254.out, NB0_254.out, NB254_0.out, NB233_254.out, NB254_233.out, NB234_254.out, NB254_234.out, NB238_254.out, NB254_238.out, dz17, dz6, dz25⟩)
      skip
      refine box_step ?hg (N := 7) ?hd (cs := #[.int .i64 0, .slice none 0 0]) (t := 49) ?hr ?_; (case hd => rfl); (case hg => rfl); (case hr => first | (go_simp; done) | (go_simp; rfl))
      intro gb254 hg w23 hbox hb
      replace HO_239001 := Aside0.mk (Kd.N_below (Kd.N_elderB dz7 gb254 (Nat.le_of_eq hg.symm)) hb)
      replace HO244 := (rbb_ HO244 hb)
      replace HB := Aside0.mk (below_step dz35 hb)
      have BK254 := Aside0.mk (hbox)
      have GW254 := Aside0.mk ((by rw [hg]; exact (keep_size (w := w) (g := g) (row := none) dz8) : w.heap.size ≤ gb254))
      have GE254 := Aside0.mk ((Nat.le_trans HW0.out (by rw [hg]; exact (keep_size (w := w) (g := g) (row := none) dz8) : w.heap.size ≤ gb254) : w0.heap.size ≤ gb254))
      replace HK := Aside0.mk (KeepBut.trans dz8 (KeepBut.of_below hb g none) (.inl rfl))
      have NB233_254 := (nbl_ hg BK233)
      have NB254_233 := (nbr_ hg BK233)
      replace BK233 := (bkb_ BK233 hb)
      have NB234_254 := (nbl_ hg BK234)
      have NB254_234 := (nbr_ hg BK234)
      replace BK234 := (bkb_ BK234 hb)
      have NB238_254 := (nbl_ hg BK238)
      have NB254_238 := (nbr_ hg BK238)
      replace BK238 := (bkb_ BK238 hb)
      have NB0_254 := Aside0.mk ((by rw [hg]; exact Nat.ne_of_lt (IsS133.lt (show IsS133 w0 _ g s0_0 t240 t241 from by repeat (first | (with_reducible first | exact HI0.out | apply IsS133.alloc | apply IsS133.drewN | apply IsS133.drew | apply IsS133.set_1 | apply IsS133.set_2 | refine IsS133.far ?_ NB0_233.out _ | refine IsS133.far ?_ NB0_234.out _ | refine IsS133.far ?_ NB0_238.out _) | exact HI0.out))) : g ≠ gb254))
      have NB254_0 := Aside0.mk ((by rw [hg]; exact Nat.ne_of_gt (IsS133.lt (show IsS133 w0 _ g s0_0 t240 t241 from by repeat (first | (with_reducible first | exact HI0.out | apply IsS133.alloc | apply IsS133.drewN | apply IsS133.drew | apply IsS133.set_1 | apply IsS133.set_2 | refine IsS133.far ?_ NB0_233.out _ | refine IsS133.far ?_ NB0_234.out _ | refine IsS133.far ?_ NB0_238.out _) | exact HI0.out))) : gb254 ≠ g))
      replace HI0 := Aside0.mk (IsS133.below dz30 hb)
      clear hb hbox hg
      obtain ⟨Ao24, co24, eo24⟩ := Kd.R_slice HO244.out
      (first | subst eo24 | (injection eo24 with f1_ f2_ f3_; have f4_ := f1_.symm; have f5_ := f3_.symm; clear f1_ f2_ f3_; subst f4_; subst f5_))
      refine hK.out _ _ ⟨(blk_cell BK233.out 0).trans rfl, (blk_cell BK233.out 1).trans rfl, (blk_cell BK238.out 0).trans rfl, (blk_cell BK238.out 1).trans rfl⟩ (fun hHeld => ?_)
      clear hK K
      refine norm_ (a' := ?_) ?_ ?_
      rotate_left
      ·exact dz314
      refine one_ (i := 4) (N := some 25) #[true, true, true, true, true, false, false, false, false, false, true, false, false, false] rfl rfl (one_of HT_.out (by kernel_rfl)) (by decide) (fun K hK => ?_)
      refine goes_ Try.func134 (by kernel_rfl) rfl #[.pointer (some ⟨g, 0, none⟩), .slice Ao24 y242.length co24] (by rfl) rfl rfl dz1 ?_
      with_reducible refine (spec_l1Pick.calls g s0_0 t240 t241 _ _ y242 t245 t246 t247 w0 _ ?side1 ?side2 ?side3 ?side4 ?side5 A14.out).mono ?_
      (case side1 => exact dz299)
      (case side2 => exact dz300)
      (case side3 => exact dz297)
      (case side4 => exact (Kd.R_reads' HO244.out).2.1)
      (case side5 => exact far_slice (IsS133.own_ne HI0.out HO244.out (by decide)))
      rintro e w25 ⟨rfl, hi, hb, hk⟩
      refine ⟨_, rfl, ?_⟩
      replace HO_239001 := Aside0.mk (Kd.N_mono (Kd.N_keep (Kd.N_mono (ok := fun k_ => (((((w.heap.size ≤ k_)) ∧ (k_ ≠ gb233 ∧ (k_ ≠ gb234 ∧ (k_ ≠ gb238 ∧ k_ ≠ g)))) ∧ some k_ ≠ (.slice Ao24 y242.length co24 : Value).ownBlock) ∧ k_ ≠ gb254)) dz7 (fun k_ hk_ => (⟨hk_, hk_.1.1.2.2.2.2⟩ : _ ∧ k_ ≠ g))) hk (fun _ h => h.2)) (fun _ h => h.1))
      replace BK233 := Aside0.mk (KeepBut.blk hk (g' := gb233) (o := .cells #[.slice A1_0 l1_0.length c1_0, .int .i64 a1_1] 73 (0, 0)) dz13 NB233_0.out (by simp))
      replace BK234 := Aside0.mk (KeepBut.blk hk (g' := gb234) (o := .cells #[.int .i64 0, .slice none 0 0] 49 (0, 0)) dz14 NB234_0.out (by simp))
      replace BK238 := Aside0.mk (KeepBut.blk hk (g' := gb238) (o := .cells #[.int .i64 x239000_1, .slice Ao19 x239001_1.length co19] 49 (0, 0)) dz15 NB238_0.out (by simp))
      replace HO244 := Aside0.mk (Kd.R_mono (Kd.R_keep (IsS133.apart (show IsS133 w0 _ g s0_0 t240 t241 from by repeat (first | (with_reducible first | exact HI0.out | apply IsS133.alloc | apply IsS133.drewN | apply IsS133.drew | apply IsS133.set_1 | apply IsS133.set_2 | refine IsS133.far ?_ NB0_233.out _ | refine IsS133.far ?_ NB0_234.out _ | refine IsS133.far ?_ NB0_238.out _ | refine IsS133.far ?_ NB0_254.out _) | exact HI0.out)) dz22 (by decide)) hk (fun _ h => h.2)) (fun _ h => h.1))
      replace BK254 := Aside0.mk (KeepBut.blk hk (g' := gb254) (o := .cells #[.int .i64 0, .slice none 0 0] 49 (0, 0)) dz18 NB254_0.out (by simp))
      replace HK := Aside0.mk (KeepBut.trans dz6 hk (.inl rfl))
      replace HB := Aside0.mk (hb)
      replace HI0 := Aside0.mk (hi)
      (try clear hb)
      (try clear hb2)
      (try clear hk)
      (try clear hi)
      refine hK.out _ _ ⟨(blk_cell BK233.out 0).trans rfl, (blk_cell BK233.out 1).trans rfl, (blk_cell BK238.out 0).trans rfl, (blk_cell BK238.out 1).trans rfl⟩ (fun hHeld => ?_)
      clear hK K
      refine norm_ (a' := ?_) ?_ ?_
      rotate_left
      ·exact dz319
      refine one_ (i := 5) (N := some 26) #[true, true, true, true, true, true, false, false, false, false, true, false, false, false] rfl rfl (one_of HT_.out (by kernel_rfl)) (by decide) (fun K hK => ?_)
      refine goes_ Try.func133 (by kernel_rfl) rfl #[.agg #[.slice A1_0 l1_0.length c1_0, .int .i64 a1_1], .agg #[.int .i64 x239000_1, .slice Ao19 x239001_1.length co19], .string t245] (by rfl) rfl rfl dz1 ?_
      with_reducible refine (spec_WriterAdd.calls k1 _ _ l1_0 a1_1 x239000_1 _ _ x239001_1 t245 t248 t249 t252 t253 _ ?side1 ?side2 ?side3 ?side4 A15.out).mono ?_
      (case side1 => exact Kd.C_keep 0 HR1_0.out dz6 hf1_0)
      (case side2 => exact HC1_0.out)
      (case side3 => exact dz298)
      (case side4 => exact (Kd.N_reads' HO_239001.out).2.1)
      rintro e w26 ⟨v250, rfl, ho0, hb⟩
      refine ⟨_, rfl, ?_⟩
      have HO251 := Aside0.mk (Kd.N_lower (Kd.N_mono (ok' := fun k_ => (w.heap.size ≤ k_) ∧ some k_ ≠ (.slice Ao19 x239001_1.length co19 : Value).ownBlock ∧ some k_ ≠ (.slice Ao24 y242.length co24 : Value).ownBlock ∧ k_ ≠ gb233 ∧ k_ ≠ gb234 ∧ k_ ≠ gb238 ∧ k_ ≠ gb254 ∧ k_ ≠ g) (Kd.S_N (Kd.S_bound ho0)) (fun k_ hk_ => ⟨(Nat.le_trans (keep_size (w := w) (g := g) (row := none) dz6) hk_.2.1), (Kd.fresh' (Kd.N_lt dz7) k_ hk_.2.1), (Kd.fresh' (Kd.R_lt dz22) k_ hk_.2.1), (Kd.freshB (g := gb233) (o := .cells #[.slice A1_0 l1_0.length c1_0, .int .i64 a1_1] 73 (0, 0)) dz13 k_ hk_.2.1), (Kd.freshB (g := gb234) (o := .cells #[.int .i64 0, .slice none 0 0] 49 (0, 0)) dz14 k_ hk_.2.1), (Kd.freshB (g := gb238) (o := .cells #[.int .i64 x239000_1, .slice Ao19 x239001_1.length co19] 49 (0, 0)) dz15 k_ hk_.2.1), (Kd.freshB (g := gb254) (o := .cells #[.int .i64 0, .slice none 0 0] 49 (0, 0)) dz18 k_ hk_.2.1), (IsS133.fresh dz17 k_ hk_.2.1)⟩)) (keep_size (w := w) (g := g) (row := none) dz6))
      replace HO_239001 := Aside0.mk (Kd.N_elder' dz7 dz36 hb)
      replace HO244 := (rbb_ HO244 hb)
      replace BK233 := (bkb_ BK233 hb)
      replace BK234 := (bkb_ BK234 hb)
      replace BK238 := (bkb_ BK238 hb)
      replace BK254 := (bkb_ BK254 hb)
      replace HK := Aside0.mk (KeepBut.trans dz6 (KeepBut.of_below hb g none) (.inl rfl))
      replace HB := Aside0.mk (below_step dz25 hb)
      replace HI0 := Aside0.mk (IsS133.below dz17 hb)
      (try clear hb)
      (try clear hb2)
      (try clear hk)
      (try clear hi)
      (try clear ho0)
      refine hK.out _ _ ⟨(blk_cell BK233.out 0).trans rfl, (blk_cell BK233.out 1).trans rfl, (blk_cell BK238.out 0).trans rfl, (blk_cell BK238.out 1).trans rfl⟩ (fun hHeld => ?_)
      clear hK K
      refine norm_ (a' := ?_) ?_ ?_
      rotate_left
      ·exact dz320
      refine pure_ (i := 6) (N := some 20) (v := ?_) (a' := ?_) #[true, true, true, true, true, true, true, false, false, false, true, false, false, false] rfl rfl (any_of HT_.out (by kernel_rfl)) (fun _ _ _ h => h) (Or.inl ⟨by rfl, ?_⟩) ?_ ?_
      rotate_left
      ·exact dz311
      rotate_left
      ·exact dz312
      refine pure_ (i := 7) (N := some 27) (v := ?_) (a' := ?_) #[true, true, true, true, true, true, true, true, false, false, true, false, false, false] rfl rfl (any_of HT_.out (by kernel_rfl)) (fun _ _ _ h => h) (Or.inl ⟨by rfl, ?_⟩) ?_ ?_
      rotate_left
      ·exact dz311
      rotate_left
      ·exact dz312
      refine pure_ (i := 8) (N := some 28) (v := ?_) (a' := ?_) #[true, true, true, true, true, true, true, true, true, false, true, false, false, false] rfl rfl (any_of HT_.out (by kernel_rfl)) (fun _ _ _ h => h) (Or.inl ⟨by rfl, ?_⟩) ?_ ?_
      rotate_left
      ·exact dz311
      rotate_left
      ·exact dz312
      refine pure_ (i := 9) (N := some 29) (v := ?_) (a' := ?_) (fl_ 11 3) rfl rfl (any_of HT_.out (by kernel_rfl)) (fun _ _ _ h => h) (Or.inl ⟨by rfl, ?_⟩) ?_ ?_
      rotate_left
      ·exact dz311
      rotate_left
      ·exact dz312
      exact norm_ dz55 (hCont (.slice Ao24 y242.length co24, v250, gb254) _ ⟨hHeld, dz56, dz77, dz97, dz13, dz14, dz15, dz18, GW254.out, GE254.out, NB0_254.out, NB254_0.out, NB233_254.out, NB254_233.out, NB234_254.out, NB254_234.out, NB238_254.out, NB254_238.out, dz17, dz6, dz25⟩)
     skip
     refine box_step ?hg (N := 7) ?hd (cs := #[.int .i64 0, .slice none 0 0]) (t := 49) ?hr ?_; (case hd => rfl); (case hg => rfl); (case hr => first | (go_simp; done) | (go_simp; rfl))
     intro gb254 hg w21 hbox hb
     replace HO_239001 := Aside0.mk (Kd.N_below (Kd.N_elderB dz7 gb254 (Nat.le_of_eq hg.symm)) hb)
     replace HB := Aside0.mk (below_step dz35 hb)
     have BK254 := Aside0.mk (hbox)
     have GW254 := Aside0.mk ((by rw [hg]; exact (keep_size (w := w) (g := g) (row := none) dz8) : w.heap.size ≤ gb254))
     have GE254 := Aside0.mk ((Nat.le_trans HW0.out (by rw [hg]; exact (keep_size (w := w) (g := g) (row := none) dz8) : w.heap.size ≤ gb254) : w0.heap.size ≤ gb254))
     replace HK := Aside0.mk (KeepBut.trans dz8 (KeepBut.of_below hb g none) (.inl rfl))
     have NB233_254 := (nbl_ hg BK233)
     have NB254_233 := (nbr_ hg BK233)
     replace BK233 := (bkb_ BK233 hb)
     have NB234_254 := (nbl_ hg BK234)
     have NB254_234 := (nbr_ hg BK234)
     replace BK234 := (bkb_ BK234 hb)
     have NB238_254 := (nbl_ hg BK238)
     have NB254_238 := (nbr_ hg BK238)
     replace BK238 := (bkb_ BK238 hb)
     have NB0_254 := Aside0.mk ((by rw [hg]; exact Nat.ne_of_lt (IsS133.lt (show IsS133 w0 _ g s0_0 t240 t241 from by repeat (first | (with_reducible first | exact HI0.out | apply IsS133.alloc | apply IsS133.drewN | apply IsS133.drew | apply IsS133.set_1 | apply IsS133.set_2 | refine IsS133.far ?_ NB0_233.out _ | refine IsS133.far ?_ NB0_234.out _ | refine IsS133.far ?_ NB0_238.out _) | exact HI0.out))) : g ≠ gb254))
     have NB254_0 := Aside0.mk ((by rw [hg]; exact Nat.ne_of_gt (IsS133.lt (show IsS133 w0 _ g s0_0 t240 t241 from by repeat (first | (with_reducible first | exact HI0.out | apply IsS133.alloc | apply IsS133.drewN | apply IsS133.drew | apply IsS133.set_1 | apply IsS133.set_2 | refine IsS133.far ?_ NB0_233.out _ | refine IsS133.far ?_ NB0_234.out _ | refine IsS133.far ?_ NB0_238.out _) | exact HI0.out))) : gb254 ≠ g))
     replace HI0 := Aside0.mk (IsS133.below dz30 hb)
     clear hb hbox hg
     refine hK.out _ _ ⟨(blk_cell BK233.out 0).trans rfl, (blk_cell BK233.out 1).trans rfl, (blk_cell BK238.out 0).trans rfl, (blk_cell BK238.out 1).trans rfl⟩ (fun hHeld => ?_)
     clear hK K
     refine norm_ (a' := ?_) ?_ ?_
     rotate_left
     ·exact dz314
     refine one_ (i := 3) (N := some 24) #[true, true, true, true, false, false, false, false, false, false, true, false, false, false] rfl rfl (one_of HT_.out (by kernel_rfl)) (by decide) (fun K hK => ?_)
     refine Kd.R_lit_step Kd.string _ 9 ?hg (N := 24) ?hd (xs := ([(⟨#[]⟩ : ByteArray), (⟨#[97]⟩ : ByteArray), (⟨#[98, 99]⟩ : ByteArray)] : List ByteArray)) (inner := [.string (⟨#[]⟩ : ByteArray), .string (⟨#[97]⟩ : ByteArray), .string (⟨#[98, 99]⟩ : ByteArray)]) (ok := fun _ => True) (okp := fun _ => True) ?hr ?hp (fun _ hk => hk) trivial (Below.refl _ _) (Nat.le_refl _) (by simp) ?_; (case hd => rfl); (case hg => rfl); (case hr => first | (go_simp; done) | (go_simp; rfl)); (case hp => exact dz296)
     intro v243 w22 ho23 hb hg_ hnew_
     clear hg_ hnew_
     (first | rw [← Ny242.out] at ho23 | (simp only [Int.reduceToNat] at ho23; rw [← Ny242.out] at ho23))
     replace HO_239001 := Aside0.mk (Kd.N_elder' dz7 (Kd.R_base ho23) hb)
     have HO244 := Aside0.mk (Kd.R_lower (Kd.R_newM (M := fun k_ => (w.heap.size ≤ k_)) ho23 (keep_size (w := w) (g := g) (row := none) dz6) (fun k_ h_ => h_)) (keep_size (w := w) (g := g) (row := none) dz6))
     replace BK233 := (bkb_ BK233 hb)
     replace BK234 := (bkb_ BK234 hb)
     replace BK238 := (bkb_ BK238 hb)
     replace BK254 := (bkb_ BK254 hb)
     replace HK := Aside0.mk (KeepBut.trans dz6 (KeepBut.of_below hb g none) (.inl rfl))
     replace HB := Aside0.mk (below_step dz25 hb)
     replace HI0 := Aside0.mk (IsS133.below dz17 hb)
     clear hb ho23
     obtain ⟨Ao24, co24, eo24⟩ := Kd.R_slice HO244.out
     (first | subst eo24 | (injection eo24 with f1_ f2_ f3_; have f4_ := f1_.symm; have f5_ := f3_.symm; clear f1_ f2_ f3_; subst f4_; subst f5_))
     refine hK.out _ _ ⟨(blk_cell BK233.out 0).trans rfl, (blk_cell BK233.out 1).trans rfl, (blk_cell BK238.out 0).trans rfl, (blk_cell BK238.out 1).trans rfl⟩ (fun hHeld => ?_)
     clear hK K
     refine norm_ (a' := ?_) ?_ ?_
     rotate_left
     ·show Act.put _ (some 24) _ = _
      simp only [Act.put, List.setIfInBounds_toArray, List.set_cons_zero, List.set_cons_succ, i64_w, i32_w]
      rfl
     refine one_ (i := 4) (N := some 25) #[true, true, true, true, true, false, false, false, false, false, true, false, false, false] rfl rfl (one_of HT_.out (by kernel_rfl)) (by decide) (fun K hK => ?_)
     refine goes_ Try.func134 (by kernel_rfl) rfl #[.pointer (some ⟨g, 0, none⟩), .slice Ao24 y242.length co24] (by rfl) rfl rfl dz1 ?_
     with_reducible refine (spec_l1Pick.calls g s0_0 t240 t241 _ _ y242 t245 t246 t247 w0 _ ?side1 ?side2 ?side3 ?side4 ?side5 A14.out).mono ?_
     (case side1 => exact dz299)
     (case side2 => exact dz300)
     (case side3 => exact dz297)
     (case side4 => exact (Kd.R_reads' HO244.out).2.1)
     (case side5 => exact far_slice (IsS133.own_ne HI0.out HO244.out (by decide)))
     rintro e w25 ⟨rfl, hi, hb, hk⟩
     refine ⟨_, rfl, ?_⟩
     replace HO_239001 := Aside0.mk (Kd.N_mono (Kd.N_keep (Kd.N_mono (ok := fun k_ => (((((w.heap.size ≤ k_)) ∧ (k_ ≠ gb233 ∧ (k_ ≠ gb234 ∧ (k_ ≠ gb238 ∧ k_ ≠ g)))) ∧ k_ ≠ gb254) ∧ some k_ ≠ (.slice Ao24 y242.length co24 : Value).ownBlock)) dz7 (fun k_ hk_ => (⟨hk_, hk_.1.1.2.2.2.2⟩ : _ ∧ k_ ≠ g))) hk (fun _ h => h.2)) (fun _ h => h.1))
     replace BK233 := Aside0.mk (KeepBut.blk hk (g' := gb233) (o := .cells #[.slice A1_0 l1_0.length c1_0, .int .i64 a1_1] 73 (0, 0)) dz13 NB233_0.out (by simp))
     replace BK234 := Aside0.mk (KeepBut.blk hk (g' := gb234) (o := .cells #[.int .i64 0, .slice none 0 0] 49 (0, 0)) dz14 NB234_0.out (by simp))
     replace BK238 := Aside0.mk (KeepBut.blk hk (g' := gb238) (o := .cells #[.int .i64 x239000_1, .slice Ao19 x239001_1.length co19] 49 (0, 0)) dz15 NB238_0.out (by simp))
     replace BK254 := Aside0.mk (KeepBut.blk hk (g' := gb254) (o := .cells #[.int .i64 0, .slice none 0 0] 49 (0, 0)) dz18 NB254_0.out (by simp))
     replace HO244 := Aside0.mk (Kd.R_mono (Kd.R_keep (IsS133.apart (show IsS133 w0 _ g s0_0 t240 t241 from by repeat (first | (with_reducible first | exact HI0.out | apply IsS133.alloc | apply IsS133.drewN | apply IsS133.drew | apply IsS133.set_1 | apply IsS133.set_2 | refine IsS133.far ?_ NB0_233.out _ | refine IsS133.far ?_ NB0_234.out _ | refine IsS133.far ?_ NB0_238.out _ | refine IsS133.far ?_ NB0_254.out _) | exact HI0.out)) dz22 (by decide)) hk (fun _ h => h.2)) (fun _ h => h.1))
     replace HK := Aside0.mk (KeepBut.trans dz6 hk (.inl rfl))
     replace HB := Aside0.mk (hb)
     replace HI0 := Aside0.mk (hi)
     (try clear hb)
     (try clear hb2)
     (try clear hk)
     (try clear hi)
     refine hK.out _ _ ⟨(blk_cell BK233.out 0).trans rfl, (blk_cell BK233.out 1).trans rfl, (blk_cell BK238.out 0).trans rfl, (blk_cell BK238.out 1).trans rfl⟩ (fun hHeld => ?_)
     clear hK K
     refine norm_ (a' := ?_) ?_ ?_
     rotate_left
     ·exact dz319
     refine one_ (i := 5) (N := some 26) #[true, true, true, true, true, true, false, false, false, false, true, false, false, false] rfl rfl (one_of HT_.out (by kernel_rfl)) (by decide) (fun K hK => ?_)
     refine goes_ Try.func133 (by kernel_rfl) rfl #[.agg #[.slice A1_0 l1_0.length c1_0, .int .i64 a1_1], .agg #[.int .i64 x239000_1, .slice Ao19 x239001_1.length co19], .string t245] (by rfl) rfl rfl dz1 ?_
     with_reducible refine (spec_WriterAdd.calls k1 _ _ l1_0 a1_1 x239000_1 _ _ x239001_1 t245 t248 t249 t252 t253 _ ?side1 ?side2 ?side3 ?side4 A15.out).mono ?_
     (case side1 => exact Kd.C_keep 0 HR1_0.out dz6 hf1_0)
     (case side2 => exact HC1_0.out)
     (case side3 => exact dz298)
     (case side4 => exact (Kd.N_reads' HO_239001.out).2.1)
     rintro e w26 ⟨v250, rfl, ho0, hb⟩
     refine ⟨_, rfl, ?_⟩
     have HO251 := Aside0.mk (Kd.N_lower (Kd.N_mono (ok' := fun k_ => (w.heap.size ≤ k_) ∧ some k_ ≠ (.slice Ao19 x239001_1.length co19 : Value).ownBlock ∧ some k_ ≠ (.slice Ao24 y242.length co24 : Value).ownBlock ∧ k_ ≠ gb233 ∧ k_ ≠ gb234 ∧ k_ ≠ gb238 ∧ k_ ≠ gb254 ∧ k_ ≠ g) (Kd.S_N (Kd.S_bound ho0)) (fun k_ hk_ => ⟨(Nat.le_trans (keep_size (w := w) (g := g) (row := none) dz6) hk_.2.1), (Kd.fresh' (Kd.N_lt dz7) k_ hk_.2.1), (Kd.fresh' (Kd.R_lt dz22) k_ hk_.2.1), (Kd.freshB (g := gb233) (o := .cells #[.slice A1_0 l1_0.length c1_0, .int .i64 a1_1] 73 (0, 0)) dz13 k_ hk_.2.1), (Kd.freshB (g := gb234) (o := .cells #[.int .i64 0, .slice none 0 0] 49 (0, 0)) dz14 k_ hk_.2.1), (Kd.freshB (g := gb238) (o := .cells #[.int .i64 x239000_1, .slice Ao19 x239001_1.length co19] 49 (0, 0)) dz15 k_ hk_.2.1), (Kd.freshB (g := gb254) (o := .cells #[.int .i64 0, .slice none 0 0] 49 (0, 0)) dz18 k_ hk_.2.1), (IsS133.fresh dz17 k_ hk_.2.1)⟩)) (keep_size (w := w) (g := g) (row := none) dz6))
     replace HO_239001 := Aside0.mk (Kd.N_elder' dz7 dz36 hb)
     replace HO244 := (rbb_ HO244 hb)
     replace BK233 := (bkb_ BK233 hb)
     replace BK234 := (bkb_ BK234 hb)
     replace BK238 := (bkb_ BK238 hb)
     replace BK254 := (bkb_ BK254 hb)
     replace HK := Aside0.mk (KeepBut.trans dz6 (KeepBut.of_below hb g none) (.inl rfl))
     replace HB := Aside0.mk (below_step dz25 hb)
     replace HI0 := Aside0.mk (IsS133.below dz17 hb)
     (try clear hb)
     (try clear hb2)
     (try clear hk)
     (try clear hi)
     (try clear ho0)
     refine hK.out _ _ ⟨(blk_cell BK233.out 0).trans rfl, (blk_cell BK233.out 1).trans rfl, (blk_cell BK238.out 0).trans rfl, (blk_cell BK238.out 1).trans rfl⟩ (fun hHeld => ?_)
     clear hK K
     refine norm_ (a' := ?_) ?_ ?_
     rotate_left
     ·exact dz320
     refine pure_ (i := 6) (N := some 20) (v := ?_) (a' := ?_) #[true, true, true, true, true, true, true, false, false, false, true, false, false, false] rfl rfl (any_of HT_.out (by kernel_rfl)) (fun _ _ _ h => h) (Or.inl ⟨by rfl, ?_⟩) ?_ ?_
     rotate_left
     ·exact dz311
     rotate_left
     ·exact dz312
     refine pure_ (i := 7) (N := some 27) (v := ?_) (a' := ?_) #[true, true, true, true, true, true, true, true, false, false, true, false, false, false] rfl rfl (any_of HT_.out (by kernel_rfl)) (fun _ _ _ h => h) (Or.inl ⟨by rfl, ?_⟩) ?_ ?_
     rotate_left
     ·exact dz311
     rotate_left
     ·exact dz312
     refine pure_ (i := 8) (N := some 28) (v := ?_) (a' := ?_) #[true, true, true, true, true, true, true, true, true, false, true, false, false, false] rfl rfl (any_of HT_.out (by kernel_rfl)) (fun _ _ _ h => h) (Or.inl ⟨by rfl, ?_⟩) ?_ ?_
     rotate_left
     ·exact dz311
     rotate_left
     ·exact dz312
     refine pure_ (i := 9) (N := some 29) (v := ?_) (a' := ?_) (fl_ 11 3) rfl rfl (any_of HT_.out (by kernel_rfl)) (fun _ _ _ h => h) (Or.inl ⟨by rfl, ?_⟩) ?_ ?_
     rotate_left
     ·exact dz311
     rotate_left
     ·exact dz312
     exact norm_ dz55 (hCont (.slice Ao24 y242.length co24, v250, gb254) _ ⟨hHeld, dz56, dz77, (by (with_reducible repeat (first | apply Kd.N_alloc | apply Kd.N_drewN | apply Kd.N_drew)); exact Kd.N_mono HO_239001.out (fun _ hk => ⟨hk.1.1.1.1, ⟨hk.1.2, ⟨hk.2, ⟨hk.1.1.1.2.2.2.2, ⟨hk.1.1.1.2.1, ⟨hk.1.1.1.2.2.1, ⟨hk.1.1.1.2.2.2.1, hk.1.1.2⟩⟩⟩⟩⟩⟩⟩)), dz13, dz14, dz15, dz18, GW254.out, GE254.out, NB0_254.out, NB254_0.out, NB233_254.out, NB254_233.out, NB234_254.out, NB254_234.out, NB238_254.out, NB254_238.out, dz17, dz6, dz25⟩)
    rintro ⟨v243, v250, gb254⟩ w27 ⟨hS_, h0_, h1_, h2_, h3_, h4_, h5_, h6_, h7_, h8_, h9_, h10_, h11_, h12_, h13_, h14_, h15_, h16_, h17_, h18_, h19_⟩
    have n0_ : Aside0 (Kd.R Kd.string 9 w27 w.heap.size (fun k_ => (w.heap.size ≤ k_)) v243 y242) := ⟨h0_⟩
    have n1_ : Aside0 (Kd.N k53 53 w27 w.heap.size (fun k_ => (w.heap.size ≤ k_) ∧ some k_ ≠ (v243 : Value).ownBlock ∧ some k_ ≠ (.slice Ao19 x239001_1.length co19 : Value).ownBlock ∧ k_ ≠ g ∧ k_ ≠ gb233 ∧ k_ ≠ gb234 ∧ k_ ≠ gb238 ∧ k_ ≠ gb254) v250 t249) := ⟨h1_⟩
    have n2_ : Aside0 (Kd.N k53 53 w27 w.heap.size (fun k_ => (w.heap.size ≤ k_) ∧ some k_ ≠ (v243 : Value).ownBlock ∧ some k_ ≠ (v250 : Value).ownBlock ∧ k_ ≠ g ∧ k_ ≠ gb233 ∧ k_ ≠ gb234 ∧ k_ ≠ gb238 ∧ k_ ≠ gb254) (.slice Ao19 x239001_1.length co19) x239001_1) := ⟨h2_⟩
    have n3_ : Aside0 (w27.heap[gb233]? = some (.cells #[.slice A1_0 l1_0.length c1_0, .int .i64 a1_1] 73 (0, 0))) := ⟨h3_⟩
    have n4_ : Aside0 (w27.heap[gb234]? = some (.cells #[.int .i64 0, .slice none 0 0] 49 (0, 0))) := ⟨h4_⟩
    have n5_ : Aside0 (w27.heap[gb238]? = some (.cells #[.int .i64 x239000_1, .slice Ao19 x239001_1.length co19] 49 (0, 0))) := ⟨h5_⟩
    have n6_ : Aside0 (w27.heap[gb254]? = some (.cells #[.int .i64 0, .slice none 0 0] 49 (0, 0))) := ⟨h6_⟩
    have n7_ : Aside0 (w.heap.size ≤ gb254) := ⟨h7_⟩
    have n8_ : Aside0 (w0.heap.size ≤ gb254) := ⟨h8_⟩
    have n9_ : Aside0 (g ≠ gb254) := ⟨h9_⟩
    have n10_ : Aside0 (gb254 ≠ g) := ⟨h10_⟩
    have n11_ : Aside0 (gb233 ≠ gb254) := ⟨h11_⟩
    have n12_ : Aside0 (gb254 ≠ gb233) := ⟨h12_⟩
    have n13_ : Aside0 (gb234 ≠ gb254) := ⟨h13_⟩
    have n14_ : Aside0 (gb254 ≠ gb234) := ⟨h14_⟩
    have n15_ : Aside0 (gb238 ≠ gb254) := ⟨h15_⟩
    have n16_ : Aside0 (gb254 ≠ gb238) := ⟨h16_⟩
    have n17_ : Aside0 (IsS133 w0 w27 g s0_0 t246 t247) := ⟨h17_⟩
    have n18_ : Aside0 (KeepBut w w27 g none) := ⟨h18_⟩
    have n19_ : Aside0 (Below w0.heap.size w0 w27) := ⟨h19_⟩
    clear HO_239001
    clear BK233
    clear BK234
    clear BK238
    clear HI0
    clear HK
    clear HB
    clear h0_ h1_ h2_ h3_ h4_ h5_ h6_ h7_ h8_ h9_ h10_ h11_ h12_ h13_ h14_ h15_ h16_ h17_ h18_ h19_
    have HO244 := n0_
    have HO251 := n1_
    have HO_239001 := n2_
    have BK233 := n3_
    have BK234 := n4_
    have BK238 := n5_
    have BK254 := n6_
    have GW254 := n7_
    have GE254 := n8_
    have NB0_254 := n9_
    have NB254_0 := n10_
    have NB233_254 := n11_
    have NB254_233 := n12_
    have NB234_254 := n13_
    have NB254_234 := n14_
    have NB238_254 := n15_
    have NB254_238 := n16_
    have HI0 := n17_
    have HK := n18_
    have HB := n19_
    clear n0_ n1_ n2_ n3_ n4_ n5_ n6_ n7_ n8_ n9_ n10_ n11_ n12_ n13_ n14_ n15_ n16_ n17_ n18_ n19_
    have hHeld : w27.cell? ⟨gb233, 0, none⟩ = some (.slice A1_0 l1_0.length c1_0) ∧ w27.cell? ⟨gb233, 1, none⟩ = some (.int .i64 a1_1) ∧ w27.cell? ⟨gb238, 0, none⟩ = some (.int .i64 x239000_1) ∧ w27.cell? ⟨gb238, 1, none⟩ = some (.slice Ao19 x239001_1.length co19) := hS_
    obtain ⟨Ao29, co29, eo29⟩ := Kd.N_slice HO251.out
    (first | subst eo29 | (injection eo29 with f1_ f2_ f3_; have f4_ := f1_.symm; have f5_ := f3_.symm; clear f1_ f2_ f3_; subst f4_; subst f5_))
    refine norm_ (a' := ?_) ?_ ?_
    rotate_left
    ·simp only [putAll, Act.put, List.setIfInBounds_toArray, List.set_cons_zero, List.set_cons_succ]
     rfl
    refine one_ (i := 11) (N := none) (fl_ 12 2) rfl rfl (one_of HT_.out (by kernel_rfl)) (by decide) (fun K hK => ?_)
    have hs28 : w27.cell? ⟨gb254, 0, none⟩ = some (.int .i64 0) := (blk_cell BK254.out 0).trans rfl
    have hfs28 := blk_frozen BK254.out 0
    have hns28_0 := NB233_254.out
    have hns28_1 := NB234_254.out
    have hns28_2 := NB238_254.out
    have hms28_0 := NB254_233.out
    have hms28_1 := NB254_234.out
    have hms28_2 := NB254_238.out
    have hs30 : w27.cell? ⟨gb254, 1, none⟩ = some (.slice none 0 0) := (blk_cell BK254.out 1).trans rfl
    have hfs30 := blk_frozen BK254.out 1
    have hns30_0 := NB233_254.out
    have hns30_1 := NB234_254.out
    have hns30_2 := NB238_254.out
    have hms30_0 := NB254_233.out
    have hms30_1 := NB254_234.out
    have hms30_2 := NB254_238.out
    refine skip_ (w1 := ?_) (by rfl) rfl ?_ ?_
    rotate_left
    ·go_simp
     rfl
    refine hK.out _ _ ⟨((cell_far (p := ⟨gb254, _, none⟩) NB233_254.out _).trans (((cell_far (p := ⟨gb254, _, none⟩) NB233_254.out _).trans (hHeld.1)))), ((cell_far (p := ⟨gb254, _, none⟩) NB233_254.out _).trans (((cell_far (p := ⟨gb254, _, none⟩) NB233_254.out _).trans (hHeld.2.1)))), ((cell_far (p := ⟨gb254, _, none⟩) NB238_254.out _).trans (((cell_far (p := ⟨gb254, _, none⟩) NB238_254.out _).trans (hHeld.2.2.1)))), ((cell_far (p := ⟨gb254, _, none⟩) NB238_254.out _).trans (((cell_far (p := ⟨gb254, _, none⟩) NB238_254.out _).trans (hHeld.2.2.2))))⟩ (fun hHeld => ?_)
    clear hK K
    refine pure_ (i := 12) (N := some 8) (v := ?_) (a' := ?_) (fl_ 13 1) rfl rfl (any_of HT_.out (by kernel_rfl)) (fun _ _ _ h => h) (Or.inl ⟨by rfl, ?_⟩) ?_ ?_
    rotate_left
    ·exact dz311
    rotate_left
    ·exact dz312
    refine pure_ (i := 13) (N := some 9) (v := ?_) (a' := ?_) (fl_ 14 0) rfl rfl (any_of HT_.out (by kernel_rfl)) (fun _ _ _ h => h) (Or.inl ⟨by rfl, ?_⟩) ?_ ?_
    rotate_left
    ·exact dz311
    rotate_left
    ·exact dz312
    refine done_ (done_of HT_.out (by kernel_rfl)) ?_
    go_upto_if 31 with (first | ((with_reducible refine gate_callee (f := 84) rfl ?_); refine goesL_ (some 31) rfl rfl Try.func84 (by kernel_rfl) rfl #[.pointer (some ⟨g, 0, none⟩), .int .i64 2] rfl dz1 ?_; (with_reducible refine (spec_l1Once.calls g s0_0 t246 t247 2 t255 t256 t257 w0 _ ?side1 ?side2 A16.out).mono ?_); (case side1 => exact dz299); (case side2 => exact dz300); rintro e w31 ⟨rfl, hi, hb, hk⟩; refine ⟨_, rfl, ?_⟩; replace HO_239001 := Aside0.mk (Kd.N_mono (Kd.N_keep (Kd.N_mono (ok := fun k_ => (((w.heap.size ≤ k_)) ∧ (some k_ ≠ (v243 : Value).ownBlock ∧ (some k_ ≠ (.slice Ao29 t249.length co29 : Value).ownBlock ∧ (k_ ≠ g ∧ (k_ ≠ gb233 ∧ (k_ ≠ gb234 ∧ (k_ ≠ gb238 ∧ k_ ≠ gb254)))))))) (by (with_reducible repeat (first | apply Kd.N_alloc | apply Kd.N_drewN | apply Kd.N_drew)); exact (Kd.N_mono (Kd.N_far (p := ⟨gb254, 1, none⟩) (Kd.N_far (p := ⟨gb254, 0, none⟩) (Kd.N_mono HO_239001.out (fun k_ hk => (⟨hk, hk.2.2.2.2.2.2.2⟩ : _ ∧ k_ ≠ gb254))) (fun _ hk => hk.2) (.int .i64 t248)) (fun _ hk => hk.2) (.slice Ao29 t249.length co29)) (fun _ h_ => h_.1))) (fun k_ hk_ => (⟨hk_, hk_.2.2.2.1⟩ : _ ∧ k_ ≠ g))) hk (fun _ h => h.2)) (fun _ h => h.1)); replace BK233 := Aside0.mk (KeepBut.blk hk (g' := gb233) (o := .cells #[.slice A1_0 l1_0.length c1_0, .int .i64 a1_1] 73 (0, 0)) (by (with_reducible repeat (first | refine blk_drewN ?_ _ | refine blk_drew ?_ | refine blk_alloc ?_ _)); refine blk_far ?_ NB233_254.out _; (with_reducible repeat (first | refine blk_drewN ?_ _ | refine blk_drew ?_ | refine blk_alloc ?_ _)); refine blk_far ?_ NB233_254.out _; (with_reducible repeat (first | refine blk_drewN ?_ _ | refine blk_drew ?_ | refine blk_alloc ?_ _)); exact BK233.out) NB233_0.out (by simp)); replace BK234 := Aside0.mk (KeepBut.blk hk (g' := gb234) (o := .cells #[.int .i64 0, .slice none 0 0] 49 (0, 0)) (by (with_reducible repeat (first | refine blk_drewN ?_ _ | refine blk_drew ?_ | refine blk_alloc ?_ _)); refine blk_far ?_ NB234_254.out _; (with_reducible repeat (first | refine blk_drewN ?_ _ | refine blk_drew ?_ | refine blk_alloc ?_ _)); refine blk_far ?_ NB234_254.out _; (with_reducible repeat (first | refine blk_drewN ?_ _ | refine blk_drew ?_ | refine blk_alloc ?_ _)); exact BK234.out) NB234_0.out (by simp)); replace BK238 := Aside0.mk (KeepBut.blk hk (g' := gb238) (o := .cells #[.int .i64 x239000_1, .slice Ao19 x239001_1.length co19] 49 (0, 0)) (by (with_reducible repeat (first | refine blk_drewN ?_ _ | refine blk_drew ?_ | refine blk_alloc ?_ _)); refine blk_far ?_ NB238_254.out _; (with_reducible repeat (first | refine blk_drewN ?_ _ | refine blk_drew ?_ | refine blk_alloc ?_ _)); refine blk_far ?_ NB238_254.out _; (with_reducible repeat (first | refine blk_drewN ?_ _ | refine blk_drew ?_ | refine blk_alloc ?_ _)); exact BK238.out) NB238_0.out (by simp)); replace HO244 := Aside0.mk (Kd.R_mono (Kd.R_keep (IsS133.apart (show IsS133 w0 _ g s0_0 t246 t247 from by repeat (first | (with_reducible first | exact HI0.out | apply IsS133.alloc | apply IsS133.drewN | apply IsS133.drew | apply IsS133.set_1 | apply IsS133.set_2 | refine IsS133.far ?_ NB0_233.out _ | refine IsS133.far ?_ NB0_234.out _ | refine IsS133.far ?_ NB0_238.out _ | refine IsS133.far ?_ NB0_254.out _) | exact HI0.out)) (by (with_reducible repeat (first | apply Kd.R_alloc | apply Kd.R_drewN | apply Kd.R_drew)); exact (Kd.R_mono (Kd.R_far (p := ⟨gb254, 1, none⟩) (Kd.R_far (p := ⟨gb254, 0, none⟩) (Kd.R_types HO244.out BK254.out (by decide)) (fun _ hk => hk.2) (.int .i64 t248)) (fun _ hk => hk.2) (.slice Ao29 t249.length co29)) (fun _ h_ => h_.1))) (by decide)) hk (fun _ h => h.2)) (fun _ h => h.1)); replace HO251 := Aside0.mk (Kd.N_mono (Kd.N_keep (Kd.N_mono (ok := fun k_ => (((w.heap.size ≤ k_)) ∧ (some k_ ≠ (v243 : Value).ownBlock ∧ (some k_ ≠ (.slice Ao19 x239001_1.length co19 : Value).ownBlock ∧ (k_ ≠ g ∧ (k_ ≠ gb233 ∧ (k_ ≠ gb234 ∧ (k_ ≠ gb238 ∧ k_ ≠ gb254)))))))) (by (with_reducible repeat (first | apply Kd.N_alloc | apply Kd.N_drewN | apply Kd.N_drew)); exact (Kd.N_mono (Kd.N_far (p := ⟨gb254, 1, none⟩) (Kd.N_far (p := ⟨gb254, 0, none⟩) (Kd.N_mono HO251.out (fun k_ hk => (⟨hk, hk.2.2.2.2.2.2.2⟩ : _ ∧ k_ ≠ gb254))) (fun _ hk => hk.2) (.int .i64 t248)) (fun _ hk => hk.2) (.slice Ao29 t249.length co29)) (fun _ h_ => h_.1))) (fun k_ hk_ => (⟨hk_, hk_.2.2.2.1⟩ : _ ∧ k_ ≠ g))) hk (fun _ h => h.2)) (fun _ h => h.1)); replace BK254 := Aside0.mk (KeepBut.blk hk (g' := gb254) (o := .cells #[.int .i64 t248, .slice Ao29 t249.length co29] 49 (0, 0)) (by (with_reducible repeat (first | refine blk_drewN ?_ _ | refine blk_drew ?_ | refine blk_alloc ?_ _)); refine blk_put (cs := #[.int .i64 t248, .slice none 0 0]) ?_ 1 _ rfl; (with_reducible repeat (first | refine blk_drewN ?_ _ | refine blk_drew ?_ | refine blk_alloc ?_ _)); refine blk_put (cs := #[.int .i64 0, .slice none 0 0]) ?_ 0 _ rfl; (with_reducible repeat (first | refine blk_drewN ?_ _ | refine blk_drew ?_ | refine blk_alloc ?_ _)); exact BK254.out) NB254_0.out (by simp)); replace HK := Aside0.mk (KeepBut.trans dz6 hk (.inl rfl)); replace HB := Aside0.mk (hb); replace HI0 := Aside0.mk (hi); (try clear hb); (try clear hb2); (try clear hk); (try clear hi)))
    (try simp only [Act.put, List.setIfInBounds_toArray, List.set_cons_zero, List.set_cons_succ])
    go_cut [9] (fun v9 wc => ∃ (kq : Nat) (x9_16 : Bool) (x1001_16 : Int) (x1002_16 : Int) (x255000_16 : Int) (x255001_16 : List (S53)) (u255001 : Value), v9 = .bool x9_16 ∧ Aside0 (spec_l8DrawRight.j1 kq x6_1 x9_16 s0_0 x1001_16 x1002_16 l1_0 a1_1 x239000_1 x239001_1 x255000_16 x255001_16 = some (r1, r2, r3, r4)) ∧ Aside0 (kq ≤ k1) ∧ Aside0 (Kd.N k53 53 wc w.heap.size (fun k_ => (w.heap.size ≤ k_) ∧ some k_ ≠ (u255001 : Value).ownBlock ∧ k_ ≠ gb233 ∧ k_ ≠ gb234 ∧ k_ ≠ gb238 ∧ k_ ≠ gb254 ∧ k_ ≠ g) (.slice Ao19 x239001_1.length co19) x239001_1) ∧ Aside0 (Kd.N k53 53 wc w.heap.size (fun k_ => (w.heap.size ≤ k_) ∧ some k_ ≠ ((.slice Ao19 x239001_1.length co19) : Value).ownBlock ∧ k_ ≠ gb233 ∧ k_ ≠ gb234 ∧ k_ ≠ gb238 ∧ k_ ≠ gb254 ∧ k_ ≠ g) u255001 x255001_16) ∧ Aside0 (wc.heap[gb233]? = some (.cells #[(.slice A1_0 l1_0.length c1_0), .int .i64 a1_1] 73 (0, 0))) ∧ Aside0 (wc.heap[gb234]? = some (.cells #[.int .i64 0, (.slice none 0 0)] 49 (0, 0))) ∧ Aside0 (wc.heap[gb238]? = some (.cells #[.int .i64 x239000_1, (.slice Ao19 x239001_1.length co19)] 49 (0, 0))) ∧ Aside0 (wc.heap[gb254]? = some (.cells #[.int .i64 x255000_16, u255001] 49 (0, 0))) ∧ Aside0 (IsS133 w0 wc g s0_0 x1001_16 x1002_16) ∧ Aside0 (KeepBut w wc g none) ∧ Aside0 (Below w0.heap.size w0 wc))
    case first =>
     have H := HC17.out
     clear HC17
     by_cases c32 : t255 = true
     ·subst c32
      have H1 : ((spec_l1Max.f (x239001_1.length : Int) 1).bind fun t258 => ((spec_l1Below.f s0_0 t256 t257 t258).bind fun bt259 => ((spec_l1Below.f s0_0 bt259.2.1 bt259.2.2 (l1_0.length : Int)).bind fun bt262 => ((spec_WriterAck.f k1 l1_0 a1_1 x239000_1 x239001_1 (wrap64 (1 + bt259.1)) bt262.1).bind fun bt265 => (spec_l8DrawRight.j1 k1 x6_1 bt265.2.2 s0_0 bt262.2.1 bt262.2.2 l1_0 a1_1 x239000_1 x239001_1 bt265.1 bt265.2.1))))) = some (r1, r2, r3, r4) := by rw [if_pos rfl] at H; exact H
      clear H
      have H := H1
      clear H1
      replace H := Option.bind_eq_some_iff.mp H
      obtain ⟨t258, A330, H⟩ := H
      replace H : ((spec_l1Below.f s0_0 t256 t257 t258).bind fun bt259 => ((spec_l1Below.f s0_0 bt259.2.1 bt259.2.2 (l1_0.length : Int)).bind fun bt262 => ((spec_WriterAck.f k1 l1_0 a1_1 x239000_1 x239001_1 (wrap64 (1 + bt259.1)) bt262.1).bind fun bt265 => (spec_l8DrawRight.j1 k1 x6_1 bt265.2.2 s0_0 bt262.2.1 bt262.2.2 l1_0 a1_1 x239000_1 x239001_1 bt265.1 bt265.2.1)))) = some (r1, r2, r3, r4) := H
      have A33 := Aside0.mk A330
      clear A330
      replace H := Option.bind_eq_some_iff.mp H
      obtain ⟨⟨t259, t260, t261⟩, A340, H⟩ := H
      replace H : ((spec_l1Below.f s0_0 t260 t261 (l1_0.length : Int)).bind fun bt262 => ((spec_WriterAck.f k1 l1_0 a1_1 x239000_1 x239001_1 (wrap64 (1 + t259)) bt262.1).bind fun bt265 => (spec_l8DrawRight.j1 k1 x6_1 bt265.2.2 s0_0 bt262.2.1 bt262.2.2 l1_0 a1_1 x239000_1 x239001_1 bt265.1 bt265.2.1))) = some (r1, r2, r3, r4) := H
      have A34 := Aside0.mk A340
      clear A340
      replace H := Option.bind_eq_some_iff.mp H
      obtain ⟨⟨t262, t263, t264⟩, A350, H⟩ := H
      replace H : ((spec_WriterAck.f k1 l1_0 a1_1 x239000_1 x239001_1 (wrap64 (1 + t259)) t262).bind fun bt265 => (spec_l8DrawRight.j1 k1 x6_1 bt265.2.2 s0_0 t263 t264 l1_0 a1_1 x239000_1 x239001_1 bt265.1 bt265.2.1)) = some (r1, r2, r3, r4) := H
      have A35 := Aside0.mk A350
      clear A350
      replace H := Option.bind_eq_some_iff.mp H
      obtain ⟨⟨t265, t266, t269⟩, A360, H⟩ := H
      replace H : (spec_l8DrawRight.j1 k1 x6_1 t269 s0_0 t263 t264 l1_0 a1_1 x239000_1 x239001_1 t265 t266) = some (r1, r2, r3, r4) := H
      have A36 := Aside0.mk A360
      clear A360
      have H' := Aside0.mk H
      clear H
      try go_wp2
      replace HO_239001 := Aside0.mk (Kd.N_drew HO_239001.out)
      replace HO244 := Aside0.mk (Kd.R_drew HO244.out)
      replace HO251 := Aside0.mk (Kd.N_drew HO251.out)
      replace BK233 := Aside0.mk (blk_drew BK233.out)
      replace BK234 := Aside0.mk (blk_drew BK234.out)
      replace BK238 := Aside0.mk (blk_drew BK238.out)
      replace BK254 := Aside0.mk (blk_drew BK254.out)
      replace HI0 := Aside0.mk (IsS133.drew HI0.out)
      replace HK := Aside0.mk (keep_drew HK.out)
      replace HB := Aside0.mk (below_drew1 HB.out)
      refine start_ (n := 20) (S := fun w' => w'.cell? ⟨gb233, 0, none⟩ = some (.slice A1_0 l1_0.length c1_0) ∧ w'.cell? ⟨gb233, 1, none⟩ = some (.int .i64 a1_1) ∧ w'.cell? ⟨gb238, 0, none⟩ = some (.int .i64 x239000_1) ∧ w'.cell? ⟨gb238, 1, none⟩ = some (.slice Ao19 x239001_1.length co19)) (ds := []) (fl_ 0 20) (by kernel_rfl) rfl rfl ⟨(blk_cell BK233.out 0).trans rfl, (blk_cell BK233.out 1).trans rfl, (blk_cell BK238.out 0).trans rfl, (blk_cell BK238.out 1).trans rfl⟩ (fun hHeld => ?_); refine with_tabW spec_l8DrawRight.tab7 spec_l8DrawRight.bits7 (fun HT_ HW_ => ?_)
      generalize w31.drew = w37 at HO_239001 HO244 HO251 BK233 BK234 BK238 BK254 HI0 HK HB hHeld ⊢
      refine pure_ (i := 2) (N := some 35) (v := ?_) (a' := ?_) #[false, false, true, false, false, false, false, false, false, false, false, false, false, false, false, false, false, false, false, false] rfl rfl (any_of HT_.out (by kernel_rfl)) (fun _ _ _ h => h) (Or.inl ⟨by rfl, ?_⟩) ?_ ?_
      rotate_left
      ·exact dz311
      rotate_left
      ·exact dz312
      refine pure_ (i := 3) (N := some 36) (v := ?_) (a' := ?_) #[false, false, true, true, false, false, false, false, false, false, false, false, false, false, false, false, false, false, false, false] rfl rfl (any_of HT_.out (by kernel_rfl)) (fun _ _ _ h => h) (Or.inl ⟨by rfl, ?_⟩) ?_ ?_
      rotate_left
      ·exact dz311
      rotate_left
      ·exact dz312
      refine pure_ (i := 9) (N := some 42) (v := ?_) (a' := ?_) #[false, false, true, true, false, false, false, false, false, true, false, false, false, false, false, false, false, false, false, false] rfl rfl (any_of HT_.out (by kernel_rfl)) (fun _ _ _ h => h) (Or.inl ⟨by rfl, ?_⟩) ?_ ?_
      rotate_left
      ·exact dz311
      rotate_left
      ·exact dz312
      refine pure_ (i := 10) (N := some 43) (v := ?_) (a' := ?_) #[false, false, true, true, false, false, false, false, false, true, true, false, false, false, false, false, false, false, false, false] rfl rfl (any_of HT_.out (by kernel_rfl)) (fun _ _ _ h => h) (Or.inl ⟨by rfl, ?_⟩) ?_ ?_
      rotate_left
      ·exact dz311
      rotate_left
      ·exact dz312
      refine take_ (i := 0) (N := some 33) (v := ?_) (a' := ?_) #[true, false, true, true, false, false, false, false, false, true, true, false, false, false, false, false, false, false, false, false] rfl rfl (take_ofW HT_.out HW_.out (by kernel_rfl)) (fun _ _ _ h => h) (Or.inl ⟨by rfl, ?_⟩) hHeld ?_ ?_
      rotate_left
      ·exact dz318
      rotate_left
      ·exact dz312
      refine take_ (i := 1) (N := some 34) (v := ?_) (a' := ?_) #[true, true, true, true, false, false, false, false, false, true, true, false, false, false, false, false, false, false, false, false] rfl rfl (take_ofW HT_.out HW_.out (by kernel_rfl)) (fun _ _ _ h => h) (Or.inl ⟨by rfl, ?_⟩) hHeld ?_ ?_
      rotate_left
      ·exact dz318
      rotate_left
      ·exact dz312
      refine take_ (i := 4) (N := some 37) (v := ?_) (a' := ?_) #[true, true, true, true, true, false, false, false, false, true, true, false, false, false, false, false, false, false, false, false] rfl rfl (take_ofW HT_.out HW_.out (by kernel_rfl)) (fun _ _ _ h => h) (Or.inl ⟨by rfl, ?_⟩) hHeld ?_ ?_
      rotate_left
      ·exact dz318
      rotate_left
      ·exact dz312
      refine pure_ (i := 5) (N := some 38) (v := ?_) (a' := ?_) #[true, true, true, true, true, true, false, false, false, true, true, false, false, false, false, false, false, false, false, false] rfl rfl (any_of HT_.out (by kernel_rfl)) (fun _ _ _ h => h) (Or.inl ⟨by rfl, ?_⟩) ?_ ?_
      rotate_left
      ·exact dz311
      rotate_left
      ·exact dz312
      refine take_ (i := 11) (N := some 44) (v := ?_) (a' := ?_) #[true, true, true, true, true, true, false, false, false, true, true, true, false, false, false, false, false, false, false, false] rfl rfl (take_ofW HT_.out HW_.out (by kernel_rfl)) (fun _ _ _ h => h) (Or.inl ⟨by rfl, ?_⟩) hHeld ?_ ?_
      rotate_left
      ·exact dz318
      rotate_left
      ·exact dz312
      refine pure_ (i := 12) (N := some 45) (v := ?_) (a' := ?_) #[true, true, true, true, true, true, false, false, false, true, true, true, true, false, false, false, false, false, false, false] rfl rfl (any_of HT_.out (by kernel_rfl)) (fun _ _ _ h => h) (Or.inl ⟨by rfl, ?_⟩) ?_ ?_
      rotate_left
      ·exact dz311
      rotate_left
      ·exact dz312
      refine one_ (i := 6) (N := some 39) #[true, true, true, true, true, true, true, false, false, true, true, true, true, false, false, false, false, false, false, false] rfl rfl (one_of HT_.out (by kernel_rfl)) (by decide) (fun K hK => ?_)
      refine goes_ Try.func120 (by kernel_rfl) rfl #[.int .i64 (x239001_1.length : Int), .int .i64 1] (by rfl) rfl rfl dz1 ?_
      with_reducible refine (spec_l1Max.calls (x239001_1.length : Int) 1 t258 _ A33.out).mono ?_
      rintro e w' ⟨rfl, ⟨nd, rfl⟩⟩
      refine ⟨_, rfl, ?_⟩
      refine hK.out _ _ ⟨(blk_cell BK233.out 0).trans rfl, (blk_cell BK233.out 1).trans rfl, (blk_cell BK238.out 0).trans rfl, (blk_cell BK238.out 1).trans rfl⟩ (fun hHeld => ?_)
      clear hK K
      refine norm_ (a' := ?_) ?_ ?_
      rotate_left
      ·show Act.put _ (some 39) _ = _
       simp only [Act.put, List.setIfInBounds_toArray, List.set_cons_zero, List.set_cons_succ, i64_w, i32_w]
       rfl
      refine one_ (i := 7) (N := some 40) #[true, true, true, true, true, true, true, true, false, true, true, true, true, false, false, false, false, false, false, false] rfl rfl (one_of HT_.out (by kernel_rfl)) (by decide) (fun K hK => ?_)
      refine goes_ Try.func105 (by kernel_rfl) rfl #[.pointer (some ⟨g, 0, none⟩), .int .i64 t258] (by rfl) rfl rfl dz1 ?_
      with_reducible refine (spec_l1Below.calls g s0_0 t256 t257 t258 t259 t260 t261 w0 _ ?side1 ?side2 A34.out).mono ?_
      (case side1 => exact dz299)
      (case side2 => exact dz300)
      rintro e w38 ⟨rfl, hi, hb, hk⟩
      refine ⟨_, rfl, ?_⟩
      replace HO_239001 := Aside0.mk (Kd.N_mono (Kd.N_keep (Kd.N_mono (ok := fun k_ => (((w.heap.size ≤ k_)) ∧ (some k_ ≠ (v243 : Value).ownBlock ∧ (some k_ ≠ (.slice Ao29 t249.length co29 : Value).ownBlock ∧ (k_ ≠ g ∧ (k_ ≠ gb233 ∧ (k_ ≠ gb234 ∧ (k_ ≠ gb238 ∧ k_ ≠ gb254)))))))) dz7 (fun k_ hk_ => (⟨hk_, hk_.2.2.2.1⟩ : _ ∧ k_ ≠ g))) hk (fun _ h => h.2)) (fun _ h => h.1))
      replace BK233 := Aside0.mk (KeepBut.blk hk (g' := gb233) (o := .cells #[.slice A1_0 l1_0.length c1_0, .int .i64 a1_1] 73 (0, 0)) dz13 NB233_0.out (by simp))
      replace BK234 := Aside0.mk (KeepBut.blk hk (g' := gb234) (o := .cells #[.int .i64 0, .slice none 0 0] 49 (0, 0)) dz14 NB234_0.out (by simp))
      replace BK238 := Aside0.mk (KeepBut.blk hk (g' := gb238) (o := .cells #[.int .i64 x239000_1, .slice Ao19 x239001_1.length co19] 49 (0, 0)) dz15 NB238_0.out (by simp))
      replace HO244 := Aside0.mk (Kd.R_mono (Kd.R_keep (IsS133.apart (show IsS133 w0 _ g s0_0 t256 t257 from by repeat (first | (with_reducible first | exact HI0.out | apply IsS133.alloc | apply IsS133.drewN | apply IsS133.drew | apply IsS133.set_1 | apply IsS133.set_2 | refine IsS133.far ?_ NB0_233.out _ | refine IsS133.far ?_ NB0_234.out _ | refine IsS133.far ?_ NB0_238.out _ | refine IsS133.far ?_ NB0_254.out _) | exact HI0.out)) dz22 (by decide)) hk (fun _ h => h.2)) (fun _ h => h.1))
      replace HO251 := Aside0.mk (Kd.N_mono (Kd.N_keep (Kd.N_mono (ok := fun k_ => (((w.heap.size ≤ k_)) ∧ (some k_ ≠ (v243 : Value).ownBlock ∧ (some k_ ≠ (.slice Ao19 x239001_1.length co19 : Value).ownBlock ∧ (k_ ≠ g ∧ (k_ ≠ gb233 ∧ (k_ ≠ gb234 ∧ (k_ ≠ gb238 ∧ k_ ≠ gb254)))))))) dz48 (fun k_ hk_ => (⟨hk_, hk_.2.2.2.1⟩ : _ ∧ k_ ≠ g))) hk (fun _ h => h.2)) (fun _ h => h.1))
      replace BK254 := Aside0.mk (KeepBut.blk hk (g' := gb254) (o := .cells #[.int .i64 t248, .slice Ao29 t249.length co29] 49 (0, 0)) dz18 NB254_0.out (by simp))
      replace HK := Aside0.mk (KeepBut.trans dz6 hk (.inl rfl))
      replace HB := Aside0.mk (hb)
      replace HI0 := Aside0.mk (hi)
      (try clear hb)
      (try clear hb2)
      (try clear hk)
      (try clear hi)
      refine hK.out _ _ ⟨(blk_cell BK233.out 0).trans rfl, (blk_cell BK233.out 1).trans rfl, (blk_cell BK238.out 0).trans rfl, (blk_cell BK238.out 1).trans rfl⟩ (fun hHeld => ?_)
      clear hK K
      refine norm_ (a' := ?_) ?_ ?_
      rotate_left
      ·show Act.put _ (some 40) _ = _
       simp only [Act.put, List.setIfInBounds_toArray, List.set_cons_zero, List.set_cons_succ, i64_w, i32_w]
       rfl
      refine pure_ (i := 8) (N := some 41) (v := ?_) (a' := ?_) (fl_ 13 7) rfl rfl (any_of HT_.out (by kernel_rfl)) (fun _ _ _ h => h) (Or.inl ⟨by rfl, ?_⟩) ?_ ?_
      rotate_left
      ·exact dz311
      rotate_left
      ·exact dz312
      refine one_ (i := 13) (N := some 46) (fl_ 14 6) rfl rfl (one_of HT_.out (by kernel_rfl)) (by decide) (fun K hK => ?_)
      refine goes_ Try.func105 (by kernel_rfl) rfl #[.pointer (some ⟨g, 0, none⟩), .int .i64 (l1_0.length : Int)] (by rfl) rfl rfl dz1 ?_
      with_reducible refine (spec_l1Below.calls g s0_0 t260 t261 (l1_0.length : Int) t262 t263 t264 w0 _ ?side1 ?side2 A35.out).mono ?_
      (case side1 => exact dz299)
      (case side2 => exact dz300)
      rintro e w39 ⟨rfl, hi, hb, hk⟩
      refine ⟨_, rfl, ?_⟩
      replace HO_239001 := Aside0.mk (Kd.N_mono (Kd.N_keep (Kd.N_mono (ok := fun k_ => (((w.heap.size ≤ k_)) ∧ (some k_ ≠ (v243 : Value).ownBlock ∧ (some k_ ≠ (.slice Ao29 t249.length co29 : Value).ownBlock ∧ (k_ ≠ g ∧ (k_ ≠ gb233 ∧ (k_ ≠ gb234 ∧ (k_ ≠ gb238 ∧ k_ ≠ gb254)))))))) dz7 (fun k_ hk_ => (⟨hk_, hk_.2.2.2.1⟩ : _ ∧ k_ ≠ g))) hk (fun _ h => h.2)) (fun _ h => h.1))
      replace BK233 := Aside0.mk (KeepBut.blk hk (g' := gb233) (o := .cells #[.slice A1_0 l1_0.length c1_0, .int .i64 a1_1] 73 (0, 0)) dz13 NB233_0.out (by simp))
      replace BK234 := Aside0.mk (KeepBut.blk hk (g' := gb234) (o := .cells #[.int .i64 0, .slice none 0 0] 49 (0, 0)) dz14 NB234_0.out (by simp))
      replace BK238 := Aside0.mk (KeepBut.blk hk (g' := gb238) (o := .cells #[.int .i64 x239000_1, .slice Ao19 x239001_1.length co19] 49 (0, 0)) dz15 NB238_0.out (by simp))
      replace HO244 := Aside0.mk (Kd.R_mono (Kd.R_keep (IsS133.apart (show IsS133 w0 _ g s0_0 t260 t261 from by repeat (first | (with_reducible first | exact HI0.out | apply IsS133.alloc | apply IsS133.drewN | apply IsS133.drew | apply IsS133.set_1 | apply IsS133.set_2 | refine IsS133.far ?_ NB0_233.out _ | refine IsS133.far ?_ NB0_234.out _ | refine IsS133.far ?_ NB0_238.out _ | refine IsS133.far ?_ NB0_254.out _) | exact HI0.out)) dz22 (by decide)) hk (fun _ h => h.2)) (fun _ h => h.1))
      replace HO251 := Aside0.mk (Kd.N_mono (Kd.N_keep (Kd.N_mono (ok := fun k_ => (((w.heap.size ≤ k_)) ∧ (some k_ ≠ (v243 : Value).ownBlock ∧ (some k_ ≠ (.slice Ao19 x239001_1.length co19 : Value).ownBlock ∧ (k_ ≠ g ∧ (k_ ≠ gb233 ∧ (k_ ≠ gb234 ∧ (k_ ≠ gb238 ∧ k_ ≠ gb254)))))))) dz48 (fun k_ hk_ => (⟨hk_, hk_.2.2.2.1⟩ : _ ∧ k_ ≠ g))) hk (fun _ h => h.2)) (fun _ h => h.1))
      replace BK254 := Aside0.mk (KeepBut.blk hk (g' := gb254) (o := .cells #[.int .i64 t248, .slice Ao29 t249.length co29] 49 (0, 0)) dz18 NB254_0.out (by simp))
      replace HK := Aside0.mk (KeepBut.trans dz6 hk (.inl rfl))
      replace HB := Aside0.mk (hb)
      replace HI0 := Aside0.mk (hi)
      (try clear hb)
      (try clear hb2)
      (try clear hk)
      (try clear hi)
      refine hK.out _ _ ⟨(blk_cell BK233.out 0).trans rfl, (blk_cell BK233.out 1).trans rfl, (blk_cell BK238.out 0).trans rfl, (blk_cell BK238.out 1).trans rfl⟩ (fun hHeld => ?_)
      clear hK K
      refine norm_ (a' := ?_) ?_ ?_
      rotate_left
      ·show Act.put _ (some 46) _ = _
       simp only [Act.put, List.setIfInBounds_toArray, List.set_cons_zero, List.set_cons_succ, i64_w, i32_w]
       rfl
      refine one_ (i := 14) (N := some 47) (fl_ 15 5) rfl rfl (one_of HT_.out (by kernel_rfl)) (by decide) (fun K hK => ?_)
      refine goes_ Try.func135 (by kernel_rfl) rfl #[.agg #[.slice A1_0 l1_0.length c1_0, .int .i64 a1_1], .agg #[.int .i64 x239000_1, .slice Ao19 x239001_1.length co19], .int .i64 (wrap64 (1 + t259)), .int .i64 t262] (by rfl) rfl rfl dz1 ?_
      with_reducible refine (spec_WriterAck.calls k1 _ _ l1_0 a1_1 x239000_1 _ _ x239001_1 (wrap64 (1 + t259)) t262 t265 t266 t269 _ ?side1 ?side2 ?side3 ?side4 A36.out).mono ?_
      (case side1 => exact Kd.C_keep 0 HR1_0.out dz6 hf1_0)
      (case side2 => exact HC1_0.out)
      (case side3 => exact dz298)
      (case side4 => exact (Kd.N_reads' HO_239001.out).2.1)
      rintro e w40 ⟨v267, rfl, ho0, hb⟩
      refine ⟨_, rfl, ?_⟩
      have HO268 := Aside0.mk (Kd.N_lower (Kd.N_mono (ok' := fun k_ => (w.heap.size ≤ k_) ∧ some k_ ≠ (.slice Ao19 x239001_1.length co19 : Value).ownBlock ∧ some k_ ≠ (v243 : Value).ownBlock ∧ some k_ ≠ (.slice Ao29 t249.length co29 : Value).ownBlock ∧ k_ ≠ gb233 ∧ k_ ≠ gb234 ∧ k_ ≠ gb238 ∧ k_ ≠ gb254 ∧ k_ ≠ g) ho0 (fun k_ hk_ => ⟨(Nat.le_trans (keep_size (w := w) (g := g) (row := none) dz6) hk_), (Kd.fresh' (Kd.N_lt dz7) k_ hk_), (Kd.fresh' (Kd.R_lt dz22) k_ hk_), (Kd.fresh' (Kd.N_lt dz48) k_ hk_), (Kd.freshB (g := gb233) (o := .cells #[.slice A1_0 l1_0.length c1_0, .int .i64 a1_1] 73 (0, 0)) dz13 k_ hk_), (Kd.freshB (g := gb234) (o := .cells #[.int .i64 0, .slice none 0 0] 49 (0, 0)) dz14 k_ hk_), (Kd.freshB (g := gb238) (o := .cells #[.int .i64 x239000_1, .slice Ao19 x239001_1.length co19] 49 (0, 0)) dz15 k_ hk_), (Kd.freshB (g := gb254) (o := .cells #[.int .i64 t248, .slice Ao29 t249.length co29] 49 (0, 0)) dz18 k_ hk_), (IsS133.fresh dz17 k_ hk_)⟩)) (keep_size (w := w) (g := g) (row := none) dz6))
      replace HO_239001 := Aside0.mk (Kd.N_elder' dz7 dz36 hb)
      replace HO244 := (rbb_ HO244 hb)
      replace HO251 := Aside0.mk (Kd.N_elder' dz48 dz36 hb)
      replace BK233 := (bkb_ BK233 hb)
      replace BK234 := (bkb_ BK234 hb)
      replace BK238 := (bkb_ BK238 hb)
      replace BK254 := (bkb_ BK254 hb)
      replace HK := Aside0.mk (KeepBut.trans dz6 (KeepBut.of_below hb g none) (.inl rfl))
      replace HB := Aside0.mk (below_step dz25 hb)
      replace HI0 := Aside0.mk (IsS133.below dz17 hb)
      (try clear hb)
      (try clear hb2)
      (try clear hk)
      (try clear hi)
      (try clear ho0)
      obtain ⟨Ao42, co42, eo42⟩ := Kd.N_slice HO268.out
      (first | subst eo42 | (injection eo42 with f1_ f2_ f3_; have f4_ := f1_.symm; have f5_ := f3_.symm; clear f1_ f2_ f3_; subst f4_; subst f5_))
      refine hK.out _ _ ⟨(blk_cell BK233.out 0).trans rfl, (blk_cell BK233.out 1).trans rfl, (blk_cell BK238.out 0).trans rfl, (blk_cell BK238.out 1).trans rfl⟩ (fun hHeld => ?_)
      clear hK K
      refine norm_ (a' := ?_) ?_ ?_
      rotate_left
      ·show Act.put _ (some 47) _ = _
       simp only [Act.put, List.setIfInBounds_toArray, List.set_cons_zero, List.set_cons_succ, i64_w, i32_w]
       rfl
      refine pure_ (i := 15) (N := some 32) (v := ?_) (a' := ?_) (fl_ 16 4) rfl rfl (any_of HT_.out (by kernel_rfl)) (fun _ _ _ h => h) (Or.inl ⟨by rfl, ?_⟩) ?_ ?_
      rotate_left
      ·exact dz311
      rotate_left
      ·exact dz312
      refine pure_ (i := 16) (N := some 48) (v := ?_) (a' := ?_) (fl_ 17 3) rfl rfl (any_of HT_.out (by kernel_rfl)) (fun _ _ _ h => h) (Or.inl ⟨by rfl, ?_⟩) ?_ ?_
      rotate_left
      ·exact dz311
      rotate_left
      ·exact dz312
      refine pure_ (i := 17) (N := some 49) (v := ?_) (a' := ?_) (fl_ 18 2) rfl rfl (any_of HT_.out (by kernel_rfl)) (fun _ _ _ h => h) (Or.inl ⟨by rfl, ?_⟩) ?_ ?_
      rotate_left
      ·exact dz311
      rotate_left
      ·exact dz312
      refine one_ (i := 18) (N := none) (fl_ 19 1) rfl rfl (one_of HT_.out (by kernel_rfl)) (by decide) (fun K hK => ?_)
      have hs41 : w40.cell? ⟨gb254, 0, none⟩ = some (.int .i64 t248) := (blk_cell BK254.out 0).trans rfl
      have hfs41 := blk_frozen BK254.out 0
      have hns41_0 := NB233_254.out
      have hns41_1 := NB234_254.out
      have hns41_2 := NB238_254.out
      have hms41_0 := NB254_233.out
      have hms41_1 := NB254_234.out
      have hms41_2 := NB254_238.out
      have hs43 : w40.cell? ⟨gb254, 1, none⟩ = some (.slice Ao29 t249.length co29) := (blk_cell BK254.out 1).trans rfl
      have hfs43 := blk_frozen BK254.out 1
      have hns43_0 := NB233_254.out
      have hns43_1 := NB234_254.out
      have hns43_2 := NB238_254.out
      have hms43_0 := NB254_233.out
      have hms43_1 := NB254_234.out
      have hms43_2 := NB254_238.out
      refine skip_ (w1 := ?_) (by rfl) rfl ?_ ?_
      rotate_left
      ·go_simp
       rfl
      refine hK.out _ _ ⟨((cell_far (p := ⟨gb254, _, none⟩) NB233_254.out _).trans (((cell_far (p := ⟨gb254, _, none⟩) NB233_254.out _).trans (hHeld.1)))), ((cell_far (p := ⟨gb254, _, none⟩) NB233_254.out _).trans (((cell_far (p := ⟨gb254, _, none⟩) NB233_254.out _).trans (hHeld.2.1)))), ((cell_far (p := ⟨gb254, _, none⟩) NB238_254.out _).trans (((cell_far (p := ⟨gb254, _, none⟩) NB238_254.out _).trans (hHeld.2.2.1)))), ((cell_far (p := ⟨gb254, _, none⟩) NB238_254.out _).trans (((cell_far (p := ⟨gb254, _, none⟩) NB238_254.out _).trans (hHeld.2.2.2))))⟩ (fun hHeld => ?_)
      clear hK K
      refine pure_ (i := 19) (N := some 9) (v := ?_) (a' := ?_) (fl_ 20 0) rfl rfl (any_of HT_.out (by kernel_rfl)) (fun _ _ _ h => h) (Or.inl ⟨by rfl, ?_⟩) ?_ ?_
      rotate_left
      ·exact dz311
      rotate_left
      ·exact dz312
      refine done_ (done_of HT_.out (by kernel_rfl)) ?_
      try go_wp2
      go_meet
      case rel => exact ⟨_, (t269), (t263), (t264), (t265), (t266), (.slice Ao42 t266.length co42), dz3, H', ⟨by have := HK1.out; first | omega | exact Nat.le_refl _⟩, ⟨by (with_reducible repeat (first | apply Kd.N_alloc | apply Kd.N_drewN | apply Kd.N_drew)); exact Kd.N_mono (Kd.N_far (p := ⟨gb254, 1, none⟩) (Kd.N_far (p := ⟨gb254, 0, none⟩) (Kd.N_mono HO_239001.out (fun k_ hk => (⟨hk, hk.1.2.2.2.2.2.2.2⟩ : _ ∧ k_ ≠ gb254))) (fun _ hk => hk.2) (.int .i64 t265)) (fun _ hk => hk.2) (.slice Ao42 t266.length co42)) (fun _ hk => ⟨hk.1.1.1, ⟨hk.1.2, ⟨hk.1.1.2.2.2.2.1, ⟨hk.1.1.2.2.2.2.2.1, ⟨hk.1.1.2.2.2.2.2.2.1, ⟨hk.1.1.2.2.2.2.2.2.2, hk.1.1.2.2.2.1⟩⟩⟩⟩⟩⟩)⟩, ⟨by (with_reducible repeat (first | apply Kd.N_alloc | apply Kd.N_drewN | apply Kd.N_drew)); exact Kd.N_mono (Kd.N_far (p := ⟨gb254, 1, none⟩) (Kd.N_far (p := ⟨gb254, 0, none⟩) (Kd.N_mono HO268.out (fun k_ hk => (⟨hk, hk.2.2.2.2.2.2.2.1⟩ : _ ∧ k_ ≠ gb254))) (fun _ hk => hk.2) (.int .i64 t265)) (fun _ hk => hk.2) (.slice Ao42 t266.length co42)) (fun _ hk => ⟨hk.1.1, ⟨hk.1.2.1, ⟨hk.1.2.2.2.2.1, ⟨hk.1.2.2.2.2.2.1, ⟨hk.1.2.2.2.2.2.2.1, ⟨hk.1.2.2.2.2.2.2.2.1, hk.1.2.2.2.2.2.2.2.2⟩⟩⟩⟩⟩⟩)⟩, ⟨by (with_reducible repeat (first | refine blk_drewN ?_ _ | refine blk_drew ?_ | refine blk_alloc ?_ _)); refine blk_far ?_ NB233_254.out _; (with_reducible repeat (first | refine blk_drewN ?_ _ | refine blk_drew ?_ | refine blk_alloc ?_ _)); refine blk_far ?_ NB233_254.out _; (with_reducible repeat (first | refine blk_drewN ?_ _ | refine blk_drew ?_ | refine blk_alloc ?_ _)); exact BK233.out⟩, ⟨by (with_reducible repeat (first | refine blk_drewN ?_ _ | refine blk_drew ?_ | refine blk_alloc ?_ _)); refine blk_far ?_ NB234_254.out _; (with_reducible repeat (first | refine blk_drewN ?_ _ | refine blk_drew ?_ | refine blk_alloc ?_ _)); refine blk_far ?_ NB234_254.out _; (with_reducible repeat (first | refine blk_drewN ?_ _ | refine blk_drew ?_ | refine blk_alloc ?_ _)); exact BK234.out⟩, ⟨by (with_reducible repeat (first | refine blk_drewN ?_ _ | refine blk_drew ?_ | refine blk_alloc ?_ _)); refine blk_far ?_ NB238_254.out _; (with_reducible repeat (first | refine blk_drewN ?_ _ | refine blk_drew ?_ | refine blk_alloc ?_ _)); refine blk_far ?_ NB238_254.out _; (with_reducible repeat (first | refine blk_drewN ?_ _ | refine blk_drew ?_ | refine blk_alloc ?_ _)); exact BK238.out⟩, ⟨by (with_reducible repeat (first | refine blk_drewN ?_ _ | refine blk_drew ?_ | refine blk_alloc ?_ _)); refine blk_put (cs := #[.int .i64 t265, .slice Ao29 t249.length co29]) ?_ 1 _ rfl; (with_reducible repeat (first | refine blk_drewN ?_ _ | refine blk_drew ?_ | refine blk_alloc ?_ _)); refine blk_put (cs := #[.int .i64 t248, .slice Ao29 t249.length co29]) ?_ 0 _ rfl; (with_reducible repeat (first | refine blk_drewN ?_ _ | refine blk_drew ?_ | refine blk_alloc ?_ _)); exact BK254.out⟩, ⟨by repeat (first | (with_reducible first | exact HI0.out | apply IsS133.alloc | apply IsS133.drewN | apply IsS133.drew | apply IsS133.set_1 | apply IsS133.set_2 | refine IsS133.far ?_ NB0_233.out _ | refine IsS133.far ?_ NB0_234.out _ | refine IsS133.far ?_ NB0_238.out _ | refine IsS133.far ?_ NB0_254.out _) | exact HI0.out)⟩, ⟨by repeat (first | (with_reducible first | exact HK.out | apply KeepBut.set_ | apply keep_drewN | apply keep_drew | apply keep_alloc | refine keep_far ?_ GW233.out _ | refine keep_far ?_ GW234.out _ | refine keep_far ?_ GW238.out _ | refine keep_far ?_ GW254.out _) | exact HK.out)⟩, ⟨by repeat (first | (with_reducible first | exact HB.out | apply below_alloc | apply pw_below_drewN | apply below_drew1 | refine below_set ?_ (IsS133.ge HI0.out) | refine below_set ?_ GE233.out | refine below_set ?_ GE234.out | refine below_set ?_ GE238.out | refine below_set ?_ GE254.out) | exact HB.out)⟩⟩
     replace c32 := Bool.eq_false_iff.mpr c32
     subst c32
     have H1 : (spec_l8DrawRight.j1 k1 x6_1 t253 s0_0 t256 t257 l1_0 a1_1 x239000_1 x239001_1 t248 t249) = some (r1, r2, r3, r4) := by rw [if_neg (show ¬ (false = true) by decide)] at H; exact H
     clear H
     have H := H1
     clear H1
     have H' := Aside0.mk H
     clear H
     go_wp2
     go_meet
     case rel => exact ⟨_, (t253), (t256), (t257), (t248), (t249), (.slice Ao29 t249.length co29), dz3, H', ⟨by have := HK1.out; first | omega | exact Nat.le_refl _⟩, ⟨by (with_reducible repeat (first | apply Kd.N_alloc | apply Kd.N_drewN | apply Kd.N_drew)); exact Kd.N_mono HO_239001.out (fun _ hk => ⟨hk.1, ⟨hk.2.2.1, ⟨hk.2.2.2.2.1, ⟨hk.2.2.2.2.2.1, ⟨hk.2.2.2.2.2.2.1, ⟨hk.2.2.2.2.2.2.2, hk.2.2.2.1⟩⟩⟩⟩⟩⟩)⟩, ⟨by (with_reducible repeat (first | apply Kd.N_alloc | apply Kd.N_drewN | apply Kd.N_drew)); exact Kd.N_mono HO251.out (fun _ hk => ⟨hk.1, ⟨hk.2.2.1, ⟨hk.2.2.2.2.1, ⟨hk.2.2.2.2.2.1, ⟨hk.2.2.2.2.2.2.1, ⟨hk.2.2.2.2.2.2.2, hk.2.2.2.1⟩⟩⟩⟩⟩⟩)⟩, ⟨by (with_reducible repeat (first | refine blk_drewN ?_ _ | refine blk_drew ?_ | refine blk_alloc ?_ _)); exact BK233.out⟩, ⟨by (with_reducible repeat (first | refine blk_drewN ?_ _ | refine blk_drew ?_ | refine blk_alloc ?_ _)); exact BK234.out⟩, ⟨by (with_reducible repeat (first | refine blk_drewN ?_ _ | refine blk_drew ?_ | refine blk_alloc ?_ _)); exact BK238.out⟩, ⟨by (with_reducible repeat (first | refine blk_drewN ?_ _ | refine blk_drew ?_ | refine blk_alloc ?_ _)); exact BK254.out⟩, ⟨by repeat (first | (with_reducible first | exact HI0.out | apply IsS133.alloc | apply IsS133.drewN | apply IsS133.drew | apply IsS133.set_1 | apply IsS133.set_2 | refine IsS133.far ?_ NB0_233.out _ | refine IsS133.far ?_ NB0_234.out _ | refine IsS133.far ?_ NB0_238.out _ | refine IsS133.far ?_ NB0_254.out _) | exact HI0.out)⟩, ⟨by repeat (first | (with_reducible first | exact HK.out | apply KeepBut.set_ | apply keep_drewN | apply keep_drew | apply keep_alloc | refine keep_far ?_ GW233.out _ | refine keep_far ?_ GW234.out _ | refine keep_far ?_ GW238.out _ | refine keep_far ?_ GW254.out _) | exact HK.out)⟩, ⟨by repeat (first | (with_reducible first | exact HB.out | apply below_alloc | apply pw_below_drewN | apply below_drew1 | refine below_set ?_ (IsS133.ge HI0.out) | refine below_set ?_ GE233.out | refine below_set ?_ GE234.out | refine below_set ?_ GE238.out | refine below_set ?_ GE254.out) | exact HB.out)⟩⟩
    case rest =>
     clear HC17
     try clear c1
     try clear p2
     try clear c3
     try clear p6
     try clear c8
     try clear c10
     try clear c12
     try clear c13
     try clear c32
     obtain ⟨kq, x9_16, x1001_16, x1002_16, x255000_16, x255001_16, u255001, rfl, HA, HJ16, HO_239001, HO_255001, BK233, BK234, BK238, BK254, HI0, HK, HB⟩ := hcut
     cases kq with
     | zero => exact absurd HA.out (by simp [spec_l8DrawRight.j1])
     | succ kj16 =>
      have H := HA.out
      clear HA
      simp only [spec_l8DrawRight.j1] at H
      by_cases c44 : x9_16 = true
      ·subst c44
       have H1 : (spec_l8DrawRight.l0 kj16 (wrap64 (x6_1 + 1)) s0_0 x1001_16 x1002_16 l1_0 a1_1 x255000_16 x255001_16) = some (r1, r2, r3, r4) := by rw [if_pos rfl] at H; exact H
       clear H
       have H := H1
       clear H1
       have H' := Aside0.mk H
       clear H
       have hnb45 := NB254_233.out
       have hnc45 := NB233_254.out
       have hnb46 := NB254_234.out
       have hnc46 := NB234_254.out
       have hnb47 := NB254_238.out
       have hnc47 := NB238_254.out
       have hnb48 := NB254_0.out
       have hnc48 := NB0_254.out
       obtain ⟨hcz49_0, hcz49_1, hfz49_0, hfz49_1⟩ := cz2_ BK254
       have hnb50 := NB238_233.out
       have hnc50 := NB233_238.out
       have hnb51 := NB238_234.out
       have hnc51 := NB234_238.out
       have hnb52 := NB238_0.out
       have hnc52 := NB0_238.out
       obtain ⟨hcz53_0, hcz53_1, hfz53_0, hfz53_1⟩ := cz2_ BK238
       obtain ⟨Ao54, co54, eo54⟩ := Kd.N_slice HO_255001.out
       subst eo54
       go_wp2
       go_roundg kj16
       case measure => have := HK1.out; have := HJ16.out; omega
       case rel => exact ⟨(wrap64 (x6_1 + 1)), (x1001_16), (x1002_16), (x255000_16), (x255001_16), (.slice Ao54 x255001_16.length co54), dz3, H', ⟨by have := HK1.out; have := HJ16.out; omega⟩, ⟨by (with_reducible repeat (first | apply Kd.N_alloc | apply Kd.N_drewN | apply Kd.N_drew)); exact Kd.N_mono (Kd.N_far (p := ⟨gb238, 1, none⟩) (Kd.N_far (p := ⟨gb238, 0, none⟩) (Kd.N_mono HO_255001.out (fun k_ hk => (⟨hk, hk.2.2.2.2.1⟩ : _ ∧ k_ ≠ gb238))) (fun _ hk => hk.2) (.int .i64 x255000_16)) (fun _ hk => hk.2) (.slice Ao54 x255001_16.length co54)) (fun _ hk => ⟨hk.1.1, ⟨hk.1.2.2.1, ⟨hk.1.2.2.2.1, ⟨hk.1.2.2.2.2.1, hk.1.2.2.2.2.2.2⟩⟩⟩⟩)⟩, ⟨by (with_reducible repeat (first | refine blk_drewN ?_ _ | refine blk_drew ?_ | refine blk_alloc ?_ _)); refine blk_far ?_ NB233_238.out _; (with_reducible repeat (first | refine blk_drewN ?_ _ | refine blk_drew ?_ | refine blk_alloc ?_ _)); refine blk_far ?_ NB233_238.out _; (with_reducible repeat (first | refine blk_drewN ?_ _ | refine blk_drew ?_ | refine blk_alloc ?_ _)); exact BK233.out⟩, ⟨by (with_reducible repeat (first | refine blk_drewN ?_ _ | refine blk_drew ?_ | refine blk_alloc ?_ _)); refine blk_far ?_ NB234_238.out _; (with_reducible repeat (first | refine blk_drewN ?_ _ | refine blk_drew ?_ | refine blk_alloc ?_ _)); refine blk_far ?_ NB234_238.out _; (with_reducible repeat (first | refine blk_drewN ?_ _ | refine blk_drew ?_ | refine blk_alloc ?_ _)); exact BK234.out⟩, ⟨by (with_reducible repeat (first | refine blk_drewN ?_ _ | refine blk_drew ?_ | refine blk_alloc ?_ _)); refine blk_put (cs := #[.int .i64 x255000_16, .slice Ao19 x239001_1.length co19]) ?_ 1 _ rfl; (with_reducible repeat (first | refine blk_drewN ?_ _ | refine blk_drew ?_ | refine blk_alloc ?_ _)); refine blk_put (cs := #[.int .i64 x239000_1, .slice Ao19 x239001_1.length co19]) ?_ 0 _ rfl; (with_reducible repeat (first | refine blk_drewN ?_ _ | refine blk_drew ?_ | refine blk_alloc ?_ _)); exact BK238.out⟩, ⟨by repeat (first | (with_reducible first | exact HI0.out | apply IsS133.alloc | apply IsS133.drewN | apply IsS133.drew | apply IsS133.set_1 | apply IsS133.set_2 | refine IsS133.far ?_ NB0_233.out _ | refine IsS133.far ?_ NB0_234.out _ | refine IsS133.far ?_ NB0_238.out _ | refine IsS133.far ?_ NB0_254.out _) | exact HI0.out)⟩, ⟨by repeat (first | (with_reducible first | exact HK.out | apply KeepBut.set_ | apply keep_drewN | apply keep_drew | apply keep_alloc | refine keep_far ?_ GW233.out _ | refine keep_far ?_ GW234.out _ | refine keep_far ?_ GW238.out _ | refine keep_far ?_ GW254.out _) | exact HK.out)⟩, ⟨by repeat (first | (with_reducible first | exact HB.out | apply below_alloc | apply pw_below_drewN | apply below_drew1 | refine below_set ?_ (IsS133.ge HI0.out) | refine below_set ?_ GE233.out | refine below_set ?_ GE234.out | refine below_set ?_ GE238.out | refine below_set ?_ GE254.out) | exact HB.out)⟩⟩
      replace c44 := Bool.eq_false_iff.mpr c44
      subst c44
      have H1 : (spec_l8DrawRight.l0 kj16 (wrap64 (x6_1 + 1)) s0_0 x1001_16 x1002_16 l1_0 a1_1 x239000_1 x239001_1) = some (r1, r2, r3, r4) := by rw [if_neg (show ¬ (false = true) by decide)] at H; exact H
      clear H
      have H := H1
      clear H1
      have H' := Aside0.mk H
      clear H
      go_wp2
      go_roundg kj16
      case measure => have := HK1.out; have := HJ16.out; omega
      case rel => exact ⟨(wrap64 (x6_1 + 1)), (x1001_16), (x1002_16), (x239000_1), (x239001_1), (.slice Ao19 x239001_1.length co19), dz3, H', ⟨by have := HK1.out; have := HJ16.out; omega⟩, ⟨by (with_reducible repeat (first | apply Kd.N_alloc | apply Kd.N_drewN | apply Kd.N_drew)); exact Kd.N_mono HO_239001.out (fun _ hk => ⟨hk.1, ⟨hk.2.2.1, ⟨hk.2.2.2.1, ⟨hk.2.2.2.2.1, hk.2.2.2.2.2.2⟩⟩⟩⟩)⟩, ⟨by (with_reducible repeat (first | refine blk_drewN ?_ _ | refine blk_drew ?_ | refine blk_alloc ?_ _)); exact BK233.out⟩, ⟨by (with_reducible repeat (first | refine blk_drewN ?_ _ | refine blk_drew ?_ | refine blk_alloc ?_ _)); exact BK234.out⟩, ⟨by (with_reducible repeat (first | refine blk_drewN ?_ _ | refine blk_drew ?_ | refine blk_alloc ?_ _)); exact BK238.out⟩, ⟨by repeat (first | (with_reducible first | exact HI0.out | apply IsS133.alloc | apply IsS133.drewN | apply IsS133.drew | apply IsS133.set_1 | apply IsS133.set_2 | refine IsS133.far ?_ NB0_233.out _ | refine IsS133.far ?_ NB0_234.out _ | refine IsS133.far ?_ NB0_238.out _ | refine IsS133.far ?_ NB0_254.out _) | exact HI0.out)⟩, ⟨by repeat (first | (with_reducible first | exact HK.out | apply KeepBut.set_ | apply keep_drewN | apply keep_drew | apply keep_alloc | refine keep_far ?_ GW233.out _ | refine keep_far ?_ GW234.out _ | refine keep_far ?_ GW238.out _ | refine keep_far ?_ GW254.out _) | exact HK.out)⟩, ⟨by repeat (first | (with_reducible first | exact HB.out | apply below_alloc | apply pw_below_drewN | apply below_drew1 | refine below_set ?_ (IsS133.ge HI0.out) | refine below_set ?_ GE233.out | refine below_set ?_ GE234.out | refine below_set ?_ GE238.out | refine below_set ?_ GE254.out) | exact HB.out)⟩⟩
   rw [if_neg c13] at H
   have c13b0 : decide (x6_1 < t239) = false := decide_eq_false c13
   clear c13
   simp only [Option.some.injEq, Prod.mk.injEq] at H
   obtain ⟨rfl, rfl, rfl, rfl⟩ := H
   go_wp2_with (first | ((with_reducible refine gate_callee (f := 105) rfl ?_); refine goesL_ (some 16) rfl rfl Try.func105 (by kernel_rfl) rfl #[.pointer (some ⟨g, 0, none⟩), .int .i64 14] rfl dz1 ?_; (with_reducible refine (spec_l1Below.calls g s0_0 x1001_1 x1002_1 14 t239 t240 t241 w0 _ ?side1 ?side2 A12.out).mono ?_); (case side1 => exact dz294); (case side2 => exact dz295); rintro e w55 ⟨rfl, hi, hb, hk⟩; refine ⟨_, rfl, ?_⟩; replace HO_239001 := Aside0.mk (Kd.N_mono (Kd.N_keep (Kd.N_mono (ok := fun k_ => (((w.heap.size ≤ k_)) ∧ (k_ ≠ gb233 ∧ (k_ ≠ gb234 ∧ (k_ ≠ gb238 ∧ k_ ≠ g))))) dz7 (fun k_ hk_ => (⟨hk_, hk_.2.2.2.2⟩ : _ ∧ k_ ≠ g))) hk (fun _ h => h.2)) (fun _ h => h.1)); replace BK233 := Aside0.mk (KeepBut.blk hk (g' := gb233) (o := .cells #[.slice A1_0 l1_0.length c1_0, .int .i64 a1_1] 73 (0, 0)) dz13 NB233_0.out (by simp)); replace BK234 := Aside0.mk (KeepBut.blk hk (g' := gb234) (o := .cells #[.int .i64 0, .slice none 0 0] 49 (0, 0)) dz14 NB234_0.out (by simp)); replace BK238 := Aside0.mk (KeepBut.blk hk (g' := gb238) (o := .cells #[.int .i64 x239000_1, u239001] 49 (0, 0)) dz15 NB238_0.out (by simp)); replace HK := Aside0.mk (KeepBut.trans dz8 hk (.inl rfl)); replace HB := Aside0.mk (hb); replace HI0 := Aside0.mk (hi); (try clear hb); (try clear hb2); (try clear hk); (try clear hi); have hnb56 := NB238_233.out; have hnc56 := NB233_238.out; have hnb57 := NB238_234.out; have hnc57 := NB234_238.out; have hnb58 := NB238_0.out; have hnc58 := NB0_238.out; obtain ⟨hcz59_0, hcz59_1, hfz59_0, hfz59_1⟩ := cz2_ BK238; have hnb60 := NB234_233.out; have hnc60 := NB233_234.out; have hnb61 := NB234_0.out; have hnc61 := NB0_234.out; obtain ⟨hcz62_0, hcz62_1, hfz62_0, hfz62_1⟩ := cz2_ BK234; obtain ⟨Ao63, co63, eo63⟩ := Kd.N_slice HO_239001.out; subst eo63))
   refine bodyPost_ret (results_cell_row rfl _ _ gb234 49 #[.int .i64 x239000_1, .slice Ao63 x239001_1.length co63] (0, 0) _ rfl (by (with_reducible repeat (first | refine blk_drewN ?_ _ | refine blk_drew ?_ | refine blk_alloc ?_ _)); refine blk_put (cs := #[.int .i64 x239000_1, .slice none 0 0]) ?_ 1 _ rfl; (with_reducible repeat (first | refine blk_drewN ?_ _ | refine blk_drew ?_ | refine blk_alloc ?_ _)); refine blk_put (cs := #[.int .i64 0, .slice none 0 0]) ?_ 0 _ rfl; (with_reducible repeat (first | refine blk_drewN ?_ _ | refine blk_drew ?_ | refine blk_alloc ?_ _)); exact BK234.out) Try.underlying49 rfl (by kernel_rfl)) rfl ?_
   exact ⟨_, by first | rfl | (simp [errW_none, errW_some] <;> rfl) | (simp [*, errW_none, errW_some] <;> rfl), by (with_reducible repeat (first | apply Kd.N_alloc | apply Kd.N_drewN | apply Kd.N_drew)); exact Kd.N_mono (Kd.N_far (p := ⟨gb234, 1, none⟩) (Kd.N_far (p := ⟨gb234, 0, none⟩) (Kd.N_mono HO_239001.out (fun k_ hk => (⟨hk, hk.2.2.1⟩ : _ ∧ k_ ≠ gb234))) (fun _ hk => hk.2) (.int .i64 x239000_1)) (fun _ hk => hk.2) (.slice Ao63 x239001_1.length co63)) (fun _ hk => hk.1.1), by repeat (first | (with_reducible first | exact HI0.out | apply IsS133.alloc | apply IsS133.drewN | apply IsS133.drew | apply IsS133.set_1 | apply IsS133.set_2 | refine IsS133.far ?_ NB0_233.out _ | refine IsS133.far ?_ NB0_234.out _ | refine IsS133.far ?_ NB0_238.out _) | exact HI0.out), by repeat (first | (with_reducible first | exact HB.out | apply below_alloc | apply pw_below_drewN | apply below_drew1 | refine below_set ?_ (IsS133.ge HI0.out) | refine below_set ?_ GE233.out | refine below_set ?_ GE234.out | refine below_set ?_ GE238.out) | exact HB.out), by repeat (first | (with_reducible first | exact HK.out | apply KeepBut.set_ | apply keep_drewN | apply keep_drew | apply keep_alloc | refine keep_far ?_ GW233.out _ | refine keep_far ?_ GW234.out _ | refine keep_far ?_ GW238.out _) | exact HK.out)⟩
end Go.Proofs.Ytdkdhciogedoiaa.PFnSureTo
