-- Written by wip/gen/pack.py of this repo. Lean checks it.
import Derived.Test.YtdkdhciogedoiabKFnAddedP0
import Derived.Test.YtdkdhciogedoiabKFnAddedP10
import Derived.Test.YtdkdhciogedoiabKFnAddedP11
import Derived.Test.YtdkdhciogedoiabKFnAddedD
namespace Go.Proofs.Ytdkdhciogedoiab.PFnAdded
open Go.RowKit Go.Proofs.YtdkdhciogedoiabW.PrintWords Go.Proofs.YtdkdhciogedoiabW.PrintLast Go.Proofs.YtdkdhciogedoiabW.PrintMore Go.Proofs.YtdkdhciogedoiabW.Sq
attribute [local go_sem] max2_int min2_int max_two min_two max_three min_three max_four min_four
set_option linter.unusedVariables false
set_option linter.unusedSimpArgs false
def impl_WriterOk.l0 : Nat → Int → List (S50) → Int → Int → List Int → Int → Int → List (S50) → Option (Bool)
 | 0, _, _, _, _, _, _, _, _ => none
 | k + 1, x5, x9, x10, x11, x422000, x422001, x423000, x423001 => if x11 < x10 then (if 0 ≤ x11 then (if x11 < (x9.length : Int) then ((impl_dataOk.f ((rd_T50 x9 x11).f0)).bind fun t427 => (if t427 = true then ((impl_NodesOk.f k x422000 x422001 ((rd_T50 x9 x11).f1)).bind fun t428 => (if t428 = true then ((impl_Holds.f k x422000 x422001 ((rd_T50 x9 x11).f1)).bind fun t429 => (if (((rd_T50 x9 x11).f2) != t429) = true then (some false) else ((impl_flagNum.f (!((rd_T50 x9 x11).f2))).bind fun t430 => (impl_WriterOk.l0 k (wrap64 (x5 + t430)) x9 x10 (wrap64 (x11 + 1)) x422000 x422001 x423000 x423001)))) else (some false))) else (some false))) else (none)) else (none)) else ((impl_ConfigOk.f k x422000 x422001).bind fun t423 => (if t423 = true then ((impl_isEpoch.f x423000).bind fun t424 => (if t424 = true then (if (x423001.length : Int) ≤ 60 then (some (decide (x5 ≤ 6))) else (some false)) else (some false))) else (some false)))
def impl_WriterOk.f (k : Nat) (l0_0 : List Int) (a0_1 : Int) (a1_0 : Int) (l1_1 : List (S50)) : Option (Bool) := impl_WriterOk.l0 k 0 l1_1 (l1_1.length : Int) 0 l0_0 a0_1 a1_0 l1_1
def impl_WriterOk.T5 : Bool × List (List Nat × List Nat) := (true, [([], []), ([0], [0]), ([1], [1]), ([2], [2]), ([3, 2], [3]), ([4], [4]), ([4], [4]), ([6, 4], [4, 6]), ([5, 7, 4, 4], [4, 5, 7]), ([8, 4], [4, 8]), ([4, 9], [4, 9]), ([10, 8], [10]), ([11], [11]), ([12, 11], [11, 12]), ([11], [11]), ([11], [11]), ([15, 11], [11, 15]), ([14, 16, 11, 11], [11, 14, 16]), ([13, 17, 11], [11, 13, 17]), ([11, 18], [11, 18])])
def impl_WriterOk.B5 : List Nat := [0, 1, 3, 7, 15, 31, 31, 95, 255, 511, 1023, 2047, 4095, 8191, 4095, 4095, 36863, 118783, 262143, 524287]
theorem impl_WriterOk.tab5 : rtab .any (opsOf Try.f22 5) = impl_WriterOk.T5 := by kernel_rfl
theorem impl_WriterOk.bits5 : waitsOk impl_WriterOk.T5.2 impl_WriterOk.B5 = true := by kernel_rfl
set_option maxHeartbeats 8000000 in
set_option maxRecDepth 100000 in
theorem impl_WriterOk.calls (k : Nat) (A0_0 : Option Addr) (c0_0 : Nat) (l0_0 : List Int) (a0_1 : Int) (a1_0 : Int) (A1_1 : Option Addr) (c1_1 : Nat) (l1_1 : List (S50)) (r : Bool) (w : World) (hr0_0 : Kd.C (Kd.int .i64) w A0_0 l0_0.length l0_0) (hc0_0 : l0_0.length ≤ c0_0) (hr1_1 : Kd.C k50 w A1_1 l1_1.length l1_1) (hc1_1 : l1_1.length ≤ c1_1) (h : impl_WriterOk.f k l0_0 a0_1 a1_0 l1_1 = some r) :
  Calls Try.prog 22 #[.agg #[.slice A0_0 l0_0.length c0_0, .int .i64 a0_1], .agg #[.int .i64 a1_0, .slice A1_1 l1_1.length c1_1]] w fun e w' => e = .returned (.bool r) ∧ Below w.heap.size w w' := by
 have hu31 := Try.underlying31
 have hu44 := Try.underlying44
 have hu50 := Try.underlying50
 have HR0_0 := Aside0.mk hr0_0
 have HC0_0 := Aside0.mk hc0_0
 clear hr0_0 hc0_0
 have HR1_1 := Aside0.mk hr1_1
 have HC1_1 := Aside0.mk hc1_1
 clear hr1_1 hc1_1
 have HB := Aside0.mk (Below.refl w.heap.size w)
 have H : (impl_WriterOk.l0 k 0 l1_1 (l1_1.length : Int) 0 l0_0 a0_1 a1_0 l1_1) = some r := h
 clear h
 have H' := Aside0.mk H
 clear H
 go_enter Try.func22, Try.ntmps22
 go_wp2_with (first | ((with_reducible refine gate_dst (N := 2) rfl ?_); (try (refine gate_guard (by rfl) ?_; dsimp only)); refine box_event kr_ (N := 2) kr_ (cs := #[.slice A0_0 l0_0.length c0_0, .int .i64 a0_1]) (t := 31) ks_ ?_; intro gb421 hg w1 hbox hb; have BK421 := Aside0.mk (hbox); have GW421 : Aside0 (w.heap.size ≤ gb421) := szl_ hg dz2; have GE421 : Aside0 (w.heap.size ≤ gb421) := szl_ hg dz2; replace HB := Aside0.mk (below_step dz2 hb); clear hb hbox hg) | ((with_reducible refine gate_dst (N := 3) rfl ?_); (try (refine gate_guard (by rfl) ?_; dsimp only)); refine box_event kr_ (N := 3) kr_ (cs := #[.int .i64 a1_0, .slice A1_1 l1_1.length c1_1]) (t := 44) ks_ ?_; intro gb422 hg w2 hbox hb; have BK422 := Aside0.mk (hbox); have GW422 : Aside0 (w.heap.size ≤ gb422) := szl_ hg dz116; have GE422 : Aside0 (w.heap.size ≤ gb422) := szl_ hg dz116; replace HB := Aside0.mk (below_step dz116 hb); have NB421_422 := (nbl_ hg BK421); have NB422_421 := (nbr_ hg BK421); replace BK421 := (bkb_ BK421 hb); clear hb hbox hg; have hnb5 := NB422_421.out; have hnc5 := NB421_422.out; obtain ⟨hcz6_0, hcz6_1, hfz6_0, hfz6_1⟩ := cz2_ BK422))
 go_loopg [5, 11] k (fun kq v5 v11 w' => ∃ (x5_1 : Int) (x11_1 : Int), v5 = .int .i64 x5_1 ∧ v11 = .int .i64 x11_1 ∧ Aside0 (impl_WriterOk.l0 kq x5_1 l1_1 (l1_1.length : Int) x11_1 l0_0 a0_1 a1_0 l1_1 = some r) ∧ Aside0 (kq ≤ k) ∧ Aside0 (w'.heap[gb421]? = some (.cells #[(.slice A0_0 l0_0.length c0_0), .int .i64 a0_1] 31 (0, 0))) ∧ Aside0 (w'.heap[gb422]? = some (.cells #[.int .i64 a1_0, (.slice A1_1 l1_1.length c1_1)] 44 (0, 0))) ∧ Aside0 (Below w.heap.size w w'))
 case atStart => exact ⟨(0), (0), dz3, dz3, H', ⟨Nat.le_refl _⟩, ⟨by (with_reducible repeat (first | refine blk_drewN ?_ _ | refine blk_drew ?_ | refine blk_alloc ?_ _)); exact BK421.out⟩, ⟨by (with_reducible repeat (first | refine blk_drewN ?_ _ | refine blk_drew ?_ | refine blk_alloc ?_ _)); exact BK422.out⟩, ⟨by repeat (first | (with_reducible first | exact HB.out | apply below_alloc | apply pw_below_drewN | apply below_drew1 | refine below_set ?_ GE421.out | refine below_set ?_ GE422.out) | exact HB.out)⟩⟩
 case round =>
  clear H'
  try clear c1
  try clear c2
  try clear p2
  try clear c5
  try clear hcz6_0
  try clear hcz6_1
  try clear hfz6_0
  try clear hfz6_1
  obtain ⟨x5_1, x11_1, rfl, rfl, HA, HK1, BK421, BK422, HB⟩ := hrel
  cases gk with
  | zero => exact absurd HA.out (by simp [impl_WriterOk.l0])
  | succ k1 =>
   have H := HA.out
   clear HA
   simp only [impl_WriterOk.l0] at H
   by_cases c7 : x11_1 < (l1_1.length : Int)
   ·rw [if_pos c7] at H
    have c7b0 : decide (x11_1 < (l1_1.length : Int)) = true := decide_eq_true c7
    clear c7
    by_cases c8 : 0 ≤ x11_1
    ·rw [if_pos c8] at H
     have c8b0 : decide (0 ≤ x11_1) = true := decide_eq_true c8
     clear c8
     by_cases c9 : x11_1 < (l1_1.length : Int)
     ·rw [if_pos c9] at H
      have c9b0 : decide (x11_1 < (l1_1.length : Int)) = true := decide_eq_true c9
      clear c9
      replace H := Option.bind_eq_some_iff.mp H
      obtain ⟨t427, A100, H⟩ := H
      replace H : (if t427 = true then ((impl_NodesOk.f k1 l0_0 a0_1 ((rd_T50 l1_1 x11_1).f1)).bind fun t428 => (if t428 = true then ((impl_Holds.f k1 l0_0 a0_1 ((rd_T50 l1_1 x11_1).f1)).bind fun t429 => (if (((rd_T50 l1_1 x11_1).f2) != t429) = true then (some false) else ((impl_flagNum.f (!((rd_T50 l1_1 x11_1).f2))).bind fun t430 => (impl_WriterOk.l0 k1 (wrap64 (x5_1 + t430)) l1_1 (l1_1.length : Int) (wrap64 (x11_1 + 1)) l0_0 a0_1 a1_0 l1_1)))) else (some false))) else (some false)) = some r := H
      have A10 := Aside0.mk A100
      clear A100
      by_cases c11 : t427 = true
      ·subst c11
       have H1 : ((impl_NodesOk.f k1 l0_0 a0_1 ((rd_T50 l1_1 x11_1).f1)).bind fun t428 => (if t428 = true then ((impl_Holds.f k1 l0_0 a0_1 ((rd_T50 l1_1 x11_1).f1)).bind fun t429 => (if (((rd_T50 l1_1 x11_1).f2) != t429) = true then (some false) else ((impl_flagNum.f (!((rd_T50 l1_1 x11_1).f2))).bind fun t430 => (impl_WriterOk.l0 k1 (wrap64 (x5_1 + t430)) l1_1 (l1_1.length : Int) (wrap64 (x11_1 + 1)) l0_0 a0_1 a1_0 l1_1)))) else (some false))) = some r := by rw [if_pos rfl] at H; exact H
       clear H
       have H := H1
       clear H1
       replace H := Option.bind_eq_some_iff.mp H
       obtain ⟨t428, A120, H⟩ := H
       replace H : (if t428 = true then ((impl_Holds.f k1 l0_0 a0_1 ((rd_T50 l1_1 x11_1).f1)).bind fun t429 => (if (((rd_T50 l1_1 x11_1).f2) != t429) = true then (some false) else ((impl_flagNum.f (!((rd_T50 l1_1 x11_1).f2))).bind fun t430 => (impl_WriterOk.l0 k1 (wrap64 (x5_1 + t430)) l1_1 (l1_1.length : Int) (wrap64 (x11_1 + 1)) l0_0 a0_1 a1_0 l1_1)))) else (some false)) = some r := H
       have A12 := Aside0.mk A120
       clear A120
       by_cases c13 : t428 = true
       ·subst c13
        have H1 : ((impl_Holds.f k1 l0_0 a0_1 ((rd_T50 l1_1 x11_1).f1)).bind fun t429 => (if (((rd_T50 l1_1 x11_1).f2) != t429) = true then (some false) else ((impl_flagNum.f (!((rd_T50 l1_1 x11_1).f2))).bind fun t430 => (impl_WriterOk.l0 k1 (wrap64 (x5_1 + t430)) l1_1 (l1_1.length : Int) (wrap64 (x11_1 + 1)) l0_0 a0_1 a1_0 l1_1)))) = some r := by rw [if_pos rfl] at H; exact H
        clear H
        have H := H1
        clear H1
        replace H := Option.bind_eq_some_iff.mp H
        obtain ⟨t429, A140, H⟩ := H
        replace H : (if (((rd_T50 l1_1 x11_1).f2) != t429) = true then (some false) else ((impl_flagNum.f (!((rd_T50 l1_1 x11_1).f2))).bind fun t430 => (impl_WriterOk.l0 k1 (wrap64 (x5_1 + t430)) l1_1 (l1_1.length : Int) (wrap64 (x11_1 + 1)) l0_0 a0_1 a1_0 l1_1))) = some r := H
        have A14 := Aside0.mk A140
        clear A140
        by_cases c15 : (((rd_T50 l1_1 x11_1).f2) != t429) = true
        ·rw [if_pos c15] at H
         have c15b0 : (((rd_T50 l1_1 x11_1).f2) != t429) = true := c15
         (try (have c15b1 : decide (((rd_T50 l1_1 x11_1).f2) = t429) = false := by simpa using c15))
         (try (have c15b2 : (((rd_T50 l1_1 x11_1).f2) == t429) = false := by simpa using c15))
         (try (have c15b3 : ¬ (((rd_T50 l1_1 x11_1).f2) = t429) := by simpa using c15))
         clear c15
         obtain rfl := Option.some.inj H
         have p425 : 0 ≤ (x11_1 : Int) := of_decide_eq_true dz0
         have q425 : x11_1 < (l1_1.length : Int) := of_decide_eq_true dz0
         obtain ⟨ad425, A425_1, c425_1, e425, hx425_0, hx425_1, hx425_2, hl425_1, hi425_1⟩ := at_T50 HR1_1.out x11_1 p425 q425
         cases e425
         replace hx425_0 := hxl_ HB hx425_0
         replace hx425_1 := hxl_ HB hx425_1
         replace hx425_2 := hxl_ HB hx425_2
         have HR425_1 := Aside0.mk hi425_1
         have HC425_1 := Aside0.mk hl425_1
         clear hi425_1 hl425_1
         replace p425 := eq_true p425
         replace q425 := eq_true q425
         try go_wp2_with (first | ((with_reducible refine gate_dst (N := 7) rfl ?_); (try (refine gate_guard (by rfl) ?_; dsimp only)); refine box_event kr_ (N := 7) kr_ (cs := #[.string (⟨#[]⟩ : ByteArray), .slice none 0 0, .bool false]) (t := 50) ks_ ?_; intro gb426 hg w16 hbox hb; have BK426 := Aside0.mk (hbox); have GW426 : Aside0 (w.heap.size ≤ gb426) := szl_ hg dz18; have GE426 : Aside0 (w.heap.size ≤ gb426) := szl_ hg dz18; replace HB := Aside0.mk (below_step dz18 hb); have NB421_426 := (nbl_ hg BK421); have NB426_421 := (nbr_ hg BK421); replace BK421 := (bkb_ BK421 hb); have NB422_426 := (nbl_ hg BK422); have NB426_422 := (nbr_ hg BK422); replace BK422 := (bkb_ BK422 hb); clear hb hbox hg; have hnb17 := NB426_421.out; have hnc17 := NB421_426.out; have hnb18 := NB426_422.out; have hnc18 := NB422_426.out; obtain ⟨hcz19_0, hcz19_1, hcz19_2, hfz19_0, hfz19_1, hfz19_2⟩ := cz3_ BK426))
         have n0_ : Aside0 ((((w16.setCell ⟨gb426, 0, none⟩ (.string ((rd_T50 l1_1 x11_1).f0))).setCell ⟨gb426, 1, none⟩ (.slice A425_1 ((rd_T50 l1_1 x11_1).f1).length c425_1)).setCell ⟨gb426, 2, none⟩ (.bool ((rd_T50 l1_1 x11_1).f2))).heap[gb421]? = some (.cells #[.slice A0_0 l0_0.length c0_0, .int .i64 a0_1] 31 (0, 0))) := ⟨by (with_reducible repeat (first | refine blk_drewN ?_ _ | refine blk_drew ?_ | refine blk_alloc ?_ _)); refine blk_far ?_ NB421_426.out _; (with_reducible repeat (first | refine blk_drewN ?_ _ | refine blk_drew ?_ | refine blk_alloc ?_ _)); refine blk_far ?_ NB421_426.out _; (with_reducible repeat (first | refine blk_drewN ?_ _ | refine blk_drew ?_ | refine blk_alloc ?_ _)); refine blk_far ?_ NB421_426.out _; (with_reducible repeat (first | refine blk_drewN ?_ _ | refine blk_drew ?_ | refine blk_alloc ?_ _)); exact BK421.out⟩
         have n1_ : Aside0 ((((w16.setCell ⟨gb426, 0, none⟩ (.string ((rd_T50 l1_1 x11_1).f0))).setCell ⟨gb426, 1, none⟩ (.slice A425_1 ((rd_T50 l1_1 x11_1).f1).length c425_1)).setCell ⟨gb426, 2, none⟩ (.bool ((rd_T50 l1_1 x11_1).f2))).heap[gb422]? = some (.cells #[.int .i64 a1_0, .slice (some ad425) l1_1.length c1_1] 44 (0, 0))) := ⟨by (with_reducible repeat (first | refine blk_drewN ?_ _ | refine blk_drew ?_ | refine blk_alloc ?_ _)); refine blk_far ?_ NB422_426.out _; (with_reducible repeat (first | refine blk_drewN ?_ _ | refine blk_drew ?_ | refine blk_alloc ?_ _)); refine blk_far ?_ NB422_426.out _; (with_reducible repeat (first | refine blk_drewN ?_ _ | refine blk_drew ?_ | refine blk_alloc ?_ _)); refine blk_far ?_ NB422_426.out _; (with_reducible repeat (first | refine blk_drewN ?_ _ | refine blk_drew ?_ | refine blk_alloc ?_ _)); exact BK422.out⟩
         have n2_ : Aside0 ((((w16.setCell ⟨gb426, 0, none⟩ (.string ((rd_T50 l1_1 x11_1).f0))).setCell ⟨gb426, 1, none⟩ (.slice A425_1 ((rd_T50 l1_1 x11_1).f1).length c425_1)).setCell ⟨gb426, 2, none⟩ (.bool ((rd_T50 l1_1 x11_1).f2))).heap[gb426]? = some (.cells #[.string ((rd_T50 l1_1 x11_1).f0), .slice A425_1 ((rd_T50 l1_1 x11_1).f1).length c425_1, .bool ((rd_T50 l1_1 x11_1).f2)] 50 (0, 0))) := ⟨by (with_reducible repeat (first | refine blk_drewN ?_ _ | refine blk_drew ?_ | refine blk_alloc ?_ _)); refine blk_put (cs := #[.string ((rd_T50 l1_1 x11_1).f0), .slice A425_1 ((rd_T50 l1_1 x11_1).f1).length c425_1, .bool false]) ?_ 2 _ rfl; (with_reducible repeat (first | refine blk_drewN ?_ _ | refine blk_drew ?_ | refine blk_alloc ?_ _)); refine blk_put (cs := #[.string ((rd_T50 l1_1 x11_1).f0), .slice none 0 0, .bool false]) ?_ 1 _ rfl; (with_reducible repeat (first | refine blk_drewN ?_ _ | refine blk_drew ?_ | refine blk_alloc ?_ _)); refine blk_put (cs := #[.string (⟨#[]⟩ : ByteArray), .slice none 0 0, .bool false]) ?_ 0 _ rfl; (with_reducible repeat (first | refine blk_drewN ?_ _ | refine blk_drew ?_ | refine blk_alloc ?_ _)); exact BK426.out⟩
         have n3_ : Aside0 (Below w.heap.size w (((w16.setCell ⟨gb426, 0, none⟩ (.string ((rd_T50 l1_1 x11_1).f0))).setCell ⟨gb426, 1, none⟩ (.slice A425_1 ((rd_T50 l1_1 x11_1).f1).length c425_1)).setCell ⟨gb426, 2, none⟩ (.bool ((rd_T50 l1_1 x11_1).f2)))) := ⟨by repeat (first | (with_reducible first | exact HB.out | apply below_alloc | apply pw_below_drewN | apply below_drew1 | refine below_set ?_ GE421.out | refine below_set ?_ GE422.out | refine below_set ?_ GE426.out) | exact HB.out)⟩
         (try clear BK421)
         (try clear BK422)
         (try clear BK426)
         (try clear HB)
         generalize (((w16.setCell ⟨gb426, 0, none⟩ (.string ((rd_T50 l1_1 x11_1).f0))).setCell ⟨gb426, 1, none⟩ (.slice A425_1 ((rd_T50 l1_1 x11_1).f1).length c425_1)).setCell ⟨gb426, 2, none⟩ (.bool ((rd_T50 l1_1 x11_1).f2))) = w20 at n0_ n1_ n2_ n3_ ⊢
         have BK421 := n0_
         have BK422 := n1_
         have BK426 := n2_
         have HB := n3_
         clear n0_ n1_ n2_ n3_
         replace BK421 := Aside0.mk (blk_drew BK421.out)
         replace BK422 := Aside0.mk (blk_drew BK422.out)
         replace BK426 := Aside0.mk (blk_drew BK426.out)
         replace HB := Aside0.mk (below_drew1 HB.out)
         refine start_ (n := 20) (S := fun w' => w'.cell? ⟨gb426, 0, none⟩ = some (.string ((rd_T50 l1_1 x11_1).f0)) ∧ w'.cell? ⟨gb426, 1, none⟩ = some (.slice A425_1 ((rd_T50 l1_1 x11_1).f1).length c425_1) ∧ w'.cell? ⟨gb426, 2, none⟩ = some (.bool ((rd_T50 l1_1 x11_1).f2)) ∧ w'.cell? ⟨gb421, 0, none⟩ = some (.slice A0_0 l0_0.length c0_0) ∧ w'.cell? ⟨gb421, 1, none⟩ = some (.int .i64 a0_1)) (ds := []) (fl_ 0 20) (by kernel_rfl) rfl rfl ⟨(blk_cell BK426.out 0).trans rfl, (blk_cell BK426.out 1).trans rfl, (blk_cell BK426.out 2).trans rfl, (blk_cell BK421.out 0).trans rfl, (blk_cell BK421.out 1).trans rfl⟩ (fun hHeld => ?_); refine with_tabW impl_WriterOk.tab5 impl_WriterOk.bits5 (fun HT_ HW_ => ?_)
         generalize w20.drew = w21 at BK421 BK422 BK426 HB hHeld ⊢
         refine pure_ (i := 0) (N := some 15) (v := ?_) (a' := ?_) (fl_ 1 19) rfl rfl (any_of HT_.out (by kernel_rfl)) (fun _ _ _ h => h) (Or.inl ⟨by rfl, ?_⟩) ?_ ?_
         rotate_left
         ·exact dz489
         rotate_left
         ·exact dz490
         refine take_ (i := 1) (N := some 16) (v := ?_) (a' := ?_) (fl_ 2 18) rfl rfl (take_ofW HT_.out HW_.out (by kernel_rfl)) (fun _ _ _ h => h) (Or.inl ⟨by rfl, ?_⟩) hHeld ?_ ?_
         rotate_left
         ·exact dz494
         rotate_left
         ·exact dz490
         refine one_ (i := 2) (N := some 17) (fl_ 3 17) rfl rfl (one_of HT_.out (by kernel_rfl)) (by decide) (fun K hK => ?_)
         refine goes_ Try.func72 (by kernel_rfl) rfl #[.string ((rd_T50 l1_1 x11_1).f0)] (by rfl) rfl rfl dz1 ?_
         with_reducible refine (impl_dataOk.calls ((rd_T50 l1_1 x11_1).f0) true _ A10.out).mono ?_
         rintro e w' ⟨rfl, ⟨nd, rfl⟩⟩
         refine ⟨_, rfl, ?_⟩
         refine hK.out _ _ ⟨(blk_cell BK426.out 0).trans rfl, (blk_cell BK426.out 1).trans rfl, (blk_cell BK426.out 2).trans rfl, (blk_cell BK421.out 0).trans rfl, (blk_cell BK421.out 1).trans rfl⟩ (fun hHeld => ?_)
         clear hK K
         refine norm_ (a' := ?_) ?_ ?_
         rotate_left
         ·exact dz500
         refine pure_ (i := 3) (N := some 18) (v := ?_) (a' := ?_) (fl_ 4 16) rfl rfl (any_of HT_.out (by kernel_rfl)) (fun _ _ _ h => h) (Or.inl ⟨by rfl, ?_⟩) ?_ ?_
         rotate_left
         ·exact dz489
         rotate_left
         ·exact dz490
         refine pure_ (i := 4) (N := some 19) (v := ?_) (a' := ?_) (fl_ 5 15) rfl rfl (any_of HT_.out (by kernel_rfl)) (fun _ _ _ h => h) (Or.inl ⟨by rfl, ?_⟩) ?_ ?_
         rotate_left
         ·exact dz489
         rotate_left
         ·exact dz490
         refine pure_ (i := 6) (N := some 21) (v := ?_) (a' := ?_) #[true, true, true, true, true, false, true, false, false, false, false, false, false, false, false, false, false, false, false, false] rfl rfl (any_of HT_.out (by kernel_rfl)) (fun _ _ _ h => h) (Or.inl ⟨by rfl, ?_⟩) ?_ ?_
         rotate_left
         ·exact dz489
         rotate_left
         ·exact dz490
         refine take_ (i := 5) (N := some 20) (v := ?_) (a' := ?_) (fl_ 7 13) rfl rfl (take_ofW HT_.out HW_.out (by kernel_rfl)) (fun _ _ _ h => h) (Or.inl ⟨by rfl, ?_⟩) hHeld ?_ ?_
         rotate_left
         ·exact dz494
         rotate_left
         ·exact dz490
         refine take_ (i := 7) (N := some 22) (v := ?_) (a' := ?_) (fl_ 8 12) rfl rfl (take_ofW HT_.out HW_.out (by kernel_rfl)) (fun _ _ _ h => h) (Or.inl ⟨by rfl, ?_⟩) hHeld ?_ ?_
         rotate_left
         ·exact dz494
         rotate_left
         ·exact dz490
         refine one_ (i := 8) (N := some 23) (fl_ 9 11) rfl rfl (one_of HT_.out (by kernel_rfl)) (by decide) (fun K hK => ?_)
         refine goes_ Try.func73 (by kernel_rfl) rfl #[.agg #[.slice A0_0 l0_0.length c0_0, .int .i64 a0_1], .slice A425_1 ((rd_T50 l1_1 x11_1).f1).length c425_1] (by rfl) rfl rfl dz1 ?_
         with_reducible refine (impl_NodesOk.calls k1 _ _ l0_0 a0_1 _ _ ((rd_T50 l1_1 x11_1).f1) true _ ?side1 ?side2 ?side3 ?side4 A12.out).mono ?_
         (case side1 => exact dz485)
         (case side2 => exact HC0_0.out)
         (case side3 => exact dz486)
         (case side4 => exact HC425_1.out)
         rintro e w22 ⟨rfl, hb⟩
         refine ⟨_, rfl, ?_⟩
         replace BK421 := (bkb_ BK421 hb)
         replace BK422 := (bkb_ BK422 hb)
         replace BK426 := (bkb_ BK426 hb)
         replace HB := Aside0.mk (below_step dz31 hb)
         (try clear hb)
         (try clear hb2)
         (try clear hk)
         (try clear hi)
         refine hK.out _ _ ⟨(blk_cell BK426.out 0).trans rfl, (blk_cell BK426.out 1).trans rfl, (blk_cell BK426.out 2).trans rfl, (blk_cell BK421.out 0).trans rfl, (blk_cell BK421.out 1).trans rfl⟩ (fun hHeld => ?_)
         clear hK K
         refine norm_ (a' := ?_) ?_ ?_
         rotate_left
         ·exact dz492
         refine pure_ (i := 9) (N := some 24) (v := ?_) (a' := ?_) (fl_ 10 10) rfl rfl (any_of HT_.out (by kernel_rfl)) (fun _ _ _ h => h) (Or.inl ⟨by rfl, ?_⟩) ?_ ?_
         rotate_left
         ·exact dz489
         rotate_left
         ·exact dz490
         refine pure_ (i := 10) (N := some 25) (v := ?_) (a' := ?_) (fl_ 11 9) rfl rfl (any_of HT_.out (by kernel_rfl)) (fun _ _ _ h => h) (Or.inl ⟨by rfl, ?_⟩) ?_ ?_
         rotate_left
         ·exact dz489
         rotate_left
         ·exact dz490
         refine pure_ (i := 11) (N := some 26) (v := ?_) (a' := ?_) (fl_ 12 8) rfl rfl (any_of HT_.out (by kernel_rfl)) (fun _ _ _ h => h) (Or.inl ⟨by rfl, ?_⟩) ?_ ?_
         rotate_left
         ·exact dz489
         rotate_left
         ·exact dz490
         refine pure_ (i := 12) (N := some 27) (v := ?_) (a' := ?_) (fl_ 13 7) rfl rfl (any_of HT_.out (by kernel_rfl)) (fun _ _ _ h => h) (Or.inl ⟨by rfl, ?_⟩) ?_ ?_
         rotate_left
         ·exact dz489
         rotate_left
         ·exact dz490
         refine pure_ (i := 15) (N := some 30) (v := ?_) (a' := ?_) #[true, true, true, true, true, true, true, true, true, true, true, true, true, false, false, true, false, false, false, false] rfl rfl (any_of HT_.out (by kernel_rfl)) (fun _ _ _ h => h) (Or.inl ⟨by rfl, ?_⟩) ?_ ?_
         rotate_left
         ·exact dz489
         rotate_left
         ·exact dz490
         refine take_ (i := 13) (N := some 28) (v := ?_) (a' := ?_) #[true, true, true, true, true, true, true, true, true, true, true, true, true, true, false, true, false, false, false, false] rfl rfl (take_ofW HT_.out HW_.out (by kernel_rfl)) (fun _ _ _ h => h) (Or.inl ⟨by rfl, ?_⟩) hHeld ?_ ?_
         rotate_left
         ·exact dz494
         rotate_left
         ·exact dz490
         refine take_ (i := 14) (N := some 29) (v := ?_) (a' := ?_) (fl_ 16 4) rfl rfl (take_ofW HT_.out HW_.out (by kernel_rfl)) (fun _ _ _ h => h) (Or.inl ⟨by rfl, ?_⟩) hHeld ?_ ?_
         rotate_left
         ·exact dz494
         rotate_left
         ·exact dz490
         refine take_ (i := 16) (N := some 31) (v := ?_) (a' := ?_) (fl_ 17 3) rfl rfl (take_ofW HT_.out HW_.out (by kernel_rfl)) (fun _ _ _ h => h) (Or.inl ⟨by rfl, ?_⟩) hHeld ?_ ?_
         rotate_left
         ·exact dz494
         rotate_left
         ·exact dz490
         refine one_ (i := 17) (N := some 32) (fl_ 18 2) rfl rfl (one_of HT_.out (by kernel_rfl)) (by decide) (fun K hK => ?_)
         refine goes_ Try.func74 (by kernel_rfl) rfl #[.agg #[.slice A0_0 l0_0.length c0_0, .int .i64 a0_1], .slice A425_1 ((rd_T50 l1_1 x11_1).f1).length c425_1] (by rfl) rfl rfl dz1 ?_
         with_reducible refine (impl_Holds.calls k1 _ _ l0_0 a0_1 _ _ ((rd_T50 l1_1 x11_1).f1) t429 _ ?side1 ?side2 ?side3 ?side4 A14.out).mono ?_
         (case side1 => exact dz462)
         (case side2 => exact HC0_0.out)
         (case side3 => exact dz487)
         (case side4 => exact HC425_1.out)
         rintro e w23 ⟨rfl, hb⟩
         refine ⟨_, rfl, ?_⟩
         replace BK421 := (bkb_ BK421 hb)
         replace BK422 := (bkb_ BK422 hb)
         replace BK426 := (bkb_ BK426 hb)
         replace HB := Aside0.mk (below_step dz31 hb)
         (try clear hb)
         (try clear hb2)
         (try clear hk)
         (try clear hi)
         refine hK.out _ _ ⟨(blk_cell BK426.out 0).trans rfl, (blk_cell BK426.out 1).trans rfl, (blk_cell BK426.out 2).trans rfl, (blk_cell BK421.out 0).trans rfl, (blk_cell BK421.out 1).trans rfl⟩ (fun hHeld => ?_)
         clear hK K
         refine norm_ (a' := ?_) ?_ ?_
         rotate_left
         ·show Act.put _ (some 32) _ = _
          simp only [Act.put, List.setIfInBounds_toArray, List.set_cons_zero, List.set_cons_succ, i64_w, i32_w]
          rfl
         refine pure_ (i := 18) (N := some 33) (v := ?_) (a' := ?_) (fl_ 19 1) rfl rfl (any_of HT_.out (by kernel_rfl)) (fun _ _ _ h => h) (Or.inl ⟨by rfl, ?_⟩) ?_ ?_
         rotate_left
         ·exact dz489
         rotate_left
         ·exact dz490
         refine pure_ (i := 19) (N := some 34) (v := ?_) (a' := ?_) (fl_ 20 0) rfl rfl (any_of HT_.out (by kernel_rfl)) (fun _ _ _ h => h) (Or.inl ⟨by rfl, ?_⟩) ?_ ?_
         rotate_left
         ·exact dz489
         rotate_left
         ·exact dz490
         refine done_ (done_of HT_.out (by kernel_rfl)) ?_
         try go_wp2
         go_ret
         exact dz514
        rw [if_neg c15] at H
        have c15b0 : (((rd_T50 l1_1 x11_1).f2) != t429) = false := by simpa using c15
        (try (have c15b1 : decide (((rd_T50 l1_1 x11_1).f2) = t429) = true := by simpa using c15))
        (try (have c15b2 : (((rd_T50 l1_1 x11_1).f2) == t429) = true := by simpa using c15))
        clear c15
        replace H := Option.bind_eq_some_iff.mp H
        obtain ⟨t430, A240, H⟩ := H
        replace H : (impl_WriterOk.l0 k1 (wrap64 (x5_1 + t430)) l1_1 (l1_1.length : Int) (wrap64 (x11_1 + 1)) l0_0 a0_1 a1_0 l1_1) = some r := H
        have A24 := Aside0.mk A240
        clear A240
        have H' := Aside0.mk H
        clear H
        have p425 : 0 ≤ (x11_1 : Int) := of_decide_eq_true dz0
        have q425 : x11_1 < (l1_1.length : Int) := of_decide_eq_true dz0
        obtain ⟨ad425, A425_1, c425_1, e425, hx425_0, hx425_1, hx425_2, hl425_1, hi425_1⟩ := at_T50 HR1_1.out x11_1 p425 q425
        cases e425
        replace hx425_0 := hxl_ HB hx425_0
        replace hx425_1 := hxl_ HB hx425_1
        replace hx425_2 := hxl_ HB hx425_2
        have HR425_1 := Aside0.mk hi425_1
        have HC425_1 := Aside0.mk hl425_1
        clear hi425_1 hl425_1
        replace p425 := eq_true p425
        replace q425 := eq_true q425
        try go_wp2_with (first | ((with_reducible refine gate_dst (N := 7) rfl ?_); (try (refine gate_guard (by rfl) ?_; dsimp only)); refine box_event kr_ (N := 7) kr_ (cs := #[.string (⟨#[]⟩ : ByteArray), .slice none 0 0, .bool false]) (t := 50) ks_ ?_; intro gb426 hg w25 hbox hb; have BK426 := Aside0.mk (hbox); have GW426 : Aside0 (w.heap.size ≤ gb426) := szl_ hg dz18; have GE426 : Aside0 (w.heap.size ≤ gb426) := szl_ hg dz18; replace HB := Aside0.mk (below_step dz18 hb); have NB421_426 := (nbl_ hg BK421); have NB426_421 := (nbr_ hg BK421); replace BK421 := (bkb_ BK421 hb); have NB422_426 := (nbl_ hg BK422); have NB426_422 := (nbr_ hg BK422); replace BK422 := (bkb_ BK422 hb); clear hb hbox hg; have hnb26 := NB426_421.out; have hnc26 := NB421_426.out; have hnb27 := NB426_422.out; have hnc27 := NB422_426.out; obtain ⟨hcz28_0, hcz28_1, hcz28_2, hfz28_0, hfz28_1, hfz28_2⟩ := cz3_ BK426))
        have n0_ : Aside0 ((((w25.setCell ⟨gb426, 0, none⟩ (.string ((rd_T50 l1_1 x11_1).f0))).setCell ⟨gb426, 1, none⟩ (.slice A425_1 ((rd_T50 l1_1 x11_1).f1).length c425_1)).setCell ⟨gb426, 2, none⟩ (.bool ((rd_T50 l1_1 x11_1).f2))).heap[gb421]? = some (.cells #[.slice A0_0 l0_0.length c0_0, .int .i64 a0_1] 31 (0, 0))) := ⟨by (with_reducible repeat (first | refine blk_drewN ?_ _ | refine blk_drew ?_ | refine blk_alloc ?_ _)); refine blk_far ?_ NB421_426.out _; (with_reducible repeat (first | refine blk_drewN ?_ _ | refine blk_drew ?_ | refine blk_alloc ?_ _)); refine blk_far ?_ NB421_426.out _; (with_reducible repeat (first | refine blk_drewN ?_ _ | refine blk_drew ?_ | refine blk_alloc ?_ _)); refine blk_far ?_ NB421_426.out _; (with_reducible repeat (first | refine blk_drewN ?_ _ | refine blk_drew ?_ | refine blk_alloc ?_ _)); exact BK421.out⟩
        have n1_ : Aside0 ((((w25.setCell ⟨gb426, 0, none⟩ (.string ((rd_T50 l1_1 x11_1).f0))).setCell ⟨gb426, 1, none⟩ (.slice A425_1 ((rd_T50 l1_1 x11_1).f1).length c425_1)).setCell ⟨gb426, 2, none⟩ (.bool ((rd_T50 l1_1 x11_1).f2))).heap[gb422]? = some (.cells #[.int .i64 a1_0, .slice (some ad425) l1_1.length c1_1] 44 (0, 0))) := ⟨by (with_reducible repeat (first | refine blk_drewN ?_ _ | refine blk_drew ?_ | refine blk_alloc ?_ _)); refine blk_far ?_ NB422_426.out _; (with_reducible repeat (first | refine blk_drewN ?_ _ | refine blk_drew ?_ | refine blk_alloc ?_ _)); refine blk_far ?_ NB422_426.out _; (with_reducible repeat (first | refine blk_drewN ?_ _ | refine blk_drew ?_ | refine blk_alloc ?_ _)); refine blk_far ?_ NB422_426.out _; (with_reducible repeat (first | refine blk_drewN ?_ _ | refine blk_drew ?_ | refine blk_alloc ?_ _)); exact BK422.out⟩
        have n2_ : Aside0 ((((w25.setCell ⟨gb426, 0, none⟩ (.string ((rd_T50 l1_1 x11_1).f0))).setCell ⟨gb426, 1, none⟩ (.slice A425_1 ((rd_T50 l1_1 x11_1).f1).length c425_1)).setCell ⟨gb426, 2, none⟩ (.bool ((rd_T50 l1_1 x11_1).f2))).heap[gb426]? = some (.cells #[.string ((rd_T50 l1_1 x11_1).f0), .slice A425_1 ((rd_T50 l1_1 x11_1).f1).length c425_1, .bool ((rd_T50 l1_1 x11_1).f2)] 50 (0, 0))) := ⟨by (with_reducible repeat (first | refine blk_drewN ?_ _ | refine blk_drew ?_ | refine blk_alloc ?_ _)); refine blk_put (cs := #[.string ((rd_T50 l1_1 x11_1).f0), .slice A425_1 ((rd_T50 l1_1 x11_1).f1).length c425_1, .bool false]) ?_ 2 _ rfl; (with_reducible repeat (first | refine blk_drewN ?_ _ | refine blk_drew ?_ | refine blk_alloc ?_ _)); refine blk_put (cs := #[.string ((rd_T50 l1_1 x11_1).f0), .slice none 0 0, .bool false]) ?_ 1 _ rfl; (with_reducible repeat (first | refine blk_drewN ?_ _ | refine blk_drew ?_ | refine blk_alloc ?_ _)); refine blk_put (cs := #[.string (⟨#[]⟩ : ByteArray), .slice none 0 0, .bool false]) ?_ 0 _ rfl; (with_reducible repeat (first | refine blk_drewN ?_ _ | refine blk_drew ?_ | refine blk_alloc ?_ _)); exact BK426.out⟩
        have n3_ : Aside0 (Below w.heap.size w (((w25.setCell ⟨gb426, 0, none⟩ (.string ((rd_T50 l1_1 x11_1).f0))).setCell ⟨gb426, 1, none⟩ (.slice A425_1 ((rd_T50 l1_1 x11_1).f1).length c425_1)).setCell ⟨gb426, 2, none⟩ (.bool ((rd_T50 l1_1 x11_1).f2)))) := ⟨by repeat (first | (with_reducible first | exact HB.out | apply below_alloc | apply pw_below_drewN | apply below_drew1 | refine below_set ?_ GE421.out | refine below_set ?_ GE422.out | refine below_set ?_ GE426.out) | exact HB.out)⟩
        (try clear BK421)
        (try clear BK422)
        (try clear BK426)
        (try clear HB)
        generalize (((w25.setCell ⟨gb426, 0, none⟩ (.string ((rd_T50 l1_1 x11_1).f0))).setCell ⟨gb426, 1, none⟩ (.slice A425_1 ((rd_T50 l1_1 x11_1).f1).length c425_1)).setCell ⟨gb426, 2, none⟩ (.bool ((rd_T50 l1_1 x11_1).f2))) = w29 at n0_ n1_ n2_ n3_ ⊢
        have BK421 := n0_
        have BK422 := n1_
        have BK426 := n2_
        have HB := n3_
        clear n0_ n1_ n2_ n3_
        replace BK421 := Aside0.mk (blk_drew BK421.out)
        replace BK422 := Aside0.mk (blk_drew BK422.out)
        replace BK426 := Aside0.mk (blk_drew BK426.out)
        replace HB := Aside0.mk (below_drew1 HB.out)
        refine start_ (n := 20) (S := fun w' => w'.cell? ⟨gb426, 0, none⟩ = some (.string ((rd_T50 l1_1 x11_1).f0)) ∧ w'.cell? ⟨gb426, 1, none⟩ = some (.slice A425_1 ((rd_T50 l1_1 x11_1).f1).length c425_1) ∧ w'.cell? ⟨gb426, 2, none⟩ = some (.bool ((rd_T50 l1_1 x11_1).f2)) ∧ w'.cell? ⟨gb421, 0, none⟩ = some (.slice A0_0 l0_0.length c0_0) ∧ w'.cell? ⟨gb421, 1, none⟩ = some (.int .i64 a0_1)) (ds := []) (fl_ 0 20) (by kernel_rfl) rfl rfl ⟨(blk_cell BK426.out 0).trans rfl, (blk_cell BK426.out 1).trans rfl, (blk_cell BK426.out 2).trans rfl, (blk_cell BK421.out 0).trans rfl, (blk_cell BK421.out 1).trans rfl⟩ (fun hHeld => ?_); refine with_tabW impl_WriterOk.tab5 impl_WriterOk.bits5 (fun HT_ HW_ => ?_)
        generalize w29.drew = w30 at BK421 BK422 BK426 HB hHeld ⊢
        refine pure_ (i := 0) (N := some 15) (v := ?_) (a' := ?_) (fl_ 1 19) rfl rfl (any_of HT_.out (by kernel_rfl)) (fun _ _ _ h => h) (Or.inl ⟨by rfl, ?_⟩) ?_ ?_
        rotate_left
        ·exact dz489
        rotate_left
        ·exact dz490
        refine take_ (i := 1) (N := some 16) (v := ?_) (a' := ?_) (fl_ 2 18) rfl rfl (take_ofW HT_.out HW_.out (by kernel_rfl)) (fun _ _ _ h => h) (Or.inl ⟨by rfl, ?_⟩) hHeld ?_ ?_
        rotate_left
        ·exact dz494
        rotate_left
        ·exact dz490
        refine one_ (i := 2) (N := some 17) (fl_ 3 17) rfl rfl (one_of HT_.out (by kernel_rfl)) (by decide) (fun K hK => ?_)
        refine goes_ Try.func72 (by kernel_rfl) rfl #[.string ((rd_T50 l1_1 x11_1).f0)] (by rfl) rfl rfl dz1 ?_
        with_reducible refine (impl_dataOk.calls ((rd_T50 l1_1 x11_1).f0) true _ A10.out).mono ?_
        rintro e w' ⟨rfl, ⟨nd, rfl⟩⟩
        refine ⟨_, rfl, ?_⟩
        refine hK.out _ _ ⟨(blk_cell BK426.out 0).trans rfl, (blk_cell BK426.out 1).trans rfl, (blk_cell BK426.out 2).trans rfl, (blk_cell BK421.out 0).trans rfl, (blk_cell BK421.out 1).trans rfl⟩ (fun hHeld => ?_)
        clear hK K
        refine norm_ (a' := ?_) ?_ ?_
        rotate_left
        ·exact dz500
        refine pure_ (i := 3) (N := some 18) (v := ?_) (a' := ?_) (fl_ 4 16) rfl rfl (any_of HT_.out (by kernel_rfl)) (fun _ _ _ h => h) (Or.inl ⟨by rfl, ?_⟩) ?_ ?_
        rotate_left
        ·exact dz489
        rotate_left
        ·exact dz490
        refine pure_ (i := 4) (N := some 19) (v := ?_) (a' := ?_) (fl_ 5 15) rfl rfl (any_of HT_.out (by kernel_rfl)) (fun _ _ _ h => h) (Or.inl ⟨by rfl, ?_⟩) ?_ ?_
        rotate_left
        ·exact dz489
        rotate_left
        ·exact dz490
        refine pure_ (i := 6) (N := some 21) (v := ?_) (a' := ?_) #[true, true, true, true, true, false, true, false, false, false, false, false, false, false, false, false, false, false, false, false] rfl rfl (any_of HT_.out (by kernel_rfl)) (fun _ _ _ h => h) (Or.inl ⟨by rfl, ?_⟩) ?_ ?_
        rotate_left
        ·exact dz489
        rotate_left
        ·exact dz490
        refine take_ (i := 5) (N := some 20) (v := ?_) (a' := ?_) (fl_ 7 13) rfl rfl (take_ofW HT_.out HW_.out (by kernel_rfl)) (fun _ _ _ h => h) (Or.inl ⟨by rfl, ?_⟩) hHeld ?_ ?_
        rotate_left
        ·exact dz494
        rotate_left
        ·exact dz490
        refine take_ (i := 7) (N := some 22) (v := ?_) (a' := ?_) (fl_ 8 12) rfl rfl (take_ofW HT_.out HW_.out (by kernel_rfl)) (fun _ _ _ h => h) (Or.inl ⟨by rfl, ?_⟩) hHeld ?_ ?_
        rotate_left
        ·exact dz494
        rotate_left
        ·exact dz490
        refine one_ (i := 8) (N := some 23) (fl_ 9 11) rfl rfl (one_of HT_.out (by kernel_rfl)) (by decide) (fun K hK => ?_)
        refine goes_ Try.func73 (by kernel_rfl) rfl #[.agg #[.slice A0_0 l0_0.length c0_0, .int .i64 a0_1], .slice A425_1 ((rd_T50 l1_1 x11_1).f1).length c425_1] (by rfl) rfl rfl dz1 ?_
        with_reducible refine (impl_NodesOk.calls k1 _ _ l0_0 a0_1 _ _ ((rd_T50 l1_1 x11_1).f1) true _ ?side1 ?side2 ?side3 ?side4 A12.out).mono ?_
        (case side1 => exact dz485)
        (case side2 => exact HC0_0.out)
        (case side3 => exact dz486)
        (case side4 => exact HC425_1.out)
        rintro e w31 ⟨rfl, hb⟩
        refine ⟨_, rfl, ?_⟩
        replace BK421 := (bkb_ BK421 hb)
        replace BK422 := (bkb_ BK422 hb)
        replace BK426 := (bkb_ BK426 hb)
        replace HB := Aside0.mk (below_step dz31 hb)
        (try clear hb)
        (try clear hb2)
        (try clear hk)
        (try clear hi)
        refine hK.out _ _ ⟨(blk_cell BK426.out 0).trans rfl, (blk_cell BK426.out 1).trans rfl, (blk_cell BK426.out 2).trans rfl, (blk_cell BK421.out 0).trans rfl, (blk_cell BK421.out 1).trans rfl⟩ (fun hHeld => ?_)
        clear hK K
        refine norm_ (a' := ?_) ?_ ?_
        rotate_left
        ·exact dz492
        refine pure_ (i := 9) (N := some 24) (v := ?_) (a' := ?_) (fl_ 10 10) rfl rfl (any_of HT_.out (by kernel_rfl)) (fun _ _ _ h => h) (Or.inl ⟨by rfl, ?_⟩) ?_ ?_
        rotate_left
        ·exact dz489
        rotate_left
        ·exact dz490
        refine pure_ (i := 10) (N := some 25) (v := ?_) (a' := ?_) (fl_ 11 9) rfl rfl (any_of HT_.out (by kernel_rfl)) (fun _ _ _ h => h) (Or.inl ⟨by rfl, ?_⟩) ?_ ?_
        rotate_left
        ·exact dz489
        rotate_left
        ·exact dz490
        refine pure_ (i := 11) (N := some 26) (v := ?_) (a' := ?_) (fl_ 12 8) rfl rfl (any_of HT_.out (by kernel_rfl)) (fun _ _ _ h => h) (Or.inl ⟨by rfl, ?_⟩) ?_ ?_
        rotate_left
        ·exact dz489
        rotate_left
        ·exact dz490
        refine pure_ (i := 12) (N := some 27) (v := ?_) (a' := ?_) (fl_ 13 7) rfl rfl (any_of HT_.out (by kernel_rfl)) (fun _ _ _ h => h) (Or.inl ⟨by rfl, ?_⟩) ?_ ?_
        rotate_left
        ·exact dz489
        rotate_left
        ·exact dz490
        refine pure_ (i := 15) (N := some 30) (v := ?_) (a' := ?_) #[true, true, true, true, true, true, true, true, true, true, true, true, true, false, false, true, false, false, false, false] rfl rfl (any_of HT_.out (by kernel_rfl)) (fun _ _ _ h => h) (Or.inl ⟨by rfl, ?_⟩) ?_ ?_
        rotate_left
        ·exact dz489
        rotate_left
        ·exact dz490
        refine take_ (i := 13) (N := some 28) (v := ?_) (a' := ?_) #[true, true, true, true, true, true, true, true, true, true, true, true, true, true, false, true, false, false, false, false] rfl rfl (take_ofW HT_.out HW_.out (by kernel_rfl)) (fun _ _ _ h => h) (Or.inl ⟨by rfl, ?_⟩) hHeld ?_ ?_
        rotate_left
        ·exact dz494
        rotate_left
        ·exact dz490
        refine take_ (i := 14) (N := some 29) (v := ?_) (a' := ?_) (fl_ 16 4) rfl rfl (take_ofW HT_.out HW_.out (by kernel_rfl)) (fun _ _ _ h => h) (Or.inl ⟨by rfl, ?_⟩) hHeld ?_ ?_
        rotate_left
        ·exact dz494
        rotate_left
        ·exact dz490
        refine take_ (i := 16) (N := some 31) (v := ?_) (a' := ?_) (fl_ 17 3) rfl rfl (take_ofW HT_.out HW_.out (by kernel_rfl)) (fun _ _ _ h => h) (Or.inl ⟨by rfl, ?_⟩) hHeld ?_ ?_
        rotate_left
        ·exact dz494
        rotate_left
        ·exact dz490
        refine one_ (i := 17) (N := some 32) (fl_ 18 2) rfl rfl (one_of HT_.out (by kernel_rfl)) (by decide) (fun K hK => ?_)
        refine goes_ Try.func74 (by kernel_rfl) rfl #[.agg #[.slice A0_0 l0_0.length c0_0, .int .i64 a0_1], .slice A425_1 ((rd_T50 l1_1 x11_1).f1).length c425_1] (by rfl) rfl rfl dz1 ?_
        with_reducible refine (impl_Holds.calls k1 _ _ l0_0 a0_1 _ _ ((rd_T50 l1_1 x11_1).f1) t429 _ ?side1 ?side2 ?side3 ?side4 A14.out).mono ?_
        (case side1 => exact dz462)
        (case side2 => exact HC0_0.out)
        (case side3 => exact dz487)
        (case side4 => exact HC425_1.out)
        rintro e w32 ⟨rfl, hb⟩
        refine ⟨_, rfl, ?_⟩
        replace BK421 := (bkb_ BK421 hb)
        replace BK422 := (bkb_ BK422 hb)
        replace BK426 := (bkb_ BK426 hb)
        replace HB := Aside0.mk (below_step dz31 hb)
        (try clear hb)
        (try clear hb2)
        (try clear hk)
        (try clear hi)
        refine hK.out _ _ ⟨(blk_cell BK426.out 0).trans rfl, (blk_cell BK426.out 1).trans rfl, (blk_cell BK426.out 2).trans rfl, (blk_cell BK421.out 0).trans rfl, (blk_cell BK421.out 1).trans rfl⟩ (fun hHeld => ?_)
        clear hK K
        refine norm_ (a' := ?_) ?_ ?_
        rotate_left
        ·show Act.put _ (some 32) _ = _
         simp only [Act.put, List.setIfInBounds_toArray, List.set_cons_zero, List.set_cons_succ, i64_w, i32_w]
         rfl
        refine pure_ (i := 18) (N := some 33) (v := ?_) (a' := ?_) (fl_ 19 1) rfl rfl (any_of HT_.out (by kernel_rfl)) (fun _ _ _ h => h) (Or.inl ⟨by rfl, ?_⟩) ?_ ?_
        rotate_left
        ·exact dz489
        rotate_left
        ·exact dz490
        refine pure_ (i := 19) (N := some 34) (v := ?_) (a' := ?_) (fl_ 20 0) rfl rfl (any_of HT_.out (by kernel_rfl)) (fun _ _ _ h => h) (Or.inl ⟨by rfl, ?_⟩) ?_ ?_
        rotate_left
        ·exact dz489
        rotate_left
        ·exact dz490
        refine done_ (done_of HT_.out (by kernel_rfl)) ?_
        obtain ⟨hcz33_0, hcz33_1, hcz33_2, hfz33_0, hfz33_1, hfz33_2⟩ := cz3_ BK426
        try go_wp2_with (first | ((with_reducible refine gate_callee (f := 75) rfl ?_); refine goesL_ (some 39) rfl rfl Try.func75 (by kernel_rfl) rfl #[.bool (!((rd_T50 l1_1 x11_1).f2))] rfl dz1 ?_; (with_reducible refine (impl_flagNum.calls (!((rd_T50 l1_1 x11_1).f2)) t430 _ A24.out).mono ?_); rintro e w' ⟨rfl, ⟨nd, rfl⟩⟩; refine ⟨_, rfl, ?_⟩))
        go_roundg k1
        case measure => have := HK1.out; omega
        case rel => exact ⟨(wrap64 (x5_1 + t430)), (wrap64 (x11_1 + 1)), dz3, dz3, H', ⟨by have := HK1.out; omega⟩, ⟨by (with_reducible repeat (first | refine blk_drewN ?_ _ | refine blk_drew ?_ | refine blk_alloc ?_ _)); exact BK421.out⟩, ⟨by (with_reducible repeat (first | refine blk_drewN ?_ _ | refine blk_drew ?_ | refine blk_alloc ?_ _)); exact BK422.out⟩, ⟨by repeat (first | (with_reducible first | exact HB.out | apply below_alloc | apply pw_below_drewN | apply below_drew1 | refine below_set ?_ GE421.out | refine below_set ?_ GE422.out | refine below_set ?_ GE426.out) | exact HB.out)⟩⟩
       replace c13 := Bool.eq_false_iff.mpr c13
       subst c13
       have H1 : (some false) = some r := by rw [if_neg (show ¬ (false = true) by decide)] at H; exact H
       clear H
       have H := H1
       clear H1
       obtain rfl := Option.some.inj H
       have p425 : 0 ≤ (x11_1 : Int) := of_decide_eq_true dz0
       have q425 : x11_1 < (l1_1.length : Int) := of_decide_eq_true dz0
       obtain ⟨ad425, A425_1, c425_1, e425, hx425_0, hx425_1, hx425_2, hl425_1, hi425_1⟩ := at_T50 HR1_1.out x11_1 p425 q425
       cases e425
       replace hx425_0 := hxl_ HB hx425_0
       replace hx425_1 := hxl_ HB hx425_1
       replace hx425_2 := hxl_ HB hx425_2
       have HR425_1 := Aside0.mk hi425_1
       have HC425_1 := Aside0.mk hl425_1
       clear hi425_1 hl425_1
       replace p425 := eq_true p425
       replace q425 := eq_true q425
       try go_wp2_with (first | ((with_reducible refine gate_dst (N := 7) rfl ?_); (try (refine gate_guard (by rfl) ?_; dsimp only)); refine box_event kr_ (N := 7) kr_ (cs := #[.string (⟨#[]⟩ : ByteArray), .slice none 0 0, .bool false]) (t := 50) ks_ ?_; intro gb426 hg w34 hbox hb; have BK426 := Aside0.mk (hbox); have GW426 : Aside0 (w.heap.size ≤ gb426) := szl_ hg dz18; have GE426 : Aside0 (w.heap.size ≤ gb426) := szl_ hg dz18; replace HB := Aside0.mk (below_step dz18 hb); have NB421_426 := (nbl_ hg BK421); have NB426_421 := (nbr_ hg BK421); replace BK421 := (bkb_ BK421 hb); have NB422_426 := (nbl_ hg BK422); have NB426_422 := (nbr_ hg BK422); replace BK422 := (bkb_ BK422 hb); clear hb hbox hg; have hnb35 := NB426_421.out; have hnc35 := NB421_426.out; have hnb36 := NB426_422.out; have hnc36 := NB422_426.out; obtain ⟨hcz37_0, hcz37_1, hcz37_2, hfz37_0, hfz37_1, hfz37_2⟩ := cz3_ BK426))
       have n0_ : Aside0 ((((w34.setCell ⟨gb426, 0, none⟩ (.string ((rd_T50 l1_1 x11_1).f0))).setCell ⟨gb426, 1, none⟩ (.slice A425_1 ((rd_T50 l1_1 x11_1).f1).length c425_1)).setCell ⟨gb426, 2, none⟩ (.bool ((rd_T50 l1_1 x11_1).f2))).heap[gb421]? = some (.cells #[.slice A0_0 l0_0.length c0_0, .int .i64 a0_1] 31 (0, 0))) := ⟨by (with_reducible repeat (first | refine blk_drewN ?_ _ | refine blk_drew ?_ | refine blk_alloc ?_ _)); refine blk_far ?_ NB421_426.out _; (with_reducible repeat (first | refine blk_drewN ?_ _ | refine blk_drew ?_ | refine blk_alloc ?_ _)); refine blk_far ?_ NB421_426.out _; (with_reducible repeat (first | refine blk_drewN ?_ _ | refine blk_drew ?_ | refine blk_alloc ?_ _)); refine blk_far ?_ NB421_426.out _; (with_reducible repeat (first | refine blk_drewN ?_ _ | refine blk_drew ?_ | refine blk_alloc ?_ _)); exact BK421.out⟩
       have n1_ : Aside0 ((((w34.setCell ⟨gb426, 0, none⟩ (.string ((rd_T50 l1_1 x11_1).f0))).setCell ⟨gb426, 1, none⟩ (.slice A425_1 ((rd_T50 l1_1 x11_1).f1).length c425_1)).setCell ⟨gb426, 2, none⟩ (.bool ((rd_T50 l1_1 x11_1).f2))).heap[gb422]? = some (.cells #[.int .i64 a1_0, .slice (some ad425) l1_1.length c1_1] 44 (0, 0))) := ⟨by (with_reducible repeat (first | refine blk_drewN ?_ _ | refine blk_drew ?_ | refine blk_alloc ?_ _)); refine blk_far ?_ NB422_426.out _; (with_reducible repeat (first | refine blk_drewN ?_ _ | refine blk_drew ?_ | refine blk_alloc ?_ _)); refine blk_far ?_ NB422_426.out _; (with_reducible repeat (first | refine blk_drewN ?_ _ | refine blk_drew ?_ | refine blk_alloc ?_ _)); refine blk_far ?_ NB422_426.out _; (with_reducible repeat (first | refine blk_drewN ?_ _ | refine blk_drew ?_ | refine blk_alloc ?_ _)); exact BK422.out⟩
       have n2_ : Aside0 ((((w34.setCell ⟨gb426, 0, none⟩ (.string ((rd_T50 l1_1 x11_1).f0))).setCell ⟨gb426, 1, none⟩ (.slice A425_1 ((rd_T50 l1_1 x11_1).f1).length c425_1)).setCell ⟨gb426, 2, none⟩ (.bool ((rd_T50 l1_1 x11_1).f2))).heap[gb426]? = some (.cells #[.string ((rd_T50 l1_1 x11_1).f0), .slice A425_1 ((rd_T50 l1_1 x11_1).f1).length c425_1, .bool ((rd_T50 l1_1 x11_1).f2)] 50 (0, 0))) := ⟨by (with_reducible repeat (first | refine blk_drewN ?_ _ | refine blk_drew ?_ | refine blk_alloc ?_ _)); refine blk_put (cs := #[.string ((rd_T50 l1_1 x11_1).f0), .slice A425_1 ((rd_T50 l1_1 x11_1).f1).length c425_1, .bool false]) ?_ 2 _ rfl; (with_reducible repeat (first | refine blk_drewN ?_ _ | refine blk_drew ?_ | refine blk_alloc ?_ _)); refine blk_put (cs := #[.string ((rd_T50 l1_1 x11_1).f0), .slice none 0 0, .bool false]) ?_ 1 _ rfl; (with_reducible repeat (first | refine blk_drewN ?_ _ | refine blk_drew ?_ | refine blk_alloc ?_ _)); refine blk_put (cs := #[.string (⟨#[]⟩ : ByteArray), .slice none 0 0, .bool false]) ?_ 0 _ rfl; (with_reducible repeat (first | refine blk_drewN ?_ _ | refine blk_drew ?_ | refine blk_alloc ?_ _)); exact BK426.out⟩
       have n3_ : Aside0 (Below w.heap.size w (((w34.setCell ⟨gb426, 0, none⟩ (.string ((rd_T50 l1_1 x11_1).f0))).setCell ⟨gb426, 1, none⟩ (.slice A425_1 ((rd_T50 l1_1 x11_1).f1).length c425_1)).setCell ⟨gb426, 2, none⟩ (.bool ((rd_T50 l1_1 x11_1).f2)))) := ⟨by repeat (first | (with_reducible first | exact HB.out | apply below_alloc | apply pw_below_drewN | apply below_drew1 | refine below_set ?_ GE421.out | refine below_set ?_ GE422.out | refine below_set ?_ GE426.out) | exact HB.out)⟩
       (try clear BK421)
       (try clear BK422)
       (try clear BK426)
       (try clear HB)
       generalize (((w34.setCell ⟨gb426, 0, none⟩ (.string ((rd_T50 l1_1 x11_1).f0))).setCell ⟨gb426, 1, none⟩ (.slice A425_1 ((rd_T50 l1_1 x11_1).f1).length c425_1)).setCell ⟨gb426, 2, none⟩ (.bool ((rd_T50 l1_1 x11_1).f2))) = w38 at n0_ n1_ n2_ n3_ ⊢
       have BK421 := n0_
       have BK422 := n1_
       have BK426 := n2_
       have HB := n3_
       clear n0_ n1_ n2_ n3_
       replace BK421 := Aside0.mk (blk_drew BK421.out)
       replace BK422 := Aside0.mk (blk_drew BK422.out)
       replace BK426 := Aside0.mk (blk_drew BK426.out)
       replace HB := Aside0.mk (below_drew1 HB.out)
       refine start_ (n := 20) (S := fun w' => w'.cell? ⟨gb426, 0, none⟩ = some (.string ((rd_T50 l1_1 x11_1).f0)) ∧ w'.cell? ⟨gb426, 1, none⟩ = some (.slice A425_1 ((rd_T50 l1_1 x11_1).f1).length c425_1) ∧ w'.cell? ⟨gb426, 2, none⟩ = some (.bool ((rd_T50 l1_1 x11_1).f2)) ∧ w'.cell? ⟨gb421, 0, none⟩ = some (.slice A0_0 l0_0.length c0_0) ∧ w'.cell? ⟨gb421, 1, none⟩ = some (.int .i64 a0_1)) (ds := []) (fl_ 0 20) (by kernel_rfl) rfl rfl ⟨(blk_cell BK426.out 0).trans rfl, (blk_cell BK426.out 1).trans rfl, (blk_cell BK426.out 2).trans rfl, (blk_cell BK421.out 0).trans rfl, (blk_cell BK421.out 1).trans rfl⟩ (fun hHeld => ?_); refine with_tabW impl_WriterOk.tab5 impl_WriterOk.bits5 (fun HT_ HW_ => ?_)
       generalize w38.drew = w39 at BK421 BK422 BK426 HB hHeld ⊢
       refine pure_ (i := 0) (N := some 15) (v := ?_) (a' := ?_) (fl_ 1 19) rfl rfl (any_of HT_.out (by kernel_rfl)) (fun _ _ _ h => h) (Or.inl ⟨by rfl, ?_⟩) ?_ ?_
       rotate_left
       ·exact dz489
       rotate_left
       ·exact dz490
       refine take_ (i := 1) (N := some 16) (v := ?_) (a' := ?_) (fl_ 2 18) rfl rfl (take_ofW HT_.out HW_.out (by kernel_rfl)) (fun _ _ _ h => h) (Or.inl ⟨by rfl, ?_⟩) hHeld ?_ ?_
       rotate_left
       ·exact dz494
       rotate_left
       ·exact dz490
       refine one_ (i := 2) (N := some 17) (fl_ 3 17) rfl rfl (one_of HT_.out (by kernel_rfl)) (by decide) (fun K hK => ?_)
       refine goes_ Try.func72 (by kernel_rfl) rfl #[.string ((rd_T50 l1_1 x11_1).f0)] (by rfl) rfl rfl dz1 ?_
       with_reducible refine (impl_dataOk.calls ((rd_T50 l1_1 x11_1).f0) true _ A10.out).mono ?_
       rintro e w' ⟨rfl, ⟨nd, rfl⟩⟩
       refine ⟨_, rfl, ?_⟩
       refine hK.out _ _ ⟨(blk_cell BK426.out 0).trans rfl, (blk_cell BK426.out 1).trans rfl, (blk_cell BK426.out 2).trans rfl, (blk_cell BK421.out 0).trans rfl, (blk_cell BK421.out 1).trans rfl⟩ (fun hHeld => ?_)
       clear hK K
       refine norm_ (a' := ?_) ?_ ?_
       rotate_left
       ·exact dz500
       refine pure_ (i := 3) (N := some 18) (v := ?_) (a' := ?_) (fl_ 4 16) rfl rfl (any_of HT_.out (by kernel_rfl)) (fun _ _ _ h => h) (Or.inl ⟨by rfl, ?_⟩) ?_ ?_
       rotate_left
       ·exact dz489
       rotate_left
       ·exact dz490
       refine pure_ (i := 4) (N := some 19) (v := ?_) (a' := ?_) (fl_ 5 15) rfl rfl (any_of HT_.out (by kernel_rfl)) (fun _ _ _ h => h) (Or.inl ⟨by rfl, ?_⟩) ?_ ?_
       rotate_left
       ·exact dz489
       rotate_left
       ·exact dz490
       refine pure_ (i := 6) (N := some 21) (v := ?_) (a' := ?_) #[true, true, true, true, true, false, true, false, false, false, false, false, false, false, false, false, false, false, false, false] rfl rfl (any_of HT_.out (by kernel_rfl)) (fun _ _ _ h => h) (Or.inl ⟨by rfl, ?_⟩) ?_ ?_
       rotate_left
       ·exact dz489
       rotate_left
       ·exact dz490
       refine take_ (i := 5) (N := some 20) (v := ?_) (a' := ?_) (fl_ 7 13) rfl rfl (take_ofW HT_.out HW_.out (by kernel_rfl)) (fun _ _ _ h => h) (Or.inl ⟨by rfl, ?_⟩) hHeld ?_ ?_
       rotate_left
       ·exact dz494
       rotate_left
       ·exact dz490
       refine take_ (i := 7) (N := some 22) (v := ?_) (a' := ?_) (fl_ 8 12) rfl rfl (take_ofW HT_.out HW_.out (by kernel_rfl)) (fun _ _ _ h => h) (Or.inl ⟨by rfl, ?_⟩) hHeld ?_ ?_
       rotate_left
       ·exact dz494
       rotate_left
       ·exact dz490
       refine one_ (i := 8) (N := some 23) (fl_ 9 11) rfl rfl (one_of HT_.out (by kernel_rfl)) (by decide) (fun K hK => ?_)
       refine goes_ Try.func73 (by kernel_rfl) rfl #[.agg #[.slice A0_0 l0_0.length c0_0, .int .i64 a0_1], .slice A425_1 ((rd_T50 l1_1 x11_1).f1).length c425_1] (by rfl) rfl rfl dz1 ?_
       with_reducible refine (impl_NodesOk.calls k1 _ _ l0_0 a0_1 _ _ ((rd_T50 l1_1 x11_1).f1) false _ ?side1 ?side2 ?side3 ?side4 A12.out).mono ?_
       (case side1 => exact dz485)
       (case side2 => exact HC0_0.out)
       (case side3 => exact dz486)
       (case side4 => exact HC425_1.out)
       rintro e w40 ⟨rfl, hb⟩
       refine ⟨_, rfl, ?_⟩
       replace BK421 := (bkb_ BK421 hb)
       replace BK422 := (bkb_ BK422 hb)
       replace BK426 := (bkb_ BK426 hb)
       replace HB := Aside0.mk (below_step dz31 hb)
       (try clear hb)
       (try clear hb2)
       (try clear hk)
       (try clear hi)
       refine hK.out _ _ ⟨(blk_cell BK426.out 0).trans rfl, (blk_cell BK426.out 1).trans rfl, (blk_cell BK426.out 2).trans rfl, (blk_cell BK421.out 0).trans rfl, (blk_cell BK421.out 1).trans rfl⟩ (fun hHeld => ?_)
       clear hK K
       refine norm_ (a' := ?_) ?_ ?_
       rotate_left
       ·exact dz492
       refine pure_ (i := 9) (N := some 24) (v := ?_) (a' := ?_) (fl_ 10 10) rfl rfl (any_of HT_.out (by kernel_rfl)) (fun _ _ _ h => h) (Or.inl ⟨by rfl, ?_⟩) ?_ ?_
       rotate_left
       ·exact dz489
       rotate_left
       ·exact dz490
       refine pure_ (i := 10) (N := some 25) (v := ?_) (a' := ?_) (fl_ 11 9) rfl rfl (any_of HT_.out (by kernel_rfl)) (fun _ _ _ h => h) (Or.inl ⟨by rfl, ?_⟩) ?_ ?_
       rotate_left
       ·exact dz489
       rotate_left
       ·exact dz490
       refine pure_ (i := 11) (N := some 26) (v := ?_) (a' := ?_) (fl_ 12 8) rfl rfl (any_of HT_.out (by kernel_rfl)) (fun _ _ _ h => h) (Or.inl ⟨by rfl, ?_⟩) ?_ ?_
       rotate_left
       ·exact dz489
       rotate_left
       ·exact dz490
       refine pure_ (i := 12) (N := some 27) (v := undef) (a' := ?_) (fl_ 13 7) rfl rfl (any_of HT_.out (by kernel_rfl)) (fun _ _ _ h => h) (Or.inr ⟨by rfl, rfl⟩) ?_ ?_
       rotate_left
       ·exact dz490
       refine pure_ (i := 13) (N := some 28) (v := undef) (a' := ?_) (fl_ 14 6) rfl rfl (any_of HT_.out (by kernel_rfl)) (fun _ _ _ h => h) (Or.inr ⟨by rfl, rfl⟩) ?_ ?_
       rotate_left
       ·exact dz490
       refine pure_ (i := 14) (N := some 29) (v := undef) (a' := ?_) (fl_ 15 5) rfl rfl (any_of HT_.out (by kernel_rfl)) (fun _ _ _ h => h) (Or.inr ⟨by rfl, rfl⟩) ?_ ?_
       rotate_left
       ·exact dz490
       refine pure_ (i := 15) (N := some 30) (v := undef) (a' := ?_) (fl_ 16 4) rfl rfl (any_of HT_.out (by kernel_rfl)) (fun _ _ _ h => h) (Or.inr ⟨by rfl, rfl⟩) ?_ ?_
       rotate_left
       ·exact dz490
       refine pure_ (i := 16) (N := some 31) (v := undef) (a' := ?_) (fl_ 17 3) rfl rfl (any_of HT_.out (by kernel_rfl)) (fun _ _ _ h => h) (Or.inr ⟨by rfl, rfl⟩) ?_ ?_
       rotate_left
       ·exact dz490
       refine pure_ (i := 17) (N := some 32) (v := undef) (a' := ?_) (fl_ 18 2) rfl rfl (any_of HT_.out (by kernel_rfl)) (fun _ _ _ h => h) (Or.inr ⟨by rfl, rfl⟩) ?_ ?_
       rotate_left
       ·exact dz490
       refine pure_ (i := 18) (N := some 33) (v := undef) (a' := ?_) (fl_ 19 1) rfl rfl (any_of HT_.out (by kernel_rfl)) (fun _ _ _ h => h) (Or.inr ⟨by rfl, rfl⟩) ?_ ?_
       rotate_left
       ·exact dz490
       refine pure_ (i := 19) (N := some 34) (v := ?_) (a' := ?_) (fl_ 20 0) rfl rfl (any_of HT_.out (by kernel_rfl)) (fun _ _ _ h => h) (Or.inl ⟨by rfl, ?_⟩) ?_ ?_
       rotate_left
       ·exact dz489
       rotate_left
       ·exact dz490
       refine done_ (done_of HT_.out (by kernel_rfl)) ?_
       try go_wp2
       go_ret
       exact dz514
      replace c11 := Bool.eq_false_iff.mpr c11
      subst c11
      have H1 : (some false) = some r := by rw [if_neg (show ¬ (false = true) by decide)] at H; exact H
      clear H
      have H := H1
      clear H1
      obtain rfl := Option.some.inj H
      have p425 : 0 ≤ (x11_1 : Int) := of_decide_eq_true dz0
      have q425 : x11_1 < (l1_1.length : Int) := of_decide_eq_true dz0
      obtain ⟨ad425, A425_1, c425_1, e425, hx425_0, hx425_1, hx425_2, hl425_1, hi425_1⟩ := at_T50 HR1_1.out x11_1 p425 q425
      cases e425
      replace hx425_0 := hxl_ HB hx425_0
      replace hx425_1 := hxl_ HB hx425_1
      replace hx425_2 := hxl_ HB hx425_2
      have HR425_1 := Aside0.mk hi425_1
      have HC425_1 := Aside0.mk hl425_1
      clear hi425_1 hl425_1
      replace p425 := eq_true p425
      replace q425 := eq_true q425
      try go_wp2_with (first | ((with_reducible refine gate_dst (N := 7) rfl ?_); (try (refine gate_guard (by rfl) ?_; dsimp only)); refine box_event kr_ (N := 7) kr_ (cs := #[.string (⟨#[]⟩ : ByteArray), .slice none 0 0, .bool false]) (t := 50) ks_ ?_; intro gb426 hg w41 hbox hb; have BK426 := Aside0.mk (hbox); have GW426 : Aside0 (w.heap.size ≤ gb426) := szl_ hg dz18; have GE426 : Aside0 (w.heap.size ≤ gb426) := szl_ hg dz18; replace HB := Aside0.mk (below_step dz18 hb); have NB421_426 := (nbl_ hg BK421); have NB426_421 := (nbr_ hg BK421); replace BK421 := (bkb_ BK421 hb); have NB422_426 := (nbl_ hg BK422); have NB426_422 := (nbr_ hg BK422); replace BK422 := (bkb_ BK422 hb); clear hb hbox hg; have hnb42 := NB426_421.out; have hnc42 := NB421_426.out; have hnb43 := NB426_422.out; have hnc43 := NB422_426.out; obtain ⟨hcz44_0, hcz44_1, hcz44_2, hfz44_0, hfz44_1, hfz44_2⟩ := cz3_ BK426))
      have n0_ : Aside0 ((((w41.setCell ⟨gb426, 0, none⟩ (.string ((rd_T50 l1_1 x11_1).f0))).setCell ⟨gb426, 1, none⟩ (.slice A425_1 ((rd_T50 l1_1 x11_1).f1).length c425_1)).setCell ⟨gb426, 2, none⟩ (.bool ((rd_T50 l1_1 x11_1).f2))).heap[gb421]? = some (.cells #[.slice A0_0 l0_0.length c0_0, .int .i64 a0_1] 31 (0, 0))) := ⟨by (with_reducible repeat (first | refine blk_drewN ?_ _ | refine blk_drew ?_ | refine blk_alloc ?_ _)); refine blk_far ?_ NB421_426.out _; (with_reducible repeat (first | refine blk_drewN ?_ _ | refine blk_drew ?_ | refine blk_alloc ?_ _)); refine blk_far ?_ NB421_426.out _; (with_reducible repeat (first | refine blk_drewN ?_ _ | refine blk_drew ?_ | refine blk_alloc ?_ _)); refine blk_far ?_ NB421_426.out _; (with_reducible repeat (first | refine blk_drewN ?_ _ | refine blk_drew ?_ | refine blk_alloc ?_ _)); exact BK421.out⟩
      have n1_ : Aside0 ((((w41.setCell ⟨gb426, 0, none⟩ (.string ((rd_T50 l1_1 x11_1).f0))).setCell ⟨gb426, 1, none⟩ (.slice A425_1 ((rd_T50 l1_1 x11_1).f1).length c425_1)).setCell ⟨gb426, 2, none⟩ (.bool ((rd_T50 l1_1 x11_1).f2))).heap[gb422]? = some (.cells #[.int .i64 a1_0, .slice (some ad425) l1_1.length c1_1] 44 (0, 0))) := ⟨by (with_reducible repeat (first | refine blk_drewN ?_ _ | refine blk_drew ?_ | refine blk_alloc ?_ _)); refine blk_far ?_ NB422_426.out _; (with_reducible repeat (first | refine blk_drewN ?_ _ | refine blk_drew ?_ | refine blk_alloc ?_ _)); refine blk_far ?_ NB422_426.out _; (with_reducible repeat (first | refine blk_drewN ?_ _ | refine blk_drew ?_ | refine blk_alloc ?_ _)); refine blk_far ?_ NB422_426.out _; (with_reducible repeat (first | refine blk_drewN ?_ _ | refine blk_drew ?_ | refine blk_alloc ?_ _)); exact BK422.out⟩
      have n2_ : Aside0 ((((w41.setCell ⟨gb426, 0, none⟩ (.string ((rd_T50 l1_1 x11_1).f0))).setCell ⟨gb426, 1, none⟩ (.slice A425_1 ((rd_T50 l1_1 x11_1).f1).length c425_1)).setCell ⟨gb426, 2, none⟩ (.bool ((rd_T50 l1_1 x11_1).f2))).heap[gb426]? = some (.cells #[.string ((rd_T50 l1_1 x11_1).f0), .slice A425_1 ((rd_T50 l1_1 x11_1).f1).length c425_1, .bool ((rd_T50 l1_1 x11_1).f2)] 50 (0, 0))) := ⟨by (with_reducible repeat (first | refine blk_drewN ?_ _ | refine blk_drew ?_ | refine blk_alloc ?_ _)); refine blk_put (cs := #[.string ((rd_T50 l1_1 x11_1).f0), .slice A425_1 ((rd_T50 l1_1 x11_1).f1).length c425_1, .bool false]) ?_ 2 _ rfl; (with_reducible repeat (first | refine blk_drewN ?_ _ | refine blk_drew ?_ | refine blk_alloc ?_ _)); refine blk_put (cs := #[.string ((rd_T50 l1_1 x11_1).f0), .slice none 0 0, .bool false]) ?_ 1 _ rfl; (with_reducible repeat (first | refine blk_drewN ?_ _ | refine blk_drew ?_ | refine blk_alloc ?_ _)); refine blk_put (cs := #[.string (⟨#[]⟩ : ByteArray), .slice none 0 0, .bool false]) ?_ 0 _ rfl; (with_reducible repeat (first | refine blk_drewN ?_ _ | refine blk_drew ?_ | refine blk_alloc ?_ _)); exact BK426.out⟩
      have n3_ : Aside0 (Below w.heap.size w (((w41.setCell ⟨gb426, 0, none⟩ (.string ((rd_T50 l1_1 x11_1).f0))).setCell ⟨gb426, 1, none⟩ (.slice A425_1 ((rd_T50 l1_1 x11_1).f1).length c425_1)).setCell ⟨gb426, 2, none⟩ (.bool ((rd_T50 l1_1 x11_1).f2)))) := ⟨by repeat (first | (with_reducible first | exact HB.out | apply below_alloc | apply pw_below_drewN | apply below_drew1 | refine below_set ?_ GE421.out | refine below_set ?_ GE422.out | refine below_set ?_ GE426.out) | exact HB.out)⟩
      (try clear BK421)
      (try clear BK422)
      (try clear BK426)
      (try clear HB)
      generalize (((w41.setCell ⟨gb426, 0, none⟩ (.string ((rd_T50 l1_1 x11_1).f0))).setCell ⟨gb426, 1, none⟩ (.slice A425_1 ((rd_T50 l1_1 x11_1).f1).length c425_1)).setCell ⟨gb426, 2, none⟩ (.bool ((rd_T50 l1_1 x11_1).f2))) = w45 at n0_ n1_ n2_ n3_ ⊢
      have BK421 := n0_
      have BK422 := n1_
      have BK426 := n2_
      have HB := n3_
      clear n0_ n1_ n2_ n3_
      replace BK421 := Aside0.mk (blk_drew BK421.out)
      replace BK422 := Aside0.mk (blk_drew BK422.out)
      replace BK426 := Aside0.mk (blk_drew BK426.out)
      replace HB := Aside0.mk (below_drew1 HB.out)
      refine start_ (n := 20) (S := fun w' => w'.cell? ⟨gb426, 0, none⟩ = some (.string ((rd_T50 l1_1 x11_1).f0)) ∧ w'.cell? ⟨gb426, 1, none⟩ = some (.slice A425_1 ((rd_T50 l1_1 x11_1).f1).length c425_1) ∧ w'.cell? ⟨gb426, 2, none⟩ = some (.bool ((rd_T50 l1_1 x11_1).f2))) (ds := []) (fl_ 0 20) (by kernel_rfl) rfl rfl ⟨(blk_cell BK426.out 0).trans rfl, (blk_cell BK426.out 1).trans rfl, (blk_cell BK426.out 2).trans rfl⟩ (fun hHeld => ?_); refine with_tabW impl_WriterOk.tab5 impl_WriterOk.bits5 (fun HT_ HW_ => ?_)
      generalize w45.drew = w46 at BK421 BK422 BK426 HB hHeld ⊢
      refine pure_ (i := 0) (N := some 15) (v := ?_) (a' := ?_) (fl_ 1 19) rfl rfl (any_of HT_.out (by kernel_rfl)) (fun _ _ _ h => h) (Or.inl ⟨by rfl, ?_⟩) ?_ ?_
      rotate_left
      ·exact dz489
      rotate_left
      ·exact dz490
      refine take_ (i := 1) (N := some 16) (v := ?_) (a' := ?_) (fl_ 2 18) rfl rfl (take_ofW HT_.out HW_.out (by kernel_rfl)) (fun _ _ _ h => h) (Or.inl ⟨by rfl, ?_⟩) hHeld ?_ ?_
      rotate_left
      ·rintro w' ⟨s0, s1, s2⟩
       go_simp
       with_reducible rfl
      rotate_left
      ·exact dz490
      refine one_ (i := 2) (N := some 17) (fl_ 3 17) rfl rfl (one_of HT_.out (by kernel_rfl)) (by decide) (fun K hK => ?_)
      refine goes_ Try.func72 (by kernel_rfl) rfl #[.string ((rd_T50 l1_1 x11_1).f0)] (by rfl) rfl rfl dz1 ?_
      with_reducible refine (impl_dataOk.calls ((rd_T50 l1_1 x11_1).f0) false _ A10.out).mono ?_
      rintro e w' ⟨rfl, ⟨nd, rfl⟩⟩
      refine ⟨_, rfl, ?_⟩
      refine hK.out _ _ ⟨(blk_cell BK426.out 0).trans rfl, (blk_cell BK426.out 1).trans rfl, (blk_cell BK426.out 2).trans rfl⟩ (fun hHeld => ?_)
      clear hK K
      refine norm_ (a' := ?_) ?_ ?_
      rotate_left
      ·exact dz500
      refine pure_ (i := 3) (N := some 18) (v := ?_) (a' := ?_) (fl_ 4 16) rfl rfl (any_of HT_.out (by kernel_rfl)) (fun _ _ _ h => h) (Or.inl ⟨by rfl, ?_⟩) ?_ ?_
      rotate_left
      ·exact dz489
      rotate_left
      ·exact dz490
      refine pure_ (i := 4) (N := some 19) (v := ?_) (a' := ?_) (fl_ 5 15) rfl rfl (any_of HT_.out (by kernel_rfl)) (fun _ _ _ h => h) (Or.inl ⟨by rfl, ?_⟩) ?_ ?_
      rotate_left
      ·exact dz489
      rotate_left
      ·exact dz490
      refine pure_ (i := 5) (N := some 20) (v := undef) (a' := ?_) (fl_ 6 14) rfl rfl (any_of HT_.out (by kernel_rfl)) (fun _ _ _ h => h) (Or.inr ⟨by rfl, rfl⟩) ?_ ?_
      rotate_left
      ·exact dz490
      refine pure_ (i := 6) (N := some 21) (v := undef) (a' := ?_) (fl_ 7 13) rfl rfl (any_of HT_.out (by kernel_rfl)) (fun _ _ _ h => h) (Or.inr ⟨by rfl, rfl⟩) ?_ ?_
      rotate_left
      ·exact dz490
      refine pure_ (i := 7) (N := some 22) (v := undef) (a' := ?_) (fl_ 8 12) rfl rfl (any_of HT_.out (by kernel_rfl)) (fun _ _ _ h => h) (Or.inr ⟨by rfl, rfl⟩) ?_ ?_
      rotate_left
      ·exact dz490
      refine pure_ (i := 8) (N := some 23) (v := undef) (a' := ?_) (fl_ 9 11) rfl rfl (any_of HT_.out (by kernel_rfl)) (fun _ _ _ h => h) (Or.inr ⟨by rfl, rfl⟩) ?_ ?_
      rotate_left
      ·exact dz490
      refine pure_ (i := 9) (N := some 24) (v := undef) (a' := ?_) (fl_ 10 10) rfl rfl (any_of HT_.out (by kernel_rfl)) (fun _ _ _ h => h) (Or.inr ⟨by rfl, rfl⟩) ?_ ?_
      rotate_left
      ·exact dz490
      refine pure_ (i := 10) (N := some 25) (v := ?_) (a' := ?_) (fl_ 11 9) rfl rfl (any_of HT_.out (by kernel_rfl)) (fun _ _ _ h => h) (Or.inl ⟨by rfl, ?_⟩) ?_ ?_
      rotate_left
      ·exact dz489
      rotate_left
      ·exact dz490
      refine pure_ (i := 11) (N := some 26) (v := ?_) (a' := ?_) (fl_ 12 8) rfl rfl (any_of HT_.out (by kernel_rfl)) (fun _ _ _ h => h) (Or.inl ⟨by rfl, ?_⟩) ?_ ?_
      rotate_left
      ·exact dz489
      rotate_left
      ·exact dz490
      refine pure_ (i := 12) (N := some 27) (v := undef) (a' := ?_) (fl_ 13 7) rfl rfl (any_of HT_.out (by kernel_rfl)) (fun _ _ _ h => h) (Or.inr ⟨by rfl, rfl⟩) ?_ ?_
      rotate_left
      ·exact dz490
      refine pure_ (i := 13) (N := some 28) (v := undef) (a' := ?_) (fl_ 14 6) rfl rfl (any_of HT_.out (by kernel_rfl)) (fun _ _ _ h => h) (Or.inr ⟨by rfl, rfl⟩) ?_ ?_
      rotate_left
      ·exact dz490
      refine pure_ (i := 14) (N := some 29) (v := undef) (a' := ?_) (fl_ 15 5) rfl rfl (any_of HT_.out (by kernel_rfl)) (fun _ _ _ h => h) (Or.inr ⟨by rfl, rfl⟩) ?_ ?_
      rotate_left
      ·exact dz490
      refine pure_ (i := 15) (N := some 30) (v := undef) (a' := ?_) (fl_ 16 4) rfl rfl (any_of HT_.out (by kernel_rfl)) (fun _ _ _ h => h) (Or.inr ⟨by rfl, rfl⟩) ?_ ?_
      rotate_left
      ·exact dz490
      refine pure_ (i := 16) (N := some 31) (v := undef) (a' := ?_) (fl_ 17 3) rfl rfl (any_of HT_.out (by kernel_rfl)) (fun _ _ _ h => h) (Or.inr ⟨by rfl, rfl⟩) ?_ ?_
      rotate_left
      ·exact dz490
      refine pure_ (i := 17) (N := some 32) (v := undef) (a' := ?_) (fl_ 18 2) rfl rfl (any_of HT_.out (by kernel_rfl)) (fun _ _ _ h => h) (Or.inr ⟨by rfl, rfl⟩) ?_ ?_
      rotate_left
      ·exact dz490
      refine pure_ (i := 18) (N := some 33) (v := undef) (a' := ?_) (fl_ 19 1) rfl rfl (any_of HT_.out (by kernel_rfl)) (fun _ _ _ h => h) (Or.inr ⟨by rfl, rfl⟩) ?_ ?_
      rotate_left
      ·exact dz490
      refine pure_ (i := 19) (N := some 34) (v := ?_) (a' := ?_) (fl_ 20 0) rfl rfl (any_of HT_.out (by kernel_rfl)) (fun _ _ _ h => h) (Or.inl ⟨by rfl, ?_⟩) ?_ ?_
      rotate_left
      ·exact dz489
      rotate_left
      ·exact dz490
      refine done_ (done_of HT_.out (by kernel_rfl)) ?_
      try go_wp2
      go_ret
      exact dz514
     rw [if_neg c9] at H
     exact absurd H (by simp)
    rw [if_neg c8] at H
    exact absurd H (by simp)
   rw [if_neg c7] at H
   have c7b0 : decide (x11_1 < (l1_1.length : Int)) = false := decide_eq_false c7
   clear c7
   replace H := Option.bind_eq_some_iff.mp H
   obtain ⟨t423, A470, H⟩ := H
   replace H : (if t423 = true then ((impl_isEpoch.f a1_0).bind fun t424 => (if t424 = true then (if (l1_1.length : Int) ≤ 60 then (some (decide (x5_1 ≤ 6))) else (some false)) else (some false))) else (some false)) = some r := H
   have A47 := Aside0.mk A470
   clear A470
   by_cases c48 : t423 = true
   ·subst c48
    have H1 : ((impl_isEpoch.f a1_0).bind fun t424 => (if t424 = true then (if (l1_1.length : Int) ≤ 60 then (some (decide (x5_1 ≤ 6))) else (some false)) else (some false))) = some r := by rw [if_pos rfl] at H; exact H
    clear H
    have H := H1
    clear H1
    replace H := Option.bind_eq_some_iff.mp H
    obtain ⟨t424, A490, H⟩ := H
    replace H : (if t424 = true then (if (l1_1.length : Int) ≤ 60 then (some (decide (x5_1 ≤ 6))) else (some false)) else (some false)) = some r := H
    have A49 := Aside0.mk A490
    clear A490
    by_cases c50 : t424 = true
    ·subst c50
     have H1 : (if (l1_1.length : Int) ≤ 60 then (some (decide (x5_1 ≤ 6))) else (some false)) = some r := by rw [if_pos rfl] at H; exact H
     clear H
     have H := H1
     clear H1
     by_cases c51 : (l1_1.length : Int) ≤ 60
     ·rw [if_pos c51] at H
      have c51b0 : decide ((l1_1.length : Int) ≤ 60) = true := decide_eq_true c51
      have c51b1 : decide (l1_1.length ≤ 60) = true := decide_eq_true (by omega)
      clear c51
      obtain rfl := Option.some.inj H
      have hnb52 := NB421_422.out
      have hnc52 := NB422_421.out
      obtain ⟨hcz53_0, hcz53_1, hfz53_0, hfz53_1⟩ := cz2_ BK421
      go_wp2_with (first | ((with_reducible refine gate_callee (f := 60) rfl ?_); refine goesL_ (some 43) rfl rfl Try.func60 (by kernel_rfl) rfl #[.agg #[.slice A0_0 l0_0.length c0_0, .int .i64 a0_1]] rfl dz1 ?_; (with_reducible refine (impl_ConfigOk.calls k1 _ _ l0_0 a0_1 true _ ?side1 ?side2 A47.out).mono ?_); (case side1 => exact dz462); (case side2 => exact HC0_0.out); rintro e w54 ⟨rfl, hb⟩; refine ⟨_, rfl, ?_⟩; replace BK421 := (bkb_ BK421 hb); replace BK422 := (bkb_ BK422 hb); replace HB := Aside0.mk (below_step dz18 hb); (try clear hb); (try clear hb2); (try clear hk); (try clear hi); obtain ⟨hcz55_0, hcz55_1, hfz55_0, hfz55_1⟩ := cz2_ BK422) | (go_at_call 76; (with_reducible refine (impl_isEpoch.calls a1_0 true _ A49.out).mono ?_); rintro e w' ⟨rfl, ⟨nd, rfl⟩⟩))
      go_ret
      exact dz515
     rw [if_neg c51] at H
     have c51b0 : decide ((l1_1.length : Int) ≤ 60) = false := decide_eq_false c51
     have c51b1 : decide (l1_1.length ≤ 60) = false := decide_eq_false (by omega)
     clear c51
     obtain rfl := Option.some.inj H
     have hnb56 := NB421_422.out
     have hnc56 := NB422_421.out
     obtain ⟨hcz57_0, hcz57_1, hfz57_0, hfz57_1⟩ := cz2_ BK421
     go_wp2_with (first | ((with_reducible refine gate_callee (f := 60) rfl ?_); refine goesL_ (some 43) rfl rfl Try.func60 (by kernel_rfl) rfl #[.agg #[.slice A0_0 l0_0.length c0_0, .int .i64 a0_1]] rfl dz1 ?_; (with_reducible refine (impl_ConfigOk.calls k1 _ _ l0_0 a0_1 true _ ?side1 ?side2 A47.out).mono ?_); (case side1 => exact dz462); (case side2 => exact HC0_0.out); rintro e w58 ⟨rfl, hb⟩; refine ⟨_, rfl, ?_⟩; replace BK421 := (bkb_ BK421 hb); replace BK422 := (bkb_ BK422 hb); replace HB := Aside0.mk (below_step dz18 hb); (try clear hb); (try clear hb2); (try clear hk); (try clear hi); obtain ⟨hcz59_0, hcz59_1, hfz59_0, hfz59_1⟩ := cz2_ BK422) | (go_at_call 76; (with_reducible refine (impl_isEpoch.calls a1_0 true _ A49.out).mono ?_); rintro e w' ⟨rfl, ⟨nd, rfl⟩⟩))
     go_ret
     exact dz515
    replace c50 := Bool.eq_false_iff.mpr c50
    subst c50
    have H1 : (some false) = some r := by rw [if_neg (show ¬ (false = true) by decide)] at H; exact H
    clear H
    have H := H1
    clear H1
    obtain rfl := Option.some.inj H
    have hnb60 := NB421_422.out
    have hnc60 := NB422_421.out
    obtain ⟨hcz61_0, hcz61_1, hfz61_0, hfz61_1⟩ := cz2_ BK421
    go_wp2_with (first | ((with_reducible refine gate_callee (f := 60) rfl ?_); refine goesL_ (some 43) rfl rfl Try.func60 (by kernel_rfl) rfl #[.agg #[.slice A0_0 l0_0.length c0_0, .int .i64 a0_1]] rfl dz1 ?_; (with_reducible refine (impl_ConfigOk.calls k1 _ _ l0_0 a0_1 true _ ?side1 ?side2 A47.out).mono ?_); (case side1 => exact dz462); (case side2 => exact HC0_0.out); rintro e w62 ⟨rfl, hb⟩; refine ⟨_, rfl, ?_⟩; replace BK421 := (bkb_ BK421 hb); replace BK422 := (bkb_ BK422 hb); replace HB := Aside0.mk (below_step dz18 hb); (try clear hb); (try clear hb2); (try clear hk); (try clear hi); obtain ⟨hcz63_0, hcz63_1, hfz63_0, hfz63_1⟩ := cz2_ BK422) | (go_at_call 76; (with_reducible refine (impl_isEpoch.calls a1_0 false _ A49.out).mono ?_); rintro e w' ⟨rfl, ⟨nd, rfl⟩⟩))
    go_ret
    exact dz515
   replace c48 := Bool.eq_false_iff.mpr c48
   subst c48
   have H1 : (some false) = some r := by rw [if_neg (show ¬ (false = true) by decide)] at H; exact H
   clear H
   have H := H1
   clear H1
   obtain rfl := Option.some.inj H
   have hnb64 := NB421_422.out
   have hnc64 := NB422_421.out
   obtain ⟨hcz65_0, hcz65_1, hfz65_0, hfz65_1⟩ := cz2_ BK421
   go_wp2_with (first | ((with_reducible refine gate_callee (f := 60) rfl ?_); refine goesL_ (some 43) rfl rfl Try.func60 (by kernel_rfl) rfl #[.agg #[.slice A0_0 l0_0.length c0_0, .int .i64 a0_1]] rfl dz1 ?_; (with_reducible refine (impl_ConfigOk.calls k1 _ _ l0_0 a0_1 false _ ?side1 ?side2 A47.out).mono ?_); (case side1 => exact dz462); (case side2 => exact HC0_0.out); rintro e w66 ⟨rfl, hb⟩; refine ⟨_, rfl, ?_⟩; replace BK421 := (bkb_ BK421 hb); replace BK422 := (bkb_ BK422 hb); replace HB := Aside0.mk (below_step dz18 hb); (try clear hb); (try clear hb2); (try clear hk); (try clear hi)))
   go_ret
   exact dz515
end Go.Proofs.Ytdkdhciogedoiab.PFnAdded
