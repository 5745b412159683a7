-- Written by wip/gen/pack.py of this repo. Lean checks it.
import Derived.Test.YtdkdhciogedoiaaKFnSureToP0
import Derived.Test.YtdkdhciogedoiaaKFnSureToP1
import Derived.Test.YtdkdhciogedoiaaKFnSureToP3
import Derived.Test.YtdkdhciogedoiaaKFnSureToD
namespace Go.Proofs.Ytdkdhciogedoiaa.PFnSureTo
open Go.RowKit Go.Proofs.YtdkdhciogedoiaaW.PrintWords Go.Proofs.YtdkdhciogedoiaaW.PrintLast Go.Proofs.YtdkdhciogedoiaaW.PrintMore Go.Proofs.YtdkdhciogedoiaaW.Sq
attribute [local go_sem] max2_int min2_int max_two min_two max_three min_three max_four min_four
set_option linter.unusedVariables false
set_option linter.unusedSimpArgs false
def spec_l8Copy.l0 : Nat → Int → Int → List (S53) → Int → List (S53) → Option (Int × (List (S53)))
 | 0, _, _, _, _, _ => none
 | k + 1, x4, x155000, x155001, x157000, x157001 => if x4 < (x155001.length : Int) then (if 0 ≤ x4 then ((some (([] : List Int) : List Int)).bind fun y159 => (if y159.length + ((rd_T53 x155001 x4).f1).length < 17592186044416 then (if x157001.length < 2932031007402 then (spec_l8Copy.l0 k (wrap64 (x4 + 1)) x155000 x155001 x157000 (x157001 ++ [(⟨(rd_T53 x155001 x4).f0, (y159 ++ ((rd_T53 x155001 x4).f1)), (rd_T53 x155001 x4).f2⟩ : S53)])) else (none)) else (none))) else (none)) else (some (x157000, x157001))
def spec_l8Copy.f (k : Nat) (a0_0 : Int) (l0_1 : List (S53)) : Option (Int × (List (S53))) := spec_l8Copy.l0 k 0 a0_0 l0_1 a0_0 ([] : List (S53))
set_option maxHeartbeats 8000000 in
set_option maxRecDepth 100000 in
theorem spec_l8Copy.calls (k : Nat) (a0_0 : Int) (A0_1 : Option Addr) (c0_1 : Nat) (l0_1 : List (S53)) (r1 : Int) (r2 : List (S53)) (w : World) (hr0_1 : Kd.C k53 w A0_1 l0_1.length l0_1) (hc0_1 : l0_1.length ≤ c0_1) (h : spec_l8Copy.f k a0_0 l0_1 = some (r1, r2)) :
  Calls Try.prog 143 #[.agg #[.int .i64 a0_0, .slice A0_1 l0_1.length c0_1]] w fun e w' => ∃ v1_ : Value, e = .returned (.agg #[.int .i64 r1, v1_]) ∧ Kd.S k53 53 w' w.heap.size (fun _ => True) v1_ r2 ∧ Below w.heap.size w w' := by
 have hu49 := Try.underlying49
 have hu53 := Try.underlying53
 have HR0_1 := Aside0.mk hr0_1
 have HC0_1 := Aside0.mk hc0_1
 clear hr0_1 hc0_1
 have HB := Aside0.mk (Below.refl w.heap.size w)
 have H : (spec_l8Copy.l0 k 0 a0_0 l0_1 a0_0 ([] : List (S53))) = some (r1, r2) := h
 clear h
 have H' := Aside0.mk H
 clear H
 go_enter Try.func143, Try.ntmps143
 go_wp2_with (first | ((with_reducible refine gate_dst (N := 1) rfl ?_); refine box_event kr_ (N := 1) kr_ (cs := #[.int .i64 a0_0, .slice A0_1 l0_1.length c0_1]) (t := 49) ks_ ?_; intro gb154 hg w2 hbox hb; have BK154 := Aside0.mk (hbox); have GW154 : Aside0 (w.heap.size ≤ gb154) := szl_ hg dz2; have GE154 : Aside0 (w.heap.size ≤ gb154) := szl_ hg dz2; replace HB := Aside0.mk (below_step dz2 hb); clear hb hbox hg) | ((with_reducible refine gate_dst (N := 2) rfl ?_); refine box_event kr_ (N := 2) kr_ (cs := #[.int .i64 0, .slice none 0 0]) (t := 49) ks_ ?_; intro gb155 hg w3 hbox hb; have BK155 := Aside0.mk (hbox); have GW155 : Aside0 (w.heap.size ≤ gb155) := szl_ hg dz70; have GE155 : Aside0 (w.heap.size ≤ gb155) := szl_ hg dz70; replace HB := Aside0.mk (below_step dz70 hb); have NB154_155 := (nbl_ hg BK154); have NB155_154 := (nbr_ hg BK154); replace BK154 := (bkb_ BK154 hb); clear hb hbox hg; have hnb4 := NB154_155.out; have hnc4 := NB155_154.out; obtain ⟨hcz5_0, hcz5_1, hfz5_0, hfz5_1⟩ := cz2_ BK154) | ((with_reducible refine gate_dst (N := 3) rfl ?_); refine box_event kr_ (N := 3) kr_ (cs := #[.int .i64 0, .slice none 0 0]) (t := 49) ks_ ?_; intro gb156 hg w4 hbox hb; have BK156 := Aside0.mk (hbox); have GW156 : Aside0 (w.heap.size ≤ gb156) := szl_ hg dz71; have GE156 : Aside0 (w.heap.size ≤ gb156) := szl_ hg dz71; replace HB := Aside0.mk (below_step dz71 hb); have NB154_156 := (nbl_ hg BK154); have NB156_154 := (nbr_ hg BK154); replace BK154 := (bkb_ BK154 hb); have NB155_156 := (nbl_ hg BK155); have NB156_155 := (nbr_ hg BK155); replace BK155 := (bkb_ BK155 hb); clear hb hbox hg; have hnb7 := NB156_154.out; have hnc7 := NB154_156.out; have hnb8 := NB156_155.out; have hnc8 := NB155_156.out; obtain ⟨hcz9_0, hcz9_1, hfz9_0, hfz9_1⟩ := cz2_ BK156))
 go_loopg [4] k (fun kq v4 w' => ∃ (x4_1 : Int) (x157001_1 : List (S53)) (u157001 : Value), v4 = .int .i64 x4_1 ∧ Aside0 (spec_l8Copy.l0 kq x4_1 a0_0 l0_1 a0_0 x157001_1 = some (r1, r2)) ∧ Aside0 (kq ≤ k) ∧ Aside0 (Kd.S k53 53 w' w.heap.size (fun _ => True) u157001 x157001_1) ∧ Aside0 (w'.heap[gb154]? = some (.cells #[.int .i64 a0_0, (.slice A0_1 l0_1.length c0_1)] 49 (0, 0))) ∧ Aside0 (w'.heap[gb155]? = some (.cells #[.int .i64 0, (.slice none 0 0)] 49 (0, 0))) ∧ Aside0 (w'.heap[gb156]? = some (.cells #[.int .i64 a0_0, u157001] 49 (0, 0))) ∧ Aside0 (Below w.heap.size w w'))
 case atStart => exact ⟨(0), (([] : List (S53))), (.slice none 0 0), dz3, H', ⟨Nat.le_refl _⟩, ⟨by first | exact Kd.S_nil _ _ _ _ _ | exact Kd.N_nil _ _ _ _ _ | exact Kd.V_nil _ _ _ _ _ | exact Kd.Q_nil _ _ _ _ _ | exact Kd.R_nil _ _ _ _ _⟩, ⟨by (with_reducible repeat (first | refine blk_drewN ?_ _ | refine blk_drew ?_ | refine blk_alloc ?_ _)); refine blk_far ?_ NB154_156.out _; (with_reducible repeat (first | refine blk_drewN ?_ _ | refine blk_drew ?_ | refine blk_alloc ?_ _)); refine blk_far ?_ NB154_156.out _; (with_reducible repeat (first | refine blk_drewN ?_ _ | refine blk_drew ?_ | refine blk_alloc ?_ _)); exact BK154.out⟩, ⟨by (with_reducible repeat (first | refine blk_drewN ?_ _ | refine blk_drew ?_ | refine blk_alloc ?_ _)); refine blk_far ?_ NB155_156.out _; (with_reducible repeat (first | refine blk_drewN ?_ _ | refine blk_drew ?_ | refine blk_alloc ?_ _)); refine blk_far ?_ NB155_156.out _; (with_reducible repeat (first | refine blk_drewN ?_ _ | refine blk_drew ?_ | refine blk_alloc ?_ _)); exact BK155.out⟩, ⟨by (with_reducible repeat (first | refine blk_drewN ?_ _ | refine blk_drew ?_ | refine blk_alloc ?_ _)); refine blk_put (cs := #[.int .i64 a0_0, .slice none 0 0]) ?_ 1 _ rfl; (with_reducible repeat (first | refine blk_drewN ?_ _ | refine blk_drew ?_ | refine blk_alloc ?_ _)); refine blk_put (cs := #[.int .i64 0, .slice none 0 0]) ?_ 0 _ rfl; (with_reducible repeat (first | refine blk_drewN ?_ _ | refine blk_drew ?_ | refine blk_alloc ?_ _)); exact BK156.out⟩, ⟨by repeat (first | (with_reducible first | exact HB.out | apply below_alloc | apply pw_below_drewN | apply below_drew1 | refine below_set ?_ GE154.out | refine below_set ?_ GE155.out | refine below_set ?_ GE156.out) | exact HB.out)⟩⟩
 case round =>
  clear H'
  try clear c1
  try clear p2
  try clear c4
  try clear c7
  try clear c8
  try clear hcz5_0
  try clear hcz5_1
  try clear hcz9_0
  try clear hcz9_1
  try clear hfz5_0
  try clear hfz5_1
  try clear hfz9_0
  try clear hfz9_1
  obtain ⟨x4_1, x157001_1, u157001, rfl, HA, HK1, HO_157001, BK154, BK155, BK156, HB⟩ := hrel
  cases gk with
  | zero => exact absurd HA.out (by simp [spec_l8Copy.l0])
  | succ k1 =>
   have H := HA.out
   clear HA
   simp only [spec_l8Copy.l0] at H
   by_cases c10 : x4_1 < (l0_1.length : Int)
   ·rw [if_pos c10] at H
    have c10b0 : decide (x4_1 < (l0_1.length : Int)) = true := decide_eq_true c10
    clear c10
    by_cases c11 : 0 ≤ x4_1
    ·rw [if_pos c11] at H
     have c11b0 : decide (0 ≤ x4_1) = true := decide_eq_true c11
     clear c11
     obtain ⟨y159, hy159⟩ : ∃ y_ : List Int, y_ = (([] : List Int)) := ⟨_, rfl⟩
     replace H : (if y159.length + ((rd_T53 l0_1 x4_1).f1).length < 17592186044416 then (if x157001_1.length < 2932031007402 then (spec_l8Copy.l0 k1 (wrap64 (x4_1 + 1)) a0_0 l0_1 a0_0 (x157001_1 ++ [(⟨(rd_T53 l0_1 x4_1).f0, (y159 ++ ((rd_T53 l0_1 x4_1).f1)), (rd_T53 l0_1 x4_1).f2⟩ : S53)])) else (none)) else (none)) = some (r1, r2) := by first | (rw [hy159]; with_reducible exact H) | (have H2_ := (Option.bind_some _ _).symm.trans H; rw [hy159]; with_reducible exact H2_) | (have H2_ := (Option.bind_some _ _).symm.trans H; with_reducible exact H2_) | with_reducible exact H | (rw [hy159]; exact H) | exact H
     have Ny159 := Aside0.mk hy159
     clear hy159
     by_cases c12 : y159.length + ((rd_T53 l0_1 x4_1).f1).length < 17592186044416
     ·rw [if_pos c12] at H
      have LMc12 := Aside0.mk c12
      clear c12
      obtain ⟨y162, hy162⟩ : ∃ y_ : List Int, y_ = (y159 ++ ((rd_T53 l0_1 x4_1).f1)) := ⟨_, rfl⟩
      replace H : (if x157001_1.length < 2932031007402 then (spec_l8Copy.l0 k1 (wrap64 (x4_1 + 1)) a0_0 l0_1 a0_0 (x157001_1 ++ [(⟨(rd_T53 l0_1 x4_1).f0, y162, (rd_T53 l0_1 x4_1).f2⟩ : S53)])) else (none)) = some (r1, r2) := by first | (rw [hy162]; with_reducible exact H) | (have H2_ := (Option.bind_some _ _).symm.trans H; rw [hy162]; with_reducible exact H2_) | (have H2_ := (Option.bind_some _ _).symm.trans H; with_reducible exact H2_) | with_reducible exact H | (rw [hy162]; exact H) | exact H
      have Ny162 := Aside0.mk hy162
      clear hy162
      by_cases c13 : x157001_1.length < 2932031007402
      ·rw [if_pos c13] at H
       have LMc13 := Aside0.mk c13
       clear c13
       obtain ⟨y165, hy165⟩ : ∃ y_ : List (S53), y_ = (x157001_1 ++ [(⟨(rd_T53 l0_1 x4_1).f0, y162, (rd_T53 l0_1 x4_1).f2⟩ : S53)]) := ⟨_, rfl⟩
       replace H : (spec_l8Copy.l0 k1 (wrap64 (x4_1 + 1)) a0_0 l0_1 a0_0 y165) = some (r1, r2) := by first | (rw [hy165]; with_reducible exact H) | (have H2_ := (Option.bind_some _ _).symm.trans H; rw [hy165]; with_reducible exact H2_) | (have H2_ := (Option.bind_some _ _).symm.trans H; with_reducible exact H2_) | with_reducible exact H | (rw [hy165]; exact H) | exact H
       have Ny165 := Aside0.mk hy165
       clear hy165
       have H' := Aside0.mk H
       clear H
       have hnb14 := NB154_155.out
       have hnc14 := NB155_154.out
       have hnb15 := NB154_156.out
       have hnc15 := NB156_154.out
       obtain ⟨hcz16_0, hcz16_1, hfz16_0, hfz16_1⟩ := cz2_ BK154
       have p157 : 0 ≤ (x4_1 : Int) := of_decide_eq_true dz0
       have q157 : x4_1 < (l0_1.length : Int) := of_decide_eq_true dz0
       obtain ⟨ad157, A157_1, c157_1, e157, hx157_0, hx157_1, hx157_2, hl157_1, hi157_1⟩ := at_T53 HR0_1.out x4_1 p157 q157
       cases e157
       replace hx157_0 := hxl_ HB hx157_0
       replace hx157_1 := hxl_ HB hx157_1
       replace hx157_2 := hxl_ HB hx157_2
       have HR157_1 := Aside0.mk hi157_1
       have HC157_1 := Aside0.mk hl157_1
       clear hi157_1 hl157_1
       replace p157 := eq_true p157
       replace q157 := eq_true q157
       go_wp2_with (first | ((with_reducible refine gate_dst (N := 5) rfl ?_); refine box_event kr_ (N := 5) kr_ (cs := #[.string (⟨#[]⟩ : ByteArray), .slice none 0 0, .bool false]) (t := 53) ks_ ?_; intro gb158 hg w17 hbox hb; replace HO_157001 := Aside0.mk (Kd.S_below (Kd.S_elderB (by (with_reducible repeat (first | apply Kd.S_alloc | apply Kd.S_drewN | apply Kd.S_drew)); exact HO_157001.out) gb158 (Nat.le_of_eq hg.symm)) hb); have BK158 := Aside0.mk (hbox); have GW158 : Aside0 (w.heap.size ≤ gb158) := szl_ hg dz72; have GE158 : Aside0 (w.heap.size ≤ gb158) := szl_ hg dz72; replace HB := Aside0.mk (below_step dz72 hb); have NB154_158 := (nbl_ hg BK154); have NB158_154 := (nbr_ hg BK154); replace BK154 := (bkb_ BK154 hb); have NB155_158 := (nbl_ hg BK155); have NB158_155 := (nbr_ hg BK155); replace BK155 := (bkb_ BK155 hb); have NB156_158 := (nbl_ hg BK156); have NB158_156 := (nbr_ hg BK156); replace BK156 := (bkb_ BK156 hb); clear hb hbox hg; have hnb18 := NB158_154.out; have hnc18 := NB154_158.out; have hnb19 := NB158_155.out; have hnc19 := NB155_158.out; have hnb20 := NB158_156.out; have hnc20 := NB156_158.out; obtain ⟨hcz21_0, hcz21_1, hcz21_2, hfz21_0, hfz21_1, hfz21_2⟩ := cz3_ BK158) | ((with_reducible refine gate_dst (N := 21) rfl ?_); refine Kd.R_lit (Kd.int .i64) _ 3 ?hg (N := 21) ?hd (xs := ([] : List Int)) (inner := []) (ok := fun _ => True) (okp := fun _ => True) ?hr ?hp (fun _ hk => hk) trivial (Below.refl _ _) (Nat.le_refl _) (by simp) ?_; (case hd => rfl); (case hg => rfl); (case hr => first | (go_simp; done) | (go_simp; rfl)); (case hp => exact (Reps.none _ _)); intro v160 w22 ho23 hb hg_ hnew_; clear hg_ hnew_; (first | rw [← Ny159.out] at ho23 | (simp only [Int.reduceToNat] at ho23; rw [← Ny159.out] at ho23)); replace HO_157001 := Aside0.mk (Kd.S_elder' (by (with_reducible repeat (first | apply Kd.S_alloc | apply Kd.S_drewN | apply Kd.S_drew)); exact (Kd.S_mono (Kd.S_far (p := ⟨gb158, 2, none⟩) (Kd.S_far (p := ⟨gb158, 1, none⟩) (Kd.S_far (p := ⟨gb158, 0, none⟩) (Kd.S_mono HO_157001.out (fun k_ hk => (⟨hk, hk.2⟩ : _ ∧ k_ ≠ gb158))) (fun _ hk => hk.2) (.string ((rd_T53 l0_1 x4_1).f0))) (fun _ hk => hk.2) (.slice A157_1 ((rd_T53 l0_1 x4_1).f1).length c157_1)) (fun _ hk => hk.2) (.bool ((rd_T53 l0_1 x4_1).f2))) (fun _ h_ => h_.1))) (Kd.R_base ho23) hb); have HO161 := Aside0.mk (Kd.R_lower ho23 (below_size dz29)); replace BK154 := Aside0.mk (blk_below (g := gb154) (o := .cells #[.int .i64 a0_0, .slice (some ad157) l0_1.length c0_1] 49 (0, 0)) (by (with_reducible repeat (first | refine blk_drewN ?_ _ | refine blk_drew ?_ | refine blk_alloc ?_ _)); refine blk_far ?_ NB154_158.out _; (with_reducible repeat (first | refine blk_drewN ?_ _ | refine blk_drew ?_ | refine blk_alloc ?_ _)); refine blk_far ?_ NB154_158.out _; (with_reducible repeat (first | refine blk_drewN ?_ _ | refine blk_drew ?_ | refine blk_alloc ?_ _)); refine blk_far ?_ NB154_158.out _; (with_reducible repeat (first | refine blk_drewN ?_ _ | refine blk_drew ?_ | refine blk_alloc ?_ _)); exact BK154.out) hb); replace BK155 := Aside0.mk (blk_below (g := gb155) (o := .cells #[.int .i64 0, .slice none 0 0] 49 (0, 0)) (by (with_reducible repeat (first | refine blk_drewN ?_ _ | refine blk_drew ?_ | refine blk_alloc ?_ _)); refine blk_far ?_ NB155_158.out _; (with_reducible repeat (first | refine blk_drewN ?_ _ | refine blk_drew ?_ | refine blk_alloc ?_ _)); refine blk_far ?_ NB155_158.out _; (with_reducible repeat (first | refine blk_drewN ?_ _ | refine blk_drew ?_ | refine blk_alloc ?_ _)); refine blk_far ?_ NB155_158.out _; (with_reducible repeat (first | refine blk_drewN ?_ _ | refine blk_drew ?_ | refine blk_alloc ?_ _)); exact BK155.out) hb); replace BK156 := Aside0.mk (blk_below (g := gb156) (o := .cells #[.int .i64 a0_0, u157001] 49 (0, 0)) (by (with_reducible repeat (first | refine blk_drewN ?_ _ | refine blk_drew ?_ | refine blk_alloc ?_ _)); refine blk_far ?_ NB156_158.out _; (with_reducible repeat (first | refine blk_drewN ?_ _ | refine blk_drew ?_ | refine blk_alloc ?_ _)); refine blk_far ?_ NB156_158.out _; (with_reducible repeat (first | refine blk_drewN ?_ _ | refine blk_drew ?_ | refine blk_alloc ?_ _)); refine blk_far ?_ NB156_158.out _; (with_reducible repeat (first | refine blk_drewN ?_ _ | refine blk_drew ?_ | refine blk_alloc ?_ _)); exact BK156.out) hb); replace BK158 := Aside0.mk (blk_below (g := gb158) (o := .cells #[.string ((rd_T53 l0_1 x4_1).f0), .slice A157_1 ((rd_T53 l0_1 x4_1).f1).length c157_1, .bool ((rd_T53 l0_1 x4_1).f2)] 53 (0, 0)) (by (with_reducible repeat (first | refine blk_drewN ?_ _ | refine blk_drew ?_ | refine blk_alloc ?_ _)); refine blk_put (cs := #[.string ((rd_T53 l0_1 x4_1).f0), .slice A157_1 ((rd_T53 l0_1 x4_1).f1).length c157_1, .bool false]) ?_ 2 _ rfl; (with_reducible repeat (first | refine blk_drewN ?_ _ | refine blk_drew ?_ | refine blk_alloc ?_ _)); refine blk_put (cs := #[.string ((rd_T53 l0_1 x4_1).f0), .slice none 0 0, .bool false]) ?_ 1 _ rfl; (with_reducible repeat (first | refine blk_drewN ?_ _ | refine blk_drew ?_ | refine blk_alloc ?_ _)); refine blk_put (cs := #[.string (⟨#[]⟩ : ByteArray), .slice none 0 0, .bool false]) ?_ 0 _ rfl; (with_reducible repeat (first | refine blk_drewN ?_ _ | refine blk_drew ?_ | refine blk_alloc ?_ _)); exact BK158.out) hb); replace HB := Aside0.mk (below_step dz29 hb); clear hb ho23; obtain ⟨hcz24_0, hcz24_1, hcz24_2, hfz24_0, hfz24_1, hfz24_2⟩ := cz3_ BK158) | ((with_reducible refine gate_builtin (b := .append) (xs := #[.tmp 21, .tmp 23]) rfl ?_); at_builtin; refine Kd.R_append_rows (Kd.int .i64) (w0 := w) w.heap.size rfl (.tmp 21) (.tmp 23) 26 3 (.int .i64 0) 8 rfl Try.underlying26 info3 rfl (by decide) (by omega) v160 y159 ((rd_T53 l0_1 x4_1).f1) _ _ _ (fun _ => True) (fun _ => False) rfl rfl ?aO ?aR (fun _ _ h => h) (fun _ h => h.elim) ?aF ?aB ?aS ?aL ?_; (case aR => repeat (first | exact (Kd.C_below HR157_1.out HB.out) | (with_reducible refine Kd.C_alloc ?_ _) | (with_reducible refine Kd.C_drewN ?_ _) | (with_reducible refine Kd.C_drew ?_))); (case aB => exact dz29); (case aF => exact (fun _ _ => trivial)); (case aO => exact (by (with_reducible repeat (first | apply Kd.R_alloc | apply Kd.R_drewN | apply Kd.R_drew)); exact HO161.out)); (case aS => exact (below_size dz29)); (case aL => have := LMc12.out; omega); intro v163 w25 ho hb hg hat; rw [← Ny162.out] at ho; replace HO_157001 := Aside0.mk (Kd.S_after (ok := (fun k_ => k_ ≠ gb158)) (by (with_reducible repeat (first | apply Kd.S_alloc | apply Kd.S_drewN | apply Kd.S_drew)); exact Kd.S_mono HO_157001.out (fun _ hk => ⟨hk.1.2, hk.2⟩)) hg hat); replace BK154 := Aside0.mk (blk_grown (g := gb154) (o := .cells #[.int .i64 a0_0, .slice (some ad157) l0_1.length c0_1] 49 (0, 0)) dz79 hg (Kd.R_ne HO161.out BK154.out (by decide))); replace BK155 := Aside0.mk (blk_grown (g := gb155) (o := .cells #[.int .i64 0, .slice none 0 0] 49 (0, 0)) dz80 hg (Kd.R_ne HO161.out BK155.out (by decide))); replace BK156 := Aside0.mk (blk_grown (g := gb156) (o := .cells #[.int .i64 a0_0, u157001] 49 (0, 0)) dz81 hg (Kd.R_ne HO161.out BK156.out (by decide))); replace BK158 := Aside0.mk (blk_grown (g := gb158) (o := .cells #[.string ((rd_T53 l0_1 x4_1).f0), .slice A157_1 ((rd_T53 l0_1 x4_1).f1).length c157_1, .bool ((rd_T53 l0_1 x4_1).f2)] 53 (0, 0)) dz73 hg (Kd.R_ne HO161.out BK158.out (by decide))); replace HB := Aside0.mk (hb); have HO164 := Aside0.mk (ho); clear HO161; clear ho hb hg hat; obtain ⟨Ao26, co26, eo26⟩ := Kd.R_slice HO164.out; subst eo26; obtain ⟨hcz27_0, hcz27_1, hcz27_2, hfz27_0, hfz27_1, hfz27_2⟩ := cz3_ BK158) | ((with_reducible refine gate_store (t := 26) (p := 25) rfl ?_); refine store_event (t := 26) (p := 25) (v := ?vo_w28) (w1 := (w25.setCell ⟨gb158, 1, none⟩ (.slice Ao26 y162.length co26))) ?hg ?ho ?hn ?hr ?_; (case ho => rfl); (case hg => rfl); (case hn => rfl); (case hr => first | (go_simp; done) | (go_simp; rfl)); intro w28 hw; replace HO_157001 : Aside0 (Kd.S k53 53 w28 w.heap.size (fun k_ => some k_ ≠ (.slice Ao26 y162.length co26 : Value).ownBlock ∧ k_ ≠ gb158) u157001 x157001_1) := ⟨(by rw [hw]; exact (by (with_reducible repeat (first | apply Kd.S_alloc | apply Kd.S_drewN | apply Kd.S_drew)); exact Kd.S_mono (Kd.S_far (p := ⟨gb158, 1, none⟩) (Kd.S_mono HO_157001.out (fun k_ hk => (⟨hk, hk.1⟩ : _ ∧ k_ ≠ gb158))) (fun _ hk => hk.2) (.slice Ao26 y162.length co26)) (fun _ hk => ⟨hk.1.2, hk.1.1⟩)))⟩; replace HO164 : Aside0 (Kd.R (Kd.int .i64) 3 w28 w.heap.size (fun _ => True) (.slice Ao26 y162.length co26) y162) := ⟨(by rw [hw]; exact (by (with_reducible repeat (first | apply Kd.R_alloc | apply Kd.R_drewN | apply Kd.R_drew)); exact Kd.R_mono (Kd.R_far (p := ⟨gb158, 1, none⟩) (Kd.R_types HO164.out BK158.out (by decide)) (fun _ hk => hk.2) (.slice Ao26 y162.length co26)) (fun _ hk => trivial)))⟩; replace BK154 : Aside0 (w28.heap[gb154]? = some (.cells #[.int .i64 a0_0, .slice (some ad157) l0_1.length c0_1] 49 (0, 0))) := ⟨(by rw [hw]; exact (by (with_reducible repeat (first | refine blk_drewN ?_ _ | refine blk_drew ?_ | refine blk_alloc ?_ _)); refine blk_far ?_ NB154_158.out _; (with_reducible repeat (first | refine blk_drewN ?_ _ | refine blk_drew ?_ | refine blk_alloc ?_ _)); exact BK154.out))⟩; replace BK155 : Aside0 (w28.heap[gb155]? = some (.cells #[.int .i64 0, .slice none 0 0] 49 (0, 0))) := ⟨(by rw [hw]; exact (by (with_reducible repeat (first | refine blk_drewN ?_ _ | refine blk_drew ?_ | refine blk_alloc ?_ _)); refine blk_far ?_ NB155_158.out _; (with_reducible repeat (first | refine blk_drewN ?_ _ | refine blk_drew ?_ | refine blk_alloc ?_ _)); exact BK155.out))⟩; replace BK156 : Aside0 (w28.heap[gb156]? = some (.cells #[.int .i64 a0_0, u157001] 49 (0, 0))) := ⟨(by rw [hw]; exact (by (with_reducible repeat (first | refine blk_drewN ?_ _ | refine blk_drew ?_ | refine blk_alloc ?_ _)); refine blk_far ?_ NB156_158.out _; (with_reducible repeat (first | refine blk_drewN ?_ _ | refine blk_drew ?_ | refine blk_alloc ?_ _)); exact BK156.out))⟩; replace BK158 : Aside0 (w28.heap[gb158]? = some (.cells #[.string ((rd_T53 l0_1 x4_1).f0), .slice Ao26 y162.length co26, .bool ((rd_T53 l0_1 x4_1).f2)] 53 (0, 0))) := ⟨(by rw [hw]; exact (by (with_reducible repeat (first | refine blk_drewN ?_ _ | refine blk_drew ?_ | refine blk_alloc ?_ _)); refine blk_put (cs := #[.string ((rd_T53 l0_1 x4_1).f0), .slice A157_1 ((rd_T53 l0_1 x4_1).f1).length c157_1, .bool ((rd_T53 l0_1 x4_1).f2)]) ?_ 1 _ rfl; (with_reducible repeat (first | refine blk_drewN ?_ _ | refine blk_drew ?_ | refine blk_alloc ?_ _)); exact BK158.out))⟩; replace HB : Aside0 (Below w.heap.size w w28) := ⟨(by rw [hw]; exact dz29)⟩; clear hw; have hnb29 := NB156_155.out; have hnc29 := NB155_156.out; obtain ⟨hcz30_0, hcz30_1, hfz30_0, hfz30_1⟩ := cz2_ BK156; obtain ⟨hcz31_0, hcz31_1, hcz31_2, hfz31_0, hfz31_1, hfz31_2⟩ := cz3_ BK158) | ((with_reducible refine gate_builtin (b := .append) (xs := #[.tmp 27, .tmp 29]) rfl ?_); at_builtin; refine Kd.S_append k53 (w0 := w) w.heap.size rfl (.tmp 27) (.tmp 29) 47 53 (.agg #[(.string ⟨#[]⟩), (.slice none 0 0), (.bool false)]) 48 rfl Try.underlying47 info53 rfl (by decide) (by omega) u157001 x157001_1 (⟨(rd_T53 l0_1 x4_1).f0, y162, (rd_T53 l0_1 x4_1).f2⟩ : S53) [.string ((rd_T53 l0_1 x4_1).f0), .slice Ao26 y162.length co26, .bool ((rd_T53 l0_1 x4_1).f2)] (fun k_ => k_ ≠ gb158) (fun k_ => some k_ = (.slice Ao26 y162.length co26 : Value).ownBlock) rfl rfl ?aP (fun k_ hk_ => ((Kd.R_mono (ok' := fun k_ => ((fun k_ => k_ ≠ gb158)) k_ ∧ some k_ ≠ (u157001 : Value).ownBlock) (Kd.R_types (Kd.R_apart' (HO164.out) (Kd.S_typed HO_157001.out) (by decide)) BK158.out (by decide)) (fun k_ hk => ⟨hk.2, hk.1.2⟩))).1 k_ hk_.symm) ?aF ?aO ?aB ?aS ?aL ?_; (case aP => exact k53_mkM _ _ _ (⟨(rd_T53 l0_1 x4_1).f0, y162, (rd_T53 l0_1 x4_1).f2⟩ : S53) (Kd.R_mono (Kd.R_tight rfl (Kd.R_mono (ok' := fun k_ => ((fun k_ => k_ ≠ gb158)) k_ ∧ some k_ ≠ (u157001 : Value).ownBlock) (Kd.R_types (Kd.R_apart' (HO164.out) (Kd.S_typed HO_157001.out) (by decide)) BK158.out (by decide)) (fun k_ hk => ⟨hk.2, hk.1.2⟩))) (fun _ h_ => h_))); (case aB => exact dz29); (case aF => exact (fun k_ hk => Kd.freshB (g := gb158) (o := .cells #[.string ((rd_T53 l0_1 x4_1).f0), .slice Ao26 y162.length co26, .bool ((rd_T53 l0_1 x4_1).f2)] 53 (0, 0)) dz73 k_ hk)); (case aO => exact (by (with_reducible repeat (first | apply Kd.S_alloc | apply Kd.S_drewN | apply Kd.S_drew)); exact Kd.S_mono HO_157001.out (fun k_ hk => ⟨hk.2, fun e_ => hk.1 e_⟩))); (case aS => exact (below_size dz29)); (case aL => have := LMc13.out; omega); intro v166 w32 ho hb hg hat; rw [← Ny165.out] at ho; replace BK154 := Aside0.mk (blk_grown (g := gb154) (o := .cells #[.int .i64 a0_0, .slice (some ad157) l0_1.length c0_1] 49 (0, 0)) dz79 hg (Kd.S_ne HO_157001.out BK154.out (by decide))); replace BK155 := Aside0.mk (blk_grown (g := gb155) (o := .cells #[.int .i64 0, .slice none 0 0] 49 (0, 0)) dz80 hg (Kd.S_ne HO_157001.out BK155.out (by decide))); replace BK156 := Aside0.mk (blk_grown (g := gb156) (o := .cells #[.int .i64 a0_0, u157001] 49 (0, 0)) dz81 hg (Kd.S_ne HO_157001.out BK156.out (by decide))); replace BK158 := Aside0.mk (blk_grown (g := gb158) (o := .cells #[.string ((rd_T53 l0_1 x4_1).f0), .slice Ao26 y162.length co26, .bool ((rd_T53 l0_1 x4_1).f2)] 53 (0, 0)) dz73 hg (Kd.S_away HO_157001.out (fun _ hk => hk.2))); replace HB := Aside0.mk (hb); have HO167 := Aside0.mk (ho); clear HO_157001; clear HO164; clear ho hb hg hat; obtain ⟨Ao33, co33, eo33⟩ := Kd.S_slice HO167.out; subst eo33; obtain ⟨hcz34_0, hcz34_1, hfz34_0, hfz34_1⟩ := cz2_ BK156))
       go_roundg k1
       case measure => have := HK1.out; omega
       case rel => exact ⟨(wrap64 (x4_1 + 1)), (y165), (.slice Ao33 y165.length co33), dz3, H', ⟨by have := HK1.out; omega⟩, ⟨by (with_reducible repeat (first | apply Kd.S_alloc | apply Kd.S_drewN | apply Kd.S_drew)); exact Kd.S_mono (Kd.S_far (p := ⟨gb156, 1, none⟩) (Kd.S_types HO167.out BK156.out (by decide)) (fun _ hk => hk.2) (.slice Ao33 y165.length co33)) (fun _ hk => trivial)⟩, ⟨by (with_reducible repeat (first | refine blk_drewN ?_ _ | refine blk_drew ?_ | refine blk_alloc ?_ _)); refine blk_far ?_ NB154_156.out _; (with_reducible repeat (first | refine blk_drewN ?_ _ | refine blk_drew ?_ | refine blk_alloc ?_ _)); exact BK154.out⟩, ⟨by (with_reducible repeat (first | refine blk_drewN ?_ _ | refine blk_drew ?_ | refine blk_alloc ?_ _)); refine blk_far ?_ NB155_156.out _; (with_reducible repeat (first | refine blk_drewN ?_ _ | refine blk_drew ?_ | refine blk_alloc ?_ _)); exact BK155.out⟩, ⟨by (with_reducible repeat (first | refine blk_drewN ?_ _ | refine blk_drew ?_ | refine blk_alloc ?_ _)); refine blk_put (cs := #[.int .i64 a0_0, u157001]) ?_ 1 _ rfl; (with_reducible repeat (first | refine blk_drewN ?_ _ | refine blk_drew ?_ | refine blk_alloc ?_ _)); exact BK156.out⟩, ⟨by repeat (first | (with_reducible first | exact HB.out | apply below_alloc | apply pw_below_drewN | apply below_drew1 | refine below_set ?_ GE154.out | refine below_set ?_ GE155.out | refine below_set ?_ GE156.out | refine below_set ?_ GE158.out) | exact HB.out)⟩⟩
      rw [if_neg c13] at H
      exact absurd H (by simp)
     rw [if_neg c12] at H
     exact absurd H (by simp)
    rw [if_neg c11] at H
    exact absurd H (by simp)
   rw [if_neg c10] at H
   have c10b0 : decide (x4_1 < (l0_1.length : Int)) = false := decide_eq_false c10
   clear c10
   simp only [Option.some.injEq, Prod.mk.injEq] at H
   obtain ⟨rfl, rfl⟩ := H
   have hnb35 := NB154_155.out
   have hnc35 := NB155_154.out
   have hnb36 := NB154_156.out
   have hnc36 := NB156_154.out
   obtain ⟨hcz37_0, hcz37_1, hfz37_0, hfz37_1⟩ := cz2_ BK154
   have hnb38 := NB156_155.out
   have hnc38 := NB155_156.out
   obtain ⟨hcz39_0, hcz39_1, hfz39_0, hfz39_1⟩ := cz2_ BK156
   obtain ⟨hcz40_0, hcz40_1, hfz40_0, hfz40_1⟩ := cz2_ BK155
   obtain ⟨Ao41, co41, eo41⟩ := Kd.S_slice HO_157001.out
   subst eo41
   go_wp2
   refine bodyPost_ret (results_cell_row rfl _ _ gb155 49 #[.int .i64 a0_0, .slice Ao41 x157001_1.length co41] (0, 0) _ rfl (by (with_reducible repeat (first | refine blk_drewN ?_ _ | refine blk_drew ?_ | refine blk_alloc ?_ _)); refine blk_put (cs := #[.int .i64 a0_0, .slice none 0 0]) ?_ 1 _ rfl; (with_reducible repeat (first | refine blk_drewN ?_ _ | refine blk_drew ?_ | refine blk_alloc ?_ _)); refine blk_put (cs := #[.int .i64 0, .slice none 0 0]) ?_ 0 _ rfl; (with_reducible repeat (first | refine blk_drewN ?_ _ | refine blk_drew ?_ | refine blk_alloc ?_ _)); exact BK155.out) Try.underlying49 rfl (by kernel_rfl)) rfl ?_
   exact ⟨_, by first | rfl | (simp [errW_none, errW_some] <;> rfl) | (simp [*, errW_none, errW_some] <;> rfl), by (with_reducible repeat (first | apply Kd.S_alloc | apply Kd.S_drewN | apply Kd.S_drew)); exact Kd.S_mono (Kd.S_far (p := ⟨gb155, 1, none⟩) (Kd.S_far (p := ⟨gb155, 0, none⟩) (Kd.S_types HO_157001.out BK155.out (by decide)) (fun _ hk => hk.2) (.int .i64 a0_0)) (fun _ hk => hk.2) (.slice Ao41 x157001_1.length co41)) (fun _ hk => trivial), by repeat (first | (with_reducible first | exact HB.out | apply below_alloc | apply pw_below_drewN | apply below_drew1 | refine below_set ?_ GE154.out | refine below_set ?_ GE155.out | refine below_set ?_ GE156.out) | exact HB.out)⟩
def spec_WriterAdd.f (k : Nat) (l0_0 : List Int) (a0_1 : Int) (a1_0 : Int) (l1_1 : List (S53)) (a2 : ByteArray) : Option (Int × (List (S53)) × Int × Bool) := (spec_WriterOk.f k l0_0 a0_1 a1_0 l1_1).bind fun t171 => (if t171 = true then ((spec_l8Copy.f k a1_0 l1_1).bind fun bt172 => (if bt172.2.length < 2932031007402 then ((some (bt172.2 ++ [(⟨a2, ([] : List Int), false⟩ : S53)] : List (S53))).bind fun y177 => ((spec_WriterOk.f k l0_0 a0_1 bt172.1 y177).bind fun t180 => (if t180 = true then (some (bt172.1, y177, (y177.length : Int), true)) else ((spec_l8Copy.f k a1_0 l1_1).bind fun bt181 => (some (bt181.1, bt181.2, 0, false)))))) else (none))) else (some (0, ([] : List (S53)), 0, false)))
set_option maxHeartbeats 8000000 in
set_option maxRecDepth 100000 in
theorem spec_WriterAdd.calls (k : Nat) (A0_0 : Option Addr) (c0_0 : Nat) (l0_0 : List Int) (a0_1 : Int) (a1_0 : Int) (A1_1 : Option Addr) (c1_1 : Nat) (l1_1 : List (S53)) (a2 : ByteArray) (r1 : Int) (r2 : List (S53)) (r3 : Int) (r4 : Bool) (w : World) (hr0_0 : Kd.C (Kd.int .i64) w A0_0 l0_0.length l0_0) (hc0_0 : l0_0.length ≤ c0_0) (hr1_1 : Kd.C k53 w A1_1 l1_1.length l1_1) (hc1_1 : l1_1.length ≤ c1_1) (h : spec_WriterAdd.f k l0_0 a0_1 a1_0 l1_1 a2 = some (r1, r2, r3, r4)) :
  Calls Try.prog 133 #[.agg #[.slice A0_0 l0_0.length c0_0, .int .i64 a0_1], .agg #[.int .i64 a1_0, .slice A1_1 l1_1.length c1_1], .string a2] w fun e w' => ∃ v1_ : Value, e = .returned (.tuple #[.agg #[.int .i64 r1, v1_], .int .i64 r3, .bool r4]) ∧ Kd.S k53 53 w' w.heap.size (fun _ => True) v1_ r2 ∧ Below w.heap.size w w' := by
 have hu73 := Try.underlying73
 have hu49 := Try.underlying49
 have hu53 := Try.underlying53
 have HR0_0 := Aside0.mk hr0_0
 have HC0_0 := Aside0.mk hc0_0
 clear hr0_0 hc0_0
 have HR1_1 := Aside0.mk hr1_1
 have HC1_1 := Aside0.mk hc1_1
 clear hr1_1 hc1_1
 have HB := Aside0.mk (Below.refl w.heap.size w)
 have H : ((spec_WriterOk.f k l0_0 a0_1 a1_0 l1_1).bind fun t171 => (if t171 = true then ((spec_l8Copy.f k a1_0 l1_1).bind fun bt172 => (if bt172.2.length < 2932031007402 then ((some (bt172.2 ++ [(⟨a2, ([] : List Int), false⟩ : S53)] : List (S53))).bind fun y177 => ((spec_WriterOk.f k l0_0 a0_1 bt172.1 y177).bind fun t180 => (if t180 = true then (some (bt172.1, y177, (y177.length : Int), true)) else ((spec_l8Copy.f k a1_0 l1_1).bind fun bt181 => (some (bt181.1, bt181.2, 0, false)))))) else (none))) else (some (0, ([] : List (S53)), 0, false)))) = some (r1, r2, r3, r4) := h
 clear h
 replace H := Option.bind_eq_some_iff.mp H
 obtain ⟨t171, A40, H⟩ := H
 replace H : (if t171 = true then ((spec_l8Copy.f k a1_0 l1_1).bind fun bt172 => (if bt172.2.length < 2932031007402 then ((some (bt172.2 ++ [(⟨a2, ([] : List Int), false⟩ : S53)] : List (S53))).bind fun y177 => ((spec_WriterOk.f k l0_0 a0_1 bt172.1 y177).bind fun t180 => (if t180 = true then (some (bt172.1, y177, (y177.length : Int), true)) else ((spec_l8Copy.f k a1_0 l1_1).bind fun bt181 => (some (bt181.1, bt181.2, 0, false)))))) else (none))) else (some (0, ([] : List (S53)), 0, false))) = some (r1, r2, r3, r4) := H
 have A4 := Aside0.mk A40
 clear A40
 by_cases c5 : t171 = true
 ·subst c5
  have H1 : ((spec_l8Copy.f k a1_0 l1_1).bind fun bt172 => (if bt172.2.length < 2932031007402 then ((some (bt172.2 ++ [(⟨a2, ([] : List Int), false⟩ : S53)] : List (S53))).bind fun y177 => ((spec_WriterOk.f k l0_0 a0_1 bt172.1 y177).bind fun t180 => (if t180 = true then (some (bt172.1, y177, (y177.length : Int), true)) else ((spec_l8Copy.f k a1_0 l1_1).bind fun bt181 => (some (bt181.1, bt181.2, 0, false)))))) else (none))) = some (r1, r2, r3, r4) := by rw [if_pos rfl] at H; exact H
  clear H
  have H := H1
  clear H1
  replace H := Option.bind_eq_some_iff.mp H
  obtain ⟨⟨t172, t173⟩, A60, H⟩ := H
  replace H : (if t173.length < 2932031007402 then ((some (t173 ++ [(⟨a2, ([] : List Int), false⟩ : S53)] : List (S53))).bind fun y177 => ((spec_WriterOk.f k l0_0 a0_1 t172 y177).bind fun t180 => (if t180 = true then (some (t172, y177, (y177.length : Int), true)) else ((spec_l8Copy.f k a1_0 l1_1).bind fun bt181 => (some (bt181.1, bt181.2, 0, false)))))) else (none)) = some (r1, r2, r3, r4) := H
  have A6 := Aside0.mk A60
  clear A60
  by_cases c7 : t173.length < 2932031007402
  ·rw [if_pos c7] at H
   have LMc7 := Aside0.mk c7
   clear c7
   obtain ⟨y177, hy177⟩ : ∃ y_ : List (S53), y_ = (t173 ++ [(⟨a2, ([] : List Int), false⟩ : S53)]) := ⟨_, rfl⟩
   replace H : ((spec_WriterOk.f k l0_0 a0_1 t172 y177).bind fun t180 => (if t180 = true then (some (t172, y177, (y177.length : Int), true)) else ((spec_l8Copy.f k a1_0 l1_1).bind fun bt181 => (some (bt181.1, bt181.2, 0, false))))) = some (r1, r2, r3, r4) := by first | (rw [hy177]; with_reducible exact H) | (have H2_ := (Option.bind_some _ _).symm.trans H; rw [hy177]; with_reducible exact H2_) | (have H2_ := (Option.bind_some _ _).symm.trans H; with_reducible exact H2_) | with_reducible exact H | (rw [hy177]; exact H) | exact H
   have Ny177 := Aside0.mk hy177
   clear hy177
   replace H := Option.bind_eq_some_iff.mp H
   obtain ⟨t180, A80, H⟩ := H
   replace H : (if t180 = true then (some (t172, y177, (y177.length : Int), true)) else ((spec_l8Copy.f k a1_0 l1_1).bind fun bt181 => (some (bt181.1, bt181.2, 0, false)))) = some (r1, r2, r3, r4) := H
   have A8 := Aside0.mk A80
   clear A80
   by_cases c9 : t180 = true
   ·subst c9
    have H1 : (some (t172, y177, (y177.length : Int), true)) = some (r1, r2, r3, r4) := by rw [if_pos rfl] at H; exact H
    clear H
    have H := H1
    clear H1
    simp only [Option.some.injEq, Prod.mk.injEq] at H
    obtain ⟨rfl, rfl, rfl, rfl⟩ := H
    go_enter Try.func133, Try.ntmps133
    try go_wp2_with (first | ((with_reducible refine gate_dst (N := 3) rfl ?_); refine box_event kr_ (N := 3) kr_ (cs := #[.slice A0_0 l0_0.length c0_0, .int .i64 a0_1]) (t := 73) ks_ ?_; intro gb168 hg w2 hbox hb; have BK168 := Aside0.mk (hbox); have GW168 : Aside0 (w.heap.size ≤ gb168) := szl_ hg dz2; have GE168 : Aside0 (w.heap.size ≤ gb168) := szl_ hg dz2; replace HB := Aside0.mk (below_step dz2 hb); clear hb hbox hg) | ((with_reducible refine gate_dst (N := 4) rfl ?_); refine box_event kr_ (N := 4) kr_ (cs := #[.int .i64 a1_0, .slice A1_1 l1_1.length c1_1]) (t := 49) ks_ ?_; intro gb169 hg w3 hbox hb; have BK169 := Aside0.mk (hbox); have GW169 : Aside0 (w.heap.size ≤ gb169) := szl_ hg dz23; have GE169 : Aside0 (w.heap.size ≤ gb169) := szl_ hg dz23; replace HB := Aside0.mk (below_step dz23 hb); have NB168_169 := (nbl_ hg BK168); have NB169_168 := (nbr_ hg BK168); replace BK168 := (bkb_ BK168 hb); clear hb hbox hg) | ((with_reducible refine gate_dst (N := 6) rfl ?_); refine box_event kr_ (N := 6) kr_ (cs := #[.int .i64 0, .slice none 0 0]) (t := 49) ks_ ?_; intro gb170 hg w4 hbox hb; have BK170 := Aside0.mk (hbox); have GW170 : Aside0 (w.heap.size ≤ gb170) := szl_ hg dz24; have GE170 : Aside0 (w.heap.size ≤ gb170) := szl_ hg dz24; replace HB := Aside0.mk (below_step dz24 hb); have NB168_170 := (nbl_ hg BK168); have NB170_168 := (nbr_ hg BK168); replace BK168 := (bkb_ BK168 hb); have NB169_170 := (nbl_ hg BK169); have NB170_169 := (nbr_ hg BK169); replace BK169 := (bkb_ BK169 hb); clear hb hbox hg; have hnb13 := NB168_169.out; have hnc13 := NB169_168.out; have hnb14 := NB168_170.out; have hnc14 := NB170_168.out; obtain ⟨hcz15_0, hcz15_1, hfz15_0, hfz15_1⟩ := cz2_ BK168; have hnb16 := NB169_170.out; have hnc16 := NB170_169.out; obtain ⟨hcz17_0, hcz17_1, hfz17_0, hfz17_1⟩ := cz2_ BK169) | ((with_reducible refine gate_callee (f := 34) rfl ?_); refine goesL_ (some 12) rfl rfl Try.func34 (by kernel_rfl) rfl #[.agg #[.slice A0_0 l0_0.length c0_0, .int .i64 a0_1], .agg #[.int .i64 a1_0, .slice A1_1 l1_1.length c1_1]] rfl dz1 ?_; (with_reducible refine (spec_WriterOk.calls k _ _ l0_0 a0_1 a1_0 _ _ l1_1 true _ ?side1 ?side2 ?side3 ?side4 A4.out).mono ?_); (case side1 => exact dz290); (case side2 => exact HC0_0.out); (case side3 => exact dz293); (case side4 => exact HC1_1.out); rintro e w5 ⟨rfl, hb⟩; refine ⟨_, rfl, ?_⟩; replace BK168 := (bkb_ BK168 hb); replace BK169 := (bkb_ BK169 hb); replace BK170 := (bkb_ BK170 hb); replace HB := Aside0.mk (below_step dz16 hb); (try clear hb); (try clear hb2); (try clear hk); (try clear hi); obtain ⟨hcz19_0, hcz19_1, hfz19_0, hfz19_1⟩ := cz2_ BK169) | ((with_reducible refine gate_callee (f := 143) rfl ?_); refine goesL_ (some 16) rfl rfl Try.func143 (by kernel_rfl) rfl #[.agg #[.int .i64 a1_0, .slice A1_1 l1_1.length c1_1]] rfl dz1 ?_; (with_reducible refine (spec_l8Copy.calls k a1_0 _ _ l1_1 t172 t173 _ ?side1 ?side2 A6.out).mono ?_); (case side1 => exact dz293); (case side2 => exact HC1_1.out); rintro e w6 ⟨v174, rfl, ho0, hb⟩; refine ⟨_, rfl, ?_⟩; have HO175 := Aside0.mk (Kd.S_lower ho0 (below_size dz16)); replace BK168 := (bkb_ BK168 hb); replace BK169 := (bkb_ BK169 hb); replace BK170 := (bkb_ BK170 hb); replace HB := Aside0.mk (below_step dz16 hb); (try clear hb); (try clear hb2); (try clear hk); (try clear hi); (try clear ho0)) | ((with_reducible refine gate_dst (N := 9) rfl ?_); refine box_event kr_ (N := 9) kr_ (cs := #[.int .i64 0, .slice none 0 0]) (t := 49) ks_ ?_; intro gb176 hg w7 hbox hb; replace HO175 := (sbb_ HO175 hb); have BK176 := Aside0.mk (hbox); have GW176 : Aside0 (w.heap.size ≤ gb176) := szl_ hg dz16; have GE176 : Aside0 (w.heap.size ≤ gb176) := szl_ hg dz16; replace HB := Aside0.mk (below_step dz16 hb); have NB168_176 := (nbl_ hg BK168); have NB176_168 := (nbr_ hg BK168); replace BK168 := (bkb_ BK168 hb); have NB169_176 := (nbl_ hg BK169); have NB176_169 := (nbr_ hg BK169); replace BK169 := (bkb_ BK169 hb); have NB170_176 := (nbl_ hg BK170); have NB176_170 := (nbr_ hg BK170); replace BK170 := (bkb_ BK170 hb); clear hb hbox hg; have hnb22 := NB176_168.out; have hnc22 := NB168_176.out; have hnb23 := NB176_169.out; have hnc23 := NB169_176.out; have hnb24 := NB176_170.out; have hnc24 := NB170_176.out; obtain ⟨hcz25_0, hcz25_1, hfz25_0, hfz25_1⟩ := cz2_ BK176; obtain ⟨Ao26, co26, eo26⟩ := Kd.S_slice HO175.out; subst eo26) | ((with_reducible refine gate_builtin (b := .append) (xs := #[.tmp 18, .tmp 21]) rfl ?_); at_builtin; refine Kd.S_append k53 (w0 := w) w.heap.size rfl (.tmp 18) (.tmp 21) 47 53 (.agg #[(.string ⟨#[]⟩), (.slice none 0 0), (.bool false)]) 48 rfl Try.underlying47 info53 rfl (by decide) (by omega) (.slice Ao26 t173.length co26) t173 (⟨a2, ([] : List Int), false⟩ : S53) [.string a2, .slice none 0 0, .bool false] (fun _ => True) (fun _ => False) rfl (by first | (go_simp; done) | (go_simp; rfl)) ?aP (fun k_ hk_ => hk_.elim) ?aF ?aO ?aB ?aS ?aL ?_; (case aP => exact k53_mkM _ _ _ (⟨a2, ([] : List Int), false⟩ : S53) (Kd.R_nil _ _ _ _ _)); (case aB => exact dz21); (case aF => exact (fun _ _ => trivial)); (case aO => exact (by (with_reducible repeat (first | apply Kd.S_alloc | apply Kd.S_drewN | apply Kd.S_drew)); exact Kd.S_mono (Kd.S_far (p := ⟨gb176, 1, none⟩) (Kd.S_far (p := ⟨gb176, 0, none⟩) (Kd.S_types HO175.out BK176.out (by decide)) (fun _ hk => hk.2) (.int .i64 t172)) (fun _ hk => hk.2) (.slice Ao26 t173.length co26)) (fun k_ hk => ⟨trivial, fun e_ => e_⟩))); (case aS => exact (below_size dz21)); (case aL => have := LMc7.out; omega); intro v178 w8 ho hb hg hat; rw [← Ny177.out] at ho; replace BK168 := Aside0.mk (blk_grown (g := gb168) (o := .cells #[.slice A0_0 l0_0.length c0_0, .int .i64 a0_1] 73 (0, 0)) dz83 hg (Kd.S_ne HO175.out BK168.out (by decide))); replace BK169 := Aside0.mk (blk_grown (g := gb169) (o := .cells #[.int .i64 a1_0, .slice A1_1 l1_1.length c1_1] 49 (0, 0)) dz84 hg (Kd.S_ne HO175.out BK169.out (by decide))); replace BK170 := Aside0.mk (blk_grown (g := gb170) (o := .cells #[.int .i64 0, .slice none 0 0] 49 (0, 0)) dz85 hg (Kd.S_ne HO175.out BK170.out (by decide))); replace BK176 := Aside0.mk (blk_grown (g := gb176) (o := .cells #[.int .i64 t172, .slice Ao26 t173.length co26] 49 (0, 0)) dz86 hg (Kd.S_ne HO175.out BK176.out (by decide))); replace HB := Aside0.mk (hb); have HO179 := Aside0.mk (ho); clear HO175; clear ho hb hg hat; obtain ⟨Ao28, co28, eo28⟩ := Kd.S_slice HO179.out; subst eo28; obtain ⟨hcz29_0, hcz29_1, hfz29_0, hfz29_1⟩ := cz2_ BK176; obtain ⟨hcz30_0, hcz30_1, hfz30_0, hfz30_1⟩ := cz2_ BK168) | ((with_reducible refine gate_callee (f := 34) rfl ?_); refine goesL_ (some 26) rfl rfl Try.func34 (by kernel_rfl) rfl #[.agg #[.slice A0_0 l0_0.length c0_0, .int .i64 a0_1], .agg #[.int .i64 t172, .slice Ao28 y177.length co28]] rfl dz1 ?_; (with_reducible refine (spec_WriterOk.calls k _ _ l0_0 a0_1 t172 _ _ y177 true _ ?side1 ?side2 ?side3 ?side4 A8.out).mono ?_); (case side1 => exact Kd.C_below HR0_0.out dz21); (case side2 => exact HC0_0.out); (case side3 => refine (Kd.S_reads' (e := 53) (base := w.heap.size) (ok := fun k_ => True) (n := y177.length) (c := co28) ?_).2.2; exact (by (with_reducible repeat (first | apply Kd.S_alloc | apply Kd.S_drewN | apply Kd.S_drew)); exact (Kd.S_mono (Kd.S_far (p := ⟨gb176, 1, none⟩) (Kd.S_types HO179.out BK176.out (by decide)) (fun _ hk => hk.2) (.slice Ao28 y177.length co28)) (fun _ h_ => h_.1)))); (case side4 => exact (Kd.S_reads' HO179.out).2.1); rintro e w9 ⟨rfl, hb⟩; refine ⟨_, rfl, ?_⟩; replace HO179 := Aside0.mk (Kd.S_below (by (with_reducible repeat (first | apply Kd.S_alloc | apply Kd.S_drewN | apply Kd.S_drew)); exact (Kd.S_mono (Kd.S_far (p := ⟨gb176, 1, none⟩) (Kd.S_types HO179.out BK176.out (by decide)) (fun _ hk => hk.2) (.slice Ao28 y177.length co28)) (fun _ h_ => h_.1))) hb); replace BK168 := Aside0.mk (blk_below (g := gb168) (o := .cells #[.slice A0_0 l0_0.length c0_0, .int .i64 a0_1] 73 (0, 0)) dz87 hb); replace BK169 := Aside0.mk (blk_below (g := gb169) (o := .cells #[.int .i64 a1_0, .slice A1_1 l1_1.length c1_1] 49 (0, 0)) dz88 hb); replace BK170 := Aside0.mk (blk_below (g := gb170) (o := .cells #[.int .i64 0, .slice none 0 0] 49 (0, 0)) dz89 hb); replace BK176 := Aside0.mk (blk_below (g := gb176) (o := .cells #[.int .i64 t172, .slice Ao28 y177.length co28] 49 (0, 0)) (by (with_reducible repeat (first | refine blk_drewN ?_ _ | refine blk_drew ?_ | refine blk_alloc ?_ _)); refine blk_put (cs := #[.int .i64 t172, .slice Ao26 t173.length co26]) ?_ 1 _ rfl; (with_reducible repeat (first | refine blk_drewN ?_ _ | refine blk_drew ?_ | refine blk_alloc ?_ _)); exact BK176.out) hb); replace HB := Aside0.mk (below_step dz21 hb); (try clear hb); (try clear hb2); (try clear hk); (try clear hi)))
    replace HO179 := Aside0.mk (Kd.S_drew HO179.out)
    replace BK168 := Aside0.mk (blk_drew BK168.out)
    replace BK169 := Aside0.mk (blk_drew BK169.out)
    replace BK170 := Aside0.mk (blk_drew BK170.out)
    replace BK176 := Aside0.mk (blk_drew BK176.out)
    replace HB := Aside0.mk (below_drew1 HB.out)
    refine start_ (n := 7) (S := fun w' => w'.cell? ⟨gb176, 0, none⟩ = some (.int .i64 t172) ∧ w'.cell? ⟨gb176, 1, none⟩ = some (.slice Ao28 y177.length co28)) (ds := []) (fl_ 0 7) (by kernel_rfl) rfl rfl ⟨(blk_cell BK176.out 0).trans rfl, (blk_cell BK176.out 1).trans rfl⟩ (fun hHeld => ?_)
    generalize w9.drew = w32 at HO179 BK168 BK169 BK170 BK176 HB hHeld ⊢
    refine pure_ (i := 1) (N := some 31) (v := ?_) (a' := ?_) #[false, true, false, false, false, false, false] rfl rfl (by kernel_rfl) (fun _ _ _ h => h) (Or.inl ⟨by rfl, ?_⟩) ?_ ?_
    rotate_left
    ·exact dz311
    rotate_left
    ·exact dz312
    refine take_ (i := 0) (N := some 30) (v := ?_) (a' := ?_) (fl_ 2 5) rfl rfl (by kernel_rfl) (fun _ _ _ h => h) (Or.inl ⟨by rfl, ?_⟩) hHeld ?_ ?_
    rotate_left
    ·exact dz313
    rotate_left
    ·exact dz312
    refine take_ (i := 2) (N := some 32) (v := ?_) (a' := ?_) (fl_ 3 4) rfl rfl (by kernel_rfl) (fun _ _ _ h => h) (Or.inl ⟨by rfl, ?_⟩) hHeld ?_ ?_
    rotate_left
    ·exact dz313
    rotate_left
    ·exact dz312
    refine pure_ (i := 3) (N := some 33) (v := ?_) (a' := ?_) (fl_ 4 3) rfl rfl (by kernel_rfl) (fun _ _ _ h => h) (Or.inl ⟨by rfl, ?_⟩) ?_ ?_
    rotate_left
    ·exact dz311
    rotate_left
    ·exact dz312
    refine one_ (i := 4) (N := none) (fl_ 5 2) rfl rfl (by kernel_rfl) (by decide) (fun K hK => ?_)
    have hs33 : w32.cell? ⟨gb170, 0, none⟩ = some (.int .i64 0) := (blk_cell BK170.out 0).trans rfl
    have hfs33 := blk_frozen BK170.out 0
    have hns33_0 := NB168_170.out
    have hns33_1 := NB169_170.out
    have hns33_3 := NB176_170.out
    have hms33_0 := NB170_168.out
    have hms33_1 := NB170_169.out
    have hms33_3 := NB170_176.out
    have hs34 : w32.cell? ⟨gb170, 1, none⟩ = some (.slice none 0 0) := (blk_cell BK170.out 1).trans rfl
    have hfs34 := blk_frozen BK170.out 1
    have hns34_0 := NB168_170.out
    have hns34_1 := NB169_170.out
    have hns34_3 := NB176_170.out
    have hms34_0 := NB170_168.out
    have hms34_1 := NB170_169.out
    have hms34_3 := NB170_176.out
    refine skip_ (w1 := ?_) (by rfl) rfl ?_ ?_
    rotate_left
    ·go_simp
     rfl
    refine hK.out _ _ ⟨((cell_far (p := ⟨gb170, _, none⟩) NB176_170.out _).trans (((cell_far (p := ⟨gb170, _, none⟩) NB176_170.out _).trans (hHeld.1)))), ((cell_far (p := ⟨gb170, _, none⟩) NB176_170.out _).trans (((cell_far (p := ⟨gb170, _, none⟩) NB176_170.out _).trans (hHeld.2))))⟩ (fun hHeld => ?_)
    clear hK K
    refine pure_ (i := 5) (N := some 7) (v := ?_) (a' := ?_) (fl_ 6 1) rfl rfl (by kernel_rfl) (fun _ _ _ h => h) (Or.inl ⟨by rfl, ?_⟩) ?_ ?_
    rotate_left
    ·exact dz311
    rotate_left
    ·exact dz312
    refine pure_ (i := 6) (N := some 8) (v := ?_) (a' := ?_) (fl_ 7 0) rfl rfl (by kernel_rfl) (fun _ _ _ h => h) (Or.inl ⟨by rfl, ?_⟩) ?_ ?_
    rotate_left
    ·exact dz311
    rotate_left
    ·exact dz312
    refine done_ (by kernel_rfl) ?_
    try go_wp2
    refine bodyPost_ret (results_ctt rfl _ _ gb170 49 #[.int .i64 t172, .slice Ao28 y177.length co28] (0, 0) _ rfl (by (with_reducible repeat (first | refine blk_drewN ?_ _ | refine blk_drew ?_ | refine blk_alloc ?_ _)); refine blk_put (cs := #[.int .i64 t172, .slice none 0 0]) ?_ 1 _ rfl; (with_reducible repeat (first | refine blk_drewN ?_ _ | refine blk_drew ?_ | refine blk_alloc ?_ _)); refine blk_put (cs := #[.int .i64 0, .slice none 0 0]) ?_ 0 _ rfl; (with_reducible repeat (first | refine blk_drewN ?_ _ | refine blk_drew ?_ | refine blk_alloc ?_ _)); exact BK170.out) Try.underlying49 rfl (by kernel_rfl)) rfl ?_
    exact ⟨_, by first | rfl | (simp [errW_none, errW_some] <;> rfl) | (simp [*, errW_none, errW_some] <;> rfl), by (with_reducible repeat (first | apply Kd.S_alloc | apply Kd.S_drewN | apply Kd.S_drew)); exact Kd.S_mono (Kd.S_far (p := ⟨gb170, 1, none⟩) (Kd.S_far (p := ⟨gb170, 0, none⟩) (Kd.S_types HO179.out BK170.out (by decide)) (fun _ hk => hk.2) (.int .i64 t172)) (fun _ hk => hk.2) (.slice Ao28 y177.length co28)) (fun _ hk => trivial), by repeat (first | (with_reducible first | exact HB.out | apply below_alloc | apply pw_below_drewN | apply below_drew1 | refine below_set ?_ GE168.out | refine below_set ?_ GE169.out | refine below_set ?_ GE170.out | refine below_set ?_ GE176.out) | exact HB.out)⟩
   replace c9 := Bool.eq_false_iff.mpr c9
   subst c9
   have H1 : ((spec_l8Copy.f k a1_0 l1_1).bind fun bt181 => (some (bt181.1, bt181.2, 0, false))) = some (r1, r2, r3, r4) := by rw [if_neg (show ¬ (false = true) by decide)] at H; exact H
   clear H
   have H := H1
   clear H1
   replace H := Option.bind_eq_some_iff.mp H
   obtain ⟨⟨t181, t182⟩, A350, H⟩ := H
   replace H : (some (t181, t182, 0, false)) = some (r1, r2, r3, r4) := H
   have A35 := Aside0.mk A350
   clear A350
   simp only [Option.some.injEq, Prod.mk.injEq] at H
   obtain ⟨rfl, rfl, rfl, rfl⟩ := H
   go_enter Try.func133, Try.ntmps133
   go_wp2_with (first | ((with_reducible refine gate_dst (N := 3) rfl ?_); refine box_event kr_ (N := 3) kr_ (cs := #[.slice A0_0 l0_0.length c0_0, .int .i64 a0_1]) (t := 73) ks_ ?_; intro gb168 hg w2 hbox hb; have BK168 := Aside0.mk (hbox); have GW168 : Aside0 (w.heap.size ≤ gb168) := szl_ hg dz2; have GE168 : Aside0 (w.heap.size ≤ gb168) := szl_ hg dz2; replace HB := Aside0.mk (below_step dz2 hb); clear hb hbox hg) | ((with_reducible refine gate_dst (N := 4) rfl ?_); refine box_event kr_ (N := 4) kr_ (cs := #[.int .i64 a1_0, .slice A1_1 l1_1.length c1_1]) (t := 49) ks_ ?_; intro gb169 hg w3 hbox hb; have BK169 := Aside0.mk (hbox); have GW169 : Aside0 (w.heap.size ≤ gb169) := szl_ hg dz23; have GE169 : Aside0 (w.heap.size ≤ gb169) := szl_ hg dz23; replace HB := Aside0.mk (below_step dz23 hb); have NB168_169 := (nbl_ hg BK168); have NB169_168 := (nbr_ hg BK168); replace BK168 := (bkb_ BK168 hb); clear hb hbox hg) | ((with_reducible refine gate_dst (N := 6) rfl ?_); refine box_event kr_ (N := 6) kr_ (cs := #[.int .i64 0, .slice none 0 0]) (t := 49) ks_ ?_; intro gb170 hg w4 hbox hb; have BK170 := Aside0.mk (hbox); have GW170 : Aside0 (w.heap.size ≤ gb170) := szl_ hg dz24; have GE170 : Aside0 (w.heap.size ≤ gb170) := szl_ hg dz24; replace HB := Aside0.mk (below_step dz24 hb); have NB168_170 := (nbl_ hg BK168); have NB170_168 := (nbr_ hg BK168); replace BK168 := (bkb_ BK168 hb); have NB169_170 := (nbl_ hg BK169); have NB170_169 := (nbr_ hg BK169); replace BK169 := (bkb_ BK169 hb); clear hb hbox hg; have hnb39 := NB168_169.out; have hnc39 := NB169_168.out; have hnb40 := NB168_170.out; have hnc40 := NB170_168.out; obtain ⟨hcz41_0, hcz41_1, hfz41_0, hfz41_1⟩ := cz2_ BK168; have hnb42 := NB169_170.out; have hnc42 := NB170_169.out; obtain ⟨hcz43_0, hcz43_1, hfz43_0, hfz43_1⟩ := cz2_ BK169) | ((with_reducible refine gate_callee (f := 34) rfl ?_); refine goesL_ (some 12) rfl rfl Try.func34 (by kernel_rfl) rfl #[.agg #[.slice A0_0 l0_0.length c0_0, .int .i64 a0_1], .agg #[.int .i64 a1_0, .slice A1_1 l1_1.length c1_1]] rfl dz1 ?_; (with_reducible refine (spec_WriterOk.calls k _ _ l0_0 a0_1 a1_0 _ _ l1_1 true _ ?side1 ?side2 ?side3 ?side4 A4.out).mono ?_); (case side1 => exact dz290); (case side2 => exact HC0_0.out); (case side3 => exact dz293); (case side4 => exact HC1_1.out); rintro e w5 ⟨rfl, hb⟩; refine ⟨_, rfl, ?_⟩; replace BK168 := (bkb_ BK168 hb); replace BK169 := (bkb_ BK169 hb); replace BK170 := (bkb_ BK170 hb); replace HB := Aside0.mk (below_step dz16 hb); (try clear hb); (try clear hb2); (try clear hk); (try clear hi); obtain ⟨hcz45_0, hcz45_1, hfz45_0, hfz45_1⟩ := cz2_ BK169) | ((with_reducible refine gate_callee (f := 143) rfl ?_); refine goesL_ (some 16) rfl rfl Try.func143 (by kernel_rfl) rfl #[.agg #[.int .i64 a1_0, .slice A1_1 l1_1.length c1_1]] rfl dz1 ?_; (with_reducible refine (spec_l8Copy.calls k a1_0 _ _ l1_1 t172 t173 _ ?side1 ?side2 A6.out).mono ?_); (case side1 => exact dz293); (case side2 => exact HC1_1.out); rintro e w6 ⟨v174, rfl, ho0, hb⟩; refine ⟨_, rfl, ?_⟩; have HO175 := Aside0.mk (Kd.S_lower ho0 (below_size dz16)); replace BK168 := (bkb_ BK168 hb); replace BK169 := (bkb_ BK169 hb); replace BK170 := (bkb_ BK170 hb); replace HB := Aside0.mk (below_step dz16 hb); (try clear hb); (try clear hb2); (try clear hk); (try clear hi); (try clear ho0)) | ((with_reducible refine gate_dst (N := 9) rfl ?_); refine box_event kr_ (N := 9) kr_ (cs := #[.int .i64 0, .slice none 0 0]) (t := 49) ks_ ?_; intro gb176 hg w7 hbox hb; replace HO175 := (sbb_ HO175 hb); have BK176 := Aside0.mk (hbox); have GW176 : Aside0 (w.heap.size ≤ gb176) := szl_ hg dz16; have GE176 : Aside0 (w.heap.size ≤ gb176) := szl_ hg dz16; replace HB := Aside0.mk (below_step dz16 hb); have NB168_176 := (nbl_ hg BK168); have NB176_168 := (nbr_ hg BK168); replace BK168 := (bkb_ BK168 hb); have NB169_176 := (nbl_ hg BK169); have NB176_169 := (nbr_ hg BK169); replace BK169 := (bkb_ BK169 hb); have NB170_176 := (nbl_ hg BK170); have NB176_170 := (nbr_ hg BK170); replace BK170 := (bkb_ BK170 hb); clear hb hbox hg; have hnb48 := NB176_168.out; have hnc48 := NB168_176.out; have hnb49 := NB176_169.out; have hnc49 := NB169_176.out; have hnb50 := NB176_170.out; have hnc50 := NB170_176.out; obtain ⟨hcz51_0, hcz51_1, hfz51_0, hfz51_1⟩ := cz2_ BK176; obtain ⟨Ao52, co52, eo52⟩ := Kd.S_slice HO175.out; subst eo52) | ((with_reducible refine gate_builtin (b := .append) (xs := #[.tmp 18, .tmp 21]) rfl ?_); at_builtin; refine Kd.S_append k53 (w0 := w) w.heap.size rfl (.tmp 18) (.tmp 21) 47 53 (.agg #[(.string ⟨#[]⟩), (.slice none 0 0), (.bool false)]) 48 rfl Try.underlying47 info53 rfl (by decide) (by omega) (.slice Ao52 t173.length co52) t173 (⟨a2, ([] : List Int), false⟩ : S53) [.string a2, .slice none 0 0, .bool false] (fun _ => True) (fun _ => False) rfl (by first | (go_simp; done) | (go_simp; rfl)) ?aP (fun k_ hk_ => hk_.elim) ?aF ?aO ?aB ?aS ?aL ?_; (case aP => exact k53_mkM _ _ _ (⟨a2, ([] : List Int), false⟩ : S53) (Kd.R_nil _ _ _ _ _)); (case aB => exact dz21); (case aF => exact (fun _ _ => trivial)); (case aO => exact (by (with_reducible repeat (first | apply Kd.S_alloc | apply Kd.S_drewN | apply Kd.S_drew)); exact Kd.S_mono (Kd.S_far (p := ⟨gb176, 1, none⟩) (Kd.S_far (p := ⟨gb176, 0, none⟩) (Kd.S_types HO175.out BK176.out (by decide)) (fun _ hk => hk.2) (.int .i64 t172)) (fun _ hk => hk.2) (.slice Ao52 t173.length co52)) (fun k_ hk => ⟨trivial, fun e_ => e_⟩))); (case aS => exact (below_size dz21)); (case aL => have := LMc7.out; omega); intro v178 w8 ho hb hg hat; rw [← Ny177.out] at ho; replace BK168 := Aside0.mk (blk_grown (g := gb168) (o := .cells #[.slice A0_0 l0_0.length c0_0, .int .i64 a0_1] 73 (0, 0)) dz83 hg (Kd.S_ne HO175.out BK168.out (by decide))); replace BK169 := Aside0.mk (blk_grown (g := gb169) (o := .cells #[.int .i64 a1_0, .slice A1_1 l1_1.length c1_1] 49 (0, 0)) dz84 hg (Kd.S_ne HO175.out BK169.out (by decide))); replace BK170 := Aside0.mk (blk_grown (g := gb170) (o := .cells #[.int .i64 0, .slice none 0 0] 49 (0, 0)) dz85 hg (Kd.S_ne HO175.out BK170.out (by decide))); replace BK176 := Aside0.mk (blk_grown (g := gb176) (o := .cells #[.int .i64 t172, .slice Ao52 t173.length co52] 49 (0, 0)) dz86 hg (Kd.S_ne HO175.out BK176.out (by decide))); replace HB := Aside0.mk (hb); have HO179 := Aside0.mk (ho); clear HO175; clear ho hb hg hat; obtain ⟨Ao54, co54, eo54⟩ := Kd.S_slice HO179.out; subst eo54; obtain ⟨hcz55_0, hcz55_1, hfz55_0, hfz55_1⟩ := cz2_ BK176; obtain ⟨hcz56_0, hcz56_1, hfz56_0, hfz56_1⟩ := cz2_ BK168) | ((with_reducible refine gate_callee (f := 34) rfl ?_); refine goesL_ (some 26) rfl rfl Try.func34 (by kernel_rfl) rfl #[.agg #[.slice A0_0 l0_0.length c0_0, .int .i64 a0_1], .agg #[.int .i64 t172, .slice Ao54 y177.length co54]] rfl dz1 ?_; (with_reducible refine (spec_WriterOk.calls k _ _ l0_0 a0_1 t172 _ _ y177 false _ ?side1 ?side2 ?side3 ?side4 A8.out).mono ?_); (case side1 => exact Kd.C_below HR0_0.out dz21); (case side2 => exact HC0_0.out); (case side3 => refine (Kd.S_reads' (e := 53) (base := w.heap.size) (ok := fun k_ => True) (n := y177.length) (c := co54) ?_).2.2; exact (by (with_reducible repeat (first | apply Kd.S_alloc | apply Kd.S_drewN | apply Kd.S_drew)); exact (Kd.S_mono (Kd.S_far (p := ⟨gb176, 1, none⟩) (Kd.S_types HO179.out BK176.out (by decide)) (fun _ hk => hk.2) (.slice Ao54 y177.length co54)) (fun _ h_ => h_.1)))); (case side4 => exact (Kd.S_reads' HO179.out).2.1); rintro e w9 ⟨rfl, hb⟩; refine ⟨_, rfl, ?_⟩; replace HO179 := Aside0.mk (Kd.S_below (by (with_reducible repeat (first | apply Kd.S_alloc | apply Kd.S_drewN | apply Kd.S_drew)); exact (Kd.S_mono (Kd.S_far (p := ⟨gb176, 1, none⟩) (Kd.S_types HO179.out BK176.out (by decide)) (fun _ hk => hk.2) (.slice Ao54 y177.length co54)) (fun _ h_ => h_.1))) hb); replace BK168 := Aside0.mk (blk_below (g := gb168) (o := .cells #[.slice A0_0 l0_0.length c0_0, .int .i64 a0_1] 73 (0, 0)) dz87 hb); replace BK169 := Aside0.mk (blk_below (g := gb169) (o := .cells #[.int .i64 a1_0, .slice A1_1 l1_1.length c1_1] 49 (0, 0)) dz88 hb); replace BK170 := Aside0.mk (blk_below (g := gb170) (o := .cells #[.int .i64 0, .slice none 0 0] 49 (0, 0)) dz89 hb); replace BK176 := Aside0.mk (blk_below (g := gb176) (o := .cells #[.int .i64 t172, .slice Ao54 y177.length co54] 49 (0, 0)) (by (with_reducible repeat (first | refine blk_drewN ?_ _ | refine blk_drew ?_ | refine blk_alloc ?_ _)); refine blk_put (cs := #[.int .i64 t172, .slice Ao52 t173.length co52]) ?_ 1 _ rfl; (with_reducible repeat (first | refine blk_drewN ?_ _ | refine blk_drew ?_ | refine blk_alloc ?_ _)); exact BK176.out) hb); replace HB := Aside0.mk (below_step dz21 hb); (try clear hb); (try clear hb2); (try clear hk); (try clear hi); obtain ⟨hcz58_0, hcz58_1, hfz58_0, hfz58_1⟩ := cz2_ BK169) | ((with_reducible refine gate_callee (f := 143) rfl ?_); refine goesL_ (some 29) rfl rfl Try.func143 (by kernel_rfl) rfl #[.agg #[.int .i64 a1_0, .slice A1_1 l1_1.length c1_1]] rfl dz1 ?_; (with_reducible refine (spec_l8Copy.calls k a1_0 _ _ l1_1 t181 t182 _ ?side1 ?side2 A35.out).mono ?_); (case side1 => exact dz293); (case side2 => exact HC1_1.out); rintro e w13 ⟨v183, rfl, ho0, hb⟩; refine ⟨_, rfl, ?_⟩; have HO184 := Aside0.mk (Kd.S_lower (Kd.S_new' ho0 (Kd.S_lt (by (with_reducible repeat (first | apply Kd.S_alloc | apply Kd.S_drewN | apply Kd.S_drew)); exact HO179.out))) (below_size dz21)); replace HO179 := Aside0.mk (Kd.S_elder' (by (with_reducible repeat (first | apply Kd.S_alloc | apply Kd.S_drewN | apply Kd.S_drew)); exact HO179.out) (Kd.S_base ho0) hb); replace BK168 := (bkb_ BK168 hb); replace BK169 := (bkb_ BK169 hb); replace BK170 := (bkb_ BK170 hb); replace BK176 := (bkb_ BK176 hb); replace HB := Aside0.mk (below_step dz21 hb); (try clear hb); (try clear hb2); (try clear hk); (try clear hi); (try clear ho0); obtain ⟨hcz60_0, hcz60_1, hfz60_0, hfz60_1⟩ := cz2_ BK170; obtain ⟨Ao61, co61, eo61⟩ := Kd.S_slice HO184.out; subst eo61))
   refine bodyPost_ret (results_ctt rfl _ _ gb170 49 #[.int .i64 t181, .slice Ao61 t182.length co61] (0, 0) _ rfl (by (with_reducible repeat (first | refine blk_drewN ?_ _ | refine blk_drew ?_ | refine blk_alloc ?_ _)); refine blk_put (cs := #[.int .i64 t181, .slice none 0 0]) ?_ 1 _ rfl; (with_reducible repeat (first | refine blk_drewN ?_ _ | refine blk_drew ?_ | refine blk_alloc ?_ _)); refine blk_put (cs := #[.int .i64 0, .slice none 0 0]) ?_ 0 _ rfl; (with_reducible repeat (first | refine blk_drewN ?_ _ | refine blk_drew ?_ | refine blk_alloc ?_ _)); exact BK170.out) Try.underlying49 rfl (by kernel_rfl)) rfl ?_
   exact ⟨_, by first | rfl | (simp [errW_none, errW_some] <;> rfl) | (simp [*, errW_none, errW_some] <;> rfl), by (with_reducible repeat (first | apply Kd.S_alloc | apply Kd.S_drewN | apply Kd.S_drew)); exact Kd.S_mono (Kd.S_far (p := ⟨gb170, 1, none⟩) (Kd.S_far (p := ⟨gb170, 0, none⟩) (Kd.S_types HO184.out BK170.out (by decide)) (fun _ hk => hk.2) (.int .i64 t181)) (fun _ hk => hk.2) (.slice Ao61 t182.length co61)) (fun _ hk => trivial), by repeat (first | (with_reducible first | exact HB.out | apply below_alloc | apply pw_below_drewN | apply below_drew1 | refine below_set ?_ GE168.out | refine below_set ?_ GE169.out | refine below_set ?_ GE170.out | refine below_set ?_ GE176.out) | exact HB.out)⟩
  rw [if_neg c7] at H
  exact absurd H (by simp)
 replace c5 := Bool.eq_false_iff.mpr c5
 subst c5
 have H1 : (some (0, ([] : List (S53)), 0, false)) = some (r1, r2, r3, r4) := by rw [if_neg (show ¬ (false = true) by decide)] at H; exact H
 clear H
 have H := H1
 clear H1
 simp only [Option.some.injEq, Prod.mk.injEq] at H
 obtain ⟨rfl, rfl, rfl, rfl⟩ := H
 go_enter Try.func133, Try.ntmps133
 go_wp2_with (first | ((with_reducible refine gate_dst (N := 3) rfl ?_); refine box_event kr_ (N := 3) kr_ (cs := #[.slice A0_0 l0_0.length c0_0, .int .i64 a0_1]) (t := 73) ks_ ?_; intro gb168 hg w2 hbox hb; have BK168 := Aside0.mk (hbox); have GW168 : Aside0 (w.heap.size ≤ gb168) := szl_ hg dz2; have GE168 : Aside0 (w.heap.size ≤ gb168) := szl_ hg dz2; replace HB := Aside0.mk (below_step dz2 hb); clear hb hbox hg) | ((with_reducible refine gate_dst (N := 4) rfl ?_); refine box_event kr_ (N := 4) kr_ (cs := #[.int .i64 a1_0, .slice A1_1 l1_1.length c1_1]) (t := 49) ks_ ?_; intro gb169 hg w3 hbox hb; have BK169 := Aside0.mk (hbox); have GW169 : Aside0 (w.heap.size ≤ gb169) := szl_ hg dz23; have GE169 : Aside0 (w.heap.size ≤ gb169) := szl_ hg dz23; replace HB := Aside0.mk (below_step dz23 hb); have NB168_169 := (nbl_ hg BK168); have NB169_168 := (nbr_ hg BK168); replace BK168 := (bkb_ BK168 hb); clear hb hbox hg) | ((with_reducible refine gate_dst (N := 6) rfl ?_); refine box_event kr_ (N := 6) kr_ (cs := #[.int .i64 0, .slice none 0 0]) (t := 49) ks_ ?_; intro gb170 hg w4 hbox hb; have BK170 := Aside0.mk (hbox); have GW170 : Aside0 (w.heap.size ≤ gb170) := szl_ hg dz24; have GE170 : Aside0 (w.heap.size ≤ gb170) := szl_ hg dz24; replace HB := Aside0.mk (below_step dz24 hb); have NB168_170 := (nbl_ hg BK168); have NB170_168 := (nbr_ hg BK168); replace BK168 := (bkb_ BK168 hb); have NB169_170 := (nbl_ hg BK169); have NB170_169 := (nbr_ hg BK169); replace BK169 := (bkb_ BK169 hb); clear hb hbox hg; have hnb65 := NB168_169.out; have hnc65 := NB169_168.out; have hnb66 := NB168_170.out; have hnc66 := NB170_168.out; obtain ⟨hcz67_0, hcz67_1, hfz67_0, hfz67_1⟩ := cz2_ BK168; have hnb68 := NB169_170.out; have hnc68 := NB170_169.out; obtain ⟨hcz69_0, hcz69_1, hfz69_0, hfz69_1⟩ := cz2_ BK169) | ((with_reducible refine gate_callee (f := 34) rfl ?_); refine goesL_ (some 12) rfl rfl Try.func34 (by kernel_rfl) rfl #[.agg #[.slice A0_0 l0_0.length c0_0, .int .i64 a0_1], .agg #[.int .i64 a1_0, .slice A1_1 l1_1.length c1_1]] rfl dz1 ?_; (with_reducible refine (spec_WriterOk.calls k _ _ l0_0 a0_1 a1_0 _ _ l1_1 false _ ?side1 ?side2 ?side3 ?side4 A4.out).mono ?_); (case side1 => exact dz290); (case side2 => exact HC0_0.out); (case side3 => exact dz293); (case side4 => exact HC1_1.out); rintro e w5 ⟨rfl, hb⟩; refine ⟨_, rfl, ?_⟩; replace BK168 := (bkb_ BK168 hb); replace BK169 := (bkb_ BK169 hb); replace BK170 := (bkb_ BK170 hb); replace HB := Aside0.mk (below_step dz16 hb); (try clear hb); (try clear hb2); (try clear hk); (try clear hi); obtain ⟨hcz71_0, hcz71_1, hfz71_0, hfz71_1⟩ := cz2_ BK170))
 refine bodyPost_ret (results_ctt rfl _ _ gb170 49 #[.int .i64 0, .slice none 0 0] (0, 0) _ rfl (by (with_reducible repeat (first | refine blk_drewN ?_ _ | refine blk_drew ?_ | refine blk_alloc ?_ _)); refine blk_put (cs := #[.int .i64 0, .slice none 0 0]) ?_ 1 _ rfl; (with_reducible repeat (first | refine blk_drewN ?_ _ | refine blk_drew ?_ | refine blk_alloc ?_ _)); refine blk_put (cs := #[.int .i64 0, .slice none 0 0]) ?_ 0 _ rfl; (with_reducible repeat (first | refine blk_drewN ?_ _ | refine blk_drew ?_ | refine blk_alloc ?_ _)); exact BK170.out) Try.underlying49 rfl (by kernel_rfl)) rfl ?_
 exact ⟨_, by first | rfl | (simp [errW_none, errW_some] <;> rfl) | (simp [*, errW_none, errW_some] <;> rfl), by first | exact Kd.S_nil _ _ _ _ _ | exact Kd.N_nil _ _ _ _ _ | exact Kd.V_nil _ _ _ _ _ | exact Kd.Q_nil _ _ _ _ _ | exact Kd.R_nil _ _ _ _ _, by repeat (first | (with_reducible first | exact HB.out | apply below_alloc | apply pw_below_drewN | apply below_drew1 | refine below_set ?_ GE168.out | refine below_set ?_ GE169.out | refine below_set ?_ GE170.out) | exact HB.out)⟩
def spec_l1Pick.f (s0_0 : List Int) (s0_1 : Int) (s0_2 : Int) (l1 : List ByteArray) : Option (ByteArray × Int × Int) := (spec_l1Below.f s0_0 s0_1 s0_2 (l1.length : Int)).bind fun bt185 => (if 0 ≤ bt185.1 then (if bt185.1 < (l1.length : Int) then (some (rdOf ByteArray.empty l1 bt185.1, bt185.2.1, bt185.2.2)) else (none)) else (none))
set_option maxHeartbeats 8000000 in
set_option maxRecDepth 100000 in
theorem spec_l1Pick.calls (g : Nat) (s0_0 : List Int) (s0_1 : Int) (s0_2 : Int) (A1 : Option Addr) (c1 : Nat) (l1 : List ByteArray) (r1 : ByteArray) (r2 : Int) (r3 : Int) (w0 w : World) (hI : IsS133 w0 w g s0_0 s0_1 s0_2) (hB : Below w0.heap.size w0 w) (hr1 : Kd.C Kd.string w A1 l1.length l1) (hc1 : l1.length ≤ c1) (hf1 : ∀ ad, A1 = some ad → 0 < l1.length → ad.block ≠ g) (h : spec_l1Pick.f s0_0 s0_1 s0_2 l1 = some (r1, r2, r3)) :
  Calls Try.prog 134 #[.pointer (some ⟨g, 0, none⟩), .slice A1 l1.length c1] w fun e w' => e = .returned (.string r1) ∧ IsS133 w0 w' g s0_0 r2 r3 ∧ Below w0.heap.size w0 w' ∧ KeepBut w w' g none := by
 have HR1 := Aside0.mk hr1
 have HC1 := Aside0.mk hc1
 clear hr1 hc1
 have HI0 := Aside0.mk hI
 have HK := Aside0.mk (KeepBut.refl w g none)
 have HL := Aside0.mk hB.size
 clear hI
 have HW0 := Aside0.mk hB.size
 have HB := Aside0.mk hB
 clear hB
 have H : ((spec_l1Below.f s0_0 s0_1 s0_2 (l1.length : Int)).bind fun bt185 => (if 0 ≤ bt185.1 then (if bt185.1 < (l1.length : Int) then (some (rdOf ByteArray.empty l1 bt185.1, bt185.2.1, bt185.2.2)) else (none)) else (none))) = some (r1, r2, r3) := h
 clear h
 replace H := Option.bind_eq_some_iff.mp H
 obtain ⟨⟨t185, t186, t187⟩, A30, H⟩ := H
 replace H : (if 0 ≤ t185 then (if t185 < (l1.length : Int) then (some (rdOf ByteArray.empty l1 t185, t186, t187)) else (none)) else (none)) = some (r1, r2, r3) := H
 have A3 := Aside0.mk A30
 clear A30
 by_cases c4 : 0 ≤ t185
 ·rw [if_pos c4] at H
  have c4b0 : decide (0 ≤ t185) = true := decide_eq_true c4
  clear c4
  by_cases c5 : t185 < (l1.length : Int)
  ·rw [if_pos c5] at H
   have c5b0 : decide (t185 < (l1.length : Int)) = true := decide_eq_true c5
   clear c5
   simp only [Option.some.injEq, Prod.mk.injEq] at H
   obtain ⟨rfl, rfl, rfl⟩ := H
   go_enter Try.func134, Try.ntmps134
   go_wp2_with (first | ((with_reducible refine gate_callee (f := 105) rfl ?_); refine goesL_ (some 9) rfl rfl Try.func105 (by kernel_rfl) rfl #[.pointer (some ⟨g, 0, none⟩), .int .i64 (l1.length : Int)] rfl dz1 ?_; (with_reducible refine (spec_l1Below.calls g s0_0 s0_1 s0_2 (l1.length : Int) t185 t186 t187 w0 _ ?side1 ?side2 A3.out).mono ?_); (case side1 => exact dz288); (case side2 => exact dz289); rintro e w1 ⟨rfl, hi, hb, hk⟩; refine ⟨_, rfl, ?_⟩; replace HK := Aside0.mk (KeepBut.trans dz5 hk (.inl rfl)); replace HB := Aside0.mk (hb); replace HI0 := Aside0.mk (hi); (try clear hb); (try clear hb2); (try clear hk); (try clear hi); have p188 : 0 ≤ (t185 : Int) := of_decide_eq_true dz0; have q188 : t185 < (l1.length : Int) := of_decide_eq_true dz0; obtain ⟨ad188, e188, hx188_0⟩ := Kd.at_string HR1.out t185 p188 q188; cases e188; replace hx188_0 := keep_cell HK.out hx188_0 (by first | (rw [add_block]; exact hf1 _ rfl (by omega)) | exact hf1 _ rfl (by omega) | exact hf1 ad188 rfl (by omega)); replace p188 := eq_true p188; replace q188 := eq_true q188))
   go_ret
   exact dz322
  rw [if_neg c5] at H
  exact absurd H (by simp)
 rw [if_neg c4] at H
 exact absurd H (by simp)
def spec_l4Has.l0 : Nat → List Int → Int → Int → Option (Bool)
 | 0, _, _, _ => none
 | k + 1, x0, x1, x5 => if x5 < (x0.length : Int) then (if 0 ≤ x5 then (if (rd x0 x5) = x1 then (some true) else (spec_l4Has.l0 k x0 x1 (wrap64 (x5 + 1)))) else (none)) else (some false)
def spec_l4Has.f (k : Nat) (l0 : List Int) (a1 : Int) : Option (Bool) := spec_l4Has.l0 k l0 a1 0
set_option maxHeartbeats 8000000 in
set_option maxRecDepth 100000 in
theorem spec_l4Has.calls (k : Nat) (A0 : Option Addr) (c0 : Nat) (l0 : List Int) (a1 : Int) (r : Bool) (w : World) (hr0 : Kd.C (Kd.int .i64) w A0 l0.length l0) (hc0 : l0.length ≤ c0) (h : spec_l4Has.f k l0 a1 = some r) :
  Calls Try.prog 139 #[.slice A0 l0.length c0, .int .i64 a1] w fun e w' => e = .returned (.bool r) ∧ Drawn0 w w' := by
 have HR0 := Aside0.mk hr0
 have HC0 := Aside0.mk hc0
 clear hr0 hc0
 have H : (spec_l4Has.l0 k l0 a1 0) = some r := h
 clear h
 have H' := Aside0.mk H
 clear H
 go_enter Try.func139, Try.ntmps139
 go_wp2
 go_loopg [5] k (fun kq v5 w' => ∃ (x5_1 : Int), v5 = .int .i64 x5_1 ∧ Aside0 (spec_l4Has.l0 kq l0 a1 x5_1 = some r) ∧ Aside0 (kq ≤ k) ∧ Drawn0 w w')
 case atStart => exact ⟨(0), dz3, H', ⟨Nat.le_refl _⟩, by repeat (first | exact Drawn0.refl _ | apply Drawn0.step)⟩
 case round =>
  clear H'
  try clear c1
  try clear p2
  obtain ⟨x5_1, rfl, HA, HK1, ⟨m1, rfl⟩⟩ := hrel
  cases gk with
  | zero => exact absurd HA.out (by simp [spec_l4Has.l0])
  | succ k1 =>
   have H := HA.out
   clear HA
   simp only [spec_l4Has.l0] at H
   by_cases c3 : x5_1 < (l0.length : Int)
   ·rw [if_pos c3] at H
    have c3b0 : decide (x5_1 < (l0.length : Int)) = true := decide_eq_true c3
    clear c3
    by_cases c4 : 0 ≤ x5_1
    ·rw [if_pos c4] at H
     have c4b0 : decide (0 ≤ x5_1) = true := decide_eq_true c4
     clear c4
     by_cases c5 : (rd l0 x5_1) = a1
     ·rw [if_pos c5] at H
      have c5b0 : ((rd l0 x5_1) == a1) = true := beq_iff_eq.mpr c5
      have c5b1 : ((rd l0 x5_1) != a1) = false := bne_eq_false_iff_eq.mpr c5
      clear c5
      obtain rfl := Option.some.inj H
      have p189 : 0 ≤ (x5_1 : Int) := of_decide_eq_true dz0
      have q189 : x5_1 < (l0.length : Int) := of_decide_eq_true dz0
      obtain ⟨ad189, e189, hx189_0⟩ := Kd.at_int HR0.out x5_1 p189 q189
      cases e189
      replace p189 := eq_true p189
      replace q189 := eq_true q189
      go_wp2
      go_ret
      exact dz321
     rw [if_neg c5] at H
     have c5b0 : ((rd l0 x5_1) == a1) = false := beq_eq_false_iff_ne.mpr c5
     have c5b1 : ((rd l0 x5_1) != a1) = true := bne_iff_ne.mpr c5
     have H' := Aside0.mk H
     clear H
     have p189 : 0 ≤ (x5_1 : Int) := of_decide_eq_true dz0
     have q189 : x5_1 < (l0.length : Int) := of_decide_eq_true dz0
     obtain ⟨ad189, e189, hx189_0⟩ := Kd.at_int HR0.out x5_1 p189 q189
     cases e189
     replace p189 := eq_true p189
     replace q189 := eq_true q189
     go_wp2
     go_roundg k1
     case measure => have := HK1.out; omega
     case rel => exact ⟨(wrap64 (x5_1 + 1)), dz3, H', ⟨by have := HK1.out; omega⟩, by repeat (first | exact Drawn0.refl _ | apply Drawn0.step)⟩
    rw [if_neg c4] at H
    exact absurd H (by simp)
   rw [if_neg c3] at H
   have c3b0 : decide (x5_1 < (l0.length : Int)) = false := decide_eq_false c3
   clear c3
   obtain rfl := Option.some.inj H
   go_wp2
   go_ret
   exact dz321
def spec_l4Put.l0 : Nat → List Int → Int → List Int → Bool → Int → Option (List Int)
 | 0, _, _, _, _, _ => none
 | k + 1, x0, x1, x5, x6, x7 => if x7 < (x0.length : Int) then (if x6 = true then (if 0 ≤ x7 then (if x5.length < 17592186044416 then (spec_l4Put.l0 k x0 x1 (x5 ++ [rd x0 x7]) x6 (wrap64 (x7 + 1))) else (none)) else (none)) else (if 0 ≤ x7 then (if (rd x0 x7) > x1 then (if x5.length < 17592186044416 then ((some (x5 ++ [x1] : List Int)).bind fun y199 => (if y199.length < 17592186044416 then (spec_l4Put.l0 k x0 x1 (y199 ++ [rd x0 x7]) true (wrap64 (x7 + 1))) else (none))) else (none)) else (if x5.length < 17592186044416 then (spec_l4Put.l0 k x0 x1 (x5 ++ [rd x0 x7]) x6 (wrap64 (x7 + 1))) else (none))) else (none))) else (if x6 = true then (some x5) else (if x5.length < 17592186044416 then (some (x5 ++ [x1])) else (none)))
def spec_l4Put.f (k : Nat) (l0 : List Int) (a1 : Int) : Option (List Int) := (spec_l4Has.f k l0 a1).bind fun t193 => (spec_l4Put.l0 k l0 a1 (([] : List Int)) t193 0)
set_option maxHeartbeats 8000000 in
set_option maxRecDepth 100000 in
theorem spec_l4Put.calls (k : Nat) (A0 : Option Addr) (c0 : Nat) (l0 : List Int) (a1 : Int) (r : List Int) (w : World) (hr0 : Kd.C (Kd.int .i64) w A0 l0.length l0) (hc0 : l0.length ≤ c0) (h : spec_l4Put.f k l0 a1 = some r) :
  Calls Try.prog 119 #[.slice A0 l0.length c0, .int .i64 a1] w fun e w' => ∃ v0_ : Value, e = .returned (v0_) ∧ Kd.R (Kd.int .i64) 3 w' w.heap.size (fun _ => True) v0_ r ∧ Below w.heap.size w w' := by
 have HR0 := Aside0.mk hr0
 have HC0 := Aside0.mk hc0
 clear hr0 hc0
 have HB := Aside0.mk (Below.refl w.heap.size w)
 have H : ((spec_l4Has.f k l0 a1).bind fun t193 => (spec_l4Put.l0 k l0 a1 (([] : List Int)) t193 0)) = some r := h
 clear h
 obtain ⟨y190, hy190⟩ : ∃ y_ : List Int, y_ = (([] : List Int)) := ⟨_, rfl⟩
 replace H : ((spec_l4Has.f k l0 a1).bind fun t193 => (spec_l4Put.l0 k l0 a1 y190 t193 0)) = some r := by first | (rw [hy190]; with_reducible exact H) | (have H2_ := (Option.bind_some _ _).symm.trans H; rw [hy190]; with_reducible exact H2_) | (have H2_ := (Option.bind_some _ _).symm.trans H; with_reducible exact H2_) | with_reducible exact H | (rw [hy190]; exact H) | exact H
 have Ny190 := Aside0.mk hy190
 clear hy190
 replace H := Option.bind_eq_some_iff.mp H
 obtain ⟨t193, A30, H⟩ := H
 replace H : (spec_l4Put.l0 k l0 a1 y190 t193 0) = some r := H
 have A3 := Aside0.mk A30
 clear A30
 have H' := Aside0.mk H
 clear H
 go_enter Try.func119, Try.ntmps119
 go_wp2_with (first | ((with_reducible refine gate_dst (N := 8) rfl ?_); refine Kd.R_lit (Kd.int .i64) _ 3 ?hg (N := 8) ?hd (xs := ([] : List Int)) (inner := []) (ok := fun _ => True) (okp := fun _ => True) ?hr ?hp (fun _ hk => hk) trivial (Below.refl _ _) (Nat.le_refl _) (by simp) ?_; (case hd => rfl); (case hg => rfl); (case hr => first | (go_simp; done) | (go_simp; rfl)); (case hp => exact (Reps.none _ _)); intro v191 w1 ho5 hb hg_ hnew_; clear hg_ hnew_; (first | rw [← Ny190.out] at ho5 | (simp only [Int.reduceToNat] at ho5; rw [← Ny190.out] at ho5)); have HO192 := Aside0.mk (Kd.R_lower ho5 (below_size dz2)); replace HB := Aside0.mk (below_step dz2 hb); clear hb ho5) | ((with_reducible refine gate_callee (f := 139) rfl ?_); refine goesL_ (some 11) rfl rfl Try.func139 (by kernel_rfl) rfl #[.slice A0 l0.length c0, .int .i64 a1] rfl dz1 ?_; (with_reducible refine (spec_l4Has.calls k _ _ l0 a1 t193 _ ?side1 ?side2 A3.out).mono ?_); (case side1 => repeat (first | exact (Kd.C_below HR0.out HB.out) | (with_reducible refine Kd.C_alloc ?_ _) | (with_reducible refine Kd.C_drewN ?_ _) | (with_reducible refine Kd.C_drew ?_))); (case side2 => exact HC0.out); rintro e w' ⟨rfl, ⟨nd, rfl⟩⟩; refine ⟨_, rfl, ?_⟩))
 go_loopg [5, 6, 7] k (fun kq v5 v6 v7 w' => ∃ (x5_1 : List Int) (x6_1 : Bool) (x7_1 : Int), v6 = .bool x6_1 ∧ v7 = .int .i64 x7_1 ∧ Aside0 (spec_l4Put.l0 kq l0 a1 x5_1 x6_1 x7_1 = some r) ∧ Aside0 (kq ≤ k) ∧ Aside0 (Kd.R (Kd.int .i64) 3 w' w.heap.size (fun _ => True) v5 x5_1) ∧ Aside0 (Below w.heap.size w w'))
 case atStart => exact ⟨(y190), (t193), (0), dz3, dz3, H', ⟨Nat.le_refl _⟩, ⟨by (with_reducible repeat (first | apply Kd.R_alloc | apply Kd.R_drewN | apply Kd.R_drew)); exact HO192.out⟩, ⟨by repeat (first | (with_reducible first | exact HB.out | apply below_alloc | apply pw_below_drewN | apply below_drew1) | exact HB.out)⟩⟩
 case round =>
  clear H'
  try clear c1
  try clear p2
  obtain ⟨x5_1, x6_1, x7_1, rfl, rfl, HA, HK1, HO_5, HB⟩ := hrel
  cases gk with
  | zero => exact absurd HA.out (by simp [spec_l4Put.l0])
  | succ k1 =>
   have H := HA.out
   clear HA
   simp only [spec_l4Put.l0] at H
   by_cases c6 : x7_1 < (l0.length : Int)
   ·rw [if_pos c6] at H
    have c6b0 : decide (x7_1 < (l0.length : Int)) = true := decide_eq_true c6
    clear c6
    by_cases c7 : x6_1 = true
    ·subst c7
     have H1 : (if 0 ≤ x7_1 then (if x5_1.length < 17592186044416 then (spec_l4Put.l0 k1 l0 a1 (x5_1 ++ [rd l0 x7_1]) true (wrap64 (x7_1 + 1))) else (none)) else (none)) = some r := by rw [if_pos rfl] at H; exact H
     clear H
     have H := H1
     clear H1
     by_cases c8 : 0 ≤ x7_1
     ·rw [if_pos c8] at H
      have c8b0 : decide (0 ≤ x7_1) = true := decide_eq_true c8
      clear c8
      by_cases c9 : x5_1.length < 17592186044416
      ·rw [if_pos c9] at H
       have LMc9 := Aside0.mk c9
       clear c9
       obtain ⟨y195, hy195⟩ : ∃ y_ : List Int, y_ = (x5_1 ++ [rd l0 x7_1]) := ⟨_, rfl⟩
       replace H : (spec_l4Put.l0 k1 l0 a1 y195 true (wrap64 (x7_1 + 1))) = some r := by first | (rw [hy195]; with_reducible exact H) | (have H2_ := (Option.bind_some _ _).symm.trans H; rw [hy195]; with_reducible exact H2_) | (have H2_ := (Option.bind_some _ _).symm.trans H; with_reducible exact H2_) | with_reducible exact H | (rw [hy195]; exact H) | exact H
       have Ny195 := Aside0.mk hy195
       clear hy195
       have H' := Aside0.mk H
       clear H
       have p194 : 0 ≤ (x7_1 : Int) := of_decide_eq_true dz0
       have q194 : x7_1 < (l0.length : Int) := of_decide_eq_true dz0
       obtain ⟨ad194, e194, hx194_0⟩ := Kd.at_int HR0.out x7_1 p194 q194
       cases e194
       replace hx194_0 := hxl_ HB hx194_0
       replace p194 := eq_true p194
       replace q194 := eq_true q194
       go_wp2_with (first | ((with_reducible refine gate_builtin (b := .append) (xs := #[.tmp 32, .tmp 37]) rfl ?_); at_builtin; refine Kd.R_append (Kd.int .i64) (w0 := w) w.heap.size rfl (.tmp 32) (.tmp 37) 26 3 (.int .i64 0) 8 rfl Try.underlying26 info3 rfl (by decide) (by omega) u5 x5_1 (rd l0 x7_1) [.int .i64 (rd l0 x7_1)] (fun _ => True) (fun _ => False) rfl rfl ?aP (fun _ hk => hk.elim) ?aF ?aO ?aB ?aS ?aL ?_; (case aP => exact rfl); (case aB => exact dz2); (case aF => exact (fun _ _ => trivial)); (case aO => exact dz52); (case aS => exact (below_size dz2)); (case aL => have := LMc9.out; omega); intro v196 w10 ho hb hg hat; rw [← Ny195.out] at ho; replace HB := Aside0.mk (hb); have HO197 := Aside0.mk (ho); clear HO_5; clear ho hb hg hat))
       go_roundg k1
       case measure => have := HK1.out; omega
       case rel => exact ⟨(y195), (true), (wrap64 (x7_1 + 1)), dz3, dz3, H', ⟨by have := HK1.out; omega⟩, ⟨by (with_reducible repeat (first | apply Kd.R_alloc | apply Kd.R_drewN | apply Kd.R_drew)); exact HO197.out⟩, ⟨by repeat (first | (with_reducible first | exact HB.out | apply below_alloc | apply pw_below_drewN | apply below_drew1) | exact HB.out)⟩⟩
      rw [if_neg c9] at H
      exact absurd H (by simp)
     rw [if_neg c8] at H
     exact absurd H (by simp)
    replace c7 := Bool.eq_false_iff.mpr c7
    subst c7
    have H1 : (if 0 ≤ x7_1 then (if (rd l0 x7_1) > a1 then (if x5_1.length < 17592186044416 then ((some (x5_1 ++ [a1] : List Int)).bind fun y199 => (if y199.length < 17592186044416 then (spec_l4Put.l0 k1 l0 a1 (y199 ++ [rd l0 x7_1]) true (wrap64 (x7_1 + 1))) else (none))) else (none)) else (if x5_1.length < 17592186044416 then (spec_l4Put.l0 k1 l0 a1 (x5_1 ++ [rd l0 x7_1]) false (wrap64 (x7_1 + 1))) else (none))) else (none)) = some r := by rw [if_neg (show ¬ (false = true) by decide)] at H; exact H
    clear H
    have H := H1
    clear H1
    by_cases c11 : 0 ≤ x7_1
    ·rw [if_pos c11] at H
     have c11b0 : decide (0 ≤ x7_1) = true := decide_eq_true c11
     clear c11
     by_cases c12 : (rd l0 x7_1) > a1
     ·rw [if_pos c12] at H
      have c12b0 : decide (a1 < (rd l0 x7_1)) = true := decide_eq_true c12
      clear c12
      by_cases c13 : x5_1.length < 17592186044416
      ·rw [if_pos c13] at H
       have LMc13 := Aside0.mk c13
       clear c13
       obtain ⟨y199, hy199⟩ : ∃ y_ : List Int, y_ = (x5_1 ++ [a1]) := ⟨_, rfl⟩
       replace H : (if y199.length < 17592186044416 then (spec_l4Put.l0 k1 l0 a1 (y199 ++ [rd l0 x7_1]) true (wrap64 (x7_1 + 1))) else (none)) = some r := by first | (rw [hy199]; with_reducible exact H) | (have H2_ := (Option.bind_some _ _).symm.trans H; rw [hy199]; with_reducible exact H2_) | (have H2_ := (Option.bind_some _ _).symm.trans H; with_reducible exact H2_) | with_reducible exact H | (rw [hy199]; exact H) | exact H
       have Ny199 := Aside0.mk hy199
       clear hy199
       by_cases c14 : y199.length < 17592186044416
       ·rw [if_pos c14] at H
        have LMc14 := Aside0.mk c14
        clear c14
        obtain ⟨y203, hy203⟩ : ∃ y_ : List Int, y_ = (y199 ++ [rd l0 x7_1]) := ⟨_, rfl⟩
        replace H : (spec_l4Put.l0 k1 l0 a1 y203 true (wrap64 (x7_1 + 1))) = some r := by first | (rw [hy203]; with_reducible exact H) | (have H2_ := (Option.bind_some _ _).symm.trans H; rw [hy203]; with_reducible exact H2_) | (have H2_ := (Option.bind_some _ _).symm.trans H; with_reducible exact H2_) | with_reducible exact H | (rw [hy203]; exact H) | exact H
        have Ny203 := Aside0.mk hy203
        clear hy203
        have H' := Aside0.mk H
        clear H
        have p198 : 0 ≤ (x7_1 : Int) := of_decide_eq_true dz0
        have q198 : x7_1 < (l0.length : Int) := of_decide_eq_true dz0
        obtain ⟨ad198, e198, hx198_0⟩ := Kd.at_int HR0.out x7_1 p198 q198
        cases e198
        replace hx198_0 := hxl_ HB hx198_0
        replace p198 := eq_true p198
        replace q198 := eq_true q198
        go_wp2_with (first | ((with_reducible refine gate_builtin (b := .append) (xs := #[.tmp 28, .tmp 30]) rfl ?_); at_builtin; refine Kd.R_append (Kd.int .i64) (w0 := w) w.heap.size rfl (.tmp 28) (.tmp 30) 26 3 (.int .i64 0) 8 rfl Try.underlying26 info3 rfl (by decide) (by omega) u5 x5_1 a1 [.int .i64 a1] (fun _ => True) (fun _ => False) rfl rfl ?aP (fun _ hk => hk.elim) ?aF ?aO ?aB ?aS ?aL ?_; (case aP => exact rfl); (case aB => exact dz2); (case aF => exact (fun _ _ => trivial)); (case aO => exact dz52); (case aS => exact (below_size dz2)); (case aL => have := LMc13.out; omega); intro v200 w15 ho hb hg hat; rw [← Ny199.out] at ho; replace HB := Aside0.mk (hb); have HO201 := Aside0.mk (ho); clear HO_5; clear ho hb hg hat; have p202 : 0 ≤ (x7_1 : Int) := of_decide_eq_true dz0; have q202 : x7_1 < (l0.length : Int) := of_decide_eq_true dz0; obtain ⟨ad202, e202, hx202_0⟩ := Kd.at_int HR0.out x7_1 p202 q202; obtain rfl : ad198 = ad202 := (by injection e202); replace hx202_0 := hxl_ HB hx202_0; replace p202 := eq_true p202; replace q202 := eq_true q202) | ((with_reducible refine gate_builtin (b := .append) (xs := #[.tmp 32, .tmp 37]) rfl ?_); at_builtin; refine Kd.R_append (Kd.int .i64) (w0 := w) w.heap.size rfl (.tmp 32) (.tmp 37) 26 3 (.int .i64 0) 8 rfl Try.underlying26 info3 rfl (by decide) (by omega) v200 y199 (rd l0 x7_1) [.int .i64 (rd l0 x7_1)] (fun _ => True) (fun _ => False) rfl rfl ?aP (fun _ hk => hk.elim) ?aF ?aO ?aB ?aS ?aL ?_; (case aP => exact rfl); (case aB => exact dz2); (case aF => exact (fun _ _ => trivial)); (case aO => exact (by (with_reducible repeat (first | apply Kd.R_alloc | apply Kd.R_drewN | apply Kd.R_drew)); exact HO201.out)); (case aS => exact (below_size dz2)); (case aL => have := LMc14.out; omega); intro v204 w16 ho hb hg hat; rw [← Ny203.out] at ho; replace HB := Aside0.mk (hb); have HO205 := Aside0.mk (ho); clear HO201; clear ho hb hg hat))
        go_roundg k1
        case measure => have := HK1.out; omega
        case rel => exact ⟨(y203), (true), (wrap64 (x7_1 + 1)), dz3, dz3, H', ⟨by have := HK1.out; omega⟩, ⟨by (with_reducible repeat (first | apply Kd.R_alloc | apply Kd.R_drewN | apply Kd.R_drew)); exact HO205.out⟩, ⟨by repeat (first | (with_reducible first | exact HB.out | apply below_alloc | apply pw_below_drewN | apply below_drew1) | exact HB.out)⟩⟩
       rw [if_neg c14] at H
       exact absurd H (by simp)
      rw [if_neg c13] at H
      exact absurd H (by simp)
     rw [if_neg c12] at H
     have c12b0 : decide (a1 < (rd l0 x7_1)) = false := decide_eq_false c12
     clear c12
     by_cases c17 : x5_1.length < 17592186044416
     ·rw [if_pos c17] at H
      have LMc17 := Aside0.mk c17
      clear c17
      obtain ⟨y207, hy207⟩ : ∃ y_ : List Int, y_ = (x5_1 ++ [rd l0 x7_1]) := ⟨_, rfl⟩
      replace H : (spec_l4Put.l0 k1 l0 a1 y207 false (wrap64 (x7_1 + 1))) = some r := by first | (rw [hy207]; with_reducible exact H) | (have H2_ := (Option.bind_some _ _).symm.trans H; rw [hy207]; with_reducible exact H2_) | (have H2_ := (Option.bind_some _ _).symm.trans H; with_reducible exact H2_) | with_reducible exact H | (rw [hy207]; exact H) | exact H
      have Ny207 := Aside0.mk hy207
      clear hy207
      have H' := Aside0.mk H
      clear H
      have p198 : 0 ≤ (x7_1 : Int) := of_decide_eq_true dz0
      have q198 : x7_1 < (l0.length : Int) := of_decide_eq_true dz0
      obtain ⟨ad198, e198, hx198_0⟩ := Kd.at_int HR0.out x7_1 p198 q198
      cases e198
      replace hx198_0 := hxl_ HB hx198_0
      replace p198 := eq_true p198
      replace q198 := eq_true q198
      have p206 : 0 ≤ (x7_1 : Int) := of_decide_eq_true dz0
      have q206 : x7_1 < (l0.length : Int) := of_decide_eq_true dz0
      obtain ⟨ad206, e206, hx206_0⟩ := Kd.at_int HR0.out x7_1 p206 q206
      obtain rfl : ad198 = ad206 := (by injection e206)
      replace hx206_0 := hxl_ HB hx206_0
      replace p206 := eq_true p206
      replace q206 := eq_true q206
      go_wp2_with (first | ((with_reducible refine gate_builtin (b := .append) (xs := #[.tmp 32, .tmp 37]) rfl ?_); at_builtin; refine Kd.R_append (Kd.int .i64) (w0 := w) w.heap.size rfl (.tmp 32) (.tmp 37) 26 3 (.int .i64 0) 8 rfl Try.underlying26 info3 rfl (by decide) (by omega) u5 x5_1 (rd l0 x7_1) [.int .i64 (rd l0 x7_1)] (fun _ => True) (fun _ => False) rfl rfl ?aP (fun _ hk => hk.elim) ?aF ?aO ?aB ?aS ?aL ?_; (case aP => exact rfl); (case aB => exact dz2); (case aF => exact (fun _ _ => trivial)); (case aO => exact dz52); (case aS => exact (below_size dz2)); (case aL => have := LMc17.out; omega); intro v208 w18 ho hb hg hat; rw [← Ny207.out] at ho; replace HB := Aside0.mk (hb); have HO209 := Aside0.mk (ho); clear HO_5; clear ho hb hg hat))
      go_roundg k1
      case measure => have := HK1.out; omega
      case rel => exact ⟨(y207), (false), (wrap64 (x7_1 + 1)), dz3, dz3, H', ⟨by have := HK1.out; omega⟩, ⟨by (with_reducible repeat (first | apply Kd.R_alloc | apply Kd.R_drewN | apply Kd.R_drew)); exact HO209.out⟩, ⟨by repeat (first | (with_reducible first | exact HB.out | apply below_alloc | apply pw_below_drewN | apply below_drew1) | exact HB.out)⟩⟩
     rw [if_neg c17] at H
     exact absurd H (by simp)
    rw [if_neg c11] at H
    exact absurd H (by simp)
   rw [if_neg c6] at H
   have c6b0 : decide (x7_1 < (l0.length : Int)) = false := decide_eq_false c6
   clear c6
   by_cases c19 : x6_1 = true
   ·subst c19
    have H1 : (some x5_1) = some r := by rw [if_pos rfl] at H; exact H
    clear H
    have H := H1
    clear H1
    obtain rfl := Option.some.inj H
    go_wp2
    go_ret
    exact ⟨_, by first | rfl | (simp [errW_none, errW_some] <;> rfl) | (simp [*, errW_none, errW_some] <;> rfl), by (with_reducible repeat (first | apply Kd.R_alloc | apply Kd.R_drewN | apply Kd.R_drew)); exact HO_5.out, by repeat (first | (with_reducible first | exact HB.out | apply below_alloc | apply pw_below_drewN | apply below_drew1) | exact HB.out)⟩
   replace c19 := Bool.eq_false_iff.mpr c19
   subst c19
   have H1 : (if x5_1.length < 17592186044416 then (some (x5_1 ++ [a1])) else (none)) = some r := by rw [if_neg (show ¬ (false = true) by decide)] at H; exact H
   clear H
   have H := H1
   clear H1
   by_cases c20 : x5_1.length < 17592186044416
   ·rw [if_pos c20] at H
    have LMc20 := Aside0.mk c20
    clear c20
    obtain ⟨y210, hy210⟩ : ∃ y_ : List Int, y_ = (x5_1 ++ [a1]) := ⟨_, rfl⟩
    replace H : (some y210) = some r := by first | (rw [hy210]; with_reducible exact H) | (have H2_ := (Option.bind_some _ _).symm.trans H; rw [hy210]; with_reducible exact H2_) | (have H2_ := (Option.bind_some _ _).symm.trans H; with_reducible exact H2_) | with_reducible exact H | (rw [hy210]; exact H) | exact H
    have Ny210 := Aside0.mk hy210
    clear hy210
    obtain rfl := Option.some.inj H
    go_wp2_with (first | ((with_reducible refine gate_builtin (b := .append) (xs := #[.tmp 41, .tmp 43]) rfl ?_); at_builtin; refine Kd.R_append (Kd.int .i64) (w0 := w) w.heap.size rfl (.tmp 41) (.tmp 43) 26 3 (.int .i64 0) 8 rfl Try.underlying26 info3 rfl (by decide) (by omega) u5 x5_1 a1 [.int .i64 a1] (fun _ => True) (fun _ => False) rfl rfl ?aP (fun _ hk => hk.elim) ?aF ?aO ?aB ?aS ?aL ?_; (case aP => exact rfl); (case aB => exact dz2); (case aF => exact (fun _ _ => trivial)); (case aO => exact dz52); (case aS => exact (below_size dz2)); (case aL => have := LMc20.out; omega); intro v211 w21 ho hb hg hat; rw [← Ny210.out] at ho; replace HB := Aside0.mk (hb); have HO212 := Aside0.mk (ho); clear HO_5; clear ho hb hg hat))
    go_ret
    exact ⟨_, by first | rfl | (simp [errW_none, errW_some] <;> rfl) | (simp [*, errW_none, errW_some] <;> rfl), by (with_reducible repeat (first | apply Kd.R_alloc | apply Kd.R_drewN | apply Kd.R_drew)); exact HO212.out, by repeat (first | (with_reducible first | exact HB.out | apply below_alloc | apply pw_below_drewN | apply below_drew1) | exact HB.out)⟩
   rw [if_neg c20] at H
   exact absurd H (by simp)
end Go.Proofs.Ytdkdhciogedoiaa.PFnSureTo
