-- Written by wip/gen/pack.py of this repo. Lean checks it.
import Derived.Test.YtdkdhciogedoiabKFnAddedP0
import Derived.Test.YtdkdhciogedoiabKFnAddedP1
import Derived.Test.YtdkdhciogedoiabKFnAddedP4
import Derived.Test.YtdkdhciogedoiabKFnAddedD
namespace Go.Proofs.Ytdkdhciogedoiab.PFnAdded
open Go.RowKit Go.Proofs.YtdkdhciogedoiabW.PrintWords Go.Proofs.YtdkdhciogedoiabW.PrintLast Go.Proofs.YtdkdhciogedoiabW.PrintMore Go.Proofs.YtdkdhciogedoiabW.Sq
attribute [local go_sem] max2_int min2_int max_two min_two max_three min_three max_four min_four
set_option linter.unusedVariables false
set_option linter.unusedSimpArgs false
def spec_l8Copy.l0 : Nat → Int → Int → List (S50) → Int → List (S50) → Option (Int × (List (S50)))
 | 0, _, _, _, _, _ => none
 | k + 1, x4, x209000, x209001, x211000, x211001 => if x4 < (x209001.length : Int) then (if 0 ≤ x4 then ((some (([] : List Int) : List Int)).bind fun y213 => (if y213.length + ((rd_T50 x209001 x4).f1).length < 17592186044416 then (if x211001.length < 2932031007402 then (spec_l8Copy.l0 k (wrap64 (x4 + 1)) x209000 x209001 x211000 (x211001 ++ [(⟨(rd_T50 x209001 x4).f0, (y213 ++ ((rd_T50 x209001 x4).f1)), (rd_T50 x209001 x4).f2⟩ : S50)])) else (none)) else (none))) else (none)) else (some (x211000, x211001))
def spec_l8Copy.f (k : Nat) (a0_0 : Int) (l0_1 : List (S50)) : Option (Int × (List (S50))) := spec_l8Copy.l0 k 0 a0_0 l0_1 a0_0 ([] : List (S50))
set_option maxHeartbeats 8000000 in
set_option maxRecDepth 100000 in
theorem spec_l8Copy.calls (k : Nat) (a0_0 : Int) (A0_1 : Option Addr) (c0_1 : Nat) (l0_1 : List (S50)) (r1 : Int) (r2 : List (S50)) (w : World) (hr0_1 : Kd.C k50 w A0_1 l0_1.length l0_1) (hc0_1 : l0_1.length ≤ c0_1) (h : spec_l8Copy.f k a0_0 l0_1 = some (r1, r2)) :
  Calls Try.prog 71 #[.agg #[.int .i64 a0_0, .slice A0_1 l0_1.length c0_1]] w fun e w' => ∃ v1_ : Value, e = .returned (.agg #[.int .i64 r1, v1_]) ∧ Kd.S k50 50 w' w.heap.size (fun _ => True) v1_ r2 ∧ Below w.heap.size w w' := by
 have hu44 := Try.underlying44
 have hu50 := Try.underlying50
 have HR0_1 := Aside0.mk hr0_1
 have HC0_1 := Aside0.mk hc0_1
 clear hr0_1 hc0_1
 have HB := Aside0.mk (Below.refl w.heap.size w)
 have H : (spec_l8Copy.l0 k 0 a0_0 l0_1 a0_0 ([] : List (S50))) = some (r1, r2) := h
 clear h
 have H' := Aside0.mk H
 clear H
 go_enter Try.func71, Try.ntmps71
 go_wp2_with (first | ((with_reducible refine gate_dst (N := 1) rfl ?_); refine box_event kr_ (N := 1) kr_ (cs := #[.int .i64 a0_0, .slice A0_1 l0_1.length c0_1]) (t := 44) ks_ ?_; intro gb208 hg w1 hbox hb; have BK208 := Aside0.mk (hbox); have GW208 : Aside0 (w.heap.size ≤ gb208) := szl_ hg dz2; have GE208 : Aside0 (w.heap.size ≤ gb208) := szl_ hg dz2; replace HB := Aside0.mk (below_step dz2 hb); clear hb hbox hg) | ((with_reducible refine gate_dst (N := 2) rfl ?_); refine box_event kr_ (N := 2) kr_ (cs := #[.int .i64 0, .slice none 0 0]) (t := 44) ks_ ?_; intro gb209 hg w2 hbox hb; have BK209 := Aside0.mk (hbox); have GW209 : Aside0 (w.heap.size ≤ gb209) := szl_ hg dz107; have GE209 : Aside0 (w.heap.size ≤ gb209) := szl_ hg dz107; replace HB := Aside0.mk (below_step dz107 hb); have NB208_209 := (nbl_ hg BK208); have NB209_208 := (nbr_ hg BK208); replace BK208 := (bkb_ BK208 hb); clear hb hbox hg; have hnb4 := NB208_209.out; have hnc4 := NB209_208.out; obtain ⟨hcz5_0, hcz5_1, hfz5_0, hfz5_1⟩ := cz2_ BK208) | ((with_reducible refine gate_dst (N := 3) rfl ?_); refine box_event kr_ (N := 3) kr_ (cs := #[.int .i64 0, .slice none 0 0]) (t := 44) ks_ ?_; intro gb210 hg w3 hbox hb; have BK210 := Aside0.mk (hbox); have GW210 : Aside0 (w.heap.size ≤ gb210) := szl_ hg dz108; have GE210 : Aside0 (w.heap.size ≤ gb210) := szl_ hg dz108; replace HB := Aside0.mk (below_step dz108 hb); have NB208_210 := (nbl_ hg BK208); have NB210_208 := (nbr_ hg BK208); replace BK208 := (bkb_ BK208 hb); have NB209_210 := (nbl_ hg BK209); have NB210_209 := (nbr_ hg BK209); replace BK209 := (bkb_ BK209 hb); clear hb hbox hg; have hnb7 := NB210_208.out; have hnc7 := NB208_210.out; have hnb8 := NB210_209.out; have hnc8 := NB209_210.out; obtain ⟨hcz9_0, hcz9_1, hfz9_0, hfz9_1⟩ := cz2_ BK210))
 go_loopg [4] k (fun kq v4 w' => ∃ (x4_1 : Int) (x211001_1 : List (S50)) (u211001 : Value), v4 = .int .i64 x4_1 ∧ Aside0 (spec_l8Copy.l0 kq x4_1 a0_0 l0_1 a0_0 x211001_1 = some (r1, r2)) ∧ Aside0 (kq ≤ k) ∧ Aside0 (Kd.S k50 50 w' w.heap.size (fun _ => True) u211001 x211001_1) ∧ Aside0 (w'.heap[gb208]? = some (.cells #[.int .i64 a0_0, (.slice A0_1 l0_1.length c0_1)] 44 (0, 0))) ∧ Aside0 (w'.heap[gb209]? = some (.cells #[.int .i64 0, (.slice none 0 0)] 44 (0, 0))) ∧ Aside0 (w'.heap[gb210]? = some (.cells #[.int .i64 a0_0, u211001] 44 (0, 0))) ∧ Aside0 (Below w.heap.size w w'))
 case atStart => exact ⟨(0), (([] : List (S50))), (.slice none 0 0), dz3, H', ⟨Nat.le_refl _⟩, ⟨by first | exact Kd.S_nil _ _ _ _ _ | exact Kd.N_nil _ _ _ _ _ | exact Kd.V_nil _ _ _ _ _ | exact Kd.Q_nil _ _ _ _ _ | exact Kd.R_nil _ _ _ _ _⟩, ⟨by (with_reducible repeat (first | refine blk_drewN ?_ _ | refine blk_drew ?_ | refine blk_alloc ?_ _)); refine blk_far ?_ NB208_210.out _; (with_reducible repeat (first | refine blk_drewN ?_ _ | refine blk_drew ?_ | refine blk_alloc ?_ _)); refine blk_far ?_ NB208_210.out _; (with_reducible repeat (first | refine blk_drewN ?_ _ | refine blk_drew ?_ | refine blk_alloc ?_ _)); exact BK208.out⟩, ⟨by (with_reducible repeat (first | refine blk_drewN ?_ _ | refine blk_drew ?_ | refine blk_alloc ?_ _)); refine blk_far ?_ NB209_210.out _; (with_reducible repeat (first | refine blk_drewN ?_ _ | refine blk_drew ?_ | refine blk_alloc ?_ _)); refine blk_far ?_ NB209_210.out _; (with_reducible repeat (first | refine blk_drewN ?_ _ | refine blk_drew ?_ | refine blk_alloc ?_ _)); exact BK209.out⟩, ⟨by (with_reducible repeat (first | refine blk_drewN ?_ _ | refine blk_drew ?_ | refine blk_alloc ?_ _)); refine blk_put (cs := #[.int .i64 a0_0, .slice none 0 0]) ?_ 1 _ rfl; (with_reducible repeat (first | refine blk_drewN ?_ _ | refine blk_drew ?_ | refine blk_alloc ?_ _)); refine blk_put (cs := #[.int .i64 0, .slice none 0 0]) ?_ 0 _ rfl; (with_reducible repeat (first | refine blk_drewN ?_ _ | refine blk_drew ?_ | refine blk_alloc ?_ _)); exact BK210.out⟩, ⟨by repeat (first | (with_reducible first | exact HB.out | apply below_alloc | apply pw_below_drewN | apply below_drew1 | refine below_set ?_ GE208.out | refine below_set ?_ GE209.out | refine below_set ?_ GE210.out) | exact HB.out)⟩⟩
 case round =>
  clear H'
  try clear p2
  try clear c4
  try clear c7
  try clear c8
  try clear hcz5_0
  try clear hcz5_1
  try clear hcz9_0
  try clear hcz9_1
  try clear hfz5_0
  try clear hfz5_1
  try clear hfz9_0
  try clear hfz9_1
  obtain ⟨x4_1, x211001_1, u211001, rfl, HA, HK1, HO_211001, BK208, BK209, BK210, HB⟩ := hrel
  cases gk with
  | zero => exact absurd HA.out (by simp [spec_l8Copy.l0])
  | succ k1 =>
   have H := HA.out
   clear HA
   simp only [spec_l8Copy.l0] at H
   by_cases c10 : x4_1 < (l0_1.length : Int)
   ·rw [if_pos c10] at H
    have c10b0 : decide (x4_1 < (l0_1.length : Int)) = true := decide_eq_true c10
    clear c10
    by_cases c11 : 0 ≤ x4_1
    ·rw [if_pos c11] at H
     have c11b0 : decide (0 ≤ x4_1) = true := decide_eq_true c11
     clear c11
     obtain ⟨y213, hy213⟩ : ∃ y_ : List Int, y_ = (([] : List Int)) := ⟨_, rfl⟩
     replace H : (if y213.length + ((rd_T50 l0_1 x4_1).f1).length < 17592186044416 then (if x211001_1.length < 2932031007402 then (spec_l8Copy.l0 k1 (wrap64 (x4_1 + 1)) a0_0 l0_1 a0_0 (x211001_1 ++ [(⟨(rd_T50 l0_1 x4_1).f0, (y213 ++ ((rd_T50 l0_1 x4_1).f1)), (rd_T50 l0_1 x4_1).f2⟩ : S50)])) else (none)) else (none)) = some (r1, r2) := by first | (rw [hy213]; with_reducible exact H) | (have H2_ := (Option.bind_some _ _).symm.trans H; rw [hy213]; with_reducible exact H2_) | (have H2_ := (Option.bind_some _ _).symm.trans H; with_reducible exact H2_) | with_reducible exact H | (rw [hy213]; exact H) | exact H
     have Ny213 := Aside0.mk hy213
     clear hy213
     by_cases c12 : y213.length + ((rd_T50 l0_1 x4_1).f1).length < 17592186044416
     ·rw [if_pos c12] at H
      have LMc12 := Aside0.mk c12
      clear c12
      obtain ⟨y216, hy216⟩ : ∃ y_ : List Int, y_ = (y213 ++ ((rd_T50 l0_1 x4_1).f1)) := ⟨_, rfl⟩
      replace H : (if x211001_1.length < 2932031007402 then (spec_l8Copy.l0 k1 (wrap64 (x4_1 + 1)) a0_0 l0_1 a0_0 (x211001_1 ++ [(⟨(rd_T50 l0_1 x4_1).f0, y216, (rd_T50 l0_1 x4_1).f2⟩ : S50)])) else (none)) = some (r1, r2) := by first | (rw [hy216]; with_reducible exact H) | (have H2_ := (Option.bind_some _ _).symm.trans H; rw [hy216]; with_reducible exact H2_) | (have H2_ := (Option.bind_some _ _).symm.trans H; with_reducible exact H2_) | with_reducible exact H | (rw [hy216]; exact H) | exact H
      have Ny216 := Aside0.mk hy216
      clear hy216
      by_cases c13 : x211001_1.length < 2932031007402
      ·rw [if_pos c13] at H
       have LMc13 := Aside0.mk c13
       clear c13
       obtain ⟨y219, hy219⟩ : ∃ y_ : List (S50), y_ = (x211001_1 ++ [(⟨(rd_T50 l0_1 x4_1).f0, y216, (rd_T50 l0_1 x4_1).f2⟩ : S50)]) := ⟨_, rfl⟩
       replace H : (spec_l8Copy.l0 k1 (wrap64 (x4_1 + 1)) a0_0 l0_1 a0_0 y219) = some (r1, r2) := by first | (rw [hy219]; with_reducible exact H) | (have H2_ := (Option.bind_some _ _).symm.trans H; rw [hy219]; with_reducible exact H2_) | (have H2_ := (Option.bind_some _ _).symm.trans H; with_reducible exact H2_) | with_reducible exact H | (rw [hy219]; exact H) | exact H
       have Ny219 := Aside0.mk hy219
       clear hy219
       have H' := Aside0.mk H
       clear H
       have hnb14 := NB208_209.out
       have hnc14 := NB209_208.out
       have hnb15 := NB208_210.out
       have hnc15 := NB210_208.out
       obtain ⟨hcz16_0, hcz16_1, hfz16_0, hfz16_1⟩ := cz2_ BK208
       have p211 : 0 ≤ (x4_1 : Int) := of_decide_eq_true dz0
       have q211 : x4_1 < (l0_1.length : Int) := of_decide_eq_true dz0
       obtain ⟨ad211, A211_1, c211_1, e211, hx211_0, hx211_1, hx211_2, hl211_1, hi211_1⟩ := at_T50 HR0_1.out x4_1 p211 q211
       cases e211
       replace hx211_0 := hxl_ HB hx211_0
       replace hx211_1 := hxl_ HB hx211_1
       replace hx211_2 := hxl_ HB hx211_2
       have HR211_1 := Aside0.mk hi211_1
       have HC211_1 := Aside0.mk hl211_1
       clear hi211_1 hl211_1
       replace p211 := eq_true p211
       replace q211 := eq_true q211
       go_wp2_with (first | ((with_reducible refine gate_dst (N := 5) rfl ?_); refine box_event kr_ (N := 5) kr_ (cs := #[.string (⟨#[]⟩ : ByteArray), .slice none 0 0, .bool false]) (t := 50) ks_ ?_; intro gb212 hg w17 hbox hb; replace HO_211001 := Aside0.mk (Kd.S_below (Kd.S_elderB (by (with_reducible repeat (first | apply Kd.S_alloc | apply Kd.S_drewN | apply Kd.S_drew)); exact HO_211001.out) gb212 (Nat.le_of_eq hg.symm)) hb); have BK212 := Aside0.mk (hbox); have GW212 : Aside0 (w.heap.size ≤ gb212) := szl_ hg dz109; have GE212 : Aside0 (w.heap.size ≤ gb212) := szl_ hg dz109; replace HB := Aside0.mk (below_step dz109 hb); have NB208_212 := (nbl_ hg BK208); have NB212_208 := (nbr_ hg BK208); replace BK208 := (bkb_ BK208 hb); have NB209_212 := (nbl_ hg BK209); have NB212_209 := (nbr_ hg BK209); replace BK209 := (bkb_ BK209 hb); have NB210_212 := (nbl_ hg BK210); have NB212_210 := (nbr_ hg BK210); replace BK210 := (bkb_ BK210 hb); clear hb hbox hg; have hnb18 := NB212_208.out; have hnc18 := NB208_212.out; have hnb19 := NB212_209.out; have hnc19 := NB209_212.out; have hnb20 := NB212_210.out; have hnc20 := NB210_212.out; obtain ⟨hcz21_0, hcz21_1, hcz21_2, hfz21_0, hfz21_1, hfz21_2⟩ := cz3_ BK212) | ((with_reducible refine gate_dst (N := 21) rfl ?_); refine Kd.R_lit (Kd.int .i64) _ 3 ?hg (N := 21) ?hd (xs := ([] : List Int)) (inner := []) (ok := fun _ => True) (okp := fun _ => True) ?hr ?hp (fun _ hk => hk) trivial (Below.refl _ _) (Nat.le_refl _) (by simp) ?_; (case hd => rfl); (case hg => rfl); (case hr => first | (go_simp; done) | (go_simp; rfl)); (case hp => exact (Reps.none _ _)); intro v214 w22 ho23 hb hg_ hnew_; clear hg_ hnew_; (first | rw [← Ny213.out] at ho23 | (simp only [Int.reduceToNat] at ho23; rw [← Ny213.out] at ho23)); replace HO_211001 := Aside0.mk (Kd.S_elder' (by (with_reducible repeat (first | apply Kd.S_alloc | apply Kd.S_drewN | apply Kd.S_drew)); exact (Kd.S_mono (Kd.S_far (p := ⟨gb212, 2, none⟩) (Kd.S_far (p := ⟨gb212, 1, none⟩) (Kd.S_far (p := ⟨gb212, 0, none⟩) (Kd.S_mono HO_211001.out (fun k_ hk => (⟨hk, hk.2⟩ : _ ∧ k_ ≠ gb212))) (fun _ hk => hk.2) (.string ((rd_T50 l0_1 x4_1).f0))) (fun _ hk => hk.2) (.slice A211_1 ((rd_T50 l0_1 x4_1).f1).length c211_1)) (fun _ hk => hk.2) (.bool ((rd_T50 l0_1 x4_1).f2))) (fun _ h_ => h_.1))) (Kd.R_base ho23) hb); have HO215 := Aside0.mk (Kd.R_lower ho23 (below_size dz46)); replace BK208 := Aside0.mk (blk_below (g := gb208) (o := .cells #[.int .i64 a0_0, .slice (some ad211) l0_1.length c0_1] 44 (0, 0)) (by (with_reducible repeat (first | refine blk_drewN ?_ _ | refine blk_drew ?_ | refine blk_alloc ?_ _)); refine blk_far ?_ NB208_212.out _; (with_reducible repeat (first | refine blk_drewN ?_ _ | refine blk_drew ?_ | refine blk_alloc ?_ _)); refine blk_far ?_ NB208_212.out _; (with_reducible repeat (first | refine blk_drewN ?_ _ | refine blk_drew ?_ | refine blk_alloc ?_ _)); refine blk_far ?_ NB208_212.out _; (with_reducible repeat (first | refine blk_drewN ?_ _ | refine blk_drew ?_ | refine blk_alloc ?_ _)); exact BK208.out) hb); replace BK209 := Aside0.mk (blk_below (g := gb209) (o := .cells #[.int .i64 0, .slice none 0 0] 44 (0, 0)) (by (with_reducible repeat (first | refine blk_drewN ?_ _ | refine blk_drew ?_ | refine blk_alloc ?_ _)); refine blk_far ?_ NB209_212.out _; (with_reducible repeat (first | refine blk_drewN ?_ _ | refine blk_drew ?_ | refine blk_alloc ?_ _)); refine blk_far ?_ NB209_212.out _; (with_reducible repeat (first | refine blk_drewN ?_ _ | refine blk_drew ?_ | refine blk_alloc ?_ _)); refine blk_far ?_ NB209_212.out _; (with_reducible repeat (first | refine blk_drewN ?_ _ | refine blk_drew ?_ | refine blk_alloc ?_ _)); exact BK209.out) hb); replace BK210 := Aside0.mk (blk_below (g := gb210) (o := .cells #[.int .i64 a0_0, u211001] 44 (0, 0)) (by (with_reducible repeat (first | refine blk_drewN ?_ _ | refine blk_drew ?_ | refine blk_alloc ?_ _)); refine blk_far ?_ NB210_212.out _; (with_reducible repeat (first | refine blk_drewN ?_ _ | refine blk_drew ?_ | refine blk_alloc ?_ _)); refine blk_far ?_ NB210_212.out _; (with_reducible repeat (first | refine blk_drewN ?_ _ | refine blk_drew ?_ | refine blk_alloc ?_ _)); refine blk_far ?_ NB210_212.out _; (with_reducible repeat (first | refine blk_drewN ?_ _ | refine blk_drew ?_ | refine blk_alloc ?_ _)); exact BK210.out) hb); replace BK212 := Aside0.mk (blk_below (g := gb212) (o := .cells #[.string ((rd_T50 l0_1 x4_1).f0), .slice A211_1 ((rd_T50 l0_1 x4_1).f1).length c211_1, .bool ((rd_T50 l0_1 x4_1).f2)] 50 (0, 0)) (by (with_reducible repeat (first | refine blk_drewN ?_ _ | refine blk_drew ?_ | refine blk_alloc ?_ _)); refine blk_put (cs := #[.string ((rd_T50 l0_1 x4_1).f0), .slice A211_1 ((rd_T50 l0_1 x4_1).f1).length c211_1, .bool false]) ?_ 2 _ rfl; (with_reducible repeat (first | refine blk_drewN ?_ _ | refine blk_drew ?_ | refine blk_alloc ?_ _)); refine blk_put (cs := #[.string ((rd_T50 l0_1 x4_1).f0), .slice none 0 0, .bool false]) ?_ 1 _ rfl; (with_reducible repeat (first | refine blk_drewN ?_ _ | refine blk_drew ?_ | refine blk_alloc ?_ _)); refine blk_put (cs := #[.string (⟨#[]⟩ : ByteArray), .slice none 0 0, .bool false]) ?_ 0 _ rfl; (with_reducible repeat (first | refine blk_drewN ?_ _ | refine blk_drew ?_ | refine blk_alloc ?_ _)); exact BK212.out) hb); replace HB := Aside0.mk (below_step dz46 hb); clear hb ho23; obtain ⟨hcz24_0, hcz24_1, hcz24_2, hfz24_0, hfz24_1, hfz24_2⟩ := cz3_ BK212) | ((with_reducible refine gate_builtin (b := .append) (xs := #[.tmp 21, .tmp 23]) rfl ?_); at_builtin; refine Kd.R_append_rows (Kd.int .i64) (w0 := w) w.heap.size rfl (.tmp 21) (.tmp 23) 22 3 (.int .i64 0) 8 rfl Try.underlying22 info3 rfl (by decide) (by omega) v214 y213 ((rd_T50 l0_1 x4_1).f1) _ _ _ (fun _ => True) (fun _ => False) rfl rfl ?aO ?aR (fun _ _ h => h) (fun _ h => h.elim) ?aF ?aB ?aS ?aL ?_; (case aR => repeat (first | exact (Kd.C_below HR211_1.out HB.out) | (with_reducible refine Kd.C_alloc ?_ _) | (with_reducible refine Kd.C_drewN ?_ _) | (with_reducible refine Kd.C_drew ?_))); (case aB => exact dz46); (case aF => exact (fun _ _ => trivial)); (case aO => exact (by (with_reducible repeat (first | apply Kd.R_alloc | apply Kd.R_drewN | apply Kd.R_drew)); exact HO215.out)); (case aS => exact (below_size dz46)); (case aL => have := LMc12.out; omega); intro v217 w25 ho hb hg hat; rw [← Ny216.out] at ho; replace HO_211001 := Aside0.mk (Kd.S_after (ok := (fun k_ => k_ ≠ gb212)) (by (with_reducible repeat (first | apply Kd.S_alloc | apply Kd.S_drewN | apply Kd.S_drew)); exact Kd.S_mono HO_211001.out (fun _ hk => ⟨hk.1.2, hk.2⟩)) hg hat); replace BK208 := Aside0.mk (blk_grown (g := gb208) (o := .cells #[.int .i64 a0_0, .slice (some ad211) l0_1.length c0_1] 44 (0, 0)) dz136 hg (Kd.R_ne HO215.out BK208.out (by decide))); replace BK209 := Aside0.mk (blk_grown (g := gb209) (o := .cells #[.int .i64 0, .slice none 0 0] 44 (0, 0)) dz137 hg (Kd.R_ne HO215.out BK209.out (by decide))); replace BK210 := Aside0.mk (blk_grown (g := gb210) (o := .cells #[.int .i64 a0_0, u211001] 44 (0, 0)) dz138 hg (Kd.R_ne HO215.out BK210.out (by decide))); replace BK212 := Aside0.mk (blk_grown (g := gb212) (o := .cells #[.string ((rd_T50 l0_1 x4_1).f0), .slice A211_1 ((rd_T50 l0_1 x4_1).f1).length c211_1, .bool ((rd_T50 l0_1 x4_1).f2)] 50 (0, 0)) dz110 hg (Kd.R_ne HO215.out BK212.out (by decide))); replace HB := Aside0.mk (hb); have HO218 := Aside0.mk (ho); clear HO215; clear ho hb hg hat; obtain ⟨Ao26, co26, eo26⟩ := Kd.R_slice HO218.out; subst eo26; obtain ⟨hcz27_0, hcz27_1, hcz27_2, hfz27_0, hfz27_1, hfz27_2⟩ := cz3_ BK212) | ((with_reducible refine gate_store (t := 22) (p := 25) rfl ?_); refine store_event (t := 22) (p := 25) (v := ?vo_w28) (w1 := (w25.setCell ⟨gb212, 1, none⟩ (.slice Ao26 y216.length co26))) ?hg ?ho ?hn ?hr ?_; (case ho => rfl); (case hg => rfl); (case hn => rfl); (case hr => first | (go_simp; done) | (go_simp; rfl)); intro w28 hw; replace HO_211001 : Aside0 (Kd.S k50 50 w28 w.heap.size (fun k_ => some k_ ≠ (.slice Ao26 y216.length co26 : Value).ownBlock ∧ k_ ≠ gb212) u211001 x211001_1) := ⟨(by rw [hw]; exact (by (with_reducible repeat (first | apply Kd.S_alloc | apply Kd.S_drewN | apply Kd.S_drew)); exact Kd.S_mono (Kd.S_far (p := ⟨gb212, 1, none⟩) (Kd.S_mono HO_211001.out (fun k_ hk => (⟨hk, hk.1⟩ : _ ∧ k_ ≠ gb212))) (fun _ hk => hk.2) (.slice Ao26 y216.length co26)) (fun _ hk => ⟨hk.1.2, hk.1.1⟩)))⟩; replace HO218 : Aside0 (Kd.R (Kd.int .i64) 3 w28 w.heap.size (fun _ => True) (.slice Ao26 y216.length co26) y216) := ⟨(by rw [hw]; exact (by (with_reducible repeat (first | apply Kd.R_alloc | apply Kd.R_drewN | apply Kd.R_drew)); exact Kd.R_mono (Kd.R_far (p := ⟨gb212, 1, none⟩) (Kd.R_types HO218.out BK212.out (by decide)) (fun _ hk => hk.2) (.slice Ao26 y216.length co26)) (fun _ hk => trivial)))⟩; replace BK208 : Aside0 (w28.heap[gb208]? = some (.cells #[.int .i64 a0_0, .slice (some ad211) l0_1.length c0_1] 44 (0, 0))) := ⟨(by rw [hw]; exact (by (with_reducible repeat (first | refine blk_drewN ?_ _ | refine blk_drew ?_ | refine blk_alloc ?_ _)); refine blk_far ?_ NB208_212.out _; (with_reducible repeat (first | refine blk_drewN ?_ _ | refine blk_drew ?_ | refine blk_alloc ?_ _)); exact BK208.out))⟩; replace BK209 : Aside0 (w28.heap[gb209]? = some (.cells #[.int .i64 0, .slice none 0 0] 44 (0, 0))) := ⟨(by rw [hw]; exact (by (with_reducible repeat (first | refine blk_drewN ?_ _ | refine blk_drew ?_ | refine blk_alloc ?_ _)); refine blk_far ?_ NB209_212.out _; (with_reducible repeat (first | refine blk_drewN ?_ _ | refine blk_drew ?_ | refine blk_alloc ?_ _)); exact BK209.out))⟩; replace BK210 : Aside0 (w28.heap[gb210]? = some (.cells #[.int .i64 a0_0, u211001] 44 (0, 0))) := ⟨(by rw [hw]; exact (by (with_reducible repeat (first | refine blk_drewN ?_ _ | refine blk_drew ?_ | refine blk_alloc ?_ _)); refine blk_far ?_ NB210_212.out _; (with_reducible repeat (first | refine blk_drewN ?_ _ | refine blk_drew ?_ | refine blk_alloc ?_ _)); exact BK210.out))⟩; replace BK212 : Aside0 (w28.heap[gb212]? = some (.cells #[.string ((rd_T50 l0_1 x4_1).f0), .slice Ao26 y216.length co26, .bool ((rd_T50 l0_1 x4_1).f2)] 50 (0, 0))) := ⟨(by rw [hw]; exact (by (with_reducible repeat (first | refine blk_drewN ?_ _ | refine blk_drew ?_ | refine blk_alloc ?_ _)); refine blk_put (cs := #[.string ((rd_T50 l0_1 x4_1).f0), .slice A211_1 ((rd_T50 l0_1 x4_1).f1).length c211_1, .bool ((rd_T50 l0_1 x4_1).f2)]) ?_ 1 _ rfl; (with_reducible repeat (first | refine blk_drewN ?_ _ | refine blk_drew ?_ | refine blk_alloc ?_ _)); exact BK212.out))⟩; replace HB : Aside0 (Below w.heap.size w w28) := ⟨(by rw [hw]; exact dz46)⟩; clear hw; have hnb29 := NB210_209.out; have hnc29 := NB209_210.out; obtain ⟨hcz30_0, hcz30_1, hfz30_0, hfz30_1⟩ := cz2_ BK210; obtain ⟨hcz31_0, hcz31_1, hcz31_2, hfz31_0, hfz31_1, hfz31_2⟩ := cz3_ BK212) | ((with_reducible refine gate_builtin (b := .append) (xs := #[.tmp 27, .tmp 29]) rfl ?_); at_builtin; refine Kd.S_append k50 (w0 := w) w.heap.size rfl (.tmp 27) (.tmp 29) 42 50 (.agg #[(.string ⟨#[]⟩), (.slice none 0 0), (.bool false)]) 48 rfl Try.underlying42 info50 rfl (by decide) (by omega) u211001 x211001_1 (⟨(rd_T50 l0_1 x4_1).f0, y216, (rd_T50 l0_1 x4_1).f2⟩ : S50) [.string ((rd_T50 l0_1 x4_1).f0), .slice Ao26 y216.length co26, .bool ((rd_T50 l0_1 x4_1).f2)] (fun k_ => k_ ≠ gb212) (fun k_ => some k_ = (.slice Ao26 y216.length co26 : Value).ownBlock) rfl rfl ?aP (fun k_ hk_ => ((Kd.R_mono (ok' := fun k_ => ((fun k_ => k_ ≠ gb212)) k_ ∧ some k_ ≠ (u211001 : Value).ownBlock) (Kd.R_types (Kd.R_apart' (HO218.out) (Kd.S_typed HO_211001.out) (by decide)) BK212.out (by decide)) (fun k_ hk => ⟨hk.2, hk.1.2⟩))).1 k_ hk_.symm) ?aF ?aO ?aB ?aS ?aL ?_; (case aP => exact k50_mkM _ _ _ (⟨(rd_T50 l0_1 x4_1).f0, y216, (rd_T50 l0_1 x4_1).f2⟩ : S50) (Kd.R_mono (Kd.R_tight rfl (Kd.R_mono (ok' := fun k_ => ((fun k_ => k_ ≠ gb212)) k_ ∧ some k_ ≠ (u211001 : Value).ownBlock) (Kd.R_types (Kd.R_apart' (HO218.out) (Kd.S_typed HO_211001.out) (by decide)) BK212.out (by decide)) (fun k_ hk => ⟨hk.2, hk.1.2⟩))) (fun _ h_ => h_))); (case aB => exact dz46); (case aF => exact (fun k_ hk => Kd.freshB (g := gb212) (o := .cells #[.string ((rd_T50 l0_1 x4_1).f0), .slice Ao26 y216.length co26, .bool ((rd_T50 l0_1 x4_1).f2)] 50 (0, 0)) dz110 k_ hk)); (case aO => exact (by (with_reducible repeat (first | apply Kd.S_alloc | apply Kd.S_drewN | apply Kd.S_drew)); exact Kd.S_mono HO_211001.out (fun k_ hk => ⟨hk.2, fun e_ => hk.1 e_⟩))); (case aS => exact (below_size dz46)); (case aL => have := LMc13.out; omega); intro v220 w32 ho hb hg hat; rw [← Ny219.out] at ho; replace BK208 := Aside0.mk (blk_grown (g := gb208) (o := .cells #[.int .i64 a0_0, .slice (some ad211) l0_1.length c0_1] 44 (0, 0)) dz136 hg (Kd.S_ne HO_211001.out BK208.out (by decide))); replace BK209 := Aside0.mk (blk_grown (g := gb209) (o := .cells #[.int .i64 0, .slice none 0 0] 44 (0, 0)) dz137 hg (Kd.S_ne HO_211001.out BK209.out (by decide))); replace BK210 := Aside0.mk (blk_grown (g := gb210) (o := .cells #[.int .i64 a0_0, u211001] 44 (0, 0)) dz138 hg (Kd.S_ne HO_211001.out BK210.out (by decide))); replace BK212 := Aside0.mk (blk_grown (g := gb212) (o := .cells #[.string ((rd_T50 l0_1 x4_1).f0), .slice Ao26 y216.length co26, .bool ((rd_T50 l0_1 x4_1).f2)] 50 (0, 0)) dz110 hg (Kd.S_away HO_211001.out (fun _ hk => hk.2))); replace HB := Aside0.mk (hb); have HO221 := Aside0.mk (ho); clear HO_211001; clear HO218; clear ho hb hg hat; obtain ⟨Ao33, co33, eo33⟩ := Kd.S_slice HO221.out; subst eo33; obtain ⟨hcz34_0, hcz34_1, hfz34_0, hfz34_1⟩ := cz2_ BK210))
       go_roundg k1
       case measure => have := HK1.out; omega
       case rel => exact ⟨(wrap64 (x4_1 + 1)), (y219), (.slice Ao33 y219.length co33), dz3, H', ⟨by have := HK1.out; omega⟩, ⟨by (with_reducible repeat (first | apply Kd.S_alloc | apply Kd.S_drewN | apply Kd.S_drew)); exact Kd.S_mono (Kd.S_far (p := ⟨gb210, 1, none⟩) (Kd.S_types HO221.out BK210.out (by decide)) (fun _ hk => hk.2) (.slice Ao33 y219.length co33)) (fun _ hk => trivial)⟩, ⟨by (with_reducible repeat (first | refine blk_drewN ?_ _ | refine blk_drew ?_ | refine blk_alloc ?_ _)); refine blk_far ?_ NB208_210.out _; (with_reducible repeat (first | refine blk_drewN ?_ _ | refine blk_drew ?_ | refine blk_alloc ?_ _)); exact BK208.out⟩, ⟨by (with_reducible repeat (first | refine blk_drewN ?_ _ | refine blk_drew ?_ | refine blk_alloc ?_ _)); refine blk_far ?_ NB209_210.out _; (with_reducible repeat (first | refine blk_drewN ?_ _ | refine blk_drew ?_ | refine blk_alloc ?_ _)); exact BK209.out⟩, ⟨by (with_reducible repeat (first | refine blk_drewN ?_ _ | refine blk_drew ?_ | refine blk_alloc ?_ _)); refine blk_put (cs := #[.int .i64 a0_0, u211001]) ?_ 1 _ rfl; (with_reducible repeat (first | refine blk_drewN ?_ _ | refine blk_drew ?_ | refine blk_alloc ?_ _)); exact BK210.out⟩, ⟨by repeat (first | (with_reducible first | exact HB.out | apply below_alloc | apply pw_below_drewN | apply below_drew1 | refine below_set ?_ GE208.out | refine below_set ?_ GE209.out | refine below_set ?_ GE210.out | refine below_set ?_ GE212.out) | exact HB.out)⟩⟩
      rw [if_neg c13] at H
      exact absurd H (by simp)
     rw [if_neg c12] at H
     exact absurd H (by simp)
    rw [if_neg c11] at H
    exact absurd H (by simp)
   rw [if_neg c10] at H
   have c10b0 : decide (x4_1 < (l0_1.length : Int)) = false := decide_eq_false c10
   clear c10
   simp only [Option.some.injEq, Prod.mk.injEq] at H
   obtain ⟨rfl, rfl⟩ := H
   have hnb35 := NB208_209.out
   have hnc35 := NB209_208.out
   have hnb36 := NB208_210.out
   have hnc36 := NB210_208.out
   obtain ⟨hcz37_0, hcz37_1, hfz37_0, hfz37_1⟩ := cz2_ BK208
   have hnb38 := NB210_209.out
   have hnc38 := NB209_210.out
   obtain ⟨hcz39_0, hcz39_1, hfz39_0, hfz39_1⟩ := cz2_ BK210
   obtain ⟨hcz40_0, hcz40_1, hfz40_0, hfz40_1⟩ := cz2_ BK209
   obtain ⟨Ao41, co41, eo41⟩ := Kd.S_slice HO_211001.out
   subst eo41
   go_wp2
   refine bodyPost_ret (results_cell_row rfl _ _ gb209 44 #[.int .i64 a0_0, .slice Ao41 x211001_1.length co41] (0, 0) _ rfl (by (with_reducible repeat (first | refine blk_drewN ?_ _ | refine blk_drew ?_ | refine blk_alloc ?_ _)); refine blk_put (cs := #[.int .i64 a0_0, .slice none 0 0]) ?_ 1 _ rfl; (with_reducible repeat (first | refine blk_drewN ?_ _ | refine blk_drew ?_ | refine blk_alloc ?_ _)); refine blk_put (cs := #[.int .i64 0, .slice none 0 0]) ?_ 0 _ rfl; (with_reducible repeat (first | refine blk_drewN ?_ _ | refine blk_drew ?_ | refine blk_alloc ?_ _)); exact BK209.out) Try.underlying44 rfl (by kernel_rfl)) rfl ?_
   exact ⟨_, by first | rfl | (simp [errW_none, errW_some] <;> rfl) | (simp [*, errW_none, errW_some] <;> rfl), by (with_reducible repeat (first | apply Kd.S_alloc | apply Kd.S_drewN | apply Kd.S_drew)); exact Kd.S_mono (Kd.S_far (p := ⟨gb209, 1, none⟩) (Kd.S_far (p := ⟨gb209, 0, none⟩) (Kd.S_types HO_211001.out BK209.out (by decide)) (fun _ hk => hk.2) (.int .i64 a0_0)) (fun _ hk => hk.2) (.slice Ao41 x211001_1.length co41)) (fun _ hk => trivial), by repeat (first | (with_reducible first | exact HB.out | apply below_alloc | apply pw_below_drewN | apply below_drew1 | refine below_set ?_ GE208.out | refine below_set ?_ GE209.out | refine below_set ?_ GE210.out) | exact HB.out)⟩
def spec_WriterAdd.f (k : Nat) (l0_0 : List Int) (a0_1 : Int) (a1_0 : Int) (l1_1 : List (S50)) (a2 : ByteArray) : Option (Int × (List (S50)) × Int × Bool) := (spec_WriterOk.f k l0_0 a0_1 a1_0 l1_1).bind fun t225 => (if t225 = true then ((spec_l8Copy.f k a1_0 l1_1).bind fun bt226 => (if bt226.2.length < 2932031007402 then ((some (bt226.2 ++ [(⟨a2, ([] : List Int), false⟩ : S50)] : List (S50))).bind fun y231 => ((spec_WriterOk.f k l0_0 a0_1 bt226.1 y231).bind fun t234 => (if t234 = true then (some (bt226.1, y231, (y231.length : Int), true)) else ((spec_l8Copy.f k a1_0 l1_1).bind fun bt235 => (some (bt235.1, bt235.2, 0, false)))))) else (none))) else (some (0, ([] : List (S50)), 0, false)))
set_option maxHeartbeats 8000000 in
set_option maxRecDepth 100000 in
theorem spec_WriterAdd.calls (k : Nat) (A0_0 : Option Addr) (c0_0 : Nat) (l0_0 : List Int) (a0_1 : Int) (a1_0 : Int) (A1_1 : Option Addr) (c1_1 : Nat) (l1_1 : List (S50)) (a2 : ByteArray) (r1 : Int) (r2 : List (S50)) (r3 : Int) (r4 : Bool) (w : World) (hr0_0 : Kd.C (Kd.int .i64) w A0_0 l0_0.length l0_0) (hc0_0 : l0_0.length ≤ c0_0) (hr1_1 : Kd.C k50 w A1_1 l1_1.length l1_1) (hc1_1 : l1_1.length ≤ c1_1) (h : spec_WriterAdd.f k l0_0 a0_1 a1_0 l1_1 a2 = some (r1, r2, r3, r4)) :
  Calls Try.prog 20 #[.agg #[.slice A0_0 l0_0.length c0_0, .int .i64 a0_1], .agg #[.int .i64 a1_0, .slice A1_1 l1_1.length c1_1], .string a2] w fun e w' => ∃ v1_ : Value, e = .returned (.tuple #[.agg #[.int .i64 r1, v1_], .int .i64 r3, .bool r4]) ∧ Kd.S k50 50 w' w.heap.size (fun _ => True) v1_ r2 ∧ Below w.heap.size w w' := by
 have hu31 := Try.underlying31
 have hu44 := Try.underlying44
 have hu50 := Try.underlying50
 have HR0_0 := Aside0.mk hr0_0
 have HC0_0 := Aside0.mk hc0_0
 clear hr0_0 hc0_0
 have HR1_1 := Aside0.mk hr1_1
 have HC1_1 := Aside0.mk hc1_1
 clear hr1_1 hc1_1
 have HB := Aside0.mk (Below.refl w.heap.size w)
 have H : ((spec_WriterOk.f k l0_0 a0_1 a1_0 l1_1).bind fun t225 => (if t225 = true then ((spec_l8Copy.f k a1_0 l1_1).bind fun bt226 => (if bt226.2.length < 2932031007402 then ((some (bt226.2 ++ [(⟨a2, ([] : List Int), false⟩ : S50)] : List (S50))).bind fun y231 => ((spec_WriterOk.f k l0_0 a0_1 bt226.1 y231).bind fun t234 => (if t234 = true then (some (bt226.1, y231, (y231.length : Int), true)) else ((spec_l8Copy.f k a1_0 l1_1).bind fun bt235 => (some (bt235.1, bt235.2, 0, false)))))) else (none))) else (some (0, ([] : List (S50)), 0, false)))) = some (r1, r2, r3, r4) := h
 clear h
 replace H := Option.bind_eq_some_iff.mp H
 obtain ⟨t225, A40, H⟩ := H
 replace H : (if t225 = true then ((spec_l8Copy.f k a1_0 l1_1).bind fun bt226 => (if bt226.2.length < 2932031007402 then ((some (bt226.2 ++ [(⟨a2, ([] : List Int), false⟩ : S50)] : List (S50))).bind fun y231 => ((spec_WriterOk.f k l0_0 a0_1 bt226.1 y231).bind fun t234 => (if t234 = true then (some (bt226.1, y231, (y231.length : Int), true)) else ((spec_l8Copy.f k a1_0 l1_1).bind fun bt235 => (some (bt235.1, bt235.2, 0, false)))))) else (none))) else (some (0, ([] : List (S50)), 0, false))) = some (r1, r2, r3, r4) := H
 have A4 := Aside0.mk A40
 clear A40
 by_cases c5 : t225 = true
 ·subst c5
  have H1 : ((spec_l8Copy.f k a1_0 l1_1).bind fun bt226 => (if bt226.2.length < 2932031007402 then ((some (bt226.2 ++ [(⟨a2, ([] : List Int), false⟩ : S50)] : List (S50))).bind fun y231 => ((spec_WriterOk.f k l0_0 a0_1 bt226.1 y231).bind fun t234 => (if t234 = true then (some (bt226.1, y231, (y231.length : Int), true)) else ((spec_l8Copy.f k a1_0 l1_1).bind fun bt235 => (some (bt235.1, bt235.2, 0, false)))))) else (none))) = some (r1, r2, r3, r4) := by rw [if_pos rfl] at H; exact H
  clear H
  have H := H1
  clear H1
  replace H := Option.bind_eq_some_iff.mp H
  obtain ⟨⟨t226, t227⟩, A60, H⟩ := H
  replace H : (if t227.length < 2932031007402 then ((some (t227 ++ [(⟨a2, ([] : List Int), false⟩ : S50)] : List (S50))).bind fun y231 => ((spec_WriterOk.f k l0_0 a0_1 t226 y231).bind fun t234 => (if t234 = true then (some (t226, y231, (y231.length : Int), true)) else ((spec_l8Copy.f k a1_0 l1_1).bind fun bt235 => (some (bt235.1, bt235.2, 0, false)))))) else (none)) = some (r1, r2, r3, r4) := H
  have A6 := Aside0.mk A60
  clear A60
  by_cases c7 : t227.length < 2932031007402
  ·rw [if_pos c7] at H
   have LMc7 := Aside0.mk c7
   clear c7
   obtain ⟨y231, hy231⟩ : ∃ y_ : List (S50), y_ = (t227 ++ [(⟨a2, ([] : List Int), false⟩ : S50)]) := ⟨_, rfl⟩
   replace H : ((spec_WriterOk.f k l0_0 a0_1 t226 y231).bind fun t234 => (if t234 = true then (some (t226, y231, (y231.length : Int), true)) else ((spec_l8Copy.f k a1_0 l1_1).bind fun bt235 => (some (bt235.1, bt235.2, 0, false))))) = some (r1, r2, r3, r4) := by first | (rw [hy231]; with_reducible exact H) | (have H2_ := (Option.bind_some _ _).symm.trans H; rw [hy231]; with_reducible exact H2_) | (have H2_ := (Option.bind_some _ _).symm.trans H; with_reducible exact H2_) | with_reducible exact H | (rw [hy231]; exact H) | exact H
   have Ny231 := Aside0.mk hy231
   clear hy231
   replace H := Option.bind_eq_some_iff.mp H
   obtain ⟨t234, A80, H⟩ := H
   replace H : (if t234 = true then (some (t226, y231, (y231.length : Int), true)) else ((spec_l8Copy.f k a1_0 l1_1).bind fun bt235 => (some (bt235.1, bt235.2, 0, false)))) = some (r1, r2, r3, r4) := H
   have A8 := Aside0.mk A80
   clear A80
   by_cases c9 : t234 = true
   ·subst c9
    have H1 : (some (t226, y231, (y231.length : Int), true)) = some (r1, r2, r3, r4) := by rw [if_pos rfl] at H; exact H
    clear H
    have H := H1
    clear H1
    simp only [Option.some.injEq, Prod.mk.injEq] at H
    obtain ⟨rfl, rfl, rfl, rfl⟩ := H
    go_enter Try.func20, Try.ntmps20
    try go_wp2_with (first | ((with_reducible refine gate_dst (N := 3) rfl ?_); refine box_event kr_ (N := 3) kr_ (cs := #[.slice A0_0 l0_0.length c0_0, .int .i64 a0_1]) (t := 31) ks_ ?_; intro gb222 hg w1 hbox hb; have BK222 := Aside0.mk (hbox); have GW222 : Aside0 (w.heap.size ≤ gb222) := szl_ hg dz2; have GE222 : Aside0 (w.heap.size ≤ gb222) := szl_ hg dz2; replace HB := Aside0.mk (below_step dz2 hb); clear hb hbox hg) | ((with_reducible refine gate_dst (N := 4) rfl ?_); refine box_event kr_ (N := 4) kr_ (cs := #[.int .i64 a1_0, .slice A1_1 l1_1.length c1_1]) (t := 44) ks_ ?_; intro gb223 hg w2 hbox hb; have BK223 := Aside0.mk (hbox); have GW223 : Aside0 (w.heap.size ≤ gb223) := szl_ hg dz36; have GE223 : Aside0 (w.heap.size ≤ gb223) := szl_ hg dz36; replace HB := Aside0.mk (below_step dz36 hb); have NB222_223 := (nbl_ hg BK222); have NB223_222 := (nbr_ hg BK222); replace BK222 := (bkb_ BK222 hb); clear hb hbox hg) | ((with_reducible refine gate_dst (N := 6) rfl ?_); refine box_event kr_ (N := 6) kr_ (cs := #[.int .i64 0, .slice none 0 0]) (t := 44) ks_ ?_; intro gb224 hg w3 hbox hb; have BK224 := Aside0.mk (hbox); have GW224 : Aside0 (w.heap.size ≤ gb224) := szl_ hg dz37; have GE224 : Aside0 (w.heap.size ≤ gb224) := szl_ hg dz37; replace HB := Aside0.mk (below_step dz37 hb); have NB222_224 := (nbl_ hg BK222); have NB224_222 := (nbr_ hg BK222); replace BK222 := (bkb_ BK222 hb); have NB223_224 := (nbl_ hg BK223); have NB224_223 := (nbr_ hg BK223); replace BK223 := (bkb_ BK223 hb); clear hb hbox hg; have hnb13 := NB222_223.out; have hnc13 := NB223_222.out; have hnb14 := NB222_224.out; have hnc14 := NB224_222.out; obtain ⟨hcz15_0, hcz15_1, hfz15_0, hfz15_1⟩ := cz2_ BK222; have hnb16 := NB223_224.out; have hnc16 := NB224_223.out; obtain ⟨hcz17_0, hcz17_1, hfz17_0, hfz17_1⟩ := cz2_ BK223) | ((with_reducible refine gate_callee (f := 70) rfl ?_); refine goesL_ (some 12) rfl rfl Try.func70 (by kernel_rfl) rfl #[.agg #[.slice A0_0 l0_0.length c0_0, .int .i64 a0_1], .agg #[.int .i64 a1_0, .slice A1_1 l1_1.length c1_1]] rfl dz1 ?_; (with_reducible refine (spec_WriterOk.calls k _ _ l0_0 a0_1 a1_0 _ _ l1_1 true _ ?side1 ?side2 ?side3 ?side4 A4.out).mono ?_); (case side1 => exact dz462); (case side2 => exact HC0_0.out); (case side3 => exact dz465); (case side4 => exact HC1_1.out); rintro e w4 ⟨rfl, hb⟩; refine ⟨_, rfl, ?_⟩; replace BK222 := (bkb_ BK222 hb); replace BK223 := (bkb_ BK223 hb); replace BK224 := (bkb_ BK224 hb); replace HB := Aside0.mk (below_step dz21 hb); (try clear hb); (try clear hb2); (try clear hk); (try clear hi); obtain ⟨hcz19_0, hcz19_1, hfz19_0, hfz19_1⟩ := cz2_ BK223) | ((with_reducible refine gate_callee (f := 71) rfl ?_); refine goesL_ (some 16) rfl rfl Try.func71 (by kernel_rfl) rfl #[.agg #[.int .i64 a1_0, .slice A1_1 l1_1.length c1_1]] rfl dz1 ?_; (with_reducible refine (spec_l8Copy.calls k a1_0 _ _ l1_1 t226 t227 _ ?side1 ?side2 A6.out).mono ?_); (case side1 => exact dz465); (case side2 => exact HC1_1.out); rintro e w5 ⟨v228, rfl, ho0, hb⟩; refine ⟨_, rfl, ?_⟩; have HO229 := Aside0.mk (Kd.S_lower ho0 (below_size dz21)); replace BK222 := (bkb_ BK222 hb); replace BK223 := (bkb_ BK223 hb); replace BK224 := (bkb_ BK224 hb); replace HB := Aside0.mk (below_step dz21 hb); (try clear hb); (try clear hb2); (try clear hk); (try clear hi); (try clear ho0)) | ((with_reducible refine gate_dst (N := 9) rfl ?_); refine box_event kr_ (N := 9) kr_ (cs := #[.int .i64 0, .slice none 0 0]) (t := 44) ks_ ?_; intro gb230 hg w6 hbox hb; replace HO229 := (sbb_ HO229 hb); have BK230 := Aside0.mk (hbox); have GW230 : Aside0 (w.heap.size ≤ gb230) := szl_ hg dz21; have GE230 : Aside0 (w.heap.size ≤ gb230) := szl_ hg dz21; replace HB := Aside0.mk (below_step dz21 hb); have NB222_230 := (nbl_ hg BK222); have NB230_222 := (nbr_ hg BK222); replace BK222 := (bkb_ BK222 hb); have NB223_230 := (nbl_ hg BK223); have NB230_223 := (nbr_ hg BK223); replace BK223 := (bkb_ BK223 hb); have NB224_230 := (nbl_ hg BK224); have NB230_224 := (nbr_ hg BK224); replace BK224 := (bkb_ BK224 hb); clear hb hbox hg; have hnb22 := NB230_222.out; have hnc22 := NB222_230.out; have hnb23 := NB230_223.out; have hnc23 := NB223_230.out; have hnb24 := NB230_224.out; have hnc24 := NB224_230.out; obtain ⟨hcz25_0, hcz25_1, hfz25_0, hfz25_1⟩ := cz2_ BK230; obtain ⟨Ao26, co26, eo26⟩ := Kd.S_slice HO229.out; subst eo26) | ((with_reducible refine gate_builtin (b := .append) (xs := #[.tmp 18, .tmp 21]) rfl ?_); at_builtin; refine Kd.S_append k50 (w0 := w) w.heap.size rfl (.tmp 18) (.tmp 21) 42 50 (.agg #[(.string ⟨#[]⟩), (.slice none 0 0), (.bool false)]) 48 rfl Try.underlying42 info50 rfl (by decide) (by omega) (.slice Ao26 t227.length co26) t227 (⟨a2, ([] : List Int), false⟩ : S50) [.string a2, .slice none 0 0, .bool false] (fun _ => True) (fun _ => False) rfl dz69 ?aP (fun k_ hk_ => hk_.elim) ?aF ?aO ?aB ?aS ?aL ?_; (case aP => exact k50_mkM _ _ _ (⟨a2, ([] : List Int), false⟩ : S50) (Kd.R_nil _ _ _ _ _)); (case aB => exact dz32); (case aF => exact (fun _ _ => trivial)); (case aO => exact (by (with_reducible repeat (first | apply Kd.S_alloc | apply Kd.S_drewN | apply Kd.S_drew)); exact Kd.S_mono (Kd.S_far (p := ⟨gb230, 1, none⟩) (Kd.S_far (p := ⟨gb230, 0, none⟩) (Kd.S_types HO229.out BK230.out (by decide)) (fun _ hk => hk.2) (.int .i64 t226)) (fun _ hk => hk.2) (.slice Ao26 t227.length co26)) (fun k_ hk => ⟨trivial, fun e_ => e_⟩))); (case aS => exact (below_size dz32)); (case aL => have := LMc7.out; omega); intro v232 w7 ho hb hg hat; rw [← Ny231.out] at ho; replace BK222 := Aside0.mk (blk_grown (g := gb222) (o := .cells #[.slice A0_0 l0_0.length c0_0, .int .i64 a0_1] 31 (0, 0)) dz139 hg (Kd.S_ne HO229.out BK222.out (by decide))); replace BK223 := Aside0.mk (blk_grown (g := gb223) (o := .cells #[.int .i64 a1_0, .slice A1_1 l1_1.length c1_1] 44 (0, 0)) dz140 hg (Kd.S_ne HO229.out BK223.out (by decide))); replace BK224 := Aside0.mk (blk_grown (g := gb224) (o := .cells #[.int .i64 0, .slice none 0 0] 44 (0, 0)) dz141 hg (Kd.S_ne HO229.out BK224.out (by decide))); replace BK230 := Aside0.mk (blk_grown (g := gb230) (o := .cells #[.int .i64 t226, .slice Ao26 t227.length co26] 44 (0, 0)) dz142 hg (Kd.S_ne HO229.out BK230.out (by decide))); replace HB := Aside0.mk (hb); have HO233 := Aside0.mk (ho); clear HO229; clear ho hb hg hat; obtain ⟨Ao28, co28, eo28⟩ := Kd.S_slice HO233.out; subst eo28; obtain ⟨hcz29_0, hcz29_1, hfz29_0, hfz29_1⟩ := cz2_ BK230; obtain ⟨hcz30_0, hcz30_1, hfz30_0, hfz30_1⟩ := cz2_ BK222) | ((with_reducible refine gate_callee (f := 70) rfl ?_); refine goesL_ (some 26) rfl rfl Try.func70 (by kernel_rfl) rfl #[.agg #[.slice A0_0 l0_0.length c0_0, .int .i64 a0_1], .agg #[.int .i64 t226, .slice Ao28 y231.length co28]] rfl dz1 ?_; (with_reducible refine (spec_WriterOk.calls k _ _ l0_0 a0_1 t226 _ _ y231 true _ ?side1 ?side2 ?side3 ?side4 A8.out).mono ?_); (case side1 => exact Kd.C_below HR0_0.out dz32); (case side2 => exact HC0_0.out); (case side3 => refine (Kd.S_reads' (e := 50) (base := w.heap.size) (ok := fun k_ => True) (n := y231.length) (c := co28) ?_).2.2; exact (by (with_reducible repeat (first | apply Kd.S_alloc | apply Kd.S_drewN | apply Kd.S_drew)); exact (Kd.S_mono (Kd.S_far (p := ⟨gb230, 1, none⟩) (Kd.S_types HO233.out BK230.out (by decide)) (fun _ hk => hk.2) (.slice Ao28 y231.length co28)) (fun _ h_ => h_.1)))); (case side4 => exact (Kd.S_reads' HO233.out).2.1); rintro e w8 ⟨rfl, hb⟩; refine ⟨_, rfl, ?_⟩; replace HO233 := Aside0.mk (Kd.S_below (by (with_reducible repeat (first | apply Kd.S_alloc | apply Kd.S_drewN | apply Kd.S_drew)); exact (Kd.S_mono (Kd.S_far (p := ⟨gb230, 1, none⟩) (Kd.S_types HO233.out BK230.out (by decide)) (fun _ hk => hk.2) (.slice Ao28 y231.length co28)) (fun _ h_ => h_.1))) hb); replace BK222 := Aside0.mk (blk_below (g := gb222) (o := .cells #[.slice A0_0 l0_0.length c0_0, .int .i64 a0_1] 31 (0, 0)) dz143 hb); replace BK223 := Aside0.mk (blk_below (g := gb223) (o := .cells #[.int .i64 a1_0, .slice A1_1 l1_1.length c1_1] 44 (0, 0)) dz144 hb); replace BK224 := Aside0.mk (blk_below (g := gb224) (o := .cells #[.int .i64 0, .slice none 0 0] 44 (0, 0)) dz145 hb); replace BK230 := Aside0.mk (blk_below (g := gb230) (o := .cells #[.int .i64 t226, .slice Ao28 y231.length co28] 44 (0, 0)) (by (with_reducible repeat (first | refine blk_drewN ?_ _ | refine blk_drew ?_ | refine blk_alloc ?_ _)); refine blk_put (cs := #[.int .i64 t226, .slice Ao26 t227.length co26]) ?_ 1 _ rfl; (with_reducible repeat (first | refine blk_drewN ?_ _ | refine blk_drew ?_ | refine blk_alloc ?_ _)); exact BK230.out) hb); replace HB := Aside0.mk (below_step dz32 hb); (try clear hb); (try clear hb2); (try clear hk); (try clear hi)))
    replace HO233 := Aside0.mk (Kd.S_drew HO233.out)
    replace BK222 := Aside0.mk (blk_drew BK222.out)
    replace BK223 := Aside0.mk (blk_drew BK223.out)
    replace BK224 := Aside0.mk (blk_drew BK224.out)
    replace BK230 := Aside0.mk (blk_drew BK230.out)
    replace HB := Aside0.mk (below_drew1 HB.out)
    refine start_ (n := 7) (S := fun w' => w'.cell? ⟨gb230, 0, none⟩ = some (.int .i64 t226) ∧ w'.cell? ⟨gb230, 1, none⟩ = some (.slice Ao28 y231.length co28)) (ds := []) (fl_ 0 7) (by kernel_rfl) rfl rfl ⟨(blk_cell BK230.out 0).trans rfl, (blk_cell BK230.out 1).trans rfl⟩ (fun hHeld => ?_)
    generalize w8.drew = w32 at HO233 BK222 BK223 BK224 BK230 HB hHeld ⊢
    refine pure_ (i := 1) (N := some 31) (v := ?_) (a' := ?_) #[false, true, false, false, false, false, false] rfl rfl (by kernel_rfl) (fun _ _ _ h => h) (Or.inl ⟨by rfl, ?_⟩) ?_ ?_
    rotate_left
    ·exact dz489
    rotate_left
    ·exact dz490
    refine take_ (i := 0) (N := some 30) (v := ?_) (a' := ?_) (fl_ 2 5) rfl rfl (by kernel_rfl) (fun _ _ _ h => h) (Or.inl ⟨by rfl, ?_⟩) hHeld ?_ ?_
    rotate_left
    ·exact dz491
    rotate_left
    ·exact dz490
    refine take_ (i := 2) (N := some 32) (v := ?_) (a' := ?_) (fl_ 3 4) rfl rfl (by kernel_rfl) (fun _ _ _ h => h) (Or.inl ⟨by rfl, ?_⟩) hHeld ?_ ?_
    rotate_left
    ·exact dz491
    rotate_left
    ·exact dz490
    refine pure_ (i := 3) (N := some 33) (v := ?_) (a' := ?_) (fl_ 4 3) rfl rfl (by kernel_rfl) (fun _ _ _ h => h) (Or.inl ⟨by rfl, ?_⟩) ?_ ?_
    rotate_left
    ·exact dz489
    rotate_left
    ·exact dz490
    refine one_ (i := 4) (N := none) (fl_ 5 2) rfl rfl (by kernel_rfl) (by decide) (fun K hK => ?_)
    have hs33 : w32.cell? ⟨gb224, 0, none⟩ = some (.int .i64 0) := (blk_cell BK224.out 0).trans rfl
    have hfs33 := blk_frozen BK224.out 0
    have hns33_0 := NB222_224.out
    have hns33_1 := NB223_224.out
    have hns33_3 := NB230_224.out
    have hms33_0 := NB224_222.out
    have hms33_1 := NB224_223.out
    have hms33_3 := NB224_230.out
    have hs34 : w32.cell? ⟨gb224, 1, none⟩ = some (.slice none 0 0) := (blk_cell BK224.out 1).trans rfl
    have hfs34 := blk_frozen BK224.out 1
    have hns34_0 := NB222_224.out
    have hns34_1 := NB223_224.out
    have hns34_3 := NB230_224.out
    have hms34_0 := NB224_222.out
    have hms34_1 := NB224_223.out
    have hms34_3 := NB224_230.out
    refine skip_ (w1 := ?_) (by rfl) rfl ?_ ?_
    rotate_left
    ·go_simp
     rfl
    refine hK.out _ _ ⟨((cell_far (p := ⟨gb224, _, none⟩) NB230_224.out _).trans (((cell_far (p := ⟨gb224, _, none⟩) NB230_224.out _).trans (hHeld.1)))), ((cell_far (p := ⟨gb224, _, none⟩) NB230_224.out _).trans (((cell_far (p := ⟨gb224, _, none⟩) NB230_224.out _).trans (hHeld.2))))⟩ (fun hHeld => ?_)
    clear hK K
    refine pure_ (i := 5) (N := some 7) (v := ?_) (a' := ?_) (fl_ 6 1) rfl rfl (by kernel_rfl) (fun _ _ _ h => h) (Or.inl ⟨by rfl, ?_⟩) ?_ ?_
    rotate_left
    ·exact dz489
    rotate_left
    ·exact dz490
    refine pure_ (i := 6) (N := some 8) (v := ?_) (a' := ?_) (fl_ 7 0) rfl rfl (by kernel_rfl) (fun _ _ _ h => h) (Or.inl ⟨by rfl, ?_⟩) ?_ ?_
    rotate_left
    ·exact dz489
    rotate_left
    ·exact dz490
    refine done_ (by kernel_rfl) ?_
    try go_wp2
    refine bodyPost_ret (results_ctt rfl _ _ gb224 44 #[.int .i64 t226, .slice Ao28 y231.length co28] (0, 0) _ rfl (by (with_reducible repeat (first | refine blk_drewN ?_ _ | refine blk_drew ?_ | refine blk_alloc ?_ _)); refine blk_put (cs := #[.int .i64 t226, .slice none 0 0]) ?_ 1 _ rfl; (with_reducible repeat (first | refine blk_drewN ?_ _ | refine blk_drew ?_ | refine blk_alloc ?_ _)); refine blk_put (cs := #[.int .i64 0, .slice none 0 0]) ?_ 0 _ rfl; (with_reducible repeat (first | refine blk_drewN ?_ _ | refine blk_drew ?_ | refine blk_alloc ?_ _)); exact BK224.out) Try.underlying44 rfl (by kernel_rfl)) rfl ?_
    exact ⟨_, by first | rfl | (simp [errW_none, errW_some] <;> rfl) | (simp [*, errW_none, errW_some] <;> rfl), by (with_reducible repeat (first | apply Kd.S_alloc | apply Kd.S_drewN | apply Kd.S_drew)); exact Kd.S_mono (Kd.S_far (p := ⟨gb224, 1, none⟩) (Kd.S_far (p := ⟨gb224, 0, none⟩) (Kd.S_types HO233.out BK224.out (by decide)) (fun _ hk => hk.2) (.int .i64 t226)) (fun _ hk => hk.2) (.slice Ao28 y231.length co28)) (fun _ hk => trivial), by repeat (first | (with_reducible first | exact HB.out | apply below_alloc | apply pw_below_drewN | apply below_drew1 | refine below_set ?_ GE222.out | refine below_set ?_ GE223.out | refine below_set ?_ GE224.out | refine below_set ?_ GE230.out) | exact HB.out)⟩
   replace c9 := Bool.eq_false_iff.mpr c9
   subst c9
   have H1 : ((spec_l8Copy.f k a1_0 l1_1).bind fun bt235 => (some (bt235.1, bt235.2, 0, false))) = some (r1, r2, r3, r4) := by rw [if_neg (show ¬ (false = true) by decide)] at H; exact H
   clear H
   have H := H1
   clear H1
   replace H := Option.bind_eq_some_iff.mp H
   obtain ⟨⟨t235, t236⟩, A350, H⟩ := H
   replace H : (some (t235, t236, 0, false)) = some (r1, r2, r3, r4) := H
   have A35 := Aside0.mk A350
   clear A350
   simp only [Option.some.injEq, Prod.mk.injEq] at H
   obtain ⟨rfl, rfl, rfl, rfl⟩ := H
   go_enter Try.func20, Try.ntmps20
   go_wp2_with (first | ((with_reducible refine gate_dst (N := 3) rfl ?_); refine box_event kr_ (N := 3) kr_ (cs := #[.slice A0_0 l0_0.length c0_0, .int .i64 a0_1]) (t := 31) ks_ ?_; intro gb222 hg w1 hbox hb; have BK222 := Aside0.mk (hbox); have GW222 : Aside0 (w.heap.size ≤ gb222) := szl_ hg dz2; have GE222 : Aside0 (w.heap.size ≤ gb222) := szl_ hg dz2; replace HB := Aside0.mk (below_step dz2 hb); clear hb hbox hg) | ((with_reducible refine gate_dst (N := 4) rfl ?_); refine box_event kr_ (N := 4) kr_ (cs := #[.int .i64 a1_0, .slice A1_1 l1_1.length c1_1]) (t := 44) ks_ ?_; intro gb223 hg w2 hbox hb; have BK223 := Aside0.mk (hbox); have GW223 : Aside0 (w.heap.size ≤ gb223) := szl_ hg dz36; have GE223 : Aside0 (w.heap.size ≤ gb223) := szl_ hg dz36; replace HB := Aside0.mk (below_step dz36 hb); have NB222_223 := (nbl_ hg BK222); have NB223_222 := (nbr_ hg BK222); replace BK222 := (bkb_ BK222 hb); clear hb hbox hg) | ((with_reducible refine gate_dst (N := 6) rfl ?_); refine box_event kr_ (N := 6) kr_ (cs := #[.int .i64 0, .slice none 0 0]) (t := 44) ks_ ?_; intro gb224 hg w3 hbox hb; have BK224 := Aside0.mk (hbox); have GW224 : Aside0 (w.heap.size ≤ gb224) := szl_ hg dz37; have GE224 : Aside0 (w.heap.size ≤ gb224) := szl_ hg dz37; replace HB := Aside0.mk (below_step dz37 hb); have NB222_224 := (nbl_ hg BK222); have NB224_222 := (nbr_ hg BK222); replace BK222 := (bkb_ BK222 hb); have NB223_224 := (nbl_ hg BK223); have NB224_223 := (nbr_ hg BK223); replace BK223 := (bkb_ BK223 hb); clear hb hbox hg; have hnb39 := NB222_223.out; have hnc39 := NB223_222.out; have hnb40 := NB222_224.out; have hnc40 := NB224_222.out; obtain ⟨hcz41_0, hcz41_1, hfz41_0, hfz41_1⟩ := cz2_ BK222; have hnb42 := NB223_224.out; have hnc42 := NB224_223.out; obtain ⟨hcz43_0, hcz43_1, hfz43_0, hfz43_1⟩ := cz2_ BK223) | ((with_reducible refine gate_callee (f := 70) rfl ?_); refine goesL_ (some 12) rfl rfl Try.func70 (by kernel_rfl) rfl #[.agg #[.slice A0_0 l0_0.length c0_0, .int .i64 a0_1], .agg #[.int .i64 a1_0, .slice A1_1 l1_1.length c1_1]] rfl dz1 ?_; (with_reducible refine (spec_WriterOk.calls k _ _ l0_0 a0_1 a1_0 _ _ l1_1 true _ ?side1 ?side2 ?side3 ?side4 A4.out).mono ?_); (case side1 => exact dz462); (case side2 => exact HC0_0.out); (case side3 => exact dz465); (case side4 => exact HC1_1.out); rintro e w4 ⟨rfl, hb⟩; refine ⟨_, rfl, ?_⟩; replace BK222 := (bkb_ BK222 hb); replace BK223 := (bkb_ BK223 hb); replace BK224 := (bkb_ BK224 hb); replace HB := Aside0.mk (below_step dz21 hb); (try clear hb); (try clear hb2); (try clear hk); (try clear hi); obtain ⟨hcz45_0, hcz45_1, hfz45_0, hfz45_1⟩ := cz2_ BK223) | ((with_reducible refine gate_callee (f := 71) rfl ?_); refine goesL_ (some 16) rfl rfl Try.func71 (by kernel_rfl) rfl #[.agg #[.int .i64 a1_0, .slice A1_1 l1_1.length c1_1]] rfl dz1 ?_; (with_reducible refine (spec_l8Copy.calls k a1_0 _ _ l1_1 t226 t227 _ ?side1 ?side2 A6.out).mono ?_); (case side1 => exact dz465); (case side2 => exact HC1_1.out); rintro e w5 ⟨v228, rfl, ho0, hb⟩; refine ⟨_, rfl, ?_⟩; have HO229 := Aside0.mk (Kd.S_lower ho0 (below_size dz21)); replace BK222 := (bkb_ BK222 hb); replace BK223 := (bkb_ BK223 hb); replace BK224 := (bkb_ BK224 hb); replace HB := Aside0.mk (below_step dz21 hb); (try clear hb); (try clear hb2); (try clear hk); (try clear hi); (try clear ho0)) | ((with_reducible refine gate_dst (N := 9) rfl ?_); refine box_event kr_ (N := 9) kr_ (cs := #[.int .i64 0, .slice none 0 0]) (t := 44) ks_ ?_; intro gb230 hg w6 hbox hb; replace HO229 := (sbb_ HO229 hb); have BK230 := Aside0.mk (hbox); have GW230 : Aside0 (w.heap.size ≤ gb230) := szl_ hg dz21; have GE230 : Aside0 (w.heap.size ≤ gb230) := szl_ hg dz21; replace HB := Aside0.mk (below_step dz21 hb); have NB222_230 := (nbl_ hg BK222); have NB230_222 := (nbr_ hg BK222); replace BK222 := (bkb_ BK222 hb); have NB223_230 := (nbl_ hg BK223); have NB230_223 := (nbr_ hg BK223); replace BK223 := (bkb_ BK223 hb); have NB224_230 := (nbl_ hg BK224); have NB230_224 := (nbr_ hg BK224); replace BK224 := (bkb_ BK224 hb); clear hb hbox hg; have hnb48 := NB230_222.out; have hnc48 := NB222_230.out; have hnb49 := NB230_223.out; have hnc49 := NB223_230.out; have hnb50 := NB230_224.out; have hnc50 := NB224_230.out; obtain ⟨hcz51_0, hcz51_1, hfz51_0, hfz51_1⟩ := cz2_ BK230; obtain ⟨Ao52, co52, eo52⟩ := Kd.S_slice HO229.out; subst eo52) | ((with_reducible refine gate_builtin (b := .append) (xs := #[.tmp 18, .tmp 21]) rfl ?_); at_builtin; refine Kd.S_append k50 (w0 := w) w.heap.size rfl (.tmp 18) (.tmp 21) 42 50 (.agg #[(.string ⟨#[]⟩), (.slice none 0 0), (.bool false)]) 48 rfl Try.underlying42 info50 rfl (by decide) (by omega) (.slice Ao52 t227.length co52) t227 (⟨a2, ([] : List Int), false⟩ : S50) [.string a2, .slice none 0 0, .bool false] (fun _ => True) (fun _ => False) rfl dz69 ?aP (fun k_ hk_ => hk_.elim) ?aF ?aO ?aB ?aS ?aL ?_; (case aP => exact k50_mkM _ _ _ (⟨a2, ([] : List Int), false⟩ : S50) (Kd.R_nil _ _ _ _ _)); (case aB => exact dz32); (case aF => exact (fun _ _ => trivial)); (case aO => exact (by (with_reducible repeat (first | apply Kd.S_alloc | apply Kd.S_drewN | apply Kd.S_drew)); exact Kd.S_mono (Kd.S_far (p := ⟨gb230, 1, none⟩) (Kd.S_far (p := ⟨gb230, 0, none⟩) (Kd.S_types HO229.out BK230.out (by decide)) (fun _ hk => hk.2) (.int .i64 t226)) (fun _ hk => hk.2) (.slice Ao52 t227.length co52)) (fun k_ hk => ⟨trivial, fun e_ => e_⟩))); (case aS => exact (below_size dz32)); (case aL => have := LMc7.out; omega); intro v232 w7 ho hb hg hat; rw [← Ny231.out] at ho; replace BK222 := Aside0.mk (blk_grown (g := gb222) (o := .cells #[.slice A0_0 l0_0.length c0_0, .int .i64 a0_1] 31 (0, 0)) dz139 hg (Kd.S_ne HO229.out BK222.out (by decide))); replace BK223 := Aside0.mk (blk_grown (g := gb223) (o := .cells #[.int .i64 a1_0, .slice A1_1 l1_1.length c1_1] 44 (0, 0)) dz140 hg (Kd.S_ne HO229.out BK223.out (by decide))); replace BK224 := Aside0.mk (blk_grown (g := gb224) (o := .cells #[.int .i64 0, .slice none 0 0] 44 (0, 0)) dz141 hg (Kd.S_ne HO229.out BK224.out (by decide))); replace BK230 := Aside0.mk (blk_grown (g := gb230) (o := .cells #[.int .i64 t226, .slice Ao52 t227.length co52] 44 (0, 0)) dz142 hg (Kd.S_ne HO229.out BK230.out (by decide))); replace HB := Aside0.mk (hb); have HO233 := Aside0.mk (ho); clear HO229; clear ho hb hg hat; obtain ⟨Ao54, co54, eo54⟩ := Kd.S_slice HO233.out; subst eo54; obtain ⟨hcz55_0, hcz55_1, hfz55_0, hfz55_1⟩ := cz2_ BK230; obtain ⟨hcz56_0, hcz56_1, hfz56_0, hfz56_1⟩ := cz2_ BK222) | ((with_reducible refine gate_callee (f := 70) rfl ?_); refine goesL_ (some 26) rfl rfl Try.func70 (by kernel_rfl) rfl #[.agg #[.slice A0_0 l0_0.length c0_0, .int .i64 a0_1], .agg #[.int .i64 t226, .slice Ao54 y231.length co54]] rfl dz1 ?_; (with_reducible refine (spec_WriterOk.calls k _ _ l0_0 a0_1 t226 _ _ y231 false _ ?side1 ?side2 ?side3 ?side4 A8.out).mono ?_); (case side1 => exact Kd.C_below HR0_0.out dz32); (case side2 => exact HC0_0.out); (case side3 => refine (Kd.S_reads' (e := 50) (base := w.heap.size) (ok := fun k_ => True) (n := y231.length) (c := co54) ?_).2.2; exact (by (with_reducible repeat (first | apply Kd.S_alloc | apply Kd.S_drewN | apply Kd.S_drew)); exact (Kd.S_mono (Kd.S_far (p := ⟨gb230, 1, none⟩) (Kd.S_types HO233.out BK230.out (by decide)) (fun _ hk => hk.2) (.slice Ao54 y231.length co54)) (fun _ h_ => h_.1)))); (case side4 => exact (Kd.S_reads' HO233.out).2.1); rintro e w8 ⟨rfl, hb⟩; refine ⟨_, rfl, ?_⟩; replace HO233 := Aside0.mk (Kd.S_below (by (with_reducible repeat (first | apply Kd.S_alloc | apply Kd.S_drewN | apply Kd.S_drew)); exact (Kd.S_mono (Kd.S_far (p := ⟨gb230, 1, none⟩) (Kd.S_types HO233.out BK230.out (by decide)) (fun _ hk => hk.2) (.slice Ao54 y231.length co54)) (fun _ h_ => h_.1))) hb); replace BK222 := Aside0.mk (blk_below (g := gb222) (o := .cells #[.slice A0_0 l0_0.length c0_0, .int .i64 a0_1] 31 (0, 0)) dz143 hb); replace BK223 := Aside0.mk (blk_below (g := gb223) (o := .cells #[.int .i64 a1_0, .slice A1_1 l1_1.length c1_1] 44 (0, 0)) dz144 hb); replace BK224 := Aside0.mk (blk_below (g := gb224) (o := .cells #[.int .i64 0, .slice none 0 0] 44 (0, 0)) dz145 hb); replace BK230 := Aside0.mk (blk_below (g := gb230) (o := .cells #[.int .i64 t226, .slice Ao54 y231.length co54] 44 (0, 0)) (by (with_reducible repeat (first | refine blk_drewN ?_ _ | refine blk_drew ?_ | refine blk_alloc ?_ _)); refine blk_put (cs := #[.int .i64 t226, .slice Ao52 t227.length co52]) ?_ 1 _ rfl; (with_reducible repeat (first | refine blk_drewN ?_ _ | refine blk_drew ?_ | refine blk_alloc ?_ _)); exact BK230.out) hb); replace HB := Aside0.mk (below_step dz32 hb); (try clear hb); (try clear hb2); (try clear hk); (try clear hi); obtain ⟨hcz58_0, hcz58_1, hfz58_0, hfz58_1⟩ := cz2_ BK223) | ((with_reducible refine gate_callee (f := 71) rfl ?_); refine goesL_ (some 29) rfl rfl Try.func71 (by kernel_rfl) rfl #[.agg #[.int .i64 a1_0, .slice A1_1 l1_1.length c1_1]] rfl dz1 ?_; (with_reducible refine (spec_l8Copy.calls k a1_0 _ _ l1_1 t235 t236 _ ?side1 ?side2 A35.out).mono ?_); (case side1 => exact dz465); (case side2 => exact HC1_1.out); rintro e w9 ⟨v237, rfl, ho0, hb⟩; refine ⟨_, rfl, ?_⟩; have HO238 := Aside0.mk (Kd.S_lower (Kd.S_new' ho0 (Kd.S_lt (by (with_reducible repeat (first | apply Kd.S_alloc | apply Kd.S_drewN | apply Kd.S_drew)); exact HO233.out))) (below_size dz32)); replace HO233 := Aside0.mk (Kd.S_elder' (by (with_reducible repeat (first | apply Kd.S_alloc | apply Kd.S_drewN | apply Kd.S_drew)); exact HO233.out) (Kd.S_base ho0) hb); replace BK222 := (bkb_ BK222 hb); replace BK223 := (bkb_ BK223 hb); replace BK224 := (bkb_ BK224 hb); replace BK230 := (bkb_ BK230 hb); replace HB := Aside0.mk (below_step dz32 hb); (try clear hb); (try clear hb2); (try clear hk); (try clear hi); (try clear ho0); obtain ⟨hcz60_0, hcz60_1, hfz60_0, hfz60_1⟩ := cz2_ BK224; obtain ⟨Ao61, co61, eo61⟩ := Kd.S_slice HO238.out; subst eo61))
   refine bodyPost_ret (results_ctt rfl _ _ gb224 44 #[.int .i64 t235, .slice Ao61 t236.length co61] (0, 0) _ rfl (by (with_reducible repeat (first | refine blk_drewN ?_ _ | refine blk_drew ?_ | refine blk_alloc ?_ _)); refine blk_put (cs := #[.int .i64 t235, .slice none 0 0]) ?_ 1 _ rfl; (with_reducible repeat (first | refine blk_drewN ?_ _ | refine blk_drew ?_ | refine blk_alloc ?_ _)); refine blk_put (cs := #[.int .i64 0, .slice none 0 0]) ?_ 0 _ rfl; (with_reducible repeat (first | refine blk_drewN ?_ _ | refine blk_drew ?_ | refine blk_alloc ?_ _)); exact BK224.out) Try.underlying44 rfl (by kernel_rfl)) rfl ?_
   exact ⟨_, by first | rfl | (simp [errW_none, errW_some] <;> rfl) | (simp [*, errW_none, errW_some] <;> rfl), by (with_reducible repeat (first | apply Kd.S_alloc | apply Kd.S_drewN | apply Kd.S_drew)); exact Kd.S_mono (Kd.S_far (p := ⟨gb224, 1, none⟩) (Kd.S_far (p := ⟨gb224, 0, none⟩) (Kd.S_types HO238.out BK224.out (by decide)) (fun _ hk => hk.2) (.int .i64 t235)) (fun _ hk => hk.2) (.slice Ao61 t236.length co61)) (fun _ hk => trivial), by repeat (first | (with_reducible first | exact HB.out | apply below_alloc | apply pw_below_drewN | apply below_drew1 | refine below_set ?_ GE222.out | refine below_set ?_ GE223.out | refine below_set ?_ GE224.out | refine below_set ?_ GE230.out) | exact HB.out)⟩
  rw [if_neg c7] at H
  exact absurd H (by simp)
 replace c5 := Bool.eq_false_iff.mpr c5
 subst c5
 have H1 : (some (0, ([] : List (S50)), 0, false)) = some (r1, r2, r3, r4) := by rw [if_neg (show ¬ (false = true) by decide)] at H; exact H
 clear H
 have H := H1
 clear H1
 simp only [Option.some.injEq, Prod.mk.injEq] at H
 obtain ⟨rfl, rfl, rfl, rfl⟩ := H
 go_enter Try.func20, Try.ntmps20
 go_wp2_with (first | ((with_reducible refine gate_dst (N := 3) rfl ?_); refine box_event kr_ (N := 3) kr_ (cs := #[.slice A0_0 l0_0.length c0_0, .int .i64 a0_1]) (t := 31) ks_ ?_; intro gb222 hg w1 hbox hb; have BK222 := Aside0.mk (hbox); have GW222 : Aside0 (w.heap.size ≤ gb222) := szl_ hg dz2; have GE222 : Aside0 (w.heap.size ≤ gb222) := szl_ hg dz2; replace HB := Aside0.mk (below_step dz2 hb); clear hb hbox hg) | ((with_reducible refine gate_dst (N := 4) rfl ?_); refine box_event kr_ (N := 4) kr_ (cs := #[.int .i64 a1_0, .slice A1_1 l1_1.length c1_1]) (t := 44) ks_ ?_; intro gb223 hg w2 hbox hb; have BK223 := Aside0.mk (hbox); have GW223 : Aside0 (w.heap.size ≤ gb223) := szl_ hg dz36; have GE223 : Aside0 (w.heap.size ≤ gb223) := szl_ hg dz36; replace HB := Aside0.mk (below_step dz36 hb); have NB222_223 := (nbl_ hg BK222); have NB223_222 := (nbr_ hg BK222); replace BK222 := (bkb_ BK222 hb); clear hb hbox hg) | ((with_reducible refine gate_dst (N := 6) rfl ?_); refine box_event kr_ (N := 6) kr_ (cs := #[.int .i64 0, .slice none 0 0]) (t := 44) ks_ ?_; intro gb224 hg w3 hbox hb; have BK224 := Aside0.mk (hbox); have GW224 : Aside0 (w.heap.size ≤ gb224) := szl_ hg dz37; have GE224 : Aside0 (w.heap.size ≤ gb224) := szl_ hg dz37; replace HB := Aside0.mk (below_step dz37 hb); have NB222_224 := (nbl_ hg BK222); have NB224_222 := (nbr_ hg BK222); replace BK222 := (bkb_ BK222 hb); have NB223_224 := (nbl_ hg BK223); have NB224_223 := (nbr_ hg BK223); replace BK223 := (bkb_ BK223 hb); clear hb hbox hg; have hnb65 := NB222_223.out; have hnc65 := NB223_222.out; have hnb66 := NB222_224.out; have hnc66 := NB224_222.out; obtain ⟨hcz67_0, hcz67_1, hfz67_0, hfz67_1⟩ := cz2_ BK222; have hnb68 := NB223_224.out; have hnc68 := NB224_223.out; obtain ⟨hcz69_0, hcz69_1, hfz69_0, hfz69_1⟩ := cz2_ BK223) | ((with_reducible refine gate_callee (f := 70) rfl ?_); refine goesL_ (some 12) rfl rfl Try.func70 (by kernel_rfl) rfl #[.agg #[.slice A0_0 l0_0.length c0_0, .int .i64 a0_1], .agg #[.int .i64 a1_0, .slice A1_1 l1_1.length c1_1]] rfl dz1 ?_; (with_reducible refine (spec_WriterOk.calls k _ _ l0_0 a0_1 a1_0 _ _ l1_1 false _ ?side1 ?side2 ?side3 ?side4 A4.out).mono ?_); (case side1 => exact dz462); (case side2 => exact HC0_0.out); (case side3 => exact dz465); (case side4 => exact HC1_1.out); rintro e w4 ⟨rfl, hb⟩; refine ⟨_, rfl, ?_⟩; replace BK222 := (bkb_ BK222 hb); replace BK223 := (bkb_ BK223 hb); replace BK224 := (bkb_ BK224 hb); replace HB := Aside0.mk (below_step dz21 hb); (try clear hb); (try clear hb2); (try clear hk); (try clear hi); obtain ⟨hcz71_0, hcz71_1, hfz71_0, hfz71_1⟩ := cz2_ BK224))
 refine bodyPost_ret (results_ctt rfl _ _ gb224 44 #[.int .i64 0, .slice none 0 0] (0, 0) _ rfl (by (with_reducible repeat (first | refine blk_drewN ?_ _ | refine blk_drew ?_ | refine blk_alloc ?_ _)); refine blk_put (cs := #[.int .i64 0, .slice none 0 0]) ?_ 1 _ rfl; (with_reducible repeat (first | refine blk_drewN ?_ _ | refine blk_drew ?_ | refine blk_alloc ?_ _)); refine blk_put (cs := #[.int .i64 0, .slice none 0 0]) ?_ 0 _ rfl; (with_reducible repeat (first | refine blk_drewN ?_ _ | refine blk_drew ?_ | refine blk_alloc ?_ _)); exact BK224.out) Try.underlying44 rfl (by kernel_rfl)) rfl ?_
 exact ⟨_, by first | rfl | (simp [errW_none, errW_some] <;> rfl) | (simp [*, errW_none, errW_some] <;> rfl), by first | exact Kd.S_nil _ _ _ _ _ | exact Kd.N_nil _ _ _ _ _ | exact Kd.V_nil _ _ _ _ _ | exact Kd.Q_nil _ _ _ _ _ | exact Kd.R_nil _ _ _ _ _, by repeat (first | (with_reducible first | exact HB.out | apply below_alloc | apply pw_below_drewN | apply below_drew1 | refine below_set ?_ GE222.out | refine below_set ?_ GE223.out | refine below_set ?_ GE224.out) | exact HB.out)⟩
def spec_l1Pick.f (s0_0 : List Int) (s0_1 : Int) (s0_2 : Int) (l1 : List ByteArray) : Option (ByteArray × Int × Int) := (spec_l1Below.f s0_0 s0_1 s0_2 (l1.length : Int)).bind fun bt239 => (if 0 ≤ bt239.1 then (if bt239.1 < (l1.length : Int) then (some (rdOf ByteArray.empty l1 bt239.1, bt239.2.1, bt239.2.2)) else (none)) else (none))
set_option maxHeartbeats 8000000 in
set_option maxRecDepth 100000 in
theorem spec_l1Pick.calls (g : Nat) (s0_0 : List Int) (s0_1 : Int) (s0_2 : Int) (A1 : Option Addr) (c1 : Nat) (l1 : List ByteArray) (r1 : ByteArray) (r2 : Int) (r3 : Int) (w0 w : World) (hI : IsS150 w0 w g s0_0 s0_1 s0_2) (hB : Below w0.heap.size w0 w) (hr1 : Kd.C Kd.string w A1 l1.length l1) (hc1 : l1.length ≤ c1) (hf1 : ∀ ad, A1 = some ad → 0 < l1.length → ad.block ≠ g) (h : spec_l1Pick.f s0_0 s0_1 s0_2 l1 = some (r1, r2, r3)) :
  Calls Try.prog 65 #[.pointer (some ⟨g, 0, none⟩), .slice A1 l1.length c1] w fun e w' => e = .returned (.string r1) ∧ IsS150 w0 w' g s0_0 r2 r3 ∧ Below w0.heap.size w0 w' ∧ KeepBut w w' g none := by
 have HR1 := Aside0.mk hr1
 have HC1 := Aside0.mk hc1
 clear hr1 hc1
 have HI0 := Aside0.mk hI
 have HK := Aside0.mk (KeepBut.refl w g none)
 have HL := Aside0.mk hB.size
 clear hI
 have HW0 := Aside0.mk hB.size
 have HB := Aside0.mk hB
 clear hB
 have H : ((spec_l1Below.f s0_0 s0_1 s0_2 (l1.length : Int)).bind fun bt239 => (if 0 ≤ bt239.1 then (if bt239.1 < (l1.length : Int) then (some (rdOf ByteArray.empty l1 bt239.1, bt239.2.1, bt239.2.2)) else (none)) else (none))) = some (r1, r2, r3) := h
 clear h
 replace H := Option.bind_eq_some_iff.mp H
 obtain ⟨⟨t239, t240, t241⟩, A30, H⟩ := H
 replace H : (if 0 ≤ t239 then (if t239 < (l1.length : Int) then (some (rdOf ByteArray.empty l1 t239, t240, t241)) else (none)) else (none)) = some (r1, r2, r3) := H
 have A3 := Aside0.mk A30
 clear A30
 by_cases c4 : 0 ≤ t239
 ·rw [if_pos c4] at H
  have c4b0 : decide (0 ≤ t239) = true := decide_eq_true c4
  clear c4
  by_cases c5 : t239 < (l1.length : Int)
  ·rw [if_pos c5] at H
   have c5b0 : decide (t239 < (l1.length : Int)) = true := decide_eq_true c5
   clear c5
   simp only [Option.some.injEq, Prod.mk.injEq] at H
   obtain ⟨rfl, rfl, rfl⟩ := H
   go_enter Try.func65, Try.ntmps65
   go_wp2_with (first | ((with_reducible refine gate_callee (f := 67) rfl ?_); refine goesL_ (some 9) rfl rfl Try.func67 (by kernel_rfl) rfl #[.pointer (some ⟨g, 0, none⟩), .int .i64 (l1.length : Int)] rfl dz1 ?_; (with_reducible refine (spec_l1Below.calls g s0_0 s0_1 s0_2 (l1.length : Int) t239 t240 t241 w0 _ ?side1 ?side2 A3.out).mono ?_); (case side1 => exact dz454); (case side2 => exact dz455); rintro e w1 ⟨rfl, hi, hb, hk⟩; refine ⟨_, rfl, ?_⟩; replace HK := Aside0.mk (KeepBut.trans dz4 hk (.inl rfl)); replace HB := Aside0.mk (hb); replace HI0 := Aside0.mk (hi); (try clear hb); (try clear hb2); (try clear hk); (try clear hi); have p242 : 0 ≤ (t239 : Int) := of_decide_eq_true dz0; have q242 : t239 < (l1.length : Int) := of_decide_eq_true dz0; obtain ⟨ad242, e242, hx242_0⟩ := Kd.at_string HR1.out t239 p242 q242; cases e242; replace hx242_0 := keep_cell HK.out hx242_0 (by first | (rw [add_block]; exact hf1 _ rfl (by omega)) | exact hf1 _ rfl (by omega) | exact hf1 ad242 rfl (by omega)); replace p242 := eq_true p242; replace q242 := eq_true q242))
   go_ret
   exact dz504
  rw [if_neg c5] at H
  exact absurd H (by simp)
 rw [if_neg c4] at H
 exact absurd H (by simp)
def spec_l4Has.l0 : Nat → List Int → Int → Int → Option (Bool)
 | 0, _, _, _ => none
 | k + 1, x0, x1, x5 => if x5 < (x0.length : Int) then (if 0 ≤ x5 then (if (rd x0 x5) = x1 then (some true) else (spec_l4Has.l0 k x0 x1 (wrap64 (x5 + 1)))) else (none)) else (some false)
def spec_l4Has.f (k : Nat) (l0 : List Int) (a1 : Int) : Option (Bool) := spec_l4Has.l0 k l0 a1 0
set_option maxHeartbeats 8000000 in
set_option maxRecDepth 100000 in
theorem spec_l4Has.calls (k : Nat) (A0 : Option Addr) (c0 : Nat) (l0 : List Int) (a1 : Int) (r : Bool) (w : World) (hr0 : Kd.C (Kd.int .i64) w A0 l0.length l0) (hc0 : l0.length ≤ c0) (h : spec_l4Has.f k l0 a1 = some r) :
  Calls Try.prog 146 #[.slice A0 l0.length c0, .int .i64 a1] w fun e w' => e = .returned (.bool r) ∧ Drawn0 w w' := by
 have HR0 := Aside0.mk hr0
 have HC0 := Aside0.mk hc0
 clear hr0 hc0
 have H : (spec_l4Has.l0 k l0 a1 0) = some r := h
 clear h
 have H' := Aside0.mk H
 clear H
 go_enter Try.func146, Try.ntmps146
 go_wp2
 go_loopg [5] k (fun kq v5 w' => ∃ (x5_1 : Int), v5 = .int .i64 x5_1 ∧ Aside0 (spec_l4Has.l0 kq l0 a1 x5_1 = some r) ∧ Aside0 (kq ≤ k) ∧ Drawn0 w w')
 case atStart => exact ⟨(0), dz3, H', ⟨Nat.le_refl _⟩, by repeat (first | exact Drawn0.refl _ | apply Drawn0.step)⟩
 case round =>
  clear H'
  try clear c1
  try clear p2
  obtain ⟨x5_1, rfl, HA, HK1, ⟨m1, rfl⟩⟩ := hrel
  cases gk with
  | zero => exact absurd HA.out (by simp [spec_l4Has.l0])
  | succ k1 =>
   have H := HA.out
   clear HA
   simp only [spec_l4Has.l0] at H
   by_cases c3 : x5_1 < (l0.length : Int)
   ·rw [if_pos c3] at H
    have c3b0 : decide (x5_1 < (l0.length : Int)) = true := decide_eq_true c3
    clear c3
    by_cases c4 : 0 ≤ x5_1
    ·rw [if_pos c4] at H
     have c4b0 : decide (0 ≤ x5_1) = true := decide_eq_true c4
     clear c4
     by_cases c5 : (rd l0 x5_1) = a1
     ·rw [if_pos c5] at H
      have c5b0 : ((rd l0 x5_1) == a1) = true := beq_iff_eq.mpr c5
      have c5b1 : ((rd l0 x5_1) != a1) = false := bne_eq_false_iff_eq.mpr c5
      clear c5
      obtain rfl := Option.some.inj H
      have p243 : 0 ≤ (x5_1 : Int) := of_decide_eq_true dz0
      have q243 : x5_1 < (l0.length : Int) := of_decide_eq_true dz0
      obtain ⟨ad243, e243, hx243_0⟩ := Kd.at_int HR0.out x5_1 p243 q243
      cases e243
      replace p243 := eq_true p243
      replace q243 := eq_true q243
      go_wp2
      go_ret
      exact dz503
     rw [if_neg c5] at H
     have c5b0 : ((rd l0 x5_1) == a1) = false := beq_eq_false_iff_ne.mpr c5
     have c5b1 : ((rd l0 x5_1) != a1) = true := bne_iff_ne.mpr c5
     have H' := Aside0.mk H
     clear H
     have p243 : 0 ≤ (x5_1 : Int) := of_decide_eq_true dz0
     have q243 : x5_1 < (l0.length : Int) := of_decide_eq_true dz0
     obtain ⟨ad243, e243, hx243_0⟩ := Kd.at_int HR0.out x5_1 p243 q243
     cases e243
     replace p243 := eq_true p243
     replace q243 := eq_true q243
     go_wp2
     go_roundg k1
     case measure => have := HK1.out; omega
     case rel => exact ⟨(wrap64 (x5_1 + 1)), dz3, H', ⟨by have := HK1.out; omega⟩, by repeat (first | exact Drawn0.refl _ | apply Drawn0.step)⟩
    rw [if_neg c4] at H
    exact absurd H (by simp)
   rw [if_neg c3] at H
   have c3b0 : decide (x5_1 < (l0.length : Int)) = false := decide_eq_false c3
   clear c3
   obtain rfl := Option.some.inj H
   go_wp2
   go_ret
   exact dz503
def spec_l4Put.l0 : Nat → List Int → Int → List Int → Bool → Int → Option (List Int)
 | 0, _, _, _, _, _ => none
 | k + 1, x0, x1, x5, x6, x7 => if x7 < (x0.length : Int) then (if x6 = true then (if 0 ≤ x7 then (if x5.length < 17592186044416 then (spec_l4Put.l0 k x0 x1 (x5 ++ [rd x0 x7]) x6 (wrap64 (x7 + 1))) else (none)) else (none)) else (if 0 ≤ x7 then (if (rd x0 x7) > x1 then (if x5.length < 17592186044416 then ((some (x5 ++ [x1] : List Int)).bind fun y253 => (if y253.length < 17592186044416 then (spec_l4Put.l0 k x0 x1 (y253 ++ [rd x0 x7]) true (wrap64 (x7 + 1))) else (none))) else (none)) else (if x5.length < 17592186044416 then (spec_l4Put.l0 k x0 x1 (x5 ++ [rd x0 x7]) x6 (wrap64 (x7 + 1))) else (none))) else (none))) else (if x6 = true then (some x5) else (if x5.length < 17592186044416 then (some (x5 ++ [x1])) else (none)))
def spec_l4Put.f (k : Nat) (l0 : List Int) (a1 : Int) : Option (List Int) := (spec_l4Has.f k l0 a1).bind fun t247 => (spec_l4Put.l0 k l0 a1 (([] : List Int)) t247 0)
set_option maxHeartbeats 8000000 in
set_option maxRecDepth 100000 in
theorem spec_l4Put.calls (k : Nat) (A0 : Option Addr) (c0 : Nat) (l0 : List Int) (a1 : Int) (r : List Int) (w : World) (hr0 : Kd.C (Kd.int .i64) w A0 l0.length l0) (hc0 : l0.length ≤ c0) (h : spec_l4Put.f k l0 a1 = some r) :
  Calls Try.prog 144 #[.slice A0 l0.length c0, .int .i64 a1] w fun e w' => ∃ v0_ : Value, e = .returned (v0_) ∧ Kd.R (Kd.int .i64) 3 w' w.heap.size (fun _ => True) v0_ r ∧ Below w.heap.size w w' := by
 have HR0 := Aside0.mk hr0
 have HC0 := Aside0.mk hc0
 clear hr0 hc0
 have HB := Aside0.mk (Below.refl w.heap.size w)
 have H : ((spec_l4Has.f k l0 a1).bind fun t247 => (spec_l4Put.l0 k l0 a1 (([] : List Int)) t247 0)) = some r := h
 clear h
 obtain ⟨y244, hy244⟩ : ∃ y_ : List Int, y_ = (([] : List Int)) := ⟨_, rfl⟩
 replace H : ((spec_l4Has.f k l0 a1).bind fun t247 => (spec_l4Put.l0 k l0 a1 y244 t247 0)) = some r := by first | (rw [hy244]; with_reducible exact H) | (have H2_ := (Option.bind_some _ _).symm.trans H; rw [hy244]; with_reducible exact H2_) | (have H2_ := (Option.bind_some _ _).symm.trans H; with_reducible exact H2_) | with_reducible exact H | (rw [hy244]; exact H) | exact H
 have Ny244 := Aside0.mk hy244
 clear hy244
 replace H := Option.bind_eq_some_iff.mp H
 obtain ⟨t247, A30, H⟩ := H
 replace H : (spec_l4Put.l0 k l0 a1 y244 t247 0) = some r := H
 have A3 := Aside0.mk A30
 clear A30
 have H' := Aside0.mk H
 clear H
 go_enter Try.func144, Try.ntmps144
 go_wp2_with (first | ((with_reducible refine gate_dst (N := 8) rfl ?_); refine Kd.R_lit (Kd.int .i64) _ 3 ?hg (N := 8) ?hd (xs := ([] : List Int)) (inner := []) (ok := fun _ => True) (okp := fun _ => True) ?hr ?hp (fun _ hk => hk) trivial (Below.refl _ _) (Nat.le_refl _) (by simp) ?_; (case hd => rfl); (case hg => rfl); (case hr => first | (go_simp; done) | (go_simp; rfl)); (case hp => exact (Reps.none _ _)); intro v245 w1 ho5 hb hg_ hnew_; clear hg_ hnew_; (first | rw [← Ny244.out] at ho5 | (simp only [Int.reduceToNat] at ho5; rw [← Ny244.out] at ho5)); have HO246 := Aside0.mk (Kd.R_lower ho5 (below_size dz2)); replace HB := Aside0.mk (below_step dz2 hb); clear hb ho5) | ((with_reducible refine gate_callee (f := 146) rfl ?_); refine goesL_ (some 11) rfl rfl Try.func146 (by kernel_rfl) rfl #[.slice A0 l0.length c0, .int .i64 a1] rfl dz1 ?_; (with_reducible refine (spec_l4Has.calls k _ _ l0 a1 t247 _ ?side1 ?side2 A3.out).mono ?_); (case side1 => repeat (first | exact (Kd.C_below HR0.out HB.out) | (with_reducible refine Kd.C_alloc ?_ _) | (with_reducible refine Kd.C_drewN ?_ _) | (with_reducible refine Kd.C_drew ?_))); (case side2 => exact HC0.out); rintro e w' ⟨rfl, ⟨nd, rfl⟩⟩; refine ⟨_, rfl, ?_⟩))
 go_loopg [5, 6, 7] k (fun kq v5 v6 v7 w' => ∃ (x5_1 : List Int) (x6_1 : Bool) (x7_1 : Int), v6 = .bool x6_1 ∧ v7 = .int .i64 x7_1 ∧ Aside0 (spec_l4Put.l0 kq l0 a1 x5_1 x6_1 x7_1 = some r) ∧ Aside0 (kq ≤ k) ∧ Aside0 (Kd.R (Kd.int .i64) 3 w' w.heap.size (fun _ => True) v5 x5_1) ∧ Aside0 (Below w.heap.size w w'))
 case atStart => exact ⟨(y244), (t247), (0), dz3, dz3, H', ⟨Nat.le_refl _⟩, ⟨by (with_reducible repeat (first | apply Kd.R_alloc | apply Kd.R_drewN | apply Kd.R_drew)); exact HO246.out⟩, ⟨by repeat (first | (with_reducible first | exact HB.out | apply below_alloc | apply pw_below_drewN | apply below_drew1) | exact HB.out)⟩⟩
 case round =>
  clear H'
  try clear c1
  try clear p2
  obtain ⟨x5_1, x6_1, x7_1, rfl, rfl, HA, HK1, HO_5, HB⟩ := hrel
  cases gk with
  | zero => exact absurd HA.out (by simp [spec_l4Put.l0])
  | succ k1 =>
   have H := HA.out
   clear HA
   simp only [spec_l4Put.l0] at H
   by_cases c6 : x7_1 < (l0.length : Int)
   ·rw [if_pos c6] at H
    have c6b0 : decide (x7_1 < (l0.length : Int)) = true := decide_eq_true c6
    clear c6
    by_cases c7 : x6_1 = true
    ·subst c7
     have H1 : (if 0 ≤ x7_1 then (if x5_1.length < 17592186044416 then (spec_l4Put.l0 k1 l0 a1 (x5_1 ++ [rd l0 x7_1]) true (wrap64 (x7_1 + 1))) else (none)) else (none)) = some r := by rw [if_pos rfl] at H; exact H
     clear H
     have H := H1
     clear H1
     by_cases c8 : 0 ≤ x7_1
     ·rw [if_pos c8] at H
      have c8b0 : decide (0 ≤ x7_1) = true := decide_eq_true c8
      clear c8
      by_cases c9 : x5_1.length < 17592186044416
      ·rw [if_pos c9] at H
       have LMc9 := Aside0.mk c9
       clear c9
       obtain ⟨y249, hy249⟩ : ∃ y_ : List Int, y_ = (x5_1 ++ [rd l0 x7_1]) := ⟨_, rfl⟩
       replace H : (spec_l4Put.l0 k1 l0 a1 y249 true (wrap64 (x7_1 + 1))) = some r := by first | (rw [hy249]; with_reducible exact H) | (have H2_ := (Option.bind_some _ _).symm.trans H; rw [hy249]; with_reducible exact H2_) | (have H2_ := (Option.bind_some _ _).symm.trans H; with_reducible exact H2_) | with_reducible exact H | (rw [hy249]; exact H) | exact H
       have Ny249 := Aside0.mk hy249
       clear hy249
       have H' := Aside0.mk H
       clear H
       have p248 : 0 ≤ (x7_1 : Int) := of_decide_eq_true dz0
       have q248 : x7_1 < (l0.length : Int) := of_decide_eq_true dz0
       obtain ⟨ad248, e248, hx248_0⟩ := Kd.at_int HR0.out x7_1 p248 q248
       cases e248
       replace hx248_0 := hxl_ HB hx248_0
       replace p248 := eq_true p248
       replace q248 := eq_true q248
       go_wp2_with (first | ((with_reducible refine gate_builtin (b := .append) (xs := #[.tmp 32, .tmp 37]) rfl ?_); at_builtin; refine Kd.R_append (Kd.int .i64) (w0 := w) w.heap.size rfl (.tmp 32) (.tmp 37) 22 3 (.int .i64 0) 8 rfl Try.underlying22 info3 rfl (by decide) (by omega) u5 x5_1 (rd l0 x7_1) [.int .i64 (rd l0 x7_1)] (fun _ => True) (fun _ => False) rfl rfl ?aP (fun _ hk => hk.elim) ?aF ?aO ?aB ?aS ?aL ?_; (case aP => exact rfl); (case aB => exact dz2); (case aF => exact (fun _ _ => trivial)); (case aO => exact dz70); (case aS => exact (below_size dz2)); (case aL => have := LMc9.out; omega); intro v250 w10 ho hb hg hat; rw [← Ny249.out] at ho; replace HB := Aside0.mk (hb); have HO251 := Aside0.mk (ho); clear HO_5; clear ho hb hg hat))
       go_roundg k1
       case measure => have := HK1.out; omega
       case rel => exact ⟨(y249), (true), (wrap64 (x7_1 + 1)), dz3, dz3, H', ⟨by have := HK1.out; omega⟩, ⟨by (with_reducible repeat (first | apply Kd.R_alloc | apply Kd.R_drewN | apply Kd.R_drew)); exact HO251.out⟩, ⟨by repeat (first | (with_reducible first | exact HB.out | apply below_alloc | apply pw_below_drewN | apply below_drew1) | exact HB.out)⟩⟩
      rw [if_neg c9] at H
      exact absurd H (by simp)
     rw [if_neg c8] at H
     exact absurd H (by simp)
    replace c7 := Bool.eq_false_iff.mpr c7
    subst c7
    have H1 : (if 0 ≤ x7_1 then (if (rd l0 x7_1) > a1 then (if x5_1.length < 17592186044416 then ((some (x5_1 ++ [a1] : List Int)).bind fun y253 => (if y253.length < 17592186044416 then (spec_l4Put.l0 k1 l0 a1 (y253 ++ [rd l0 x7_1]) true (wrap64 (x7_1 + 1))) else (none))) else (none)) else (if x5_1.length < 17592186044416 then (spec_l4Put.l0 k1 l0 a1 (x5_1 ++ [rd l0 x7_1]) false (wrap64 (x7_1 + 1))) else (none))) else (none)) = some r := by rw [if_neg (show ¬ (false = true) by decide)] at H; exact H
    clear H
    have H := H1
    clear H1
    by_cases c11 : 0 ≤ x7_1
    ·rw [if_pos c11] at H
     have c11b0 : decide (0 ≤ x7_1) = true := decide_eq_true c11
     clear c11
     by_cases c12 : (rd l0 x7_1) > a1
     ·rw [if_pos c12] at H
      have c12b0 : decide (a1 < (rd l0 x7_1)) = true := decide_eq_true c12
      clear c12
      by_cases c13 : x5_1.length < 17592186044416
      ·rw [if_pos c13] at H
       have LMc13 := Aside0.mk c13
       clear c13
       obtain ⟨y253, hy253⟩ : ∃ y_ : List Int, y_ = (x5_1 ++ [a1]) := ⟨_, rfl⟩
       replace H : (if y253.length < 17592186044416 then (spec_l4Put.l0 k1 l0 a1 (y253 ++ [rd l0 x7_1]) true (wrap64 (x7_1 + 1))) else (none)) = some r := by first | (rw [hy253]; with_reducible exact H) | (have H2_ := (Option.bind_some _ _).symm.trans H; rw [hy253]; with_reducible exact H2_) | (have H2_ := (Option.bind_some _ _).symm.trans H; with_reducible exact H2_) | with_reducible exact H | (rw [hy253]; exact H) | exact H
       have Ny253 := Aside0.mk hy253
       clear hy253
       by_cases c14 : y253.length < 17592186044416
       ·rw [if_pos c14] at H
        have LMc14 := Aside0.mk c14
        clear c14
        obtain ⟨y257, hy257⟩ : ∃ y_ : List Int, y_ = (y253 ++ [rd l0 x7_1]) := ⟨_, rfl⟩
        replace H : (spec_l4Put.l0 k1 l0 a1 y257 true (wrap64 (x7_1 + 1))) = some r := by first | (rw [hy257]; with_reducible exact H) | (have H2_ := (Option.bind_some _ _).symm.trans H; rw [hy257]; with_reducible exact H2_) | (have H2_ := (Option.bind_some _ _).symm.trans H; with_reducible exact H2_) | with_reducible exact H | (rw [hy257]; exact H) | exact H
        have Ny257 := Aside0.mk hy257
        clear hy257
        have H' := Aside0.mk H
        clear H
        have p252 : 0 ≤ (x7_1 : Int) := of_decide_eq_true dz0
        have q252 : x7_1 < (l0.length : Int) := of_decide_eq_true dz0
        obtain ⟨ad252, e252, hx252_0⟩ := Kd.at_int HR0.out x7_1 p252 q252
        cases e252
        replace hx252_0 := hxl_ HB hx252_0
        replace p252 := eq_true p252
        replace q252 := eq_true q252
        go_wp2_with (first | ((with_reducible refine gate_builtin (b := .append) (xs := #[.tmp 28, .tmp 30]) rfl ?_); at_builtin; refine Kd.R_append (Kd.int .i64) (w0 := w) w.heap.size rfl (.tmp 28) (.tmp 30) 22 3 (.int .i64 0) 8 rfl Try.underlying22 info3 rfl (by decide) (by omega) u5 x5_1 a1 [.int .i64 a1] (fun _ => True) (fun _ => False) rfl rfl ?aP (fun _ hk => hk.elim) ?aF ?aO ?aB ?aS ?aL ?_; (case aP => exact rfl); (case aB => exact dz2); (case aF => exact (fun _ _ => trivial)); (case aO => exact dz70); (case aS => exact (below_size dz2)); (case aL => have := LMc13.out; omega); intro v254 w15 ho hb hg hat; rw [← Ny253.out] at ho; replace HB := Aside0.mk (hb); have HO255 := Aside0.mk (ho); clear HO_5; clear ho hb hg hat; have p256 : 0 ≤ (x7_1 : Int) := of_decide_eq_true dz0; have q256 : x7_1 < (l0.length : Int) := of_decide_eq_true dz0; obtain ⟨ad256, e256, hx256_0⟩ := Kd.at_int HR0.out x7_1 p256 q256; obtain rfl : ad252 = ad256 := (by injection e256); replace hx256_0 := hxl_ HB hx256_0; replace p256 := eq_true p256; replace q256 := eq_true q256) | ((with_reducible refine gate_builtin (b := .append) (xs := #[.tmp 32, .tmp 37]) rfl ?_); at_builtin; refine Kd.R_append (Kd.int .i64) (w0 := w) w.heap.size rfl (.tmp 32) (.tmp 37) 22 3 (.int .i64 0) 8 rfl Try.underlying22 info3 rfl (by decide) (by omega) v254 y253 (rd l0 x7_1) [.int .i64 (rd l0 x7_1)] (fun _ => True) (fun _ => False) rfl rfl ?aP (fun _ hk => hk.elim) ?aF ?aO ?aB ?aS ?aL ?_; (case aP => exact rfl); (case aB => exact dz2); (case aF => exact (fun _ _ => trivial)); (case aO => exact (by (with_reducible repeat (first | apply Kd.R_alloc | apply Kd.R_drewN | apply Kd.R_drew)); exact HO255.out)); (case aS => exact (below_size dz2)); (case aL => have := LMc14.out; omega); intro v258 w16 ho hb hg hat; rw [← Ny257.out] at ho; replace HB := Aside0.mk (hb); have HO259 := Aside0.mk (ho); clear HO255; clear ho hb hg hat))
        go_roundg k1
        case measure => have := HK1.out; omega
        case rel => exact ⟨(y257), (true), (wrap64 (x7_1 + 1)), dz3, dz3, H', ⟨by have := HK1.out; omega⟩, ⟨by (with_reducible repeat (first | apply Kd.R_alloc | apply Kd.R_drewN | apply Kd.R_drew)); exact HO259.out⟩, ⟨by repeat (first | (with_reducible first | exact HB.out | apply below_alloc | apply pw_below_drewN | apply below_drew1) | exact HB.out)⟩⟩
       rw [if_neg c14] at H
       exact absurd H (by simp)
      rw [if_neg c13] at H
      exact absurd H (by simp)
     rw [if_neg c12] at H
     have c12b0 : decide (a1 < (rd l0 x7_1)) = false := decide_eq_false c12
     clear c12
     by_cases c17 : x5_1.length < 17592186044416
     ·rw [if_pos c17] at H
      have LMc17 := Aside0.mk c17
      clear c17
      obtain ⟨y261, hy261⟩ : ∃ y_ : List Int, y_ = (x5_1 ++ [rd l0 x7_1]) := ⟨_, rfl⟩
      replace H : (spec_l4Put.l0 k1 l0 a1 y261 false (wrap64 (x7_1 + 1))) = some r := by first | (rw [hy261]; with_reducible exact H) | (have H2_ := (Option.bind_some _ _).symm.trans H; rw [hy261]; with_reducible exact H2_) | (have H2_ := (Option.bind_some _ _).symm.trans H; with_reducible exact H2_) | with_reducible exact H | (rw [hy261]; exact H) | exact H
      have Ny261 := Aside0.mk hy261
      clear hy261
      have H' := Aside0.mk H
      clear H
      have p252 : 0 ≤ (x7_1 : Int) := of_decide_eq_true dz0
      have q252 : x7_1 < (l0.length : Int) := of_decide_eq_true dz0
      obtain ⟨ad252, e252, hx252_0⟩ := Kd.at_int HR0.out x7_1 p252 q252
      cases e252
      replace hx252_0 := hxl_ HB hx252_0
      replace p252 := eq_true p252
      replace q252 := eq_true q252
      have p260 : 0 ≤ (x7_1 : Int) := of_decide_eq_true dz0
      have q260 : x7_1 < (l0.length : Int) := of_decide_eq_true dz0
      obtain ⟨ad260, e260, hx260_0⟩ := Kd.at_int HR0.out x7_1 p260 q260
      obtain rfl : ad252 = ad260 := (by injection e260)
      replace hx260_0 := hxl_ HB hx260_0
      replace p260 := eq_true p260
      replace q260 := eq_true q260
      go_wp2_with (first | ((with_reducible refine gate_builtin (b := .append) (xs := #[.tmp 32, .tmp 37]) rfl ?_); at_builtin; refine Kd.R_append (Kd.int .i64) (w0 := w) w.heap.size rfl (.tmp 32) (.tmp 37) 22 3 (.int .i64 0) 8 rfl Try.underlying22 info3 rfl (by decide) (by omega) u5 x5_1 (rd l0 x7_1) [.int .i64 (rd l0 x7_1)] (fun _ => True) (fun _ => False) rfl rfl ?aP (fun _ hk => hk.elim) ?aF ?aO ?aB ?aS ?aL ?_; (case aP => exact rfl); (case aB => exact dz2); (case aF => exact (fun _ _ => trivial)); (case aO => exact dz70); (case aS => exact (below_size dz2)); (case aL => have := LMc17.out; omega); intro v262 w18 ho hb hg hat; rw [← Ny261.out] at ho; replace HB := Aside0.mk (hb); have HO263 := Aside0.mk (ho); clear HO_5; clear ho hb hg hat))
      go_roundg k1
      case measure => have := HK1.out; omega
      case rel => exact ⟨(y261), (false), (wrap64 (x7_1 + 1)), dz3, dz3, H', ⟨by have := HK1.out; omega⟩, ⟨by (with_reducible repeat (first | apply Kd.R_alloc | apply Kd.R_drewN | apply Kd.R_drew)); exact HO263.out⟩, ⟨by repeat (first | (with_reducible first | exact HB.out | apply below_alloc | apply pw_below_drewN | apply below_drew1) | exact HB.out)⟩⟩
     rw [if_neg c17] at H
     exact absurd H (by simp)
    rw [if_neg c11] at H
    exact absurd H (by simp)
   rw [if_neg c6] at H
   have c6b0 : decide (x7_1 < (l0.length : Int)) = false := decide_eq_false c6
   clear c6
   by_cases c19 : x6_1 = true
   ·subst c19
    have H1 : (some x5_1) = some r := by rw [if_pos rfl] at H; exact H
    clear H
    have H := H1
    clear H1
    obtain rfl := Option.some.inj H
    go_wp2
    go_ret
    exact ⟨_, by first | rfl | (simp [errW_none, errW_some] <;> rfl) | (simp [*, errW_none, errW_some] <;> rfl), by (with_reducible repeat (first | apply Kd.R_alloc | apply Kd.R_drewN | apply Kd.R_drew)); exact HO_5.out, by repeat (first | (with_reducible first | exact HB.out | apply below_alloc | apply pw_below_drewN | apply below_drew1) | exact HB.out)⟩
   replace c19 := Bool.eq_false_iff.mpr c19
   subst c19
   have H1 : (if x5_1.length < 17592186044416 then (some (x5_1 ++ [a1])) else (none)) = some r := by rw [if_neg (show ¬ (false = true) by decide)] at H; exact H
   clear H
   have H := H1
   clear H1
   by_cases c20 : x5_1.length < 17592186044416
   ·rw [if_pos c20] at H
    have LMc20 := Aside0.mk c20
    clear c20
    obtain ⟨y264, hy264⟩ : ∃ y_ : List Int, y_ = (x5_1 ++ [a1]) := ⟨_, rfl⟩
    replace H : (some y264) = some r := by first | (rw [hy264]; with_reducible exact H) | (have H2_ := (Option.bind_some _ _).symm.trans H; rw [hy264]; with_reducible exact H2_) | (have H2_ := (Option.bind_some _ _).symm.trans H; with_reducible exact H2_) | with_reducible exact H | (rw [hy264]; exact H) | exact H
    have Ny264 := Aside0.mk hy264
    clear hy264
    obtain rfl := Option.some.inj H
    go_wp2_with (first | ((with_reducible refine gate_builtin (b := .append) (xs := #[.tmp 41, .tmp 43]) rfl ?_); at_builtin; refine Kd.R_append (Kd.int .i64) (w0 := w) w.heap.size rfl (.tmp 41) (.tmp 43) 22 3 (.int .i64 0) 8 rfl Try.underlying22 info3 rfl (by decide) (by omega) u5 x5_1 a1 [.int .i64 a1] (fun _ => True) (fun _ => False) rfl rfl ?aP (fun _ hk => hk.elim) ?aF ?aO ?aB ?aS ?aL ?_; (case aP => exact rfl); (case aB => exact dz2); (case aF => exact (fun _ _ => trivial)); (case aO => exact dz70); (case aS => exact (below_size dz2)); (case aL => have := LMc20.out; omega); intro v265 w21 ho hb hg hat; rw [← Ny264.out] at ho; replace HB := Aside0.mk (hb); have HO266 := Aside0.mk (ho); clear HO_5; clear ho hb hg hat))
    go_ret
    exact ⟨_, by first | rfl | (simp [errW_none, errW_some] <;> rfl) | (simp [*, errW_none, errW_some] <;> rfl), by (with_reducible repeat (first | apply Kd.R_alloc | apply Kd.R_drewN | apply Kd.R_drew)); exact HO266.out, by repeat (first | (with_reducible first | exact HB.out | apply below_alloc | apply pw_below_drewN | apply below_drew1) | exact HB.out)⟩
   rw [if_neg c20] at H
   exact absurd H (by simp)
end Go.Proofs.Ytdkdhciogedoiab.PFnAdded
