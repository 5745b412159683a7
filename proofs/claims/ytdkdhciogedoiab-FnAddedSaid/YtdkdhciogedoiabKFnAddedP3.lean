-- Written by wip/gen/pack.py of this repo. Lean checks it.
import Derived.Test.YtdkdhciogedoiabKFnAddedP0
import Derived.Test.YtdkdhciogedoiabKFnAddedP2
import Derived.Test.YtdkdhciogedoiabKFnAddedD
namespace Go.Proofs.Ytdkdhciogedoiab.PFnAdded
open Go.RowKit Go.Proofs.YtdkdhciogedoiabW.PrintWords Go.Proofs.YtdkdhciogedoiabW.PrintLast Go.Proofs.YtdkdhciogedoiabW.PrintMore Go.Proofs.YtdkdhciogedoiabW.Sq
attribute [local go_sem] max2_int min2_int max_two min_two max_three min_three max_four min_four
set_option linter.unusedVariables false
set_option linter.unusedSimpArgs false
def spec_l4Span.l0 : Nat → List Int → List Bool → Int → Int → List Int → Int → Option (Int)
 | 0, _, _, _, _, _, _ => none
 | k + 1, x1, x5, x6, x7, x190000, x190001 => if x7 < (x1.length : Int) then (if 0 ≤ x7 then (if 0 ≤ (rd x1 x7) then (if (rd x1 x7) < (x190000.length : Int) then (if 0 ≤ (rd x190000 (rd x1 x7)) then (if (rd x190000 (rd x1 x7)) < (x5.length : Int) then (if (rdOf false x5 (rd x190000 (rd x1 x7)) = true) then (spec_l4Span.l0 k x1 x5 x6 (wrap64 (x7 + 1)) x190000 x190001) else (spec_l4Span.l0 k x1 (x5.set ((rd x190000 (rd x1 x7)) : Int).toNat true) (wrap64 (x6 + 1)) (wrap64 (x7 + 1)) x190000 x190001)) else (none)) else (none)) else (none)) else (none)) else (none)) else (some x6)
def spec_l4Span.f (k : Nat) (l0_0 : List Int) (a0_1 : Int) (l1 : List Int) : Option (Int) := if 8 ≤ 281474976710656 then (spec_l4Span.l0 k l1 (List.replicate 8 false) 0 0 l0_0 a0_1) else (none)
set_option maxHeartbeats 8000000 in
set_option maxRecDepth 100000 in
theorem spec_l4Span.calls (k : Nat) (A0_0 : Option Addr) (c0_0 : Nat) (l0_0 : List Int) (a0_1 : Int) (A1 : Option Addr) (c1 : Nat) (l1 : List Int) (r : Int) (w : World) (hr0_0 : Kd.C (Kd.int .i64) w A0_0 l0_0.length l0_0) (hc0_0 : l0_0.length ≤ c0_0) (hr1 : Kd.C (Kd.int .i64) w A1 l1.length l1) (hc1 : l1.length ≤ c1) (h : spec_l4Span.f k l0_0 a0_1 l1 = some r) :
  Calls Try.prog 111 #[.agg #[.slice A0_0 l0_0.length c0_0, .int .i64 a0_1], .slice A1 l1.length c1] w fun e w' => e = .returned (.int .i64 r) ∧ Below w.heap.size w w' := by
 have hu31 := Try.underlying31
 have HR0_0 := Aside0.mk hr0_0
 have HC0_0 := Aside0.mk hc0_0
 clear hr0_0 hc0_0
 have HR1 := Aside0.mk hr1
 have HC1 := Aside0.mk hc1
 clear hr1 hc1
 have HB := Aside0.mk (Below.refl w.heap.size w)
 have H : (if 8 ≤ 281474976710656 then (spec_l4Span.l0 k l1 (List.replicate 8 false) 0 0 l0_0 a0_1) else (none)) = some r := h
 clear h
 by_cases c3 : 8 ≤ 281474976710656
 ·rw [if_pos c3] at H
  have c3b0 := eq_true c3
  have c3b1 : decide (8 ≤ 281474976710656) = true := decide_eq_true c3
  clear c3
  obtain ⟨y190, hy190⟩ : ∃ y_ : List Bool, y_ = (List.replicate 8 false) := ⟨_, rfl⟩
  replace H : (spec_l4Span.l0 k l1 y190 0 0 l0_0 a0_1) = some r := by first | (rw [hy190]; with_reducible exact H) | (have H2_ := (Option.bind_some _ _).symm.trans H; rw [hy190]; with_reducible exact H2_) | (have H2_ := (Option.bind_some _ _).symm.trans H; with_reducible exact H2_) | with_reducible exact H | (rw [hy190]; exact H) | exact H
  have Ny190 := Aside0.mk hy190
  clear hy190
  have H' := Aside0.mk H
  clear H
  go_enter Try.func111, Try.ntmps111
  go_wp2_with (first | ((with_reducible refine gate_dst (N := 2) rfl ?_); refine box_event kr_ (N := 2) kr_ (cs := #[.slice A0_0 l0_0.length c0_0, .int .i64 a0_1]) (t := 31) ks_ ?_; intro gb189 hg w1 hbox hb; have BK189 := Aside0.mk (hbox); have GW189 : Aside0 (w.heap.size ≤ gb189) := szl_ hg dz2; have GE189 : Aside0 (w.heap.size ≤ gb189) := szl_ hg dz2; replace HB := Aside0.mk (below_step dz2 hb); clear hb hbox hg) | ((with_reducible refine gate_dst (N := 9) rfl ?_); refine Kd.R_make Kd.bool _ 4 rfl (N := 9) rfl 168 _ _ rfl 8 rfl rfl Try.underlying168 (.bool false) 1 info4 rfl (by decide) (by omega) false (ok := fun _ => True) (okp := fun _ => True) rfl (fun _ hk => hk) trivial (by omega) (by omega) (Below.refl _ _) (Nat.le_refl _) ?_; intro v191 w2 ho6 hb hg_ hnew_; clear hg_ hnew_; (first | rw [← Ny190.out] at ho6 | (simp only [Int.reduceToNat] at ho6; rw [← Ny190.out] at ho6)); have HO192 := Aside0.mk (Kd.R_lower ho6 (below_size dz49)); replace BK189 := (bkb_ BK189 hb); replace HB := Aside0.mk (below_step dz49 hb); clear hb ho6))
  repeat (go_quiet (first | ((with_reducible refine gate_dst (N := 2) rfl ?_); refine box_event kr_ (N := 2) kr_ (cs := #[.slice A0_0 l0_0.length c0_0, .int .i64 a0_1]) (t := 31) ks_ ?_; intro gb189 hg w1 hbox hb; have BK189 := Aside0.mk (hbox); have GW189 : Aside0 (w.heap.size ≤ gb189) := szl_ hg dz2; have GE189 : Aside0 (w.heap.size ≤ gb189) := szl_ hg dz2; replace HB := Aside0.mk (below_step dz2 hb); clear hb hbox hg) | ((with_reducible refine gate_dst (N := 9) rfl ?_); refine Kd.R_make Kd.bool _ 4 rfl (N := 9) rfl 168 _ _ rfl 8 rfl rfl Try.underlying168 (.bool false) 1 info4 rfl (by decide) (by omega) false (ok := fun _ => True) (okp := fun _ => True) rfl (fun _ hk => hk) trivial (by omega) (by omega) (Below.refl _ _) (Nat.le_refl _) ?_; intro v191 w2 ho6 hb hg_ hnew_; clear hg_ hnew_; (first | rw [← Ny190.out] at ho6 | (simp only [Int.reduceToNat] at ho6; rw [← Ny190.out] at ho6)); have HO192 := Aside0.mk (Kd.R_lower ho6 (below_size dz49)); replace BK189 := (bkb_ BK189 hb); replace HB := Aside0.mk (below_step dz49 hb); clear hb ho6)); try go_wp2_with (first | ((with_reducible refine gate_dst (N := 2) rfl ?_); refine box_event kr_ (N := 2) kr_ (cs := #[.slice A0_0 l0_0.length c0_0, .int .i64 a0_1]) (t := 31) ks_ ?_; intro gb189 hg w1 hbox hb; have BK189 := Aside0.mk (hbox); have GW189 : Aside0 (w.heap.size ≤ gb189) := szl_ hg dz2; have GE189 : Aside0 (w.heap.size ≤ gb189) := szl_ hg dz2; replace HB := Aside0.mk (below_step dz2 hb); clear hb hbox hg) | ((with_reducible refine gate_dst (N := 9) rfl ?_); refine Kd.R_make Kd.bool _ 4 rfl (N := 9) rfl 168 _ _ rfl 8 rfl rfl Try.underlying168 (.bool false) 1 info4 rfl (by decide) (by omega) false (ok := fun _ => True) (okp := fun _ => True) rfl (fun _ hk => hk) trivial (by omega) (by omega) (Below.refl _ _) (Nat.le_refl _) ?_; intro v191 w2 ho6 hb hg_ hnew_; clear hg_ hnew_; (first | rw [← Ny190.out] at ho6 | (simp only [Int.reduceToNat] at ho6; rw [← Ny190.out] at ho6)); have HO192 := Aside0.mk (Kd.R_lower ho6 (below_size dz49)); replace BK189 := (bkb_ BK189 hb); replace HB := Aside0.mk (below_step dz49 hb); clear hb ho6)))
  go_loopg [6, 7] k (fun kq v6 v7 w' => ∃ (x5_1 : List Bool) (x6_1 : Int) (x7_1 : Int), v6 = .int .i64 x6_1 ∧ v7 = .int .i64 x7_1 ∧ Aside0 (spec_l4Span.l0 kq l1 x5_1 x6_1 x7_1 l0_0 a0_1 = some r) ∧ Aside0 (kq ≤ k) ∧ Aside0 (Kd.R Kd.bool 4 w' w.heap.size (fun _ => True) v191 x5_1) ∧ Aside0 (w'.heap[gb189]? = some (.cells #[(.slice A0_0 l0_0.length c0_0), .int .i64 a0_1] 31 (0, 0))) ∧ Aside0 (Below w.heap.size w w'))
  case atStart => exact ⟨(y190), (0), (0), dz3, dz3, H', ⟨Nat.le_refl _⟩, ⟨by (with_reducible repeat (first | apply Kd.R_alloc | apply Kd.R_drewN | apply Kd.R_drew)); exact HO192.out⟩, ⟨by (with_reducible repeat (first | refine blk_drewN ?_ _ | refine blk_drew ?_ | refine blk_alloc ?_ _)); exact BK189.out⟩, ⟨by repeat (first | (with_reducible first | exact HB.out | apply below_alloc | apply pw_below_drewN | apply below_drew1 | refine below_set ?_ GE189.out) | exact HB.out)⟩⟩
  case round =>
   clear H'
   try clear c1
   try clear p2
   try clear c3
   try clear c3b0
   try clear c3b1
   obtain ⟨x5_1, x6_1, x7_1, rfl, rfl, HA, HK1, HO_5, BK189, HB⟩ := hrel
   cases gk with
   | zero => exact absurd HA.out (by simp [spec_l4Span.l0])
   | succ k1 =>
    have H := HA.out
    clear HA
    simp only [spec_l4Span.l0] at H
    by_cases c7 : x7_1 < (l1.length : Int)
    ·rw [if_pos c7] at H
     have c7b0 : decide (x7_1 < (l1.length : Int)) = true := decide_eq_true c7
     clear c7
     by_cases c8 : 0 ≤ x7_1
     ·rw [if_pos c8] at H
      have c8b0 : decide (0 ≤ x7_1) = true := decide_eq_true c8
      clear c8
      by_cases c9 : 0 ≤ (rd l1 x7_1)
      ·rw [if_pos c9] at H
       have c9b0 : decide (0 ≤ (rd l1 x7_1)) = true := decide_eq_true c9
       clear c9
       by_cases c10 : (rd l1 x7_1) < (l0_0.length : Int)
       ·rw [if_pos c10] at H
        have c10b0 : decide ((rd l1 x7_1) < (l0_0.length : Int)) = true := decide_eq_true c10
        clear c10
        by_cases c11 : 0 ≤ (rd l0_0 (rd l1 x7_1))
        ·rw [if_pos c11] at H
         have c11b0 : decide (0 ≤ (rd l0_0 (rd l1 x7_1))) = true := decide_eq_true c11
         clear c11
         by_cases c12 : (rd l0_0 (rd l1 x7_1)) < (x5_1.length : Int)
         ·rw [if_pos c12] at H
          have c12b0 : decide ((rd l0_0 (rd l1 x7_1)) < (x5_1.length : Int)) = true := decide_eq_true c12
          clear c12
          obtain ⟨bq13, hbq13⟩ : ∃ b_ : Bool, b_ = (rdOf false x5_1 (rd l0_0 (rd l1 x7_1))) := ⟨_, rfl⟩
          replace H : (if (bq13 = true) then (spec_l4Span.l0 k1 l1 x5_1 x6_1 (wrap64 (x7_1 + 1)) l0_0 a0_1) else (spec_l4Span.l0 k1 l1 (x5_1.set ((rd l0_0 (rd l1 x7_1)) : Int).toNat true) (wrap64 (x6_1 + 1)) (wrap64 (x7_1 + 1)) l0_0 a0_1)) = some r := by rw [← hbq13] at H; exact H
          have Nbq13 := Aside0.mk hbq13
          clear hbq13
          by_cases c14 : (bq13 = true)
          ·subst c14
           have H1 : (spec_l4Span.l0 k1 l1 x5_1 x6_1 (wrap64 (x7_1 + 1)) l0_0 a0_1) = some r := by rw [if_pos rfl] at H; exact H
           clear H
           have H := H1
           clear H1
           have H' := Aside0.mk H
           clear H
           obtain ⟨hcz15_0, hcz15_1, hfz15_0, hfz15_1⟩ := cz2_ BK189
           have p193 : 0 ≤ (x7_1 : Int) := of_decide_eq_true dz0
           have q193 : x7_1 < (l1.length : Int) := of_decide_eq_true dz0
           obtain ⟨ad193, e193, hx193_0⟩ := Kd.at_int HR1.out x7_1 p193 q193
           cases e193
           replace hx193_0 := hxl_ HB hx193_0
           replace p193 := eq_true p193
           replace q193 := eq_true q193
           have p194 : 0 ≤ ((rd l1 x7_1) : Int) := of_decide_eq_true dz0
           have q194 : (rd l1 x7_1) < (l0_0.length : Int) := of_decide_eq_true dz0
           obtain ⟨ad194, e194, hx194_0⟩ := Kd.at_int HR0_0.out (rd l1 x7_1) p194 q194
           cases e194
           replace hx194_0 := hxl_ HB hx194_0
           replace p194 := eq_true p194
           replace q194 := eq_true q194
           obtain ⟨Ao16, co16, eo16⟩ := Kd.R_slice HO_5.out
           subst eo16
           have p195 : 0 ≤ ((rd l0_0 (rd l1 x7_1)) : Int) := of_decide_eq_true dz0
           have q195 : (rd l0_0 (rd l1 x7_1)) < (x5_1.length : Int) := of_decide_eq_true dz0
           obtain ⟨ad195, e195, hx195_0⟩ := Kd.at_bool (Kd.R_reads' HO_5.out).2.2 (rd l0_0 (rd l1 x7_1)) p195 q195
           (try rw [← Nbq13.out] at hx195_0)
           cases e195
           replace p195 := eq_true p195
           replace q195 := eq_true q195
           go_wp2
           repeat (go_quiet (fail); try go_wp2)
           go_roundg k1
           case measure => have := HK1.out; omega
           case rel => first | exact ⟨(x5_1), (x6_1), (wrap64 (x7_1 + 1)), dz3, dz3, H', ⟨by have := HK1.out; omega⟩, ⟨by (with_reducible repeat (first | apply Kd.R_alloc | apply Kd.R_drewN | apply Kd.R_drew)); exact HO_5.out⟩, ⟨by (with_reducible repeat (first | refine blk_drewN ?_ _ | refine blk_drew ?_ | refine blk_alloc ?_ _)); exact BK189.out⟩, ⟨by repeat (first | (with_reducible first | exact HB.out | apply below_alloc | apply pw_below_drewN | apply below_drew1 | refine below_set ?_ GE189.out) | exact HB.out)⟩⟩ | (simp only [← Nbq13.out]; exact ⟨(x5_1), (x6_1), (wrap64 (x7_1 + 1)), dz3, dz3, H', ⟨by have := HK1.out; omega⟩, ⟨by (with_reducible repeat (first | apply Kd.R_alloc | apply Kd.R_drewN | apply Kd.R_drew)); exact HO_5.out⟩, ⟨by (with_reducible repeat (first | refine blk_drewN ?_ _ | refine blk_drew ?_ | refine blk_alloc ?_ _)); exact BK189.out⟩, ⟨by repeat (first | (with_reducible first | exact HB.out | apply below_alloc | apply pw_below_drewN | apply below_drew1 | refine below_set ?_ GE189.out) | exact HB.out)⟩⟩)
          replace c14 := Bool.eq_false_iff.mpr c14
          subst c14
          have H1 : (spec_l4Span.l0 k1 l1 (x5_1.set ((rd l0_0 (rd l1 x7_1)) : Int).toNat true) (wrap64 (x6_1 + 1)) (wrap64 (x7_1 + 1)) l0_0 a0_1) = some r := by rw [if_neg (show ¬ (false = true) by decide)] at H; exact H
          clear H
          have H := H1
          clear H1
          obtain ⟨y196, hy196⟩ : ∃ y_ : List Bool, y_ = (x5_1.set ((rd l0_0 (rd l1 x7_1)) : Int).toNat true) := ⟨_, rfl⟩
          replace H : (spec_l4Span.l0 k1 l1 y196 (wrap64 (x6_1 + 1)) (wrap64 (x7_1 + 1)) l0_0 a0_1) = some r := by first | (rw [hy196]; with_reducible exact H) | (have H2_ := (Option.bind_some _ _).symm.trans H; rw [hy196]; with_reducible exact H2_) | (have H2_ := (Option.bind_some _ _).symm.trans H; with_reducible exact H2_) | with_reducible exact H | (rw [hy196]; exact H) | exact H
          have Ny196 := Aside0.mk hy196
          clear hy196
          have H' := Aside0.mk H
          clear H
          obtain ⟨hcz18_0, hcz18_1, hfz18_0, hfz18_1⟩ := cz2_ BK189
          have p193 : 0 ≤ (x7_1 : Int) := of_decide_eq_true dz0
          have q193 : x7_1 < (l1.length : Int) := of_decide_eq_true dz0
          obtain ⟨ad193, e193, hx193_0⟩ := Kd.at_int HR1.out x7_1 p193 q193
          cases e193
          replace hx193_0 := hxl_ HB hx193_0
          replace p193 := eq_true p193
          replace q193 := eq_true q193
          have p194 : 0 ≤ ((rd l1 x7_1) : Int) := of_decide_eq_true dz0
          have q194 : (rd l1 x7_1) < (l0_0.length : Int) := of_decide_eq_true dz0
          obtain ⟨ad194, e194, hx194_0⟩ := Kd.at_int HR0_0.out (rd l1 x7_1) p194 q194
          cases e194
          replace hx194_0 := hxl_ HB hx194_0
          replace p194 := eq_true p194
          replace q194 := eq_true q194
          obtain ⟨Ao19, co19, eo19⟩ := Kd.R_slice HO_5.out
          subst eo19
          have p195 : 0 ≤ ((rd l0_0 (rd l1 x7_1)) : Int) := of_decide_eq_true dz0
          have q195 : (rd l0_0 (rd l1 x7_1)) < (x5_1.length : Int) := of_decide_eq_true dz0
          obtain ⟨ad195, e195, hx195_0⟩ := Kd.at_bool (Kd.R_reads' HO_5.out).2.2 (rd l0_0 (rd l1 x7_1)) p195 q195
          (try rw [← Nbq13.out] at hx195_0)
          cases e195
          replace p195 := eq_true p195
          replace q195 := eq_true q195
          have p17 : 0 ≤ ((rd l0_0 (rd l1 x7_1)) : Int) := of_decide_eq_true dz0
          have q17 : ((rd l0_0 (rd l1 x7_1)) : Int) < ((x5_1.length : Int) : Int) := of_decide_eq_true dz0
          obtain ⟨go17, co17, eo17, gb17, gl17, cl17, HG17⟩ := Kd.R_form HO_5.out (by omega)
          (first | cases eo17 | (injection eo17 with ea_ en_ ec_; (first | subst ea_ | (injection ea_ with ea_; subst ea_)); subst ec_; clear en_))
          have GB17 := Aside0.mk gb17
          have GG17 := Aside0.mk HG17
          clear gb17 gl17 HG17
          (first | simp only [add_plain] at hx195_0 | skip)
          obtain ⟨hx17_0, hf17_0⟩ := Kd.R_celln false HO_5.out ((rd l0_0 (rd l1 x7_1)) : Int) p17 q17
          replace p17 := eq_true p17
          replace q17 := eq_true q17
          have HP20 := Kd.R_putg HO_5.out ((rd l0_0 (rd l1 x7_1)) : Int) true
          go_wp2_with (first | ((with_reducible refine gate_store (t := 4) (p := 31) rfl ?_); (try (rw [drewN_self wr]; generalize hq_ : World.drewN wr _ = wr; have n0_ := Aside0.mk (Kd.R_at hq_ HO_5.out); have n1_ := Aside0.mk (blk_at hq_ BK189.out); have n2_ := Aside0.mk (below_at hq_ HB.out); (try have hx17_0 := cel_at hq_ hx17_0); (try have hf17_0 := frz_at hq_ hf17_0); clear hq_ HO_5 BK189 HB; have HO_5 := n0_; have BK189 := n1_; have HB := n2_; clear n0_ n1_ n2_; (try (have HP20 := Kd.R_putg HO_5.out ((rd l0_0 (rd l1 x7_1)) : Int) true)))); refine store_event (t := 4) (p := 31) (v := ?vo_w21) (w1 := (wr.setCell ⟨go17, ((rd l0_0 (rd l1 x7_1)) : Int).toNat, none⟩ (.bool true))) ?hg ?ho ?hn ?hr ?_; (case ho => rfl); (case hg => rfl); (case hn => rfl); (case hr => first | (go_simp; done) | (go_simp; rfl)); intro w21 hw; have hg : wr.grownBy w21 (some go17) := (by rw [hw]; exact HP20.2); have hp_ : Kd.R Kd.bool 4 w21 w.heap.size (fun _ => True) (.slice (some ⟨go17, 0, none⟩) x5_1.length co19) y196 := (by rw [hw, Ny196.out]; exact HP20.1); clear HP20; replace BK189 := Aside0.mk (blk_grown (g := gb189) (o := .cells #[.slice (some ad194) l0_0.length c0_0, .int .i64 a0_1] 31 (0, 0)) dz103 hg (Kd.R_ne HO_5.out BK189.out (by decide))); replace HO_5 := Aside0.mk (hp_); replace HB := Aside0.mk ((by rw [hw]; exact below_set (HB.out) GB17.out : Below w.heap.size w w21)); clear hg hw hp_))
          repeat (go_quiet (first | ((with_reducible refine gate_store (t := 4) (p := 31) rfl ?_); (try (rw [drewN_self wr]; generalize hq_ : World.drewN wr _ = wr; have n0_ := Aside0.mk (Kd.R_at hq_ HO_5.out); have n1_ := Aside0.mk (blk_at hq_ BK189.out); have n2_ := Aside0.mk (below_at hq_ HB.out); (try have hx17_0 := cel_at hq_ hx17_0); (try have hf17_0 := frz_at hq_ hf17_0); clear hq_ HO_5 BK189 HB; have HO_5 := n0_; have BK189 := n1_; have HB := n2_; clear n0_ n1_ n2_; (try (have HP20 := Kd.R_putg HO_5.out ((rd l0_0 (rd l1 x7_1)) : Int) true)))); refine store_event (t := 4) (p := 31) (v := ?vo_w21) (w1 := (wr.setCell ⟨go17, ((rd l0_0 (rd l1 x7_1)) : Int).toNat, none⟩ (.bool true))) ?hg ?ho ?hn ?hr ?_; (case ho => rfl); (case hg => rfl); (case hn => rfl); (case hr => first | (go_simp; done) | (go_simp; rfl)); intro w21 hw; have hg : wr.grownBy w21 (some go17) := (by rw [hw]; exact HP20.2); have hp_ : Kd.R Kd.bool 4 w21 w.heap.size (fun _ => True) (.slice (some ⟨go17, 0, none⟩) x5_1.length co19) y196 := (by rw [hw, Ny196.out]; exact HP20.1); clear HP20; replace BK189 := Aside0.mk (blk_grown (g := gb189) (o := .cells #[.slice (some ad194) l0_0.length c0_0, .int .i64 a0_1] 31 (0, 0)) dz103 hg (Kd.R_ne HO_5.out BK189.out (by decide))); replace HO_5 := Aside0.mk (hp_); replace HB := Aside0.mk ((by rw [hw]; exact below_set (HB.out) GB17.out : Below w.heap.size w w21)); clear hg hw hp_)); try go_wp2_with (first | ((with_reducible refine gate_store (t := 4) (p := 31) rfl ?_); (try (rw [drewN_self wr]; generalize hq_ : World.drewN wr _ = wr; have n0_ := Aside0.mk (Kd.R_at hq_ HO_5.out); have n1_ := Aside0.mk (blk_at hq_ BK189.out); have n2_ := Aside0.mk (below_at hq_ HB.out); (try have hx17_0 := cel_at hq_ hx17_0); (try have hf17_0 := frz_at hq_ hf17_0); clear hq_ HO_5 BK189 HB; have HO_5 := n0_; have BK189 := n1_; have HB := n2_; clear n0_ n1_ n2_; (try (have HP20 := Kd.R_putg HO_5.out ((rd l0_0 (rd l1 x7_1)) : Int) true)))); refine store_event (t := 4) (p := 31) (v := ?vo_w21) (w1 := (wr.setCell ⟨go17, ((rd l0_0 (rd l1 x7_1)) : Int).toNat, none⟩ (.bool true))) ?hg ?ho ?hn ?hr ?_; (case ho => rfl); (case hg => rfl); (case hn => rfl); (case hr => first | (go_simp; done) | (go_simp; rfl)); intro w21 hw; have hg : wr.grownBy w21 (some go17) := (by rw [hw]; exact HP20.2); have hp_ : Kd.R Kd.bool 4 w21 w.heap.size (fun _ => True) (.slice (some ⟨go17, 0, none⟩) x5_1.length co19) y196 := (by rw [hw, Ny196.out]; exact HP20.1); clear HP20; replace BK189 := Aside0.mk (blk_grown (g := gb189) (o := .cells #[.slice (some ad194) l0_0.length c0_0, .int .i64 a0_1] 31 (0, 0)) dz103 hg (Kd.R_ne HO_5.out BK189.out (by decide))); replace HO_5 := Aside0.mk (hp_); replace HB := Aside0.mk ((by rw [hw]; exact below_set (HB.out) GB17.out : Below w.heap.size w w21)); clear hg hw hp_)))
          go_roundg k1
          case measure => have := HK1.out; omega
          case rel => first | exact ⟨(y196), (wrap64 (x6_1 + 1)), (wrap64 (x7_1 + 1)), dz3, dz3, H', ⟨by have := HK1.out; omega⟩, ⟨by (with_reducible repeat (first | apply Kd.R_alloc | apply Kd.R_drewN | apply Kd.R_drew)); exact HO_5.out⟩, ⟨by (with_reducible repeat (first | refine blk_drewN ?_ _ | refine blk_drew ?_ | refine blk_alloc ?_ _)); exact BK189.out⟩, ⟨by repeat (first | (with_reducible first | exact HB.out | apply below_alloc | apply pw_below_drewN | apply below_drew1 | refine below_set ?_ GE189.out) | exact HB.out)⟩⟩ | (simp only [← Nbq13.out]; exact ⟨(y196), (wrap64 (x6_1 + 1)), (wrap64 (x7_1 + 1)), dz3, dz3, H', ⟨by have := HK1.out; omega⟩, ⟨by (with_reducible repeat (first | apply Kd.R_alloc | apply Kd.R_drewN | apply Kd.R_drew)); exact HO_5.out⟩, ⟨by (with_reducible repeat (first | refine blk_drewN ?_ _ | refine blk_drew ?_ | refine blk_alloc ?_ _)); exact BK189.out⟩, ⟨by repeat (first | (with_reducible first | exact HB.out | apply below_alloc | apply pw_below_drewN | apply below_drew1 | refine below_set ?_ GE189.out) | exact HB.out)⟩⟩)
         rw [if_neg c12] at H
         exact absurd H (by simp)
        rw [if_neg c11] at H
        exact absurd H (by simp)
       rw [if_neg c10] at H
       exact absurd H (by simp)
      rw [if_neg c9] at H
      exact absurd H (by simp)
     rw [if_neg c8] at H
     exact absurd H (by simp)
    rw [if_neg c7] at H
    have c7b0 : decide (x7_1 < (l1.length : Int)) = false := decide_eq_false c7
    clear c7
    obtain rfl := Option.some.inj H
    go_wp2
    repeat (go_quiet (fail); try go_wp2)
    go_ret
    exact ⟨by first | rfl | (simp [errW_none, errW_some] <;> rfl) | (simp [*, errW_none, errW_some] <;> rfl), by repeat (first | (with_reducible first | exact HB.out | apply below_alloc | apply pw_below_drewN | apply below_drew1 | refine below_set ?_ GE189.out) | exact HB.out)⟩
 rw [if_neg c3] at H
 exact absurd H (by simp)
def spec_Holds.f (k : Nat) (l0_0 : List Int) (a0_1 : Int) (l1 : List Int) : Option (Bool) := (spec_NodesOk.f k l0_0 a0_1 l1).bind fun t198 => (if t198 = true then ((spec_l4Span.f k l0_0 a0_1 l1).bind fun t199 => (some (decide (t199 ≥ a0_1)))) else (some false))
def spec_Holds.T1 : Bool × List (List Nat × List Nat) := (true, [([], []), ([], []), ([0, 1], [0, 1]), ([2, 2], [2]), ([3], [3]), ([3], [3]), ([4, 5, 3, 3], [3, 4, 5]), ([3], [3]), ([7, 3], [3, 7]), ([6, 8, 3], [3, 6, 8]), ([3, 9], [3, 9]), ([10, 6, 0, 1, 2, 3, 4, 5, 6, 7, 8, 9, 10], [10])])
def spec_Holds.B1 : List Nat := [0, 0, 3, 7, 15, 15, 63, 15, 143, 511, 1023, 2047]
theorem spec_Holds.tab1 : rtab .any (opsOf Try.f54 1) = spec_Holds.T1 := by kernel_rfl
theorem spec_Holds.bits1 : waitsOk spec_Holds.T1.2 spec_Holds.B1 = true := by kernel_rfl
set_option maxHeartbeats 8000000 in
set_option maxRecDepth 100000 in
theorem spec_Holds.calls (k : Nat) (A0_0 : Option Addr) (c0_0 : Nat) (l0_0 : List Int) (a0_1 : Int) (A1 : Option Addr) (c1 : Nat) (l1 : List Int) (r : Bool) (w : World) (hr0_0 : Kd.C (Kd.int .i64) w A0_0 l0_0.length l0_0) (hc0_0 : l0_0.length ≤ c0_0) (hr1 : Kd.C (Kd.int .i64) w A1 l1.length l1) (hc1 : l1.length ≤ c1) (h : spec_Holds.f k l0_0 a0_1 l1 = some r) :
  Calls Try.prog 54 #[.agg #[.slice A0_0 l0_0.length c0_0, .int .i64 a0_1], .slice A1 l1.length c1] w fun e w' => e = .returned (.bool r) ∧ Below w.heap.size w w' := by
 have hu31 := Try.underlying31
 have HR0_0 := Aside0.mk hr0_0
 have HC0_0 := Aside0.mk hc0_0
 clear hr0_0 hc0_0
 have HR1 := Aside0.mk hr1
 have HC1 := Aside0.mk hc1
 clear hr1 hc1
 have HB := Aside0.mk (Below.refl w.heap.size w)
 have H : ((spec_NodesOk.f k l0_0 a0_1 l1).bind fun t198 => (if t198 = true then ((spec_l4Span.f k l0_0 a0_1 l1).bind fun t199 => (some (decide (t199 ≥ a0_1)))) else (some false))) = some r := h
 clear h
 replace H := Option.bind_eq_some_iff.mp H
 obtain ⟨t198, A30, H⟩ := H
 replace H : (if t198 = true then ((spec_l4Span.f k l0_0 a0_1 l1).bind fun t199 => (some (decide (t199 ≥ a0_1)))) else (some false)) = some r := H
 have A3 := Aside0.mk A30
 clear A30
 by_cases c4 : t198 = true
 ·subst c4
  have H1 : ((spec_l4Span.f k l0_0 a0_1 l1).bind fun t199 => (some (decide (t199 ≥ a0_1)))) = some r := by rw [if_pos rfl] at H; exact H
  clear H
  have H := H1
  clear H1
  replace H := Option.bind_eq_some_iff.mp H
  obtain ⟨t199, A50, H⟩ := H
  replace H : (some (decide (t199 ≥ a0_1))) = some r := H
  have A5 := Aside0.mk A50
  clear A50
  obtain rfl := Option.some.inj H
  go_enter Try.func54, Try.ntmps54
  try go_wp2_with (first | ((with_reducible refine gate_dst (N := 2) rfl ?_); refine box_event kr_ (N := 2) kr_ (cs := #[.slice A0_0 l0_0.length c0_0, .int .i64 a0_1]) (t := 31) ks_ ?_; intro gb197 hg w1 hbox hb; have BK197 := Aside0.mk (hbox); have GW197 : Aside0 (w.heap.size ≤ gb197) := szl_ hg dz2; have GE197 : Aside0 (w.heap.size ≤ gb197) := szl_ hg dz2; replace HB := Aside0.mk (below_step dz2 hb); clear hb hbox hg))
  replace BK197 := Aside0.mk (blk_drew BK197.out)
  replace HB := Aside0.mk (below_drew1 HB.out)
  refine start_ (n := 12) (S := fun w' => w'.cell? ⟨gb197, 0, none⟩ = some (.slice A0_0 l0_0.length c0_0) ∧ w'.cell? ⟨gb197, 1, none⟩ = some (.int .i64 a0_1)) (ds := []) (fl_ 0 12) (by kernel_rfl) rfl rfl ⟨(blk_cell BK197.out 0).trans rfl, (blk_cell BK197.out 1).trans rfl⟩ (fun hHeld => ?_); refine with_tabW spec_Holds.tab1 spec_Holds.bits1 (fun HT_ HW_ => ?_)
  generalize w1.drew = w2 at BK197 HB hHeld ⊢
  refine pure_ (i := 1) (N := some 6) (v := ?_) (a' := ?_) #[false, true, false, false, false, false, false, false, false, false, false, false] rfl rfl (any_of HT_.out (by kernel_rfl)) (fun _ _ _ h => h) (Or.inl ⟨by rfl, ?_⟩) ?_ ?_
  rotate_left
  ·exact dz489
  rotate_left
  ·exact dz490
  refine take_ (i := 0) (N := some 5) (v := ?_) (a' := ?_) (fl_ 2 10) rfl rfl (take_ofW HT_.out HW_.out (by kernel_rfl)) (fun _ _ _ h => h) (Or.inl ⟨by rfl, ?_⟩) hHeld ?_ ?_
  rotate_left
  ·exact dz491
  rotate_left
  ·exact dz490
  refine one_ (i := 2) (N := some 7) (fl_ 3 9) rfl rfl (one_of HT_.out (by kernel_rfl)) (by decide) (fun K hK => ?_)
  refine goes_ Try.func79 (by kernel_rfl) rfl #[.agg #[.slice A0_0 l0_0.length c0_0, .int .i64 a0_1], .slice A1 l1.length c1] (by rfl) rfl rfl dz1 ?_
  with_reducible refine (spec_NodesOk.calls k _ _ l0_0 a0_1 _ _ l1 true _ ?side1 ?side2 ?side3 ?side4 A3.out).mono ?_
  (case side1 => exact dz462)
  (case side2 => exact HC0_0.out)
  (case side3 => exact dz463)
  (case side4 => exact HC1.out)
  rintro e w8 ⟨rfl, hb⟩
  refine ⟨_, rfl, ?_⟩
  replace BK197 := (bkb_ BK197 hb)
  replace HB := Aside0.mk (below_step dz104 hb)
  (try clear hb)
  (try clear hb2)
  (try clear hk)
  (try clear hi)
  refine hK.out _ _ ⟨(blk_cell BK197.out 0).trans rfl, (blk_cell BK197.out 1).trans rfl⟩ (fun hHeld => ?_)
  clear hK K
  refine norm_ (a' := ?_) ?_ ?_
  rotate_left
  ·exact dz493
  refine pure_ (i := 3) (N := some 8) (v := ?_) (a' := ?_) (fl_ 4 8) rfl rfl (any_of HT_.out (by kernel_rfl)) (fun _ _ _ h => h) (Or.inl ⟨by rfl, ?_⟩) ?_ ?_
  rotate_left
  ·exact dz489
  rotate_left
  ·exact dz490
  refine pure_ (i := 5) (N := some 10) (v := ?_) (a' := ?_) #[true, true, true, true, false, true, false, false, false, false, false, false] rfl rfl (any_of HT_.out (by kernel_rfl)) (fun _ _ _ h => h) (Or.inl ⟨by rfl, ?_⟩) ?_ ?_
  rotate_left
  ·exact dz489
  rotate_left
  ·exact dz490
  refine pure_ (i := 7) (N := some 12) (v := ?_) (a' := ?_) #[true, true, true, true, false, true, false, true, false, false, false, false] rfl rfl (any_of HT_.out (by kernel_rfl)) (fun _ _ _ h => h) (Or.inl ⟨by rfl, ?_⟩) ?_ ?_
  rotate_left
  ·exact dz489
  rotate_left
  ·exact dz490
  refine take_ (i := 4) (N := some 9) (v := ?_) (a' := ?_) #[true, true, true, true, true, true, false, true, false, false, false, false] rfl rfl (take_ofW HT_.out HW_.out (by kernel_rfl)) (fun _ _ _ h => h) (Or.inl ⟨by rfl, ?_⟩) hHeld ?_ ?_
  rotate_left
  ·exact dz491
  rotate_left
  ·exact dz490
  refine take_ (i := 8) (N := some 13) (v := ?_) (a' := ?_) #[true, true, true, true, true, true, false, true, true, false, false, false] rfl rfl (take_ofW HT_.out HW_.out (by kernel_rfl)) (fun _ _ _ h => h) (Or.inl ⟨by rfl, ?_⟩) hHeld ?_ ?_
  rotate_left
  ·exact dz491
  rotate_left
  ·exact dz490
  refine one_ (i := 6) (N := some 11) (fl_ 9 3) rfl rfl (one_of HT_.out (by kernel_rfl)) (by decide) (fun K hK => ?_)
  refine goes_ Try.func111 (by kernel_rfl) rfl #[.agg #[.slice A0_0 l0_0.length c0_0, .int .i64 a0_1], .slice A1 l1.length c1] (by rfl) rfl rfl dz1 ?_
  with_reducible refine (spec_l4Span.calls k _ _ l0_0 a0_1 _ _ l1 t199 _ ?side1 ?side2 ?side3 ?side4 A5.out).mono ?_
  (case side1 => exact dz462)
  (case side2 => exact HC0_0.out)
  (case side3 => exact dz463)
  (case side4 => exact HC1.out)
  rintro e w9 ⟨rfl, hb⟩
  refine ⟨_, rfl, ?_⟩
  replace BK197 := (bkb_ BK197 hb)
  replace HB := Aside0.mk (below_step dz104 hb)
  (try clear hb)
  (try clear hb2)
  (try clear hk)
  (try clear hi)
  refine hK.out _ _ ⟨(blk_cell BK197.out 0).trans rfl, (blk_cell BK197.out 1).trans rfl⟩ (fun hHeld => ?_)
  clear hK K
  refine norm_ (a' := ?_) ?_ ?_
  rotate_left
  ·show Act.put _ (some 11) _ = _
   simp only [Act.put, List.setIfInBounds_toArray, List.set_cons_zero, List.set_cons_succ, i64_w, i32_w]
   rfl
  refine pure_ (i := 9) (N := some 14) (v := ?_) (a' := ?_) (fl_ 10 2) rfl rfl (any_of HT_.out (by kernel_rfl)) (fun _ _ _ h => h) (Or.inl ⟨by rfl, ?_⟩) ?_ ?_
  rotate_left
  ·exact dz489
  rotate_left
  ·exact dz490
  refine pure_ (i := 10) (N := some 15) (v := ?_) (a' := ?_) (fl_ 11 1) rfl rfl (any_of HT_.out (by kernel_rfl)) (fun _ _ _ h => h) (Or.inl ⟨by rfl, ?_⟩) ?_ ?_
  rotate_left
  ·exact dz489
  rotate_left
  ·exact dz490
  refine pure_ (i := 11) (N := some 4) (v := ?_) (a' := ?_) (fl_ 12 0) rfl rfl (any_of HT_.out (by kernel_rfl)) (fun _ _ _ h => h) (Or.inl ⟨by rfl, ?_⟩) ?_ ?_
  rotate_left
  ·exact dz489
  rotate_left
  ·exact dz490
  refine done_ (done_of HT_.out (by kernel_rfl)) ?_
  try go_wp2
  go_ret
  exact dz508
 replace c4 := Bool.eq_false_iff.mpr c4
 subst c4
 have H1 : (some false) = some r := by rw [if_neg (show ¬ (false = true) by decide)] at H; exact H
 clear H
 have H := H1
 clear H1
 obtain rfl := Option.some.inj H
 go_enter Try.func54, Try.ntmps54
 try go_wp2_with (first | ((with_reducible refine gate_dst (N := 2) rfl ?_); refine box_event kr_ (N := 2) kr_ (cs := #[.slice A0_0 l0_0.length c0_0, .int .i64 a0_1]) (t := 31) ks_ ?_; intro gb197 hg w1 hbox hb; have BK197 := Aside0.mk (hbox); have GW197 : Aside0 (w.heap.size ≤ gb197) := szl_ hg dz2; have GE197 : Aside0 (w.heap.size ≤ gb197) := szl_ hg dz2; replace HB := Aside0.mk (below_step dz2 hb); clear hb hbox hg))
 replace BK197 := Aside0.mk (blk_drew BK197.out)
 replace HB := Aside0.mk (below_drew1 HB.out)
 refine start_ (n := 12) (S := fun w' => w'.cell? ⟨gb197, 0, none⟩ = some (.slice A0_0 l0_0.length c0_0) ∧ w'.cell? ⟨gb197, 1, none⟩ = some (.int .i64 a0_1)) (ds := []) (fl_ 0 12) (by kernel_rfl) rfl rfl ⟨(blk_cell BK197.out 0).trans rfl, (blk_cell BK197.out 1).trans rfl⟩ (fun hHeld => ?_); refine with_tabW spec_Holds.tab1 spec_Holds.bits1 (fun HT_ HW_ => ?_)
 generalize w1.drew = w2 at BK197 HB hHeld ⊢
 refine pure_ (i := 1) (N := some 6) (v := ?_) (a' := ?_) #[false, true, false, false, false, false, false, false, false, false, false, false] rfl rfl (any_of HT_.out (by kernel_rfl)) (fun _ _ _ h => h) (Or.inl ⟨by rfl, ?_⟩) ?_ ?_
 rotate_left
 ·exact dz489
 rotate_left
 ·exact dz490
 refine take_ (i := 0) (N := some 5) (v := ?_) (a' := ?_) (fl_ 2 10) rfl rfl (take_ofW HT_.out HW_.out (by kernel_rfl)) (fun _ _ _ h => h) (Or.inl ⟨by rfl, ?_⟩) hHeld ?_ ?_
 rotate_left
 ·exact dz491
 rotate_left
 ·exact dz490
 refine one_ (i := 2) (N := some 7) (fl_ 3 9) rfl rfl (one_of HT_.out (by kernel_rfl)) (by decide) (fun K hK => ?_)
 refine goes_ Try.func79 (by kernel_rfl) rfl #[.agg #[.slice A0_0 l0_0.length c0_0, .int .i64 a0_1], .slice A1 l1.length c1] (by rfl) rfl rfl dz1 ?_
 with_reducible refine (spec_NodesOk.calls k _ _ l0_0 a0_1 _ _ l1 false _ ?side1 ?side2 ?side3 ?side4 A3.out).mono ?_
 (case side1 => exact dz462)
 (case side2 => exact HC0_0.out)
 (case side3 => exact dz463)
 (case side4 => exact HC1.out)
 rintro e w12 ⟨rfl, hb⟩
 refine ⟨_, rfl, ?_⟩
 replace BK197 := (bkb_ BK197 hb)
 replace HB := Aside0.mk (below_step dz104 hb)
 (try clear hb)
 (try clear hb2)
 (try clear hk)
 (try clear hi)
 refine hK.out _ _ ⟨(blk_cell BK197.out 0).trans rfl, (blk_cell BK197.out 1).trans rfl⟩ (fun hHeld => ?_)
 clear hK K
 refine norm_ (a' := ?_) ?_ ?_
 rotate_left
 ·exact dz493
 refine pure_ (i := 3) (N := some 8) (v := ?_) (a' := ?_) (fl_ 4 8) rfl rfl (any_of HT_.out (by kernel_rfl)) (fun _ _ _ h => h) (Or.inl ⟨by rfl, ?_⟩) ?_ ?_
 rotate_left
 ·exact dz489
 rotate_left
 ·exact dz490
 refine pure_ (i := 4) (N := some 9) (v := undef) (a' := ?_) (fl_ 5 7) rfl rfl (any_of HT_.out (by kernel_rfl)) (fun _ _ _ h => h) (Or.inr ⟨by rfl, rfl⟩) ?_ ?_
 rotate_left
 ·exact dz490
 refine pure_ (i := 5) (N := some 10) (v := undef) (a' := ?_) (fl_ 6 6) rfl rfl (any_of HT_.out (by kernel_rfl)) (fun _ _ _ h => h) (Or.inr ⟨by rfl, rfl⟩) ?_ ?_
 rotate_left
 ·exact dz490
 refine pure_ (i := 6) (N := some 11) (v := undef) (a' := ?_) (fl_ 7 5) rfl rfl (any_of HT_.out (by kernel_rfl)) (fun _ _ _ h => h) (Or.inr ⟨by rfl, rfl⟩) ?_ ?_
 rotate_left
 ·exact dz490
 refine pure_ (i := 7) (N := some 12) (v := undef) (a' := ?_) (fl_ 8 4) rfl rfl (any_of HT_.out (by kernel_rfl)) (fun _ _ _ h => h) (Or.inr ⟨by rfl, rfl⟩) ?_ ?_
 rotate_left
 ·exact dz490
 refine pure_ (i := 8) (N := some 13) (v := undef) (a' := ?_) (fl_ 9 3) rfl rfl (any_of HT_.out (by kernel_rfl)) (fun _ _ _ h => h) (Or.inr ⟨by rfl, rfl⟩) ?_ ?_
 rotate_left
 ·exact dz490
 refine pure_ (i := 9) (N := some 14) (v := undef) (a' := ?_) (fl_ 10 2) rfl rfl (any_of HT_.out (by kernel_rfl)) (fun _ _ _ h => h) (Or.inr ⟨by rfl, rfl⟩) ?_ ?_
 rotate_left
 ·exact dz490
 refine pure_ (i := 10) (N := some 15) (v := ?_) (a' := ?_) (fl_ 11 1) rfl rfl (any_of HT_.out (by kernel_rfl)) (fun _ _ _ h => h) (Or.inl ⟨by rfl, ?_⟩) ?_ ?_
 rotate_left
 ·exact dz489
 rotate_left
 ·exact dz490
 refine pure_ (i := 11) (N := some 4) (v := ?_) (a' := ?_) (fl_ 12 0) rfl rfl (any_of HT_.out (by kernel_rfl)) (fun _ _ _ h => h) (Or.inl ⟨by rfl, ?_⟩) ?_ ?_
 rotate_left
 ·exact dz489
 rotate_left
 ·exact dz490
 refine done_ (done_of HT_.out (by kernel_rfl)) ?_
 try go_wp2
 go_ret
 exact dz508
end Go.Proofs.Ytdkdhciogedoiab.PFnAdded
