-- Written by wip/gen/pack.py of this repo. Lean checks it.
import Derived.Test.YtdkdhciogedoiabKFnAddedP0
import Derived.Test.YtdkdhciogedoiabKFnAddedP1
import Derived.Test.YtdkdhciogedoiabKFnAddedD
namespace Go.Proofs.Ytdkdhciogedoiab.PFnAdded
open Go.RowKit Go.Proofs.YtdkdhciogedoiabW.PrintWords Go.Proofs.YtdkdhciogedoiabW.PrintLast Go.Proofs.YtdkdhciogedoiabW.PrintMore Go.Proofs.YtdkdhciogedoiabW.Sq
attribute [local go_sem] max2_int min2_int max_two min_two max_three min_three max_four min_four
set_option linter.unusedVariables false
set_option linter.unusedSimpArgs false
def spec_l4Draw.f (k : Nat) (s0_0 : List Int) (s0_1 : Int) (s0_2 : Int) : Option (List Int × Int × Int × Int) := (spec_l4DrawRight.f k s0_0 s0_1 s0_2).bind fun bt145 => ((spec_l1Below.f s0_0 bt145.2.2.1 bt145.2.2.2 20).bind fun bt152 => (if bt152.1 = 0 then ((spec_l1PickInt.f s0_0 bt152.2.1 bt152.2.2 (([0, 4, 5] : List Int))).bind fun bt158 => (some (bt145.1, bt158.1, bt158.2.1, bt158.2.2))) else (if bt152.1 = 1 then ((spec_l1PickInt.f s0_0 bt152.2.1 bt152.2.2 (([(-1), 7, 8] : List Int))).bind fun bt164 => (if 0 < (bt145.1.length : Int) then (some ((bt145.1.set (0 : Int).toNat bt164.1), bt145.2.1, bt164.2.1, bt164.2.2)) else (none))) else (if bt152.1 = 2 then ((spec_l1PickInt.f s0_0 bt152.2.1 bt152.2.2 (([0, 8, 9] : List Int))).bind fun bt171 => (if 0 ≤ bt171.1 then (if (bt171.1 : Int).toNat ≤ 35184372088832 then (some ((List.replicate (bt171.1 : Int).toNat 0), bt145.2.1, bt171.2.1, bt171.2.2)) else (none)) else (none))) else (some (bt145.1, bt145.2.1, bt152.2.1, bt152.2.2))))))
set_option maxHeartbeats 8000000 in
set_option maxRecDepth 100000 in
theorem spec_l4Draw.calls (k : Nat) (g : Nat) (s0_0 : List Int) (s0_1 : Int) (s0_2 : Int) (r1 : List Int) (r2 : Int) (r3 : Int) (r4 : Int) (w0 w : World) (hI : IsS150 w0 w g s0_0 s0_1 s0_2) (hB : Below w0.heap.size w0 w) (h : spec_l4Draw.f k s0_0 s0_1 s0_2 = some (r1, r2, r3, r4)) :
  Calls Try.prog 63 #[.pointer (some ⟨g, 0, none⟩)] w fun e w' => ∃ v0_ : Value, e = .returned (.agg #[v0_, .int .i64 r2]) ∧ Kd.R (Kd.int .i64) 3 w' w.heap.size (fun _ => True) v0_ r1 ∧ IsS150 w0 w' g s0_0 r3 r4 ∧ Below w0.heap.size w0 w' ∧ KeepBut w w' g none := by
 have hu31 := Try.underlying31
 have HI0 := Aside0.mk hI
 have HK := Aside0.mk (KeepBut.refl w g none)
 have HL := Aside0.mk hB.size
 clear hI
 have HW0 := Aside0.mk hB.size
 have HB := Aside0.mk hB
 clear hB
 have H : ((spec_l4DrawRight.f k s0_0 s0_1 s0_2).bind fun bt145 => ((spec_l1Below.f s0_0 bt145.2.2.1 bt145.2.2.2 20).bind fun bt152 => (if bt152.1 = 0 then ((spec_l1PickInt.f s0_0 bt152.2.1 bt152.2.2 (([0, 4, 5] : List Int))).bind fun bt158 => (some (bt145.1, bt158.1, bt158.2.1, bt158.2.2))) else (if bt152.1 = 1 then ((spec_l1PickInt.f s0_0 bt152.2.1 bt152.2.2 (([(-1), 7, 8] : List Int))).bind fun bt164 => (if 0 < (bt145.1.length : Int) then (some ((bt145.1.set (0 : Int).toNat bt164.1), bt145.2.1, bt164.2.1, bt164.2.2)) else (none))) else (if bt152.1 = 2 then ((spec_l1PickInt.f s0_0 bt152.2.1 bt152.2.2 (([0, 8, 9] : List Int))).bind fun bt171 => (if 0 ≤ bt171.1 then (if (bt171.1 : Int).toNat ≤ 35184372088832 then (some ((List.replicate (bt171.1 : Int).toNat 0), bt145.2.1, bt171.2.1, bt171.2.2)) else (none)) else (none))) else (some (bt145.1, bt145.2.1, bt152.2.1, bt152.2.2))))))) = some (r1, r2, r3, r4) := h
 clear h
 replace H := Option.bind_eq_some_iff.mp H
 obtain ⟨⟨t145, t148, t149, t150⟩, A20, H⟩ := H
 replace H : ((spec_l1Below.f s0_0 t149 t150 20).bind fun bt152 => (if bt152.1 = 0 then ((spec_l1PickInt.f s0_0 bt152.2.1 bt152.2.2 (([0, 4, 5] : List Int))).bind fun bt158 => (some (t145, bt158.1, bt158.2.1, bt158.2.2))) else (if bt152.1 = 1 then ((spec_l1PickInt.f s0_0 bt152.2.1 bt152.2.2 (([(-1), 7, 8] : List Int))).bind fun bt164 => (if 0 < (t145.length : Int) then (some ((t145.set (0 : Int).toNat bt164.1), t148, bt164.2.1, bt164.2.2)) else (none))) else (if bt152.1 = 2 then ((spec_l1PickInt.f s0_0 bt152.2.1 bt152.2.2 (([0, 8, 9] : List Int))).bind fun bt171 => (if 0 ≤ bt171.1 then (if (bt171.1 : Int).toNat ≤ 35184372088832 then (some ((List.replicate (bt171.1 : Int).toNat 0), t148, bt171.2.1, bt171.2.2)) else (none)) else (none))) else (some (t145, t148, bt152.2.1, bt152.2.2)))))) = some (r1, r2, r3, r4) := H
 have A2 := Aside0.mk A20
 clear A20
 replace H := Option.bind_eq_some_iff.mp H
 obtain ⟨⟨t152, t153, t154⟩, A30, H⟩ := H
 replace H : (if t152 = 0 then ((spec_l1PickInt.f s0_0 t153 t154 (([0, 4, 5] : List Int))).bind fun bt158 => (some (t145, bt158.1, bt158.2.1, bt158.2.2))) else (if t152 = 1 then ((spec_l1PickInt.f s0_0 t153 t154 (([(-1), 7, 8] : List Int))).bind fun bt164 => (if 0 < (t145.length : Int) then (some ((t145.set (0 : Int).toNat bt164.1), t148, bt164.2.1, bt164.2.2)) else (none))) else (if t152 = 2 then ((spec_l1PickInt.f s0_0 t153 t154 (([0, 8, 9] : List Int))).bind fun bt171 => (if 0 ≤ bt171.1 then (if (bt171.1 : Int).toNat ≤ 35184372088832 then (some ((List.replicate (bt171.1 : Int).toNat 0), t148, bt171.2.1, bt171.2.2)) else (none)) else (none))) else (some (t145, t148, t153, t154))))) = some (r1, r2, r3, r4) := H
 have A3 := Aside0.mk A30
 clear A30
 by_cases c4 : t152 = 0
 ·rw [if_pos c4] at H
  have c4b0 : (t152 == 0) = true := beq_iff_eq.mpr c4
  have c4b1 : (t152 != 0) = false := bne_eq_false_iff_eq.mpr c4
  clear c4
  obtain ⟨y155, hy155⟩ : ∃ y_ : List Int, y_ = (([0, 4, 5] : List Int)) := ⟨_, rfl⟩
  replace H : ((spec_l1PickInt.f s0_0 t153 t154 y155).bind fun bt158 => (some (t145, bt158.1, bt158.2.1, bt158.2.2))) = some (r1, r2, r3, r4) := by first | (rw [hy155]; with_reducible exact H) | (have H2_ := (Option.bind_some _ _).symm.trans H; rw [hy155]; with_reducible exact H2_) | (have H2_ := (Option.bind_some _ _).symm.trans H; with_reducible exact H2_) | with_reducible exact H | (rw [hy155]; exact H) | exact H
  have Ny155 := Aside0.mk hy155
  clear hy155
  replace H := Option.bind_eq_some_iff.mp H
  obtain ⟨⟨t158, t159, t160⟩, A50, H⟩ := H
  replace H : (some (t145, t158, t159, t160)) = some (r1, r2, r3, r4) := H
  have A5 := Aside0.mk A50
  clear A50
  simp only [Option.some.injEq, Prod.mk.injEq] at H
  obtain ⟨rfl, rfl, rfl, rfl⟩ := H
  go_enter Try.func63, Try.ntmps63
  go_wp2_with (first | ((with_reducible refine gate_dst (N := 2) rfl ?_); refine box_event kr_ (N := 2) kr_ (cs := #[.slice none 0 0, .int .i64 0]) (t := 31) ks_ ?_; intro gb144 hg w1 hbox hb; replace HB := Aside0.mk (below_step dz25 hb); have BK144 := Aside0.mk (hbox); have GW144 := Aside0.mk ((by rw [hg]; exact (keep_size (w := w) (g := g) (row := none) dz4) : w.heap.size ≤ gb144)); have GE144 := Aside0.mk ((Nat.le_trans HW0.out (by rw [hg]; exact (keep_size (w := w) (g := g) (row := none) dz4) : w.heap.size ≤ gb144) : w0.heap.size ≤ gb144)); replace HK := Aside0.mk (KeepBut.trans dz4 (KeepBut.of_below hb g none) (.inl rfl)); have NB0_144 := Aside0.mk ((by rw [hg]; exact Nat.ne_of_lt (IsS150.lt (show IsS150 w0 _ g s0_0 s0_1 s0_2 from by repeat (first | (with_reducible first | exact HI0.out | apply IsS150.alloc | apply IsS150.drewN | apply IsS150.drew | apply IsS150.set_1 | apply IsS150.set_2) | exact HI0.out))) : g ≠ gb144)); have NB144_0 := Aside0.mk ((by rw [hg]; exact Nat.ne_of_gt (IsS150.lt (show IsS150 w0 _ g s0_0 s0_1 s0_2 from by repeat (first | (with_reducible first | exact HI0.out | apply IsS150.alloc | apply IsS150.drewN | apply IsS150.drew | apply IsS150.set_1 | apply IsS150.set_2) | exact HI0.out))) : gb144 ≠ g)); replace HI0 := Aside0.mk (IsS150.below dz26 hb); clear hb hbox hg) | ((with_reducible refine gate_callee (f := 115) rfl ?_); refine goesL_ (some 5) rfl rfl Try.func115 (by kernel_rfl) rfl #[.pointer (some ⟨g, 0, none⟩)] rfl dz1 ?_; (with_reducible refine (spec_l4DrawRight.calls k g s0_0 s0_1 s0_2 t145 t148 t149 t150 w0 _ ?side1 ?side2 A2.out).mono ?_); (case side1 => exact dz458); (case side2 => exact dz459); rintro e w2 ⟨v146, rfl, ho0, hi, hb, hk⟩; refine ⟨_, rfl, ?_⟩; replace BK144 := Aside0.mk (KeepBut.blk hk (g' := gb144) (o := .cells #[.slice none 0 0, .int .i64 0] 31 (0, 0)) dz45 NB144_0.out (by simp)); have HO147 := Aside0.mk (Kd.R_lower ho0 (keep_size (w := w) (g := g) (row := none) dz10)); replace HK := Aside0.mk (KeepBut.trans dz10 hk (.inl rfl)); replace HB := Aside0.mk (hb); replace HI0 := Aside0.mk (hi); (try clear hb); (try clear hb2); (try clear hk); (try clear hi); (try clear ho0)) | ((with_reducible refine gate_dst (N := 3) rfl ?_); refine box_event kr_ (N := 3) kr_ (cs := #[.slice none 0 0, .int .i64 0]) (t := 31) ks_ ?_; intro gb151 hg w3 hbox hb; replace HO147 := (rbb_ HO147 hb); replace HB := Aside0.mk (below_step dz83 hb); have BK151 := Aside0.mk (hbox); have GW151 := Aside0.mk ((by rw [hg]; exact (keep_size (w := w) (g := g) (row := none) dz10) : w.heap.size ≤ gb151)); have GE151 := Aside0.mk ((Nat.le_trans HW0.out (by rw [hg]; exact (keep_size (w := w) (g := g) (row := none) dz10) : w.heap.size ≤ gb151) : w0.heap.size ≤ gb151)); replace HK := Aside0.mk (KeepBut.trans dz10 (KeepBut.of_below hb g none) (.inl rfl)); have NB144_151 := (nbl_ hg BK144); have NB151_144 := (nbr_ hg BK144); replace BK144 := (bkb_ BK144 hb); have NB0_151 := Aside0.mk ((by rw [hg]; exact Nat.ne_of_lt (IsS150.lt (show IsS150 w0 _ g s0_0 t149 t150 from by repeat (first | (with_reducible first | exact HI0.out | apply IsS150.alloc | apply IsS150.drewN | apply IsS150.drew | apply IsS150.set_1 | apply IsS150.set_2 | refine IsS150.far ?_ NB0_144.out _) | exact HI0.out))) : g ≠ gb151)); have NB151_0 := Aside0.mk ((by rw [hg]; exact Nat.ne_of_gt (IsS150.lt (show IsS150 w0 _ g s0_0 t149 t150 from by repeat (first | (with_reducible first | exact HI0.out | apply IsS150.alloc | apply IsS150.drewN | apply IsS150.drew | apply IsS150.set_1 | apply IsS150.set_2 | refine IsS150.far ?_ NB0_144.out _) | exact HI0.out))) : gb151 ≠ g)); replace HI0 := Aside0.mk (IsS150.below dz84 hb); clear hb hbox hg; obtain ⟨Ao9, co9, eo9⟩ := Kd.R_slice HO147.out; subst eo9; have hnb10 := NB151_144.out; have hnc10 := NB144_151.out; have hnb11 := NB151_0.out; have hnc11 := NB0_151.out; obtain ⟨hcz12_0, hcz12_1, hfz12_0, hfz12_1⟩ := cz2_ BK151) | ((with_reducible refine gate_callee (f := 67) rfl ?_); refine goesL_ (some 7) rfl rfl Try.func67 (by kernel_rfl) rfl #[.pointer (some ⟨g, 0, none⟩), .int .i64 20] rfl dz1 ?_; (with_reducible refine (spec_l1Below.calls g s0_0 t149 t150 20 t152 t153 t154 w0 _ ?side1 ?side2 A3.out).mono ?_); (case side1 => exact dz460); (case side2 => exact dz461); rintro e w4 ⟨rfl, hi, hb, hk⟩; refine ⟨_, rfl, ?_⟩; replace BK144 := Aside0.mk (KeepBut.blk hk (g' := gb144) (o := .cells #[.slice none 0 0, .int .i64 0] 31 (0, 0)) dz85 NB144_0.out (by simp)); replace HO147 := Aside0.mk (Kd.R_mono (Kd.R_keep (IsS150.apart (show IsS150 w0 _ g s0_0 t149 t150 from by repeat (first | (with_reducible first | exact HI0.out | apply IsS150.alloc | apply IsS150.drewN | apply IsS150.drew | apply IsS150.set_1 | apply IsS150.set_2 | refine IsS150.far ?_ NB0_144.out _ | refine IsS150.far ?_ NB0_151.out _) | exact HI0.out)) (by (with_reducible repeat (first | apply Kd.R_alloc | apply Kd.R_drewN | apply Kd.R_drew)); exact (Kd.R_mono (Kd.R_far (p := ⟨gb151, 1, none⟩) (Kd.R_far (p := ⟨gb151, 0, none⟩) (Kd.R_types HO147.out BK151.out (by decide)) (fun _ hk => hk.2) (.slice Ao9 t145.length co9)) (fun _ hk => hk.2) (.int .i64 t148)) (fun _ h_ => h_.1))) (by decide)) hk (fun _ h => h.2)) (fun _ h => h.1)); replace BK151 := Aside0.mk (KeepBut.blk hk (g' := gb151) (o := .cells #[.slice Ao9 t145.length co9, .int .i64 t148] 31 (0, 0)) (by (with_reducible repeat (first | refine blk_drewN ?_ _ | refine blk_drew ?_ | refine blk_alloc ?_ _)); refine blk_put (cs := #[.slice Ao9 t145.length co9, .int .i64 0]) ?_ 1 _ rfl; (with_reducible repeat (first | refine blk_drewN ?_ _ | refine blk_drew ?_ | refine blk_alloc ?_ _)); refine blk_put (cs := #[.slice none 0 0, .int .i64 0]) ?_ 0 _ rfl; (with_reducible repeat (first | refine blk_drewN ?_ _ | refine blk_drew ?_ | refine blk_alloc ?_ _)); exact BK151.out) NB151_0.out (by simp)); replace HK := Aside0.mk (KeepBut.trans dz19 hk (.inl rfl)); replace HB := Aside0.mk (hb); replace HI0 := Aside0.mk (hi); (try clear hb); (try clear hb2); (try clear hk); (try clear hi)) | ((with_reducible refine gate_dst (N := 11) rfl ?_); refine Kd.R_lit (Kd.int .i64) _ 3 ?hg (N := 11) ?hd (xs := ([0, 4, 5] : List Int)) (inner := [.int .i64 0, .int .i64 4, .int .i64 5]) (ok := fun _ => True) (okp := fun _ => True) ?hr ?hp (fun _ hk => hk) trivial (Below.refl _ _) (Nat.le_refl _) (by simp) ?_; (case hd => rfl); (case hg => rfl); (case hr => first | (go_simp; done) | (go_simp; rfl)); (case hp => exact (Reps.one (show Kd.M (Kd.int .i64) _ _ _ 0 [.int .i64 0] from rfl) (Reps.one (show Kd.M (Kd.int .i64) _ _ _ 4 [.int .i64 4] from rfl) (Reps.one (show Kd.M (Kd.int .i64) _ _ _ 5 [.int .i64 5] from rfl) (Reps.none _ _))))); intro v156 w5 ho15 hb hg_ hnew_; clear hg_ hnew_; (first | rw [← Ny155.out] at ho15 | (simp only [Int.reduceToNat] at ho15; rw [← Ny155.out] at ho15)); have HO157 := Aside0.mk (Kd.R_lower (Kd.R_new' ho15 (Kd.R_lt dz29)) (keep_size (w := w) (g := g) (row := none) dz19)); replace HO147 := Aside0.mk (Kd.R_elder' dz29 (Kd.R_base ho15) hb); replace BK144 := (bkb_ BK144 hb); replace BK151 := (bkb_ BK151 hb); replace HK := Aside0.mk (KeepBut.trans dz19 (KeepBut.of_below hb g none) (.inl rfl)); replace HB := Aside0.mk (below_step dz86 hb); replace HI0 := Aside0.mk (IsS150.below dz87 hb); clear hb ho15; obtain ⟨Ao16, co16, eo16⟩ := Kd.R_slice HO157.out; subst eo16) | ((with_reducible refine gate_callee (f := 116) rfl ?_); refine goesL_ (some 12) rfl rfl Try.func116 (by kernel_rfl) rfl #[.pointer (some ⟨g, 0, none⟩), .slice Ao16 y155.length co16] rfl dz1 ?_; (with_reducible refine (spec_l1PickInt.calls g s0_0 t153 t154 _ _ y155 t158 t159 t160 w0 _ ?side1 ?side2 ?side3 ?side4 ?side5 A5.out).mono ?_); (case side1 => exact dz460); (case side2 => exact dz461); (case side3 => repeat (first | exact (Kd.R_reads' HO157.out).2.2 | (with_reducible refine Kd.C_alloc ?_ _) | (with_reducible refine Kd.C_drewN ?_ _) | (with_reducible refine Kd.C_drew ?_))); (case side4 => exact (Kd.R_reads' HO157.out).2.1); (case side5 => exact far_slice (IsS150.own_ne HI0.out HO157.out (by decide))); rintro e w6 ⟨rfl, hi, hb, hk⟩; refine ⟨_, rfl, ?_⟩; replace BK144 := Aside0.mk (KeepBut.blk hk (g' := gb144) (o := .cells #[.slice none 0 0, .int .i64 0] 31 (0, 0)) dz45 NB144_0.out (by simp)); replace HO147 := Aside0.mk (Kd.R_mono (Kd.R_keep (IsS150.apart (show IsS150 w0 _ g s0_0 t153 t154 from by repeat (first | (with_reducible first | exact HI0.out | apply IsS150.alloc | apply IsS150.drewN | apply IsS150.drew | apply IsS150.set_1 | apply IsS150.set_2 | refine IsS150.far ?_ NB0_144.out _ | refine IsS150.far ?_ NB0_151.out _) | exact HI0.out)) dz29 (by decide)) hk (fun _ h => h.2)) (fun _ h => h.1)); replace BK151 := Aside0.mk (KeepBut.blk hk (g' := gb151) (o := .cells #[.slice Ao9 t145.length co9, .int .i64 t148] 31 (0, 0)) dz99 NB151_0.out (by simp)); replace HO157 := Aside0.mk (Kd.R_mono (Kd.R_keep (IsS150.apart (show IsS150 w0 _ g s0_0 t153 t154 from by repeat (first | (with_reducible first | exact HI0.out | apply IsS150.alloc | apply IsS150.drewN | apply IsS150.drew | apply IsS150.set_1 | apply IsS150.set_2 | refine IsS150.far ?_ NB0_144.out _ | refine IsS150.far ?_ NB0_151.out _) | exact HI0.out)) (by (with_reducible repeat (first | apply Kd.R_alloc | apply Kd.R_drewN | apply Kd.R_drew)); exact HO157.out) (by decide)) hk (fun _ h => h.2)) (fun _ h => h.1)); replace HK := Aside0.mk (KeepBut.trans dz19 hk (.inl rfl)); replace HB := Aside0.mk (hb); replace HI0 := Aside0.mk (hi); (try clear hb); (try clear hb2); (try clear hk); (try clear hi); obtain ⟨hcz18_0, hcz18_1, hfz18_0, hfz18_1⟩ := cz2_ BK151; have hnb19 := NB144_0.out; have hnc19 := NB0_144.out; obtain ⟨hcz20_0, hcz20_1, hfz20_0, hfz20_1⟩ := cz2_ BK144))
  refine bodyPost_ret (results_cell_row rfl _ _ gb144 31 #[.slice Ao9 t145.length co9, .int .i64 t158] (0, 0) _ rfl (by (with_reducible repeat (first | refine blk_drewN ?_ _ | refine blk_drew ?_ | refine blk_alloc ?_ _)); refine blk_put (cs := #[.slice Ao9 t145.length co9, .int .i64 0]) ?_ 1 _ rfl; (with_reducible repeat (first | refine blk_drewN ?_ _ | refine blk_drew ?_ | refine blk_alloc ?_ _)); refine blk_put (cs := #[.slice none 0 0, .int .i64 0]) ?_ 0 _ rfl; (with_reducible repeat (first | refine blk_drewN ?_ _ | refine blk_drew ?_ | refine blk_alloc ?_ _)); refine blk_far ?_ NB144_151.out _; (with_reducible repeat (first | refine blk_drewN ?_ _ | refine blk_drew ?_ | refine blk_alloc ?_ _)); exact BK144.out) Try.underlying31 rfl (by kernel_rfl)) rfl ?_
  exact ⟨_, by first | rfl | (simp [errW_none, errW_some] <;> rfl) | (simp [*, errW_none, errW_some] <;> rfl), by (with_reducible repeat (first | apply Kd.R_alloc | apply Kd.R_drewN | apply Kd.R_drew)); exact Kd.R_mono (Kd.R_far (p := ⟨gb144, 1, none⟩) (Kd.R_far (p := ⟨gb144, 0, none⟩) (Kd.R_far (p := ⟨gb151, 1, none⟩) (Kd.R_types (Kd.R_types HO147.out BK151.out (by decide)) BK144.out (by decide)) (fun _ hk => hk.1.2) (.int .i64 t158)) (fun _ hk => hk.2) (.slice Ao9 t145.length co9)) (fun _ hk => hk.2) (.int .i64 t158)) (fun _ hk => trivial), by repeat (first | (with_reducible first | exact HI0.out | apply IsS150.alloc | apply IsS150.drewN | apply IsS150.drew | apply IsS150.set_1 | apply IsS150.set_2 | refine IsS150.far ?_ NB0_144.out _ | refine IsS150.far ?_ NB0_151.out _) | exact HI0.out), by repeat (first | (with_reducible first | exact HB.out | apply below_alloc | apply pw_below_drewN | apply below_drew1 | refine below_set ?_ (IsS150.ge HI0.out) | refine below_set ?_ GE144.out | refine below_set ?_ GE151.out) | exact HB.out), by repeat (first | (with_reducible first | exact HK.out | apply KeepBut.set_ | apply keep_drewN | apply keep_drew | apply keep_alloc | refine keep_far ?_ GW144.out _ | refine keep_far ?_ GW151.out _) | exact HK.out)⟩
 rw [if_neg c4] at H
 have c4b0 : (t152 == 0) = false := beq_eq_false_iff_ne.mpr c4
 have c4b1 : (t152 != 0) = true := bne_iff_ne.mpr c4
 by_cases c21 : t152 = 1
 ·rw [if_pos c21] at H
  have c21b0 : (t152 == 1) = true := beq_iff_eq.mpr c21
  have c21b1 : (t152 != 1) = false := bne_eq_false_iff_eq.mpr c21
  clear c21
  obtain ⟨y161, hy161⟩ : ∃ y_ : List Int, y_ = (([(-1), 7, 8] : List Int)) := ⟨_, rfl⟩
  replace H : ((spec_l1PickInt.f s0_0 t153 t154 y161).bind fun bt164 => (if 0 < (t145.length : Int) then (some ((t145.set (0 : Int).toNat bt164.1), t148, bt164.2.1, bt164.2.2)) else (none))) = some (r1, r2, r3, r4) := by first | (rw [hy161]; with_reducible exact H) | (have H2_ := (Option.bind_some _ _).symm.trans H; rw [hy161]; with_reducible exact H2_) | (have H2_ := (Option.bind_some _ _).symm.trans H; with_reducible exact H2_) | with_reducible exact H | (rw [hy161]; exact H) | exact H
  have Ny161 := Aside0.mk hy161
  clear hy161
  replace H := Option.bind_eq_some_iff.mp H
  obtain ⟨⟨t164, t165, t166⟩, A220, H⟩ := H
  replace H : (if 0 < (t145.length : Int) then (some ((t145.set (0 : Int).toNat t164), t148, t165, t166)) else (none)) = some (r1, r2, r3, r4) := H
  have A22 := Aside0.mk A220
  clear A220
  by_cases c23 : 0 < (t145.length : Int)
  ·rw [if_pos c23] at H
   have c23b0 : decide (0 < (t145.length : Int)) = true := decide_eq_true c23
   have c23b1 : decide (0 < t145.length) = true := decide_eq_true (by omega)
   clear c23
   obtain ⟨y167, hy167⟩ : ∃ y_ : List Int, y_ = (t145.set (0 : Int).toNat t164) := ⟨_, rfl⟩
   replace H : (some (y167, t148, t165, t166)) = some (r1, r2, r3, r4) := by first | (rw [hy167]; with_reducible exact H) | (have H2_ := (Option.bind_some _ _).symm.trans H; rw [hy167]; with_reducible exact H2_) | (have H2_ := (Option.bind_some _ _).symm.trans H; with_reducible exact H2_) | with_reducible exact H | (rw [hy167]; exact H) | exact H
   have Ny167 := Aside0.mk hy167
   clear hy167
   simp only [Option.some.injEq, Prod.mk.injEq] at H
   obtain ⟨rfl, rfl, rfl, rfl⟩ := H
   go_enter Try.func63, Try.ntmps63
   try go_wp2_with (first | ((with_reducible refine gate_dst (N := 2) rfl ?_); refine box_event kr_ (N := 2) kr_ (cs := #[.slice none 0 0, .int .i64 0]) (t := 31) ks_ ?_; intro gb144 hg w1 hbox hb; replace HB := Aside0.mk (below_step dz25 hb); have BK144 := Aside0.mk (hbox); have GW144 := Aside0.mk ((by rw [hg]; exact (keep_size (w := w) (g := g) (row := none) dz4) : w.heap.size ≤ gb144)); have GE144 := Aside0.mk ((Nat.le_trans HW0.out (by rw [hg]; exact (keep_size (w := w) (g := g) (row := none) dz4) : w.heap.size ≤ gb144) : w0.heap.size ≤ gb144)); replace HK := Aside0.mk (KeepBut.trans dz4 (KeepBut.of_below hb g none) (.inl rfl)); have NB0_144 := Aside0.mk ((by rw [hg]; exact Nat.ne_of_lt (IsS150.lt (show IsS150 w0 _ g s0_0 s0_1 s0_2 from by repeat (first | (with_reducible first | exact HI0.out | apply IsS150.alloc | apply IsS150.drewN | apply IsS150.drew | apply IsS150.set_1 | apply IsS150.set_2) | exact HI0.out))) : g ≠ gb144)); have NB144_0 := Aside0.mk ((by rw [hg]; exact Nat.ne_of_gt (IsS150.lt (show IsS150 w0 _ g s0_0 s0_1 s0_2 from by repeat (first | (with_reducible first | exact HI0.out | apply IsS150.alloc | apply IsS150.drewN | apply IsS150.drew | apply IsS150.set_1 | apply IsS150.set_2) | exact HI0.out))) : gb144 ≠ g)); replace HI0 := Aside0.mk (IsS150.below dz26 hb); clear hb hbox hg) | ((with_reducible refine gate_callee (f := 115) rfl ?_); refine goesL_ (some 5) rfl rfl Try.func115 (by kernel_rfl) rfl #[.pointer (some ⟨g, 0, none⟩)] rfl dz1 ?_; (with_reducible refine (spec_l4DrawRight.calls k g s0_0 s0_1 s0_2 t145 t148 t149 t150 w0 _ ?side1 ?side2 A2.out).mono ?_); (case side1 => exact dz458); (case side2 => exact dz459); rintro e w2 ⟨v146, rfl, ho0, hi, hb, hk⟩; refine ⟨_, rfl, ?_⟩; replace BK144 := Aside0.mk (KeepBut.blk hk (g' := gb144) (o := .cells #[.slice none 0 0, .int .i64 0] 31 (0, 0)) dz45 NB144_0.out (by simp)); have HO147 := Aside0.mk (Kd.R_lower ho0 (keep_size (w := w) (g := g) (row := none) dz10)); replace HK := Aside0.mk (KeepBut.trans dz10 hk (.inl rfl)); replace HB := Aside0.mk (hb); replace HI0 := Aside0.mk (hi); (try clear hb); (try clear hb2); (try clear hk); (try clear hi); (try clear ho0)) | ((with_reducible refine gate_dst (N := 3) rfl ?_); refine box_event kr_ (N := 3) kr_ (cs := #[.slice none 0 0, .int .i64 0]) (t := 31) ks_ ?_; intro gb151 hg w3 hbox hb; replace HO147 := (rbb_ HO147 hb); replace HB := Aside0.mk (below_step dz83 hb); have BK151 := Aside0.mk (hbox); have GW151 := Aside0.mk ((by rw [hg]; exact (keep_size (w := w) (g := g) (row := none) dz10) : w.heap.size ≤ gb151)); have GE151 := Aside0.mk ((Nat.le_trans HW0.out (by rw [hg]; exact (keep_size (w := w) (g := g) (row := none) dz10) : w.heap.size ≤ gb151) : w0.heap.size ≤ gb151)); replace HK := Aside0.mk (KeepBut.trans dz10 (KeepBut.of_below hb g none) (.inl rfl)); have NB144_151 := (nbl_ hg BK144); have NB151_144 := (nbr_ hg BK144); replace BK144 := (bkb_ BK144 hb); have NB0_151 := Aside0.mk ((by rw [hg]; exact Nat.ne_of_lt (IsS150.lt (show IsS150 w0 _ g s0_0 t149 t150 from by repeat (first | (with_reducible first | exact HI0.out | apply IsS150.alloc | apply IsS150.drewN | apply IsS150.drew | apply IsS150.set_1 | apply IsS150.set_2 | refine IsS150.far ?_ NB0_144.out _) | exact HI0.out))) : g ≠ gb151)); have NB151_0 := Aside0.mk ((by rw [hg]; exact Nat.ne_of_gt (IsS150.lt (show IsS150 w0 _ g s0_0 t149 t150 from by repeat (first | (with_reducible first | exact HI0.out | apply IsS150.alloc | apply IsS150.drewN | apply IsS150.drew | apply IsS150.set_1 | apply IsS150.set_2 | refine IsS150.far ?_ NB0_144.out _) | exact HI0.out))) : gb151 ≠ g)); replace HI0 := Aside0.mk (IsS150.below dz84 hb); clear hb hbox hg; obtain ⟨Ao28, co28, eo28⟩ := Kd.R_slice HO147.out; subst eo28; have hnb29 := NB151_144.out; have hnc29 := NB144_151.out; have hnb30 := NB151_0.out; have hnc30 := NB0_151.out; obtain ⟨hcz31_0, hcz31_1, hfz31_0, hfz31_1⟩ := cz2_ BK151) | ((with_reducible refine gate_callee (f := 67) rfl ?_); refine goesL_ (some 7) rfl rfl Try.func67 (by kernel_rfl) rfl #[.pointer (some ⟨g, 0, none⟩), .int .i64 20] rfl dz1 ?_; (with_reducible refine (spec_l1Below.calls g s0_0 t149 t150 20 t152 t153 t154 w0 _ ?side1 ?side2 A3.out).mono ?_); (case side1 => exact dz460); (case side2 => exact dz461); rintro e w4 ⟨rfl, hi, hb, hk⟩; refine ⟨_, rfl, ?_⟩; replace BK144 := Aside0.mk (KeepBut.blk hk (g' := gb144) (o := .cells #[.slice none 0 0, .int .i64 0] 31 (0, 0)) dz85 NB144_0.out (by simp)); replace HO147 := Aside0.mk (Kd.R_mono (Kd.R_keep (IsS150.apart (show IsS150 w0 _ g s0_0 t149 t150 from by repeat (first | (with_reducible first | exact HI0.out | apply IsS150.alloc | apply IsS150.drewN | apply IsS150.drew | apply IsS150.set_1 | apply IsS150.set_2 | refine IsS150.far ?_ NB0_144.out _ | refine IsS150.far ?_ NB0_151.out _) | exact HI0.out)) (by (with_reducible repeat (first | apply Kd.R_alloc | apply Kd.R_drewN | apply Kd.R_drew)); exact (Kd.R_mono (Kd.R_far (p := ⟨gb151, 1, none⟩) (Kd.R_far (p := ⟨gb151, 0, none⟩) (Kd.R_types HO147.out BK151.out (by decide)) (fun _ hk => hk.2) (.slice Ao28 t145.length co28)) (fun _ hk => hk.2) (.int .i64 t148)) (fun _ h_ => h_.1))) (by decide)) hk (fun _ h => h.2)) (fun _ h => h.1)); replace BK151 := Aside0.mk (KeepBut.blk hk (g' := gb151) (o := .cells #[.slice Ao28 t145.length co28, .int .i64 t148] 31 (0, 0)) (by (with_reducible repeat (first | refine blk_drewN ?_ _ | refine blk_drew ?_ | refine blk_alloc ?_ _)); refine blk_put (cs := #[.slice Ao28 t145.length co28, .int .i64 0]) ?_ 1 _ rfl; (with_reducible repeat (first | refine blk_drewN ?_ _ | refine blk_drew ?_ | refine blk_alloc ?_ _)); refine blk_put (cs := #[.slice none 0 0, .int .i64 0]) ?_ 0 _ rfl; (with_reducible repeat (first | refine blk_drewN ?_ _ | refine blk_drew ?_ | refine blk_alloc ?_ _)); exact BK151.out) NB151_0.out (by simp)); replace HK := Aside0.mk (KeepBut.trans dz19 hk (.inl rfl)); replace HB := Aside0.mk (hb); replace HI0 := Aside0.mk (hi); (try clear hb); (try clear hb2); (try clear hk); (try clear hi)))
   replace HO147 := Aside0.mk (Kd.R_drew HO147.out)
   replace BK144 := Aside0.mk (blk_drew BK144.out)
   replace BK151 := Aside0.mk (blk_drew BK151.out)
   replace HI0 := Aside0.mk (IsS150.drew HI0.out)
   replace HK := Aside0.mk (keep_drew HK.out)
   replace HB := Aside0.mk (below_drew1 HB.out)
   refine start_ (n := 7) (S := fun w' => w'.cell? ⟨gb151, 0, none⟩ = some (.slice Ao28 t145.length co28) ∧ w'.cell? ⟨gb151, 1, none⟩ = some (.int .i64 t148)) (ds := [6]) (fl_ 0 7) (by kernel_rfl) rfl rfl ⟨(blk_cell BK151.out 0).trans rfl, (blk_cell BK151.out 1).trans rfl⟩ (fun hHeld => ?_)
   generalize w4.drew = w5 at HO147 BK144 BK151 HI0 HK HB hHeld ⊢
   refine pure_ (i := 0) (N := some 16) (v := ?_) (a' := ?_) (fl_ 1 6) rfl rfl (by kernel_rfl) (fun _ _ _ h => h) (Or.inl ⟨by rfl, ?_⟩) ?_ ?_
   rotate_left
   ·exact dz489
   rotate_left
   ·exact dz490
   refine pure_ (i := 2) (N := some 18) (v := ?_) (a' := ?_) #[true, false, true, false, false, false, false] rfl rfl (by kernel_rfl) (fun _ _ _ h => h) (Or.inl ⟨by rfl, ?_⟩) ?_ ?_
   rotate_left
   ·exact dz489
   rotate_left
   ·exact dz490
   refine take_ (i := 1) (N := some 17) (v := ?_) (a' := ?_) (fl_ 3 4) rfl rfl (by kernel_rfl) (fun _ _ _ h => h) (Or.inl ⟨by rfl, ?_⟩) hHeld ?_ ?_
   rotate_left
   ·exact dz491
   rotate_left
   ·exact dz490
   refine one_ (i := 3) (N := some 19) (fl_ 4 3) rfl rfl (by kernel_rfl) (by decide) (fun K hK => ?_)
   refine Kd.R_lit_step (Kd.int .i64) _ 3 ?hg (N := 19) ?hd (xs := ([(-1), 7, 8] : List Int)) (inner := [.int .i64 (-1), .int .i64 7, .int .i64 8]) (ok := fun _ => True) (okp := fun _ => True) ?hr ?hp (fun _ hk => hk) trivial (Below.refl _ _) (Nat.le_refl _) (by simp) ?_; (case hd => rfl); (case hg => rfl); (case hr => first | (go_simp; done) | (go_simp; rfl)); (case hp => exact (Reps.one (show Kd.M (Kd.int .i64) _ _ _ (-1) [.int .i64 (-1)] from rfl) (Reps.one (show Kd.M (Kd.int .i64) _ _ _ 7 [.int .i64 7] from rfl) (Reps.one (show Kd.M (Kd.int .i64) _ _ _ 8 [.int .i64 8] from rfl) (Reps.none _ _)))))
   intro v162 w34 ho35 hb hg_ hnew_
   clear hg_ hnew_
   (first | rw [← Ny161.out] at ho35 | (simp only [Int.reduceToNat] at ho35; rw [← Ny161.out] at ho35))
   have HO163 := Aside0.mk (Kd.R_lower (Kd.R_new' ho35 (Kd.R_lt dz29)) (keep_size (w := w) (g := g) (row := none) dz19))
   replace HO147 := Aside0.mk (Kd.R_elder' dz29 (Kd.R_base ho35) hb)
   replace BK144 := (bkb_ BK144 hb)
   replace BK151 := (bkb_ BK151 hb)
   replace HK := Aside0.mk (KeepBut.trans dz19 (KeepBut.of_below hb g none) (.inl rfl))
   replace HB := Aside0.mk (below_step dz86 hb)
   replace HI0 := Aside0.mk (IsS150.below dz87 hb)
   clear hb ho35
   obtain ⟨Ao36, co36, eo36⟩ := Kd.R_slice HO163.out
   (first | subst eo36 | (injection eo36 with f1_ f2_ f3_; have f4_ := f1_.symm; have f5_ := f3_.symm; clear f1_ f2_ f3_; subst f4_; subst f5_))
   refine hK.out _ _ ⟨(blk_cell BK151.out 0).trans rfl, (blk_cell BK151.out 1).trans rfl⟩ (fun hHeld => ?_)
   clear hK K
   refine norm_ (a' := ?_) ?_ ?_
   rotate_left
   ·show Act.put _ (some 19) _ = _
    simp only [Act.put, List.setIfInBounds_toArray, List.set_cons_zero, List.set_cons_succ, i64_w, i32_w]
    rfl
   refine one_ (i := 4) (N := some 20) (fl_ 5 2) rfl rfl (by kernel_rfl) (by decide) (fun K hK => ?_)
   refine goes_ Try.func116 (by kernel_rfl) rfl #[.pointer (some ⟨g, 0, none⟩), .slice Ao36 y161.length co36] (by rfl) rfl rfl dz1 ?_
   with_reducible refine (spec_l1PickInt.calls g s0_0 t153 t154 _ _ y161 t164 t165 t166 w0 _ ?side1 ?side2 ?side3 ?side4 ?side5 A22.out).mono ?_
   (case side1 => exact dz460)
   (case side2 => exact dz461)
   (case side3 => repeat (first | exact (Kd.R_reads' HO163.out).2.2 | (with_reducible refine Kd.C_alloc ?_ _) | (with_reducible refine Kd.C_drewN ?_ _) | (with_reducible refine Kd.C_drew ?_)))
   (case side4 => exact (Kd.R_reads' HO163.out).2.1)
   (case side5 => exact far_slice (IsS150.own_ne HI0.out HO163.out (by decide)))
   rintro e w37 ⟨rfl, hi, hb, hk⟩
   refine ⟨_, rfl, ?_⟩
   replace BK144 := Aside0.mk (KeepBut.blk hk (g' := gb144) (o := .cells #[.slice none 0 0, .int .i64 0] 31 (0, 0)) dz45 NB144_0.out (by simp))
   replace HO147 := Aside0.mk (Kd.R_mono (Kd.R_keep (IsS150.apart (show IsS150 w0 _ g s0_0 t153 t154 from by repeat (first | (with_reducible first | exact HI0.out | apply IsS150.alloc | apply IsS150.drewN | apply IsS150.drew | apply IsS150.set_1 | apply IsS150.set_2 | refine IsS150.far ?_ NB0_144.out _ | refine IsS150.far ?_ NB0_151.out _) | exact HI0.out)) dz29 (by decide)) hk (fun _ h => h.2)) (fun _ h => h.1))
   replace BK151 := Aside0.mk (KeepBut.blk hk (g' := gb151) (o := .cells #[.slice Ao28 t145.length co28, .int .i64 t148] 31 (0, 0)) dz99 NB151_0.out (by simp))
   replace HO163 := Aside0.mk (Kd.R_mono (Kd.R_keep (IsS150.apart (show IsS150 w0 _ g s0_0 t153 t154 from by repeat (first | (with_reducible first | exact HI0.out | apply IsS150.alloc | apply IsS150.drewN | apply IsS150.drew | apply IsS150.set_1 | apply IsS150.set_2 | refine IsS150.far ?_ NB0_144.out _ | refine IsS150.far ?_ NB0_151.out _) | exact HI0.out)) (by (with_reducible repeat (first | apply Kd.R_alloc | apply Kd.R_drewN | apply Kd.R_drew)); exact HO163.out) (by decide)) hk (fun _ h => h.2)) (fun _ h => h.1))
   replace HK := Aside0.mk (KeepBut.trans dz19 hk (.inl rfl))
   replace HB := Aside0.mk (hb)
   replace HI0 := Aside0.mk (hi)
   (try clear hb)
   (try clear hb2)
   (try clear hk)
   (try clear hi)
   have p24 : 0 ≤ (0 : Int) := (by omega)
   have q24 : (0 : Int) < ((t145.length : Int) : Int) := of_decide_eq_true dz0
   have qi24 : (0 < t145.length) = True := eq_true (by omega)
   obtain ⟨go24, co24, eo24, gb24, gl24, cl24, HG24⟩ := Kd.R_form HO147.out (by omega)
   (first | cases eo24 | (injection eo24 with ea_ en_ ec_; (first | subst ea_ | (injection ea_ with ea_; subst ea_)); subst ec_; clear en_))
   have GB24 := Aside0.mk gb24
   have GG24 := Aside0.mk HG24
   clear gb24 gl24 HG24
   obtain ⟨hx24_0, hf24_0⟩ := Kd.R_celln 0 HO147.out (0 : Int) p24 q24
   (try rw [show ((0 : Int)).toNat = 0 from rfl] at hx24_0)
   (try simp only [Nat.reduceMul, Nat.zero_mul, Nat.zero_add, Nat.reduceAdd] at hx24_0)
   (try rw [show ((0 : Int)).toNat = 0 from rfl] at hf24_0)
   (try simp only [Nat.reduceMul, Nat.zero_mul, Nat.zero_add, Nat.reduceAdd] at hf24_0)
   replace p24 := eq_true p24
   replace q24 := eq_true q24
   have HN0_go24 := Aside0.mk (show g ≠ go24 from by have h_ := IsS150.own_ne HI0.out HO147.out (by decide); intro e_; exact h_ (by rw [e_]; rfl))
   have HP38 := Kd.R_putn HO147.out (0 : Int) t164
   rw [← Ny167.out] at HP38
   have HQ38 := Aside0.mk HP38
   clear HP38
   refine hK.out _ _ ⟨(blk_cell BK151.out 0).trans rfl, (blk_cell BK151.out 1).trans rfl⟩ (fun hHeld => ?_)
   clear hK K
   refine norm_ (a' := ?_) ?_ ?_
   rotate_left
   ·show Act.put _ (some 20) _ = _
    simp only [Act.put, List.setIfInBounds_toArray, List.set_cons_zero, List.set_cons_succ, i64_w, i32_w]
    rfl
   refine pure_ (i := 5) (N := some 21) (v := ?_) (a' := ?_) (fl_ 6 1) rfl rfl (by kernel_rfl) (fun _ _ _ h => h) (Or.inl ⟨by rfl, ?_⟩) ?_ ?_
   rotate_left
   ·exact dz489
   rotate_left
   ·exact dz490
   refine last_ (i := 6) (N := none) (fl_ 7 0) rfl rfl (by kernel_rfl) (by decide) (fun K hK => ?_)
   refine skip_ (w1 := ?_) (by rfl) rfl ?_ ?_
   rotate_left
   ·go_simp
    rfl
   refine hK.out _ _ ?_
   clear hK K
   refine done_ (by kernel_rfl) ?_
   have n0_ : Aside0 (Kd.R (Kd.int .i64) 3 (w37.setCell ⟨go24, 0, none⟩ (.int .i64 t164)) w.heap.size (fun k_ => some k_ ≠ (.slice Ao36 y161.length co36 : Value).ownBlock) (.slice (some ⟨go24, 0, none⟩) t145.length co28) y167) := ⟨by (with_reducible repeat (first | apply Kd.R_alloc | apply Kd.R_drewN | apply Kd.R_drew)); exact Kd.R_mono HQ38.out (fun _ hk => hk.2)⟩
   have n1_ : Aside0 (Kd.R (Kd.int .i64) 3 (w37.setCell ⟨go24, 0, none⟩ (.int .i64 t164)) w.heap.size (fun k_ => some k_ ≠ (.slice (some ⟨go24, 0, none⟩) t145.length co28 : Value).ownBlock) (.slice Ao36 y161.length co36) y161) := ⟨by (with_reducible repeat (first | apply Kd.R_alloc | apply Kd.R_drewN | apply Kd.R_drew)); exact Kd.R_mono (Kd.R_far (p := ⟨go24, 0, none⟩) (Kd.R_mono HO163.out (fun k_ hk => (⟨hk, fun e_ => hk.2 (by rw [e_]; rfl)⟩ : _ ∧ k_ ≠ go24))) (fun _ hk => hk.2) (.int .i64 t164)) (fun _ hk => hk.1.2)⟩
   have n2_ : Aside0 ((w37.setCell ⟨go24, 0, none⟩ (.int .i64 t164)).heap[gb144]? = some (.cells #[.slice none 0 0, .int .i64 0] 31 (0, 0))) := ⟨by (with_reducible repeat (first | refine blk_drewN ?_ _ | refine blk_drew ?_ | refine blk_alloc ?_ _)); refine blk_far ?_ (by have h_ := Kd.R_ne HO147.out BK144.out (by decide); intro e_; exact h_ (by rw [e_]; rfl)) _; (with_reducible repeat (first | refine blk_drewN ?_ _ | refine blk_drew ?_ | refine blk_alloc ?_ _)); exact BK144.out⟩
   have n3_ : Aside0 ((w37.setCell ⟨go24, 0, none⟩ (.int .i64 t164)).heap[gb151]? = some (.cells #[.slice (some ⟨go24, 0, none⟩) t145.length co28, .int .i64 t148] 31 (0, 0))) := ⟨by (with_reducible repeat (first | refine blk_drewN ?_ _ | refine blk_drew ?_ | refine blk_alloc ?_ _)); refine blk_far ?_ (by have h_ := Kd.R_ne HO147.out BK151.out (by decide); intro e_; exact h_ (by rw [e_]; rfl)) _; (with_reducible repeat (first | refine blk_drewN ?_ _ | refine blk_drew ?_ | refine blk_alloc ?_ _)); exact BK151.out⟩
   have n4_ : Aside0 (IsS150 w0 (w37.setCell ⟨go24, 0, none⟩ (.int .i64 t164)) g s0_0 t165 t166) := ⟨by repeat (first | (with_reducible first | exact HI0.out | apply IsS150.alloc | apply IsS150.drewN | apply IsS150.drew | apply IsS150.set_1 | apply IsS150.set_2 | refine IsS150.far ?_ HN0_go24.out _ | refine IsS150.far ?_ NB0_144.out _ | refine IsS150.far ?_ NB0_151.out _) | exact HI0.out)⟩
   have n5_ : Aside0 (KeepBut w (w37.setCell ⟨go24, 0, none⟩ (.int .i64 t164)) g none) := ⟨by repeat (first | (with_reducible first | exact HK.out | apply KeepBut.set_ | apply keep_drewN | apply keep_drew | apply keep_alloc | refine keep_far ?_ GB24.out _ | refine keep_far ?_ GW144.out _ | refine keep_far ?_ GW151.out _) | exact HK.out)⟩
   have n6_ : Aside0 (Below w0.heap.size w0 (w37.setCell ⟨go24, 0, none⟩ (.int .i64 t164))) := ⟨by repeat (first | (with_reducible first | exact HB.out | apply below_alloc | apply pw_below_drewN | apply below_drew1 | refine below_set ?_ (Nat.le_trans HL.out GB24.out) | refine below_set ?_ (IsS150.ge HI0.out) | refine below_set ?_ GE144.out | refine below_set ?_ GE151.out) | exact HB.out)⟩
   (try clear HO147)
   (try clear HO163)
   (try clear BK144)
   (try clear BK151)
   (try clear HI0)
   (try clear HK)
   (try clear HB)
   generalize (w37.setCell ⟨go24, 0, none⟩ (.int .i64 t164)) = w39 at n0_ n1_ n2_ n3_ n4_ n5_ n6_ ⊢
   have HO147 := n0_
   have HO163 := n1_
   have BK144 := n2_
   have BK151 := n3_
   have HI0 := n4_
   have HK := n5_
   have HB := n6_
   clear n0_ n1_ n2_ n3_ n4_ n5_ n6_
   obtain ⟨hcz40_0, hcz40_1, hfz40_0, hfz40_1⟩ := cz2_ BK151
   have hnb41 := NB144_0.out
   have hnc41 := NB0_144.out
   obtain ⟨hcz42_0, hcz42_1, hfz42_0, hfz42_1⟩ := cz2_ BK144
   try go_wp2
   refine bodyPost_ret (results_cell_row rfl _ _ gb144 31 #[.slice (some ⟨go24, 0, none⟩) t145.length co28, .int .i64 t148] (0, 0) _ rfl (by (with_reducible repeat (first | refine blk_drewN ?_ _ | refine blk_drew ?_ | refine blk_alloc ?_ _)); refine blk_put (cs := #[.slice (some ⟨go24, 0, none⟩) t145.length co28, .int .i64 0]) ?_ 1 _ rfl; (with_reducible repeat (first | refine blk_drewN ?_ _ | refine blk_drew ?_ | refine blk_alloc ?_ _)); refine blk_put (cs := #[.slice none 0 0, .int .i64 0]) ?_ 0 _ rfl; (with_reducible repeat (first | refine blk_drewN ?_ _ | refine blk_drew ?_ | refine blk_alloc ?_ _)); exact BK144.out) Try.underlying31 rfl (by kernel_rfl)) rfl ?_
   exact ⟨_, by first | rfl | (simp [errW_none, errW_some] <;> rfl) | (simp [*, errW_none, errW_some] <;> rfl), by (with_reducible repeat (first | apply Kd.R_alloc | apply Kd.R_drewN | apply Kd.R_drew)); exact Kd.R_mono (Kd.R_far (p := ⟨gb144, 1, none⟩) (Kd.R_far (p := ⟨gb144, 0, none⟩) (Kd.R_types HO147.out BK144.out (by decide)) (fun _ hk => hk.2) (.slice (some ⟨go24, 0, none⟩) t145.length co28)) (fun _ hk => hk.2) (.int .i64 t148)) (fun _ hk => trivial), by repeat (first | (with_reducible first | exact HI0.out | apply IsS150.alloc | apply IsS150.drewN | apply IsS150.drew | apply IsS150.set_1 | apply IsS150.set_2 | refine IsS150.far ?_ NB0_144.out _ | refine IsS150.far ?_ NB0_151.out _) | exact HI0.out), by repeat (first | (with_reducible first | exact HB.out | apply below_alloc | apply pw_below_drewN | apply below_drew1 | refine below_set ?_ (IsS150.ge HI0.out) | refine below_set ?_ GE144.out | refine below_set ?_ GE151.out) | exact HB.out), by repeat (first | (with_reducible first | exact HK.out | apply KeepBut.set_ | apply keep_drewN | apply keep_drew | apply keep_alloc | refine keep_far ?_ GW144.out _ | refine keep_far ?_ GW151.out _) | exact HK.out)⟩
  rw [if_neg c23] at H
  exact absurd H (by simp)
 rw [if_neg c21] at H
 have c21b0 : (t152 == 1) = false := beq_eq_false_iff_ne.mpr c21
 have c21b1 : (t152 != 1) = true := bne_iff_ne.mpr c21
 by_cases c43 : t152 = 2
 ·rw [if_pos c43] at H
  have c43b0 : (t152 == 2) = true := beq_iff_eq.mpr c43
  have c43b1 : (t152 != 2) = false := bne_eq_false_iff_eq.mpr c43
  clear c43
  obtain ⟨y168, hy168⟩ : ∃ y_ : List Int, y_ = (([0, 8, 9] : List Int)) := ⟨_, rfl⟩
  replace H : ((spec_l1PickInt.f s0_0 t153 t154 y168).bind fun bt171 => (if 0 ≤ bt171.1 then (if (bt171.1 : Int).toNat ≤ 35184372088832 then (some ((List.replicate (bt171.1 : Int).toNat 0), t148, bt171.2.1, bt171.2.2)) else (none)) else (none))) = some (r1, r2, r3, r4) := by first | (rw [hy168]; with_reducible exact H) | (have H2_ := (Option.bind_some _ _).symm.trans H; rw [hy168]; with_reducible exact H2_) | (have H2_ := (Option.bind_some _ _).symm.trans H; with_reducible exact H2_) | with_reducible exact H | (rw [hy168]; exact H) | exact H
  have Ny168 := Aside0.mk hy168
  clear hy168
  replace H := Option.bind_eq_some_iff.mp H
  obtain ⟨⟨t171, t172, t173⟩, A440, H⟩ := H
  replace H : (if 0 ≤ t171 then (if (t171 : Int).toNat ≤ 35184372088832 then (some ((List.replicate (t171 : Int).toNat 0), t148, t172, t173)) else (none)) else (none)) = some (r1, r2, r3, r4) := H
  have A44 := Aside0.mk A440
  clear A440
  by_cases c45 : 0 ≤ t171
  ·rw [if_pos c45] at H
   have c45b0 := eq_true c45
   have c45b1 : decide (0 ≤ t171) = true := decide_eq_true c45
   clear c45
   by_cases c46 : (t171 : Int).toNat ≤ 35184372088832
   ·rw [if_pos c46] at H
    have c46b0 := eq_true c46
    have c46b1 : decide ((t171 : Int).toNat ≤ 35184372088832) = true := decide_eq_true c46
    clear c46
    obtain ⟨y174, hy174⟩ : ∃ y_ : List Int, y_ = (List.replicate (t171 : Int).toNat 0) := ⟨_, rfl⟩
    replace H : (some (y174, t148, t172, t173)) = some (r1, r2, r3, r4) := by first | (rw [hy174]; with_reducible exact H) | (have H2_ := (Option.bind_some _ _).symm.trans H; rw [hy174]; with_reducible exact H2_) | (have H2_ := (Option.bind_some _ _).symm.trans H; with_reducible exact H2_) | with_reducible exact H | (rw [hy174]; exact H) | exact H
    have Ny174 := Aside0.mk hy174
    clear hy174
    simp only [Option.some.injEq, Prod.mk.injEq] at H
    obtain ⟨rfl, rfl, rfl, rfl⟩ := H
    go_enter Try.func63, Try.ntmps63
    go_wp2_with (first | ((with_reducible refine gate_dst (N := 2) rfl ?_); refine box_event kr_ (N := 2) kr_ (cs := #[.slice none 0 0, .int .i64 0]) (t := 31) ks_ ?_; intro gb144 hg w1 hbox hb; replace HB := Aside0.mk (below_step dz25 hb); have BK144 := Aside0.mk (hbox); have GW144 := Aside0.mk ((by rw [hg]; exact (keep_size (w := w) (g := g) (row := none) dz4) : w.heap.size ≤ gb144)); have GE144 := Aside0.mk ((Nat.le_trans HW0.out (by rw [hg]; exact (keep_size (w := w) (g := g) (row := none) dz4) : w.heap.size ≤ gb144) : w0.heap.size ≤ gb144)); replace HK := Aside0.mk (KeepBut.trans dz4 (KeepBut.of_below hb g none) (.inl rfl)); have NB0_144 := Aside0.mk ((by rw [hg]; exact Nat.ne_of_lt (IsS150.lt (show IsS150 w0 _ g s0_0 s0_1 s0_2 from by repeat (first | (with_reducible first | exact HI0.out | apply IsS150.alloc | apply IsS150.drewN | apply IsS150.drew | apply IsS150.set_1 | apply IsS150.set_2) | exact HI0.out))) : g ≠ gb144)); have NB144_0 := Aside0.mk ((by rw [hg]; exact Nat.ne_of_gt (IsS150.lt (show IsS150 w0 _ g s0_0 s0_1 s0_2 from by repeat (first | (with_reducible first | exact HI0.out | apply IsS150.alloc | apply IsS150.drewN | apply IsS150.drew | apply IsS150.set_1 | apply IsS150.set_2) | exact HI0.out))) : gb144 ≠ g)); replace HI0 := Aside0.mk (IsS150.below dz26 hb); clear hb hbox hg) | ((with_reducible refine gate_callee (f := 115) rfl ?_); refine goesL_ (some 5) rfl rfl Try.func115 (by kernel_rfl) rfl #[.pointer (some ⟨g, 0, none⟩)] rfl dz1 ?_; (with_reducible refine (spec_l4DrawRight.calls k g s0_0 s0_1 s0_2 t145 t148 t149 t150 w0 _ ?side1 ?side2 A2.out).mono ?_); (case side1 => exact dz458); (case side2 => exact dz459); rintro e w2 ⟨v146, rfl, ho0, hi, hb, hk⟩; refine ⟨_, rfl, ?_⟩; replace BK144 := Aside0.mk (KeepBut.blk hk (g' := gb144) (o := .cells #[.slice none 0 0, .int .i64 0] 31 (0, 0)) dz45 NB144_0.out (by simp)); have HO147 := Aside0.mk (Kd.R_lower ho0 (keep_size (w := w) (g := g) (row := none) dz10)); replace HK := Aside0.mk (KeepBut.trans dz10 hk (.inl rfl)); replace HB := Aside0.mk (hb); replace HI0 := Aside0.mk (hi); (try clear hb); (try clear hb2); (try clear hk); (try clear hi); (try clear ho0)) | ((with_reducible refine gate_dst (N := 3) rfl ?_); refine box_event kr_ (N := 3) kr_ (cs := #[.slice none 0 0, .int .i64 0]) (t := 31) ks_ ?_; intro gb151 hg w3 hbox hb; replace HO147 := (rbb_ HO147 hb); replace HB := Aside0.mk (below_step dz83 hb); have BK151 := Aside0.mk (hbox); have GW151 := Aside0.mk ((by rw [hg]; exact (keep_size (w := w) (g := g) (row := none) dz10) : w.heap.size ≤ gb151)); have GE151 := Aside0.mk ((Nat.le_trans HW0.out (by rw [hg]; exact (keep_size (w := w) (g := g) (row := none) dz10) : w.heap.size ≤ gb151) : w0.heap.size ≤ gb151)); replace HK := Aside0.mk (KeepBut.trans dz10 (KeepBut.of_below hb g none) (.inl rfl)); have NB144_151 := (nbl_ hg BK144); have NB151_144 := (nbr_ hg BK144); replace BK144 := (bkb_ BK144 hb); have NB0_151 := Aside0.mk ((by rw [hg]; exact Nat.ne_of_lt (IsS150.lt (show IsS150 w0 _ g s0_0 t149 t150 from by repeat (first | (with_reducible first | exact HI0.out | apply IsS150.alloc | apply IsS150.drewN | apply IsS150.drew | apply IsS150.set_1 | apply IsS150.set_2 | refine IsS150.far ?_ NB0_144.out _) | exact HI0.out))) : g ≠ gb151)); have NB151_0 := Aside0.mk ((by rw [hg]; exact Nat.ne_of_gt (IsS150.lt (show IsS150 w0 _ g s0_0 t149 t150 from by repeat (first | (with_reducible first | exact HI0.out | apply IsS150.alloc | apply IsS150.drewN | apply IsS150.drew | apply IsS150.set_1 | apply IsS150.set_2 | refine IsS150.far ?_ NB0_144.out _) | exact HI0.out))) : gb151 ≠ g)); replace HI0 := Aside0.mk (IsS150.below dz84 hb); clear hb hbox hg; obtain ⟨Ao50, co50, eo50⟩ := Kd.R_slice HO147.out; subst eo50; have hnb51 := NB151_144.out; have hnc51 := NB144_151.out; have hnb52 := NB151_0.out; have hnc52 := NB0_151.out; obtain ⟨hcz53_0, hcz53_1, hfz53_0, hfz53_1⟩ := cz2_ BK151) | ((with_reducible refine gate_callee (f := 67) rfl ?_); refine goesL_ (some 7) rfl rfl Try.func67 (by kernel_rfl) rfl #[.pointer (some ⟨g, 0, none⟩), .int .i64 20] rfl dz1 ?_; (with_reducible refine (spec_l1Below.calls g s0_0 t149 t150 20 t152 t153 t154 w0 _ ?side1 ?side2 A3.out).mono ?_); (case side1 => exact dz460); (case side2 => exact dz461); rintro e w4 ⟨rfl, hi, hb, hk⟩; refine ⟨_, rfl, ?_⟩; replace BK144 := Aside0.mk (KeepBut.blk hk (g' := gb144) (o := .cells #[.slice none 0 0, .int .i64 0] 31 (0, 0)) dz85 NB144_0.out (by simp)); replace HO147 := Aside0.mk (Kd.R_mono (Kd.R_keep (IsS150.apart (show IsS150 w0 _ g s0_0 t149 t150 from by repeat (first | (with_reducible first | exact HI0.out | apply IsS150.alloc | apply IsS150.drewN | apply IsS150.drew | apply IsS150.set_1 | apply IsS150.set_2 | refine IsS150.far ?_ NB0_144.out _ | refine IsS150.far ?_ NB0_151.out _) | exact HI0.out)) (by (with_reducible repeat (first | apply Kd.R_alloc | apply Kd.R_drewN | apply Kd.R_drew)); exact (Kd.R_mono (Kd.R_far (p := ⟨gb151, 1, none⟩) (Kd.R_far (p := ⟨gb151, 0, none⟩) (Kd.R_types HO147.out BK151.out (by decide)) (fun _ hk => hk.2) (.slice Ao50 t145.length co50)) (fun _ hk => hk.2) (.int .i64 t148)) (fun _ h_ => h_.1))) (by decide)) hk (fun _ h => h.2)) (fun _ h => h.1)); replace BK151 := Aside0.mk (KeepBut.blk hk (g' := gb151) (o := .cells #[.slice Ao50 t145.length co50, .int .i64 t148] 31 (0, 0)) (by (with_reducible repeat (first | refine blk_drewN ?_ _ | refine blk_drew ?_ | refine blk_alloc ?_ _)); refine blk_put (cs := #[.slice Ao50 t145.length co50, .int .i64 0]) ?_ 1 _ rfl; (with_reducible repeat (first | refine blk_drewN ?_ _ | refine blk_drew ?_ | refine blk_alloc ?_ _)); refine blk_put (cs := #[.slice none 0 0, .int .i64 0]) ?_ 0 _ rfl; (with_reducible repeat (first | refine blk_drewN ?_ _ | refine blk_drew ?_ | refine blk_alloc ?_ _)); exact BK151.out) NB151_0.out (by simp)); replace HK := Aside0.mk (KeepBut.trans dz19 hk (.inl rfl)); replace HB := Aside0.mk (hb); replace HI0 := Aside0.mk (hi); (try clear hb); (try clear hb2); (try clear hk); (try clear hi)) | ((with_reducible refine gate_dst (N := 25) rfl ?_); refine Kd.R_lit (Kd.int .i64) _ 3 ?hg (N := 25) ?hd (xs := ([0, 8, 9] : List Int)) (inner := [.int .i64 0, .int .i64 8, .int .i64 9]) (ok := fun _ => True) (okp := fun _ => True) ?hr ?hp (fun _ hk => hk) trivial (Below.refl _ _) (Nat.le_refl _) (by simp) ?_; (case hd => rfl); (case hg => rfl); (case hr => first | (go_simp; done) | (go_simp; rfl)); (case hp => exact (Reps.one (show Kd.M (Kd.int .i64) _ _ _ 0 [.int .i64 0] from rfl) (Reps.one (show Kd.M (Kd.int .i64) _ _ _ 8 [.int .i64 8] from rfl) (Reps.one (show Kd.M (Kd.int .i64) _ _ _ 9 [.int .i64 9] from rfl) (Reps.none _ _))))); intro v169 w5 ho56 hb hg_ hnew_; clear hg_ hnew_; (first | rw [← Ny168.out] at ho56 | (simp only [Int.reduceToNat] at ho56; rw [← Ny168.out] at ho56)); have HO170 := Aside0.mk (Kd.R_lower (Kd.R_new' ho56 (Kd.R_lt dz29)) (keep_size (w := w) (g := g) (row := none) dz19)); replace HO147 := Aside0.mk (Kd.R_elder' dz29 (Kd.R_base ho56) hb); replace BK144 := (bkb_ BK144 hb); replace BK151 := (bkb_ BK151 hb); replace HK := Aside0.mk (KeepBut.trans dz19 (KeepBut.of_below hb g none) (.inl rfl)); replace HB := Aside0.mk (below_step dz86 hb); replace HI0 := Aside0.mk (IsS150.below dz87 hb); clear hb ho56; obtain ⟨Ao57, co57, eo57⟩ := Kd.R_slice HO170.out; subst eo57) | ((with_reducible refine gate_callee (f := 116) rfl ?_); refine goesL_ (some 26) rfl rfl Try.func116 (by kernel_rfl) rfl #[.pointer (some ⟨g, 0, none⟩), .slice Ao57 y168.length co57] rfl dz1 ?_; (with_reducible refine (spec_l1PickInt.calls g s0_0 t153 t154 _ _ y168 t171 t172 t173 w0 _ ?side1 ?side2 ?side3 ?side4 ?side5 A44.out).mono ?_); (case side1 => exact dz460); (case side2 => exact dz461); (case side3 => repeat (first | exact (Kd.R_reads' HO170.out).2.2 | (with_reducible refine Kd.C_alloc ?_ _) | (with_reducible refine Kd.C_drewN ?_ _) | (with_reducible refine Kd.C_drew ?_))); (case side4 => exact (Kd.R_reads' HO170.out).2.1); (case side5 => exact far_slice (IsS150.own_ne HI0.out HO170.out (by decide))); rintro e w9 ⟨rfl, hi, hb, hk⟩; refine ⟨_, rfl, ?_⟩; replace BK144 := Aside0.mk (KeepBut.blk hk (g' := gb144) (o := .cells #[.slice none 0 0, .int .i64 0] 31 (0, 0)) dz45 NB144_0.out (by simp)); replace HO147 := Aside0.mk (Kd.R_mono (Kd.R_keep (IsS150.apart (show IsS150 w0 _ g s0_0 t153 t154 from by repeat (first | (with_reducible first | exact HI0.out | apply IsS150.alloc | apply IsS150.drewN | apply IsS150.drew | apply IsS150.set_1 | apply IsS150.set_2 | refine IsS150.far ?_ NB0_144.out _ | refine IsS150.far ?_ NB0_151.out _) | exact HI0.out)) dz29 (by decide)) hk (fun _ h => h.2)) (fun _ h => h.1)); replace BK151 := Aside0.mk (KeepBut.blk hk (g' := gb151) (o := .cells #[.slice Ao50 t145.length co50, .int .i64 t148] 31 (0, 0)) dz99 NB151_0.out (by simp)); replace HO170 := Aside0.mk (Kd.R_mono (Kd.R_keep (IsS150.apart (show IsS150 w0 _ g s0_0 t153 t154 from by repeat (first | (with_reducible first | exact HI0.out | apply IsS150.alloc | apply IsS150.drewN | apply IsS150.drew | apply IsS150.set_1 | apply IsS150.set_2 | refine IsS150.far ?_ NB0_144.out _ | refine IsS150.far ?_ NB0_151.out _) | exact HI0.out)) dz100 (by decide)) hk (fun _ h => h.2)) (fun _ h => h.1)); replace HK := Aside0.mk (KeepBut.trans dz19 hk (.inl rfl)); replace HB := Aside0.mk (hb); replace HI0 := Aside0.mk (hi); (try clear hb); (try clear hb2); (try clear hk); (try clear hi)) | ((with_reducible refine gate_dst (N := 27) rfl ?_); refine Kd.R_make (Kd.int .i64) _ 3 rfl (N := 27) rfl 22 _ _ rfl t171 rfl rfl Try.underlying22 (.int .i64 0) 8 info3 rfl (by decide) (by omega) 0 (ok := fun _ => True) (okp := fun _ => True) rfl (fun _ hk => hk) trivial (of_decide_eq_true dz0) (Nat.le_trans (Nat.mul_le_mul_right _ (of_decide_eq_true dz0 : t171.toNat ≤ 35184372088832)) (by omega)) (Below.refl _ _) (Nat.le_refl _) ?_; intro v175 w10 ho60 hb hg_ hnew_; clear hg_ hnew_; (first | rw [← Ny174.out] at ho60 | (simp only [Int.reduceToNat] at ho60; rw [← Ny174.out] at ho60)); have HO176 := Aside0.mk (Kd.R_lower (Kd.R_new' (Kd.R_new' ho60 (Kd.R_lt dz29)) (Kd.R_lt dz100)) (keep_size (w := w) (g := g) (row := none) dz19)); replace HO147 := Aside0.mk (Kd.R_elder' dz29 (Kd.R_base ho60) hb); replace HO170 := Aside0.mk (Kd.R_elder' dz100 (Kd.R_base ho60) hb); replace BK144 := (bkb_ BK144 hb); replace BK151 := (bkb_ BK151 hb); replace HK := Aside0.mk (KeepBut.trans dz19 (KeepBut.of_below hb g none) (.inl rfl)); replace HB := Aside0.mk (below_step dz86 hb); replace HI0 := Aside0.mk (IsS150.below dz87 hb); clear hb ho60; obtain ⟨Ao61, co61, eo61⟩ := Kd.R_slice HO176.out; subst eo61; obtain ⟨hcz62_0, hcz62_1, hfz62_0, hfz62_1⟩ := cz2_ BK151; have hnb63 := NB144_0.out; have hnc63 := NB0_144.out; obtain ⟨hcz64_0, hcz64_1, hfz64_0, hfz64_1⟩ := cz2_ BK144))
    refine bodyPost_ret (results_cell_row rfl _ _ gb144 31 #[.slice Ao61 y174.length co61, .int .i64 t148] (0, 0) _ rfl (by (with_reducible repeat (first | refine blk_drewN ?_ _ | refine blk_drew ?_ | refine blk_alloc ?_ _)); refine blk_put (cs := #[.slice Ao61 y174.length co61, .int .i64 0]) ?_ 1 _ rfl; (with_reducible repeat (first | refine blk_drewN ?_ _ | refine blk_drew ?_ | refine blk_alloc ?_ _)); refine blk_put (cs := #[.slice none 0 0, .int .i64 0]) ?_ 0 _ rfl; (with_reducible repeat (first | refine blk_drewN ?_ _ | refine blk_drew ?_ | refine blk_alloc ?_ _)); refine blk_far ?_ NB144_151.out _; (with_reducible repeat (first | refine blk_drewN ?_ _ | refine blk_drew ?_ | refine blk_alloc ?_ _)); exact BK144.out) Try.underlying31 rfl (by kernel_rfl)) rfl ?_
    exact ⟨_, by first | rfl | (simp [errW_none, errW_some] <;> rfl) | (simp [*, errW_none, errW_some] <;> rfl), by (with_reducible repeat (first | apply Kd.R_alloc | apply Kd.R_drewN | apply Kd.R_drew)); exact Kd.R_mono (Kd.R_far (p := ⟨gb144, 1, none⟩) (Kd.R_far (p := ⟨gb144, 0, none⟩) (Kd.R_far (p := ⟨gb151, 0, none⟩) (Kd.R_types (Kd.R_types HO176.out BK151.out (by decide)) BK144.out (by decide)) (fun _ hk => hk.1.2) (.slice Ao61 y174.length co61)) (fun _ hk => hk.2) (.slice Ao61 y174.length co61)) (fun _ hk => hk.2) (.int .i64 t148)) (fun _ hk => trivial), by repeat (first | (with_reducible first | exact HI0.out | apply IsS150.alloc | apply IsS150.drewN | apply IsS150.drew | apply IsS150.set_1 | apply IsS150.set_2 | refine IsS150.far ?_ NB0_144.out _ | refine IsS150.far ?_ NB0_151.out _) | exact HI0.out), by repeat (first | (with_reducible first | exact HB.out | apply below_alloc | apply pw_below_drewN | apply below_drew1 | refine below_set ?_ (IsS150.ge HI0.out) | refine below_set ?_ GE144.out | refine below_set ?_ GE151.out) | exact HB.out), by repeat (first | (with_reducible first | exact HK.out | apply KeepBut.set_ | apply keep_drewN | apply keep_drew | apply keep_alloc | refine keep_far ?_ GW144.out _ | refine keep_far ?_ GW151.out _) | exact HK.out)⟩
   rw [if_neg c46] at H
   exact absurd H (by simp)
  rw [if_neg c45] at H
  exact absurd H (by simp)
 rw [if_neg c43] at H
 have c43b0 : (t152 == 2) = false := beq_eq_false_iff_ne.mpr c43
 have c43b1 : (t152 != 2) = true := bne_iff_ne.mpr c43
 simp only [Option.some.injEq, Prod.mk.injEq] at H
 obtain ⟨rfl, rfl, rfl, rfl⟩ := H
 go_enter Try.func63, Try.ntmps63
 go_wp2_with (first | ((with_reducible refine gate_dst (N := 2) rfl ?_); refine box_event kr_ (N := 2) kr_ (cs := #[.slice none 0 0, .int .i64 0]) (t := 31) ks_ ?_; intro gb144 hg w1 hbox hb; replace HB := Aside0.mk (below_step dz25 hb); have BK144 := Aside0.mk (hbox); have GW144 := Aside0.mk ((by rw [hg]; exact (keep_size (w := w) (g := g) (row := none) dz4) : w.heap.size ≤ gb144)); have GE144 := Aside0.mk ((Nat.le_trans HW0.out (by rw [hg]; exact (keep_size (w := w) (g := g) (row := none) dz4) : w.heap.size ≤ gb144) : w0.heap.size ≤ gb144)); replace HK := Aside0.mk (KeepBut.trans dz4 (KeepBut.of_below hb g none) (.inl rfl)); have NB0_144 := Aside0.mk ((by rw [hg]; exact Nat.ne_of_lt (IsS150.lt (show IsS150 w0 _ g s0_0 s0_1 s0_2 from by repeat (first | (with_reducible first | exact HI0.out | apply IsS150.alloc | apply IsS150.drewN | apply IsS150.drew | apply IsS150.set_1 | apply IsS150.set_2) | exact HI0.out))) : g ≠ gb144)); have NB144_0 := Aside0.mk ((by rw [hg]; exact Nat.ne_of_gt (IsS150.lt (show IsS150 w0 _ g s0_0 s0_1 s0_2 from by repeat (first | (with_reducible first | exact HI0.out | apply IsS150.alloc | apply IsS150.drewN | apply IsS150.drew | apply IsS150.set_1 | apply IsS150.set_2) | exact HI0.out))) : gb144 ≠ g)); replace HI0 := Aside0.mk (IsS150.below dz26 hb); clear hb hbox hg) | ((with_reducible refine gate_callee (f := 115) rfl ?_); refine goesL_ (some 5) rfl rfl Try.func115 (by kernel_rfl) rfl #[.pointer (some ⟨g, 0, none⟩)] rfl dz1 ?_; (with_reducible refine (spec_l4DrawRight.calls k g s0_0 s0_1 s0_2 t145 t148 t149 t150 w0 _ ?side1 ?side2 A2.out).mono ?_); (case side1 => exact dz458); (case side2 => exact dz459); rintro e w2 ⟨v146, rfl, ho0, hi, hb, hk⟩; refine ⟨_, rfl, ?_⟩; replace BK144 := Aside0.mk (KeepBut.blk hk (g' := gb144) (o := .cells #[.slice none 0 0, .int .i64 0] 31 (0, 0)) dz45 NB144_0.out (by simp)); have HO147 := Aside0.mk (Kd.R_lower ho0 (keep_size (w := w) (g := g) (row := none) dz10)); replace HK := Aside0.mk (KeepBut.trans dz10 hk (.inl rfl)); replace HB := Aside0.mk (hb); replace HI0 := Aside0.mk (hi); (try clear hb); (try clear hb2); (try clear hk); (try clear hi); (try clear ho0)) | ((with_reducible refine gate_dst (N := 3) rfl ?_); refine box_event kr_ (N := 3) kr_ (cs := #[.slice none 0 0, .int .i64 0]) (t := 31) ks_ ?_; intro gb151 hg w3 hbox hb; replace HO147 := (rbb_ HO147 hb); replace HB := Aside0.mk (below_step dz83 hb); have BK151 := Aside0.mk (hbox); have GW151 := Aside0.mk ((by rw [hg]; exact (keep_size (w := w) (g := g) (row := none) dz10) : w.heap.size ≤ gb151)); have GE151 := Aside0.mk ((Nat.le_trans HW0.out (by rw [hg]; exact (keep_size (w := w) (g := g) (row := none) dz10) : w.heap.size ≤ gb151) : w0.heap.size ≤ gb151)); replace HK := Aside0.mk (KeepBut.trans dz10 (KeepBut.of_below hb g none) (.inl rfl)); have NB144_151 := (nbl_ hg BK144); have NB151_144 := (nbr_ hg BK144); replace BK144 := (bkb_ BK144 hb); have NB0_151 := Aside0.mk ((by rw [hg]; exact Nat.ne_of_lt (IsS150.lt (show IsS150 w0 _ g s0_0 t149 t150 from by repeat (first | (with_reducible first | exact HI0.out | apply IsS150.alloc | apply IsS150.drewN | apply IsS150.drew | apply IsS150.set_1 | apply IsS150.set_2 | refine IsS150.far ?_ NB0_144.out _) | exact HI0.out))) : g ≠ gb151)); have NB151_0 := Aside0.mk ((by rw [hg]; exact Nat.ne_of_gt (IsS150.lt (show IsS150 w0 _ g s0_0 t149 t150 from by repeat (first | (with_reducible first | exact HI0.out | apply IsS150.alloc | apply IsS150.drewN | apply IsS150.drew | apply IsS150.set_1 | apply IsS150.set_2 | refine IsS150.far ?_ NB0_144.out _) | exact HI0.out))) : gb151 ≠ g)); replace HI0 := Aside0.mk (IsS150.below dz84 hb); clear hb hbox hg; obtain ⟨Ao68, co68, eo68⟩ := Kd.R_slice HO147.out; subst eo68; have hnb69 := NB151_144.out; have hnc69 := NB144_151.out; have hnb70 := NB151_0.out; have hnc70 := NB0_151.out; obtain ⟨hcz71_0, hcz71_1, hfz71_0, hfz71_1⟩ := cz2_ BK151) | ((with_reducible refine gate_callee (f := 67) rfl ?_); refine goesL_ (some 7) rfl rfl Try.func67 (by kernel_rfl) rfl #[.pointer (some ⟨g, 0, none⟩), .int .i64 20] rfl dz1 ?_; (with_reducible refine (spec_l1Below.calls g s0_0 t149 t150 20 t152 t153 t154 w0 _ ?side1 ?side2 A3.out).mono ?_); (case side1 => exact dz460); (case side2 => exact dz461); rintro e w4 ⟨rfl, hi, hb, hk⟩; refine ⟨_, rfl, ?_⟩; replace BK144 := Aside0.mk (KeepBut.blk hk (g' := gb144) (o := .cells #[.slice none 0 0, .int .i64 0] 31 (0, 0)) dz85 NB144_0.out (by simp)); replace HO147 := Aside0.mk (Kd.R_mono (Kd.R_keep (IsS150.apart (show IsS150 w0 _ g s0_0 t149 t150 from by repeat (first | (with_reducible first | exact HI0.out | apply IsS150.alloc | apply IsS150.drewN | apply IsS150.drew | apply IsS150.set_1 | apply IsS150.set_2 | refine IsS150.far ?_ NB0_144.out _ | refine IsS150.far ?_ NB0_151.out _) | exact HI0.out)) (by (with_reducible repeat (first | apply Kd.R_alloc | apply Kd.R_drewN | apply Kd.R_drew)); exact (Kd.R_mono (Kd.R_far (p := ⟨gb151, 1, none⟩) (Kd.R_far (p := ⟨gb151, 0, none⟩) (Kd.R_types HO147.out BK151.out (by decide)) (fun _ hk => hk.2) (.slice Ao68 t145.length co68)) (fun _ hk => hk.2) (.int .i64 t148)) (fun _ h_ => h_.1))) (by decide)) hk (fun _ h => h.2)) (fun _ h => h.1)); replace BK151 := Aside0.mk (KeepBut.blk hk (g' := gb151) (o := .cells #[.slice Ao68 t145.length co68, .int .i64 t148] 31 (0, 0)) (by (with_reducible repeat (first | refine blk_drewN ?_ _ | refine blk_drew ?_ | refine blk_alloc ?_ _)); refine blk_put (cs := #[.slice Ao68 t145.length co68, .int .i64 0]) ?_ 1 _ rfl; (with_reducible repeat (first | refine blk_drewN ?_ _ | refine blk_drew ?_ | refine blk_alloc ?_ _)); refine blk_put (cs := #[.slice none 0 0, .int .i64 0]) ?_ 0 _ rfl; (with_reducible repeat (first | refine blk_drewN ?_ _ | refine blk_drew ?_ | refine blk_alloc ?_ _)); exact BK151.out) NB151_0.out (by simp)); replace HK := Aside0.mk (KeepBut.trans dz19 hk (.inl rfl)); replace HB := Aside0.mk (hb); replace HI0 := Aside0.mk (hi); (try clear hb); (try clear hb2); (try clear hk); (try clear hi); obtain ⟨hcz73_0, hcz73_1, hfz73_0, hfz73_1⟩ := cz2_ BK151; have hnb74 := NB144_0.out; have hnc74 := NB0_144.out; obtain ⟨hcz75_0, hcz75_1, hfz75_0, hfz75_1⟩ := cz2_ BK144))
 refine bodyPost_ret (results_cell_row rfl _ _ gb144 31 #[.slice Ao68 t145.length co68, .int .i64 t148] (0, 0) _ rfl (by (with_reducible repeat (first | refine blk_drewN ?_ _ | refine blk_drew ?_ | refine blk_alloc ?_ _)); refine blk_put (cs := #[.slice Ao68 t145.length co68, .int .i64 0]) ?_ 1 _ rfl; (with_reducible repeat (first | refine blk_drewN ?_ _ | refine blk_drew ?_ | refine blk_alloc ?_ _)); refine blk_put (cs := #[.slice none 0 0, .int .i64 0]) ?_ 0 _ rfl; (with_reducible repeat (first | refine blk_drewN ?_ _ | refine blk_drew ?_ | refine blk_alloc ?_ _)); exact BK144.out) Try.underlying31 rfl (by kernel_rfl)) rfl ?_
 exact ⟨_, by first | rfl | (simp [errW_none, errW_some] <;> rfl) | (simp [*, errW_none, errW_some] <;> rfl), by (with_reducible repeat (first | apply Kd.R_alloc | apply Kd.R_drewN | apply Kd.R_drew)); exact Kd.R_mono (Kd.R_far (p := ⟨gb144, 1, none⟩) (Kd.R_far (p := ⟨gb144, 0, none⟩) (Kd.R_types HO147.out BK144.out (by decide)) (fun _ hk => hk.2) (.slice Ao68 t145.length co68)) (fun _ hk => hk.2) (.int .i64 t148)) (fun _ hk => trivial), by repeat (first | (with_reducible first | exact HI0.out | apply IsS150.alloc | apply IsS150.drewN | apply IsS150.drew | apply IsS150.set_1 | apply IsS150.set_2 | refine IsS150.far ?_ NB0_144.out _ | refine IsS150.far ?_ NB0_151.out _) | exact HI0.out), by repeat (first | (with_reducible first | exact HB.out | apply below_alloc | apply pw_below_drewN | apply below_drew1 | refine below_set ?_ (IsS150.ge HI0.out) | refine below_set ?_ GE144.out | refine below_set ?_ GE151.out) | exact HB.out), by repeat (first | (with_reducible first | exact HK.out | apply KeepBut.set_ | apply keep_drewN | apply keep_drew | apply keep_alloc | refine keep_far ?_ GW144.out _ | refine keep_far ?_ GW151.out _) | exact HK.out)⟩
def spec_l1In.f (a0 : Int) (a1 : Int) (a2 : Int) : Option (Bool) := if a0 ≥ a1 then (some (decide (a0 ≤ a2))) else (some false)
set_option maxHeartbeats 8000000 in
set_option maxRecDepth 100000 in
theorem spec_l1In.calls (a0 : Int) (a1 : Int) (a2 : Int) (r : Bool) (w : World) (h : spec_l1In.f a0 a1 a2 = some r) :
  Calls Try.prog 55 #[.int .i64 a0, .int .i64 a1, .int .i64 a2] w fun e w' => e = .returned (.bool r) ∧ Drawn0 w w' := by
 have H : (if a0 ≥ a1 then (some (decide (a0 ≤ a2))) else (some false)) = some r := h
 clear h
 by_cases c4 : a0 ≥ a1
 ·rw [if_pos c4] at H
  have c4b0 : decide (a1 ≤ a0) = true := decide_eq_true c4
  clear c4
  obtain rfl := Option.some.inj H
  go_enter Try.func55, Try.ntmps55
  go_wp2
  go_ret
  exact dz503
 rw [if_neg c4] at H
 have c4b0 : decide (a1 ≤ a0) = false := decide_eq_false c4
 clear c4
 obtain rfl := Option.some.inj H
 go_enter Try.func55, Try.ntmps55
 go_wp2
 go_ret
 exact dz503
mutual
def spec_ConfigOk.j0 : Nat → Bool → List Int → Int → Option (Bool)
 | 0, _, _, _ => none
 | k + 1, x14, x178000, x178001 => if x14 = true then (some false) else (spec_ConfigOk.l0 k 0 x178000 x178001)
def spec_ConfigOk.l0 : Nat → Int → List Int → Int → Option (Bool)
 | 0, _, _, _ => none
 | k + 1, x3, x178000, x178001 => if x3 < (x178000.length : Int) then (if 0 ≤ x3 then ((spec_l1In.f (rd x178000 x3) 0 7).bind fun t181 => (if t181 = true then (spec_ConfigOk.l0 k (wrap64 (x3 + 1)) x178000 x178001) else (some false))) else (none)) else (some true)
end
def spec_ConfigOk.f (k : Nat) (l0_0 : List Int) (a0_1 : Int) : Option (Bool) := (spec_l1In.f (l0_0.length : Int) 1 8).bind fun t178 => (if t178 = true then ((spec_l1In.f a0_1 1 4).bind fun t179 => (spec_ConfigOk.j0 k (!t179) l0_0 a0_1)) else (spec_ConfigOk.j0 k true l0_0 a0_1))
set_option maxHeartbeats 8000000 in
set_option maxRecDepth 100000 in
theorem spec_ConfigOk.calls (k : Nat) (A0_0 : Option Addr) (c0_0 : Nat) (l0_0 : List Int) (a0_1 : Int) (r : Bool) (w : World) (hr0_0 : Kd.C (Kd.int .i64) w A0_0 l0_0.length l0_0) (hc0_0 : l0_0.length ≤ c0_0) (h : spec_ConfigOk.f k l0_0 a0_1 = some r) :
  Calls Try.prog 51 #[.agg #[.slice A0_0 l0_0.length c0_0, .int .i64 a0_1]] w fun e w' => e = .returned (.bool r) ∧ Below w.heap.size w w' := by
 have hu31 := Try.underlying31
 have HR0_0 := Aside0.mk hr0_0
 have HC0_0 := Aside0.mk hc0_0
 clear hr0_0 hc0_0
 have HB := Aside0.mk (Below.refl w.heap.size w)
 have H : ((spec_l1In.f (l0_0.length : Int) 1 8).bind fun t178 => (if t178 = true then ((spec_l1In.f a0_1 1 4).bind fun t179 => (spec_ConfigOk.j0 k (!t179) l0_0 a0_1)) else (spec_ConfigOk.j0 k true l0_0 a0_1))) = some r := h
 clear h
 have HC2 := Aside0.mk H
 clear H
 go_enter Try.func51, Try.ntmps51
 go_upto_region 1 with (first | ((with_reducible refine gate_dst (N := 1) rfl ?_); refine box_event kr_ (N := 1) kr_ (cs := #[.slice A0_0 l0_0.length c0_0, .int .i64 a0_1]) (t := 31) ks_ ?_; intro gb177 hg w3 hbox hb; have BK177 := Aside0.mk (hbox); have GW177 : Aside0 (w.heap.size ≤ gb177) := szl_ hg dz2; have GE177 : Aside0 (w.heap.size ≤ gb177) := szl_ hg dz2; replace HB := Aside0.mk (below_step dz2 hb); clear hb hbox hg))
 (try simp only [Act.put, List.setIfInBounds_toArray, List.set_cons_zero, List.set_cons_succ])
 go_cut [14] (fun v14 wc => ∃ (kq : Nat) (x14_1 : Bool), v14 = .bool x14_1 ∧ Aside0 (spec_ConfigOk.j0 kq x14_1 l0_0 a0_1 = some r) ∧ Aside0 (kq ≤ k) ∧ Aside0 (wc.heap[gb177]? = some (.cells #[(.slice A0_0 l0_0.length c0_0), .int .i64 a0_1] 31 (0, 0))) ∧ Aside0 (Below w.heap.size w wc))
 case first =>
  have H := HC2.out
  clear HC2
  replace H := Option.bind_eq_some_iff.mp H
  obtain ⟨t178, A40, H⟩ := H
  replace H : (if t178 = true then ((spec_l1In.f a0_1 1 4).bind fun t179 => (spec_ConfigOk.j0 k (!t179) l0_0 a0_1)) else (spec_ConfigOk.j0 k true l0_0 a0_1)) = some r := H
  have A4 := Aside0.mk A40
  clear A40
  by_cases c5 : t178 = true
  ·subst c5
   have H1 : ((spec_l1In.f a0_1 1 4).bind fun t179 => (spec_ConfigOk.j0 k (!t179) l0_0 a0_1)) = some r := by rw [if_pos rfl] at H; exact H
   clear H
   have H := H1
   clear H1
   replace H := Option.bind_eq_some_iff.mp H
   obtain ⟨t179, A60, H⟩ := H
   replace H : (spec_ConfigOk.j0 k (!t179) l0_0 a0_1) = some r := H
   have A6 := Aside0.mk A60
   clear A60
   have H' := Aside0.mk H
   clear H
   obtain ⟨hcz7_0, hcz7_1, hfz7_0, hfz7_1⟩ := cz2_ BK177
   go_wp2_with (first | ((with_reducible refine gate_callee (f := 55) rfl ?_); refine goesL_ (some 7) rfl rfl Try.func55 (by kernel_rfl) rfl #[.int .i64 (l0_0.length : Int), .int .i64 1, .int .i64 8] rfl dz1 ?_; (with_reducible refine (spec_l1In.calls (l0_0.length : Int) 1 8 true _ A4.out).mono ?_); rintro e w' ⟨rfl, ⟨nd, rfl⟩⟩; refine ⟨_, rfl, ?_⟩) | (go_at_call 55; (with_reducible refine (spec_l1In.calls a0_1 1 4 t179 _ A6.out).mono ?_); rintro e w' ⟨rfl, ⟨nd, rfl⟩⟩))
   go_meet
   case rel => exact ⟨_, (!t179), dz3, H', ⟨by first | omega | exact Nat.le_refl _⟩, ⟨by (with_reducible repeat (first | refine blk_drewN ?_ _ | refine blk_drew ?_ | refine blk_alloc ?_ _)); exact BK177.out⟩, ⟨by repeat (first | (with_reducible first | exact HB.out | apply below_alloc | apply pw_below_drewN | apply below_drew1 | refine below_set ?_ GE177.out) | exact HB.out)⟩⟩
  replace c5 := Bool.eq_false_iff.mpr c5
  subst c5
  have H1 : (spec_ConfigOk.j0 k true l0_0 a0_1) = some r := by rw [if_neg (show ¬ (false = true) by decide)] at H; exact H
  clear H
  have H := H1
  clear H1
  have H' := Aside0.mk H
  clear H
  obtain ⟨hcz8_0, hcz8_1, hfz8_0, hfz8_1⟩ := cz2_ BK177
  go_wp2_with (first | ((with_reducible refine gate_callee (f := 55) rfl ?_); refine goesL_ (some 7) rfl rfl Try.func55 (by kernel_rfl) rfl #[.int .i64 (l0_0.length : Int), .int .i64 1, .int .i64 8] rfl dz1 ?_; (with_reducible refine (spec_l1In.calls (l0_0.length : Int) 1 8 false _ A4.out).mono ?_); rintro e w' ⟨rfl, ⟨nd, rfl⟩⟩; refine ⟨_, rfl, ?_⟩))
  go_meet
  case rel => exact ⟨_, (true), dz3, H', ⟨by first | omega | exact Nat.le_refl _⟩, ⟨by (with_reducible repeat (first | refine blk_drewN ?_ _ | refine blk_drew ?_ | refine blk_alloc ?_ _)); exact BK177.out⟩, ⟨by repeat (first | (with_reducible first | exact HB.out | apply below_alloc | apply pw_below_drewN | apply below_drew1 | refine below_set ?_ GE177.out) | exact HB.out)⟩⟩
 case rest =>
  clear HC2
  try clear p2
  try clear c5
  try clear hcz7_0
  try clear hcz7_1
  try clear hcz8_0
  try clear hcz8_1
  try clear hfz7_0
  try clear hfz7_1
  try clear hfz8_0
  try clear hfz8_1
  obtain ⟨kq, x14_1, rfl, HA, HJ1, BK177, HB⟩ := hcut
  cases kq with
  | zero => exact absurd HA.out (by simp [spec_ConfigOk.j0])
  | succ kj1 =>
   have H := HA.out
   clear HA
   simp only [spec_ConfigOk.j0] at H
   by_cases c9 : x14_1 = true
   ·subst c9
    have H1 : (some false) = some r := by rw [if_pos rfl] at H; exact H
    clear H
    have H := H1
    clear H1
    obtain rfl := Option.some.inj H
    go_wp2
    go_ret
    exact dz505
   replace c9 := Bool.eq_false_iff.mpr c9
   subst c9
   have H1 : (spec_ConfigOk.l0 kj1 0 l0_0 a0_1) = some r := by rw [if_neg (show ¬ (false = true) by decide)] at H; exact H
   clear H
   have H := H1
   clear H1
   have H' := Aside0.mk H
   clear H
   go_wp2
   go_loopg [3] kj1 (fun kq v3 w' => ∃ (x3_2 : Int), v3 = .int .i64 x3_2 ∧ Aside0 (spec_ConfigOk.l0 kq x3_2 l0_0 a0_1 = some r) ∧ Aside0 (kq ≤ kj1) ∧ Aside0 (w'.heap[gb177]? = some (.cells #[(.slice A0_0 l0_0.length c0_0), .int .i64 a0_1] 31 (0, 0))) ∧ Aside0 (Below w.heap.size w w'))
   case atStart => exact ⟨(0), dz3, H', ⟨Nat.le_refl _⟩, ⟨by (with_reducible repeat (first | refine blk_drewN ?_ _ | refine blk_drew ?_ | refine blk_alloc ?_ _)); exact BK177.out⟩, ⟨by repeat (first | (with_reducible first | exact HB.out | apply below_alloc | apply pw_below_drewN | apply below_drew1 | refine below_set ?_ GE177.out) | exact HB.out)⟩⟩
   case round =>
    clear H'
    try clear p2
    try clear c5
    try clear c9
    try clear hcz7_0
    try clear hcz7_1
    try clear hcz8_0
    try clear hcz8_1
    try clear hfz7_0
    try clear hfz7_1
    try clear hfz8_0
    try clear hfz8_1
    try clear p2
    obtain ⟨x3_2, rfl, HA, HK2, BK177, HB⟩ := hrel
    cases gk with
    | zero => exact absurd HA.out (by simp [spec_ConfigOk.l0])
    | succ k2 =>
     have H := HA.out
     clear HA
     simp only [spec_ConfigOk.l0] at H
     by_cases c10 : x3_2 < (l0_0.length : Int)
     ·rw [if_pos c10] at H
      have c10b0 : decide (x3_2 < (l0_0.length : Int)) = true := decide_eq_true c10
      clear c10
      by_cases c11 : 0 ≤ x3_2
      ·rw [if_pos c11] at H
       have c11b0 : decide (0 ≤ x3_2) = true := decide_eq_true c11
       clear c11
       replace H := Option.bind_eq_some_iff.mp H
       obtain ⟨t181, A120, H⟩ := H
       replace H : (if t181 = true then (spec_ConfigOk.l0 k2 (wrap64 (x3_2 + 1)) l0_0 a0_1) else (some false)) = some r := H
       have A12 := Aside0.mk A120
       clear A120
       by_cases c13 : t181 = true
       ·subst c13
        have H1 : (spec_ConfigOk.l0 k2 (wrap64 (x3_2 + 1)) l0_0 a0_1) = some r := by rw [if_pos rfl] at H; exact H
        clear H
        have H := H1
        clear H1
        have H' := Aside0.mk H
        clear H
        obtain ⟨hcz14_0, hcz14_1, hfz14_0, hfz14_1⟩ := cz2_ BK177
        have p180 : 0 ≤ (x3_2 : Int) := of_decide_eq_true dz0
        have q180 : x3_2 < (l0_0.length : Int) := of_decide_eq_true dz0
        obtain ⟨ad180, e180, hx180_0⟩ := Kd.at_int HR0_0.out x3_2 p180 q180
        cases e180
        replace hx180_0 := hxl_ HB hx180_0
        replace p180 := eq_true p180
        replace q180 := eq_true q180
        go_wp2_with (first | ((with_reducible refine gate_callee (f := 55) rfl ?_); refine goesL_ (some 27) rfl rfl Try.func55 (by kernel_rfl) rfl #[.int .i64 (rd l0_0 x3_2), .int .i64 0, .int .i64 7] rfl dz1 ?_; (with_reducible refine (spec_l1In.calls (rd l0_0 x3_2) 0 7 true _ A12.out).mono ?_); rintro e w' ⟨rfl, ⟨nd, rfl⟩⟩; refine ⟨_, rfl, ?_⟩))
        go_roundg k2
        case measure => have := HJ1.out; have := HK2.out; omega
        case rel => exact ⟨(wrap64 (x3_2 + 1)), dz3, H', ⟨by have := HJ1.out; have := HK2.out; omega⟩, ⟨by (with_reducible repeat (first | refine blk_drewN ?_ _ | refine blk_drew ?_ | refine blk_alloc ?_ _)); exact BK177.out⟩, ⟨by repeat (first | (with_reducible first | exact HB.out | apply below_alloc | apply pw_below_drewN | apply below_drew1 | refine below_set ?_ GE177.out) | exact HB.out)⟩⟩
       replace c13 := Bool.eq_false_iff.mpr c13
       subst c13
       have H1 : (some false) = some r := by rw [if_neg (show ¬ (false = true) by decide)] at H; exact H
       clear H
       have H := H1
       clear H1
       obtain rfl := Option.some.inj H
       obtain ⟨hcz15_0, hcz15_1, hfz15_0, hfz15_1⟩ := cz2_ BK177
       have p180 : 0 ≤ (x3_2 : Int) := of_decide_eq_true dz0
       have q180 : x3_2 < (l0_0.length : Int) := of_decide_eq_true dz0
       obtain ⟨ad180, e180, hx180_0⟩ := Kd.at_int HR0_0.out x3_2 p180 q180
       cases e180
       replace hx180_0 := hxl_ HB hx180_0
       replace p180 := eq_true p180
       replace q180 := eq_true q180
       go_wp2_with (first | ((with_reducible refine gate_callee (f := 55) rfl ?_); refine goesL_ (some 27) rfl rfl Try.func55 (by kernel_rfl) rfl #[.int .i64 (rd l0_0 x3_2), .int .i64 0, .int .i64 7] rfl dz1 ?_; (with_reducible refine (spec_l1In.calls (rd l0_0 x3_2) 0 7 false _ A12.out).mono ?_); rintro e w' ⟨rfl, ⟨nd, rfl⟩⟩; refine ⟨_, rfl, ?_⟩))
       go_ret
       exact dz505
      rw [if_neg c11] at H
      exact absurd H (by simp)
     rw [if_neg c10] at H
     have c10b0 : decide (x3_2 < (l0_0.length : Int)) = false := decide_eq_false c10
     clear c10
     obtain rfl := Option.some.inj H
     obtain ⟨hcz16_0, hcz16_1, hfz16_0, hfz16_1⟩ := cz2_ BK177
     go_wp2
     go_ret
     exact dz505
def spec_l4Asc.l0 : Nat → List Int → Int → Int → Int → Option (Bool)
 | 0, _, _, _, _ => none
 | k + 1, x0, x1, x2, x7 => if x7 < (x0.length : Int) then (if 0 ≤ x7 then ((spec_l1In.f (rd x0 x7) x1 x2).bind fun t183 => (if t183 = true then (if x7 > 0 then (if 0 ≤ (wrap64 (x7 - 1)) then (if (wrap64 (x7 - 1)) < (x0.length : Int) then (if (rd x0 (wrap64 (x7 - 1))) ≥ (rd x0 x7) then (some false) else (spec_l4Asc.l0 k x0 x1 x2 (wrap64 (x7 + 1)))) else (none)) else (none)) else (spec_l4Asc.l0 k x0 x1 x2 (wrap64 (x7 + 1)))) else (some false))) else (none)) else (some true)
def spec_l4Asc.f (k : Nat) (l0 : List Int) (a1 : Int) (a2 : Int) : Option (Bool) := spec_l4Asc.l0 k l0 a1 a2 0
set_option maxHeartbeats 8000000 in
set_option maxRecDepth 100000 in
theorem spec_l4Asc.calls (k : Nat) (A0 : Option Addr) (c0 : Nat) (l0 : List Int) (a1 : Int) (a2 : Int) (r : Bool) (w : World) (hr0 : Kd.C (Kd.int .i64) w A0 l0.length l0) (hc0 : l0.length ≤ c0) (h : spec_l4Asc.f k l0 a1 a2 = some r) :
  Calls Try.prog 122 #[.slice A0 l0.length c0, .int .i64 a1, .int .i64 a2] w fun e w' => e = .returned (.bool r) ∧ Drawn0 w w' := by
 have HR0 := Aside0.mk hr0
 have HC0 := Aside0.mk hc0
 clear hr0 hc0
 have H : (spec_l4Asc.l0 k l0 a1 a2 0) = some r := h
 clear h
 have H' := Aside0.mk H
 clear H
 go_enter Try.func122, Try.ntmps122
 go_wp2
 repeat (go_quiet (fail); try go_wp2)
 go_loopg [7] k (fun kq v7 w' => ∃ (x7_1 : Int), v7 = .int .i64 x7_1 ∧ Aside0 (spec_l4Asc.l0 kq l0 a1 a2 x7_1 = some r) ∧ Aside0 (kq ≤ k) ∧ Drawn0 w w')
 case atStart => exact ⟨(0), dz3, H', ⟨Nat.le_refl _⟩, by repeat (first | exact Drawn0.refl _ | apply Drawn0.step)⟩
 case round =>
  clear H'
  try clear c1
  try clear p2
  obtain ⟨x7_1, rfl, HA, HK1, ⟨m1, rfl⟩⟩ := hrel
  cases gk with
  | zero => exact absurd HA.out (by simp [spec_l4Asc.l0])
  | succ k1 =>
   have H := HA.out
   clear HA
   simp only [spec_l4Asc.l0] at H
   by_cases c4 : x7_1 < (l0.length : Int)
   ·rw [if_pos c4] at H
    have c4b0 : decide (x7_1 < (l0.length : Int)) = true := decide_eq_true c4
    clear c4
    by_cases c5 : 0 ≤ x7_1
    ·rw [if_pos c5] at H
     have c5b0 : decide (0 ≤ x7_1) = true := decide_eq_true c5
     clear c5
     replace H := Option.bind_eq_some_iff.mp H
     obtain ⟨t183, A60, H⟩ := H
     replace H : (if t183 = true then (if x7_1 > 0 then (if 0 ≤ (wrap64 (x7_1 - 1)) then (if (wrap64 (x7_1 - 1)) < (l0.length : Int) then (if (rd l0 (wrap64 (x7_1 - 1))) ≥ (rd l0 x7_1) then (some false) else (spec_l4Asc.l0 k1 l0 a1 a2 (wrap64 (x7_1 + 1)))) else (none)) else (none)) else (spec_l4Asc.l0 k1 l0 a1 a2 (wrap64 (x7_1 + 1)))) else (some false)) = some r := H
     have A6 := Aside0.mk A60
     clear A60
     by_cases c7 : t183 = true
     ·subst c7
      have H1 : (if x7_1 > 0 then (if 0 ≤ (wrap64 (x7_1 - 1)) then (if (wrap64 (x7_1 - 1)) < (l0.length : Int) then (if (rd l0 (wrap64 (x7_1 - 1))) ≥ (rd l0 x7_1) then (some false) else (spec_l4Asc.l0 k1 l0 a1 a2 (wrap64 (x7_1 + 1)))) else (none)) else (none)) else (spec_l4Asc.l0 k1 l0 a1 a2 (wrap64 (x7_1 + 1)))) = some r := by rw [if_pos rfl] at H; exact H
      clear H
      have H := H1
      clear H1
      by_cases c8 : x7_1 > 0
      ·rw [if_pos c8] at H
       have c8b0 : decide (0 < x7_1) = true := decide_eq_true c8
       clear c8
       obtain ⟨ji9, hji9⟩ : ∃ j_ : Int, (wrap64 (x7_1 - 1)) = j_ := ⟨_, rfl⟩
       replace H : (if 0 ≤ (ji9) then (if (ji9) < (l0.length : Int) then (if (rd l0 (ji9)) ≥ (rd l0 x7_1) then (some false) else (spec_l4Asc.l0 k1 l0 a1 a2 (wrap64 (x7_1 + 1)))) else (none)) else (none)) = some r := by first | (rw [hji9] at H; exact H) | (simp only [hji9] at H ⊢; exact H)
       (try rw [hji9] at A6)
       have hji9w : (IntKind.i64.wrap (x7_1 - 1)) = ji9 := (i64_w _).trans hji9
       by_cases c10 : 0 ≤ (ji9)
       ·rw [if_pos c10] at H
        have c10b0 : decide (0 ≤ (ji9)) = true := decide_eq_true c10
        clear c10
        by_cases c11 : (ji9) < (l0.length : Int)
        ·rw [if_pos c11] at H
         have c11b0 : decide ((ji9) < (l0.length : Int)) = true := decide_eq_true c11
         clear c11
         by_cases c12 : (rd l0 (ji9)) ≥ (rd l0 x7_1)
         ·rw [if_pos c12] at H
          have c12b0 : decide ((rd l0 x7_1) ≤ (rd l0 (ji9))) = true := decide_eq_true c12
          clear c12
          obtain rfl := Option.some.inj H
          have p182 : 0 ≤ (x7_1 : Int) := of_decide_eq_true dz0
          have q182 : x7_1 < (l0.length : Int) := of_decide_eq_true dz0
          obtain ⟨ad182, e182, hx182_0⟩ := Kd.at_int HR0.out x7_1 p182 q182
          cases e182
          replace p182 := eq_true p182
          replace q182 := eq_true q182
          go_wp2_with (first | (go_at_call 55; (with_reducible refine (spec_l1In.calls (rd l0 x7_1) a1 a2 true _ A6.out).mono ?_); rintro e w' ⟨rfl, ⟨nd, rfl⟩⟩; (try first | exact ⟨rfl, _, World.drewN_drewN _ _ _⟩ | exact ⟨rfl, _, Eq.trans (World.drewN_drewN _ _ _) (congrArg (World.drewN _) (Nat.add_assoc _ _ _))⟩); have p184 : 0 ≤ ((ji9) : Int) := of_decide_eq_true dz0; have q184 : (ji9) < (l0.length : Int) := of_decide_eq_true dz0; obtain ⟨ad184, e184, hx184_0⟩ := Kd.at_int HR0.out (ji9) p184 q184; obtain rfl : ad182 = ad184 := (by injection e184); replace p184 := eq_true p184; replace q184 := eq_true q184; have p185 : 0 ≤ (x7_1 : Int) := of_decide_eq_true dz0; have q185 : x7_1 < (l0.length : Int) := of_decide_eq_true dz0; obtain ⟨ad185, e185, hx185_0⟩ := Kd.at_int HR0.out x7_1 p185 q185; obtain rfl : ad182 = ad185 := (by injection e185); replace p185 := eq_true p185; replace q185 := eq_true q185))
          repeat (go_quiet (first | (go_at_call 55; (with_reducible refine (spec_l1In.calls (rd l0 x7_1) a1 a2 true _ A6.out).mono ?_); rintro e w' ⟨rfl, ⟨nd, rfl⟩⟩; (try first | exact ⟨rfl, _, World.drewN_drewN _ _ _⟩ | exact ⟨rfl, _, Eq.trans (World.drewN_drewN _ _ _) (congrArg (World.drewN _) (Nat.add_assoc _ _ _))⟩); have p184 : 0 ≤ ((ji9) : Int) := of_decide_eq_true dz0; have q184 : (ji9) < (l0.length : Int) := of_decide_eq_true dz0; obtain ⟨ad184, e184, hx184_0⟩ := Kd.at_int HR0.out (ji9) p184 q184; obtain rfl : ad182 = ad184 := (by injection e184); replace p184 := eq_true p184; replace q184 := eq_true q184; have p185 : 0 ≤ (x7_1 : Int) := of_decide_eq_true dz0; have q185 : x7_1 < (l0.length : Int) := of_decide_eq_true dz0; obtain ⟨ad185, e185, hx185_0⟩ := Kd.at_int HR0.out x7_1 p185 q185; obtain rfl : ad182 = ad185 := (by injection e185); replace p185 := eq_true p185; replace q185 := eq_true q185)); try go_wp2_with (first | (go_at_call 55; (with_reducible refine (spec_l1In.calls (rd l0 x7_1) a1 a2 true _ A6.out).mono ?_); rintro e w' ⟨rfl, ⟨nd, rfl⟩⟩; (try first | exact ⟨rfl, _, World.drewN_drewN _ _ _⟩ | exact ⟨rfl, _, Eq.trans (World.drewN_drewN _ _ _) (congrArg (World.drewN _) (Nat.add_assoc _ _ _))⟩); have p184 : 0 ≤ ((ji9) : Int) := of_decide_eq_true dz0; have q184 : (ji9) < (l0.length : Int) := of_decide_eq_true dz0; obtain ⟨ad184, e184, hx184_0⟩ := Kd.at_int HR0.out (ji9) p184 q184; obtain rfl : ad182 = ad184 := (by injection e184); replace p184 := eq_true p184; replace q184 := eq_true q184; have p185 : 0 ≤ (x7_1 : Int) := of_decide_eq_true dz0; have q185 : x7_1 < (l0.length : Int) := of_decide_eq_true dz0; obtain ⟨ad185, e185, hx185_0⟩ := Kd.at_int HR0.out x7_1 p185 q185; obtain rfl : ad182 = ad185 := (by injection e185); replace p185 := eq_true p185; replace q185 := eq_true q185)))
          go_ret
          exact dz506
         rw [if_neg c12] at H
         have c12b0 : decide ((rd l0 x7_1) ≤ (rd l0 (ji9))) = false := decide_eq_false c12
         clear c12
         have H' := Aside0.mk H
         clear H
         have p182 : 0 ≤ (x7_1 : Int) := of_decide_eq_true dz0
         have q182 : x7_1 < (l0.length : Int) := of_decide_eq_true dz0
         obtain ⟨ad182, e182, hx182_0⟩ := Kd.at_int HR0.out x7_1 p182 q182
         cases e182
         replace p182 := eq_true p182
         replace q182 := eq_true q182
         go_wp2_with (first | (go_at_call 55; (with_reducible refine (spec_l1In.calls (rd l0 x7_1) a1 a2 true _ A6.out).mono ?_); rintro e w' ⟨rfl, ⟨nd, rfl⟩⟩; (try first | exact ⟨rfl, _, World.drewN_drewN _ _ _⟩ | exact ⟨rfl, _, Eq.trans (World.drewN_drewN _ _ _) (congrArg (World.drewN _) (Nat.add_assoc _ _ _))⟩); have p184 : 0 ≤ ((ji9) : Int) := of_decide_eq_true dz0; have q184 : (ji9) < (l0.length : Int) := of_decide_eq_true dz0; obtain ⟨ad184, e184, hx184_0⟩ := Kd.at_int HR0.out (ji9) p184 q184; obtain rfl : ad182 = ad184 := (by injection e184); replace p184 := eq_true p184; replace q184 := eq_true q184; have p185 : 0 ≤ (x7_1 : Int) := of_decide_eq_true dz0; have q185 : x7_1 < (l0.length : Int) := of_decide_eq_true dz0; obtain ⟨ad185, e185, hx185_0⟩ := Kd.at_int HR0.out x7_1 p185 q185; obtain rfl : ad182 = ad185 := (by injection e185); replace p185 := eq_true p185; replace q185 := eq_true q185))
         repeat (go_quiet (first | (go_at_call 55; (with_reducible refine (spec_l1In.calls (rd l0 x7_1) a1 a2 true _ A6.out).mono ?_); rintro e w' ⟨rfl, ⟨nd, rfl⟩⟩; (try first | exact ⟨rfl, _, World.drewN_drewN _ _ _⟩ | exact ⟨rfl, _, Eq.trans (World.drewN_drewN _ _ _) (congrArg (World.drewN _) (Nat.add_assoc _ _ _))⟩); have p184 : 0 ≤ ((ji9) : Int) := of_decide_eq_true dz0; have q184 : (ji9) < (l0.length : Int) := of_decide_eq_true dz0; obtain ⟨ad184, e184, hx184_0⟩ := Kd.at_int HR0.out (ji9) p184 q184; obtain rfl : ad182 = ad184 := (by injection e184); replace p184 := eq_true p184; replace q184 := eq_true q184; have p185 : 0 ≤ (x7_1 : Int) := of_decide_eq_true dz0; have q185 : x7_1 < (l0.length : Int) := of_decide_eq_true dz0; obtain ⟨ad185, e185, hx185_0⟩ := Kd.at_int HR0.out x7_1 p185 q185; obtain rfl : ad182 = ad185 := (by injection e185); replace p185 := eq_true p185; replace q185 := eq_true q185)); try go_wp2_with (first | (go_at_call 55; (with_reducible refine (spec_l1In.calls (rd l0 x7_1) a1 a2 true _ A6.out).mono ?_); rintro e w' ⟨rfl, ⟨nd, rfl⟩⟩; (try first | exact ⟨rfl, _, World.drewN_drewN _ _ _⟩ | exact ⟨rfl, _, Eq.trans (World.drewN_drewN _ _ _) (congrArg (World.drewN _) (Nat.add_assoc _ _ _))⟩); have p184 : 0 ≤ ((ji9) : Int) := of_decide_eq_true dz0; have q184 : (ji9) < (l0.length : Int) := of_decide_eq_true dz0; obtain ⟨ad184, e184, hx184_0⟩ := Kd.at_int HR0.out (ji9) p184 q184; obtain rfl : ad182 = ad184 := (by injection e184); replace p184 := eq_true p184; replace q184 := eq_true q184; have p185 : 0 ≤ (x7_1 : Int) := of_decide_eq_true dz0; have q185 : x7_1 < (l0.length : Int) := of_decide_eq_true dz0; obtain ⟨ad185, e185, hx185_0⟩ := Kd.at_int HR0.out x7_1 p185 q185; obtain rfl : ad182 = ad185 := (by injection e185); replace p185 := eq_true p185; replace q185 := eq_true q185)))
         go_roundg k1
         case measure => have := HK1.out; omega
         case rel => exact ⟨(wrap64 (x7_1 + 1)), dz3, H', ⟨by have := HK1.out; omega⟩, by repeat (first | exact Drawn0.refl _ | apply Drawn0.step)⟩
        rw [if_neg c11] at H
        exact absurd H (by simp)
       rw [if_neg c10] at H
       exact absurd H (by simp)
      rw [if_neg c8] at H
      have c8b0 : decide (0 < x7_1) = false := decide_eq_false c8
      clear c8
      have H' := Aside0.mk H
      clear H
      have p182 : 0 ≤ (x7_1 : Int) := of_decide_eq_true dz0
      have q182 : x7_1 < (l0.length : Int) := of_decide_eq_true dz0
      obtain ⟨ad182, e182, hx182_0⟩ := Kd.at_int HR0.out x7_1 p182 q182
      cases e182
      replace p182 := eq_true p182
      replace q182 := eq_true q182
      go_wp2_with (first | (go_at_call 55; (with_reducible refine (spec_l1In.calls (rd l0 x7_1) a1 a2 true _ A6.out).mono ?_); rintro e w' ⟨rfl, ⟨nd, rfl⟩⟩; (try first | exact ⟨rfl, _, World.drewN_drewN _ _ _⟩ | exact ⟨rfl, _, Eq.trans (World.drewN_drewN _ _ _) (congrArg (World.drewN _) (Nat.add_assoc _ _ _))⟩)))
      repeat (go_quiet (first | (go_at_call 55; (with_reducible refine (spec_l1In.calls (rd l0 x7_1) a1 a2 true _ A6.out).mono ?_); rintro e w' ⟨rfl, ⟨nd, rfl⟩⟩; (try first | exact ⟨rfl, _, World.drewN_drewN _ _ _⟩ | exact ⟨rfl, _, Eq.trans (World.drewN_drewN _ _ _) (congrArg (World.drewN _) (Nat.add_assoc _ _ _))⟩))); try go_wp2_with (first | (go_at_call 55; (with_reducible refine (spec_l1In.calls (rd l0 x7_1) a1 a2 true _ A6.out).mono ?_); rintro e w' ⟨rfl, ⟨nd, rfl⟩⟩; (try first | exact ⟨rfl, _, World.drewN_drewN _ _ _⟩ | exact ⟨rfl, _, Eq.trans (World.drewN_drewN _ _ _) (congrArg (World.drewN _) (Nat.add_assoc _ _ _))⟩))))
      go_roundg k1
      case measure => have := HK1.out; omega
      case rel => exact ⟨(wrap64 (x7_1 + 1)), dz3, H', ⟨by have := HK1.out; omega⟩, by repeat (first | exact Drawn0.refl _ | apply Drawn0.step)⟩
     replace c7 := Bool.eq_false_iff.mpr c7
     subst c7
     have H1 : (some false) = some r := by rw [if_neg (show ¬ (false = true) by decide)] at H; exact H
     clear H
     have H := H1
     clear H1
     obtain rfl := Option.some.inj H
     have p182 : 0 ≤ (x7_1 : Int) := of_decide_eq_true dz0
     have q182 : x7_1 < (l0.length : Int) := of_decide_eq_true dz0
     obtain ⟨ad182, e182, hx182_0⟩ := Kd.at_int HR0.out x7_1 p182 q182
     cases e182
     replace p182 := eq_true p182
     replace q182 := eq_true q182
     go_wp2_with (first | (go_at_call 55; (with_reducible refine (spec_l1In.calls (rd l0 x7_1) a1 a2 false _ A6.out).mono ?_); rintro e w' ⟨rfl, ⟨nd, rfl⟩⟩; (try first | exact ⟨rfl, _, World.drewN_drewN _ _ _⟩ | exact ⟨rfl, _, Eq.trans (World.drewN_drewN _ _ _) (congrArg (World.drewN _) (Nat.add_assoc _ _ _))⟩)))
     repeat (go_quiet (first | (go_at_call 55; (with_reducible refine (spec_l1In.calls (rd l0 x7_1) a1 a2 false _ A6.out).mono ?_); rintro e w' ⟨rfl, ⟨nd, rfl⟩⟩; (try first | exact ⟨rfl, _, World.drewN_drewN _ _ _⟩ | exact ⟨rfl, _, Eq.trans (World.drewN_drewN _ _ _) (congrArg (World.drewN _) (Nat.add_assoc _ _ _))⟩))); try go_wp2_with (first | (go_at_call 55; (with_reducible refine (spec_l1In.calls (rd l0 x7_1) a1 a2 false _ A6.out).mono ?_); rintro e w' ⟨rfl, ⟨nd, rfl⟩⟩; (try first | exact ⟨rfl, _, World.drewN_drewN _ _ _⟩ | exact ⟨rfl, _, Eq.trans (World.drewN_drewN _ _ _) (congrArg (World.drewN _) (Nat.add_assoc _ _ _))⟩))))
     go_ret
     exact dz503
    rw [if_neg c5] at H
    exact absurd H (by simp)
   rw [if_neg c4] at H
   have c4b0 : decide (x7_1 < (l0.length : Int)) = false := decide_eq_false c4
   clear c4
   obtain rfl := Option.some.inj H
   go_wp2
   repeat (go_quiet (fail); try go_wp2)
   go_ret
   exact dz503
def spec_NodesOk.f (k : Nat) (l0_0 : List Int) (a0_1 : Int) (l1 : List Int) : Option (Bool) := (spec_ConfigOk.f k l0_0 a0_1).bind fun t187 => (if t187 = true then ((spec_l4Asc.f k l1 0 (wrap64 ((l0_0.length : Int) - 1))).bind fun t188 => (some t188)) else (some false))
set_option maxHeartbeats 8000000 in
set_option maxRecDepth 100000 in
theorem spec_NodesOk.calls (k : Nat) (A0_0 : Option Addr) (c0_0 : Nat) (l0_0 : List Int) (a0_1 : Int) (A1 : Option Addr) (c1 : Nat) (l1 : List Int) (r : Bool) (w : World) (hr0_0 : Kd.C (Kd.int .i64) w A0_0 l0_0.length l0_0) (hc0_0 : l0_0.length ≤ c0_0) (hr1 : Kd.C (Kd.int .i64) w A1 l1.length l1) (hc1 : l1.length ≤ c1) (h : spec_NodesOk.f k l0_0 a0_1 l1 = some r) :
  Calls Try.prog 79 #[.agg #[.slice A0_0 l0_0.length c0_0, .int .i64 a0_1], .slice A1 l1.length c1] w fun e w' => e = .returned (.bool r) ∧ Below w.heap.size w w' := by
 have hu31 := Try.underlying31
 have HR0_0 := Aside0.mk hr0_0
 have HC0_0 := Aside0.mk hc0_0
 clear hr0_0 hc0_0
 have HR1 := Aside0.mk hr1
 have HC1 := Aside0.mk hc1
 clear hr1 hc1
 have HB := Aside0.mk (Below.refl w.heap.size w)
 have H : ((spec_ConfigOk.f k l0_0 a0_1).bind fun t187 => (if t187 = true then ((spec_l4Asc.f k l1 0 (wrap64 ((l0_0.length : Int) - 1))).bind fun t188 => (some t188)) else (some false))) = some r := h
 clear h
 replace H := Option.bind_eq_some_iff.mp H
 obtain ⟨t187, A30, H⟩ := H
 replace H : (if t187 = true then ((spec_l4Asc.f k l1 0 (wrap64 ((l0_0.length : Int) - 1))).bind fun t188 => (some t188)) else (some false)) = some r := H
 have A3 := Aside0.mk A30
 clear A30
 by_cases c4 : t187 = true
 ·subst c4
  have H1 : ((spec_l4Asc.f k l1 0 (wrap64 ((l0_0.length : Int) - 1))).bind fun t188 => (some t188)) = some r := by rw [if_pos rfl] at H; exact H
  clear H
  have H := H1
  clear H1
  replace H := Option.bind_eq_some_iff.mp H
  obtain ⟨t188, A50, H⟩ := H
  replace H : (some t188) = some r := H
  have A5 := Aside0.mk A50
  clear A50
  obtain rfl := Option.some.inj H
  go_enter Try.func79, Try.ntmps79
  go_wp2_with (first | ((with_reducible refine gate_dst (N := 2) rfl ?_); (try (refine gate_guard (by rfl) ?_; dsimp only)); refine box_event kr_ (N := 2) kr_ (cs := #[.slice A0_0 l0_0.length c0_0, .int .i64 a0_1]) (t := 31) ks_ ?_; intro gb186 hg w1 hbox hb; have BK186 := Aside0.mk (hbox); have GW186 : Aside0 (w.heap.size ≤ gb186) := szl_ hg dz2; have GE186 : Aside0 (w.heap.size ≤ gb186) := szl_ hg dz2; replace HB := Aside0.mk (below_step dz2 hb); clear hb hbox hg; obtain ⟨hcz7_0, hcz7_1, hfz7_0, hfz7_1⟩ := cz2_ BK186) | ((with_reducible refine gate_callee (f := 51) rfl ?_); refine goesL_ (some 6) rfl rfl Try.func51 (by kernel_rfl) rfl #[.agg #[.slice A0_0 l0_0.length c0_0, .int .i64 a0_1]] rfl dz1 ?_; (with_reducible refine (spec_ConfigOk.calls k _ _ l0_0 a0_1 true _ ?side1 ?side2 A3.out).mono ?_); (case side1 => exact dz462); (case side2 => exact HC0_0.out); rintro e w2 ⟨rfl, hb⟩; refine ⟨_, rfl, ?_⟩; replace BK186 := (bkb_ BK186 hb); replace HB := Aside0.mk (below_step dz135 hb); (try clear hb); (try clear hb2); (try clear hk); (try clear hi); obtain ⟨hcz9_0, hcz9_1, hfz9_0, hfz9_1⟩ := cz2_ BK186) | (go_at_call 122; (with_reducible refine (spec_l4Asc.calls k _ _ l1 0 (wrap64 ((l0_0.length : Int) - 1)) t188 _ ?side1 ?side2 A5.out).mono ?_); (case side1 => exact dz463); (case side2 => exact HC1.out); rintro e w' ⟨rfl, ⟨nd, rfl⟩⟩))
  go_ret
  exact dz507
 replace c4 := Bool.eq_false_iff.mpr c4
 subst c4
 have H1 : (some false) = some r := by rw [if_neg (show ¬ (false = true) by decide)] at H; exact H
 clear H
 have H := H1
 clear H1
 obtain rfl := Option.some.inj H
 go_enter Try.func79, Try.ntmps79
 go_wp2_with (first | ((with_reducible refine gate_dst (N := 2) rfl ?_); (try (refine gate_guard (by rfl) ?_; dsimp only)); refine box_event kr_ (N := 2) kr_ (cs := #[.slice A0_0 l0_0.length c0_0, .int .i64 a0_1]) (t := 31) ks_ ?_; intro gb186 hg w1 hbox hb; have BK186 := Aside0.mk (hbox); have GW186 : Aside0 (w.heap.size ≤ gb186) := szl_ hg dz2; have GE186 : Aside0 (w.heap.size ≤ gb186) := szl_ hg dz2; replace HB := Aside0.mk (below_step dz2 hb); clear hb hbox hg; obtain ⟨hcz11_0, hcz11_1, hfz11_0, hfz11_1⟩ := cz2_ BK186) | ((with_reducible refine gate_callee (f := 51) rfl ?_); refine goesL_ (some 6) rfl rfl Try.func51 (by kernel_rfl) rfl #[.agg #[.slice A0_0 l0_0.length c0_0, .int .i64 a0_1]] rfl dz1 ?_; (with_reducible refine (spec_ConfigOk.calls k _ _ l0_0 a0_1 false _ ?side1 ?side2 A3.out).mono ?_); (case side1 => exact dz462); (case side2 => exact HC0_0.out); rintro e w2 ⟨rfl, hb⟩; refine ⟨_, rfl, ?_⟩; replace BK186 := (bkb_ BK186 hb); replace HB := Aside0.mk (below_step dz135 hb); (try clear hb); (try clear hb2); (try clear hk); (try clear hi)))
 go_ret
 exact dz507
end Go.Proofs.Ytdkdhciogedoiab.PFnAdded
