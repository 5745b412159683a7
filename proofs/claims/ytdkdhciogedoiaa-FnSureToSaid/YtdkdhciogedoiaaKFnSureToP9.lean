-- Written by wip/gen/pack.py of this repo. Lean checks it.
import Derived.Test.YtdkdhciogedoiaaKFnSureToP0
import Derived.Test.YtdkdhciogedoiaaKFnSureToP1
import Derived.Test.YtdkdhciogedoiaaKFnSureToP8
import Derived.Test.YtdkdhciogedoiaaKFnSureToD
namespace Go.Proofs.Ytdkdhciogedoiaa.PFnSureTo
open Go.RowKit Go.Proofs.YtdkdhciogedoiaaW.PrintWords Go.Proofs.YtdkdhciogedoiaaW.PrintLast Go.Proofs.YtdkdhciogedoiaaW.PrintMore Go.Proofs.YtdkdhciogedoiaaW.Sq
attribute [local go_sem] max2_int min2_int max_two min_two max_three min_three max_four min_four
set_option linter.unusedVariables false
set_option linter.unusedSimpArgs false
def spec_l4DrawRight.l0 : Nat → Int → Int → List Int → Int → Int → List Int → Int → Option (List Int × Int × Int × Int)
 | 0, _, _, _, _, _, _, _ => none
 | k + 1, x4, x5, x1000, x1001, x1002, x312000, x312001 => if x5 < x4 then ((spec_l1Below.f x1000 x1001 x1002 5).bind fun bt315 => (if x312000.length < 17592186044416 then (spec_l4DrawRight.l0 k x4 (wrap64 (x5 + 1)) x1000 bt315.2.1 bt315.2.2 (x312000 ++ [bt315.1]) x312001) else (none))) else ((spec_l1Once.f x1000 x1001 x1002 2).bind fun bt321 => (if bt321.1 = true then (some (x312000, 2, bt321.2.1, bt321.2.2)) else (some (x312000, x312001, bt321.2.1, bt321.2.2))))
def spec_l4DrawRight.f (k : Nat) (s0_0 : List Int) (s0_1 : Int) (s0_2 : Int) : Option (List Int × Int × Int × Int) := (spec_l1Below.f s0_0 s0_1 s0_2 3).bind fun bt308 => ((spec_l1Below.f s0_0 bt308.2.1 bt308.2.2 5).bind fun bt312 => (spec_l4DrawRight.l0 k (wrap64 (3 + bt312.1)) 0 s0_0 bt312.2.1 bt312.2.2 ([] : List Int) (wrap64 (1 + bt308.1))))
def spec_l4DrawRight.T6 : Bool × List (List Nat × List Nat) := (true, [([], []), ([0], [0]), ([], []), ([2], [2]), ([3], [3]), ([1, 4, 3], [1, 4]), ([0, 1, 2, 3, 4, 5], []), ([6, 5, 5, 0, 1, 2, 3, 4, 5], [5, 6])])
def spec_l4DrawRight.B6 : List Nat := [0, 1, 0, 4, 12, 31, 63, 127]
theorem spec_l4DrawRight.tab6 : rtab .any (opsOf Try.f61 6) = spec_l4DrawRight.T6 := by kernel_rfl
theorem spec_l4DrawRight.bits6 : waitsOk spec_l4DrawRight.T6.2 spec_l4DrawRight.B6 = true := by kernel_rfl
set_option maxHeartbeats 8000000 in
set_option maxRecDepth 100000 in
theorem spec_l4DrawRight.calls (k : Nat) (g : Nat) (s0_0 : List Int) (s0_1 : Int) (s0_2 : Int) (r1 : List Int) (r2 : Int) (r3 : Int) (r4 : Int) (w0 w : World) (hI : IsS133 w0 w g s0_0 s0_1 s0_2) (hB : Below w0.heap.size w0 w) (h : spec_l4DrawRight.f k s0_0 s0_1 s0_2 = some (r1, r2, r3, r4)) :
  Calls Try.prog 61 #[.pointer (some ⟨g, 0, none⟩)] w fun e w' => ∃ v0_ : Value, e = .returned (.agg #[v0_, .int .i64 r2]) ∧ Kd.R (Kd.int .i64) 3 w' w.heap.size (fun _ => True) v0_ r1 ∧ IsS133 w0 w' g s0_0 r3 r4 ∧ Below w0.heap.size w0 w' ∧ KeepBut w w' g none := by
 have hu73 := Try.underlying73
 have HI0 := Aside0.mk hI
 have HK := Aside0.mk (KeepBut.refl w g none)
 have HL := Aside0.mk hB.size
 clear hI
 have HW0 := Aside0.mk hB.size
 have HB := Aside0.mk hB
 clear hB
 have H : ((spec_l1Below.f s0_0 s0_1 s0_2 3).bind fun bt308 => ((spec_l1Below.f s0_0 bt308.2.1 bt308.2.2 5).bind fun bt312 => (spec_l4DrawRight.l0 k (wrap64 (3 + bt312.1)) 0 s0_0 bt312.2.1 bt312.2.2 ([] : List Int) (wrap64 (1 + bt308.1))))) = some (r1, r2, r3, r4) := h
 clear h
 replace H := Option.bind_eq_some_iff.mp H
 obtain ⟨⟨t308, t309, t310⟩, A20, H⟩ := H
 replace H : ((spec_l1Below.f s0_0 t309 t310 5).bind fun bt312 => (spec_l4DrawRight.l0 k (wrap64 (3 + bt312.1)) 0 s0_0 bt312.2.1 bt312.2.2 ([] : List Int) (wrap64 (1 + t308)))) = some (r1, r2, r3, r4) := H
 have A2 := Aside0.mk A20
 clear A20
 replace H := Option.bind_eq_some_iff.mp H
 obtain ⟨⟨t312, t313, t314⟩, A30, H⟩ := H
 replace H : (spec_l4DrawRight.l0 k (wrap64 (3 + t312)) 0 s0_0 t313 t314 ([] : List Int) (wrap64 (1 + t308))) = some (r1, r2, r3, r4) := H
 have A3 := Aside0.mk A30
 clear A30
 have H' := Aside0.mk H
 clear H
 go_enter Try.func61, Try.ntmps61
 go_wp2_with (first | ((with_reducible refine gate_dst (N := 2) rfl ?_); refine box_event kr_ (N := 2) kr_ (cs := #[.slice none 0 0, .int .i64 0]) (t := 73) ks_ ?_; intro gb307 hg w2 hbox hb; replace HB := Aside0.mk (below_step dz27 hb); have BK307 := Aside0.mk (hbox); have GW307 := Aside0.mk ((by rw [hg]; exact (keep_size (w := w) (g := g) (row := none) dz5) : w.heap.size ≤ gb307)); have GE307 := Aside0.mk ((Nat.le_trans HW0.out (by rw [hg]; exact (keep_size (w := w) (g := g) (row := none) dz5) : w.heap.size ≤ gb307) : w0.heap.size ≤ gb307)); replace HK := Aside0.mk (KeepBut.trans dz5 (KeepBut.of_below hb g none) (.inl rfl)); have NB0_307 := Aside0.mk ((by rw [hg]; exact Nat.ne_of_lt (IsS133.lt (show IsS133 w0 _ g s0_0 s0_1 s0_2 from by repeat (first | (with_reducible first | exact HI0.out | apply IsS133.alloc | apply IsS133.drewN | apply IsS133.drew | apply IsS133.set_1 | apply IsS133.set_2) | exact HI0.out))) : g ≠ gb307)); have NB307_0 := Aside0.mk ((by rw [hg]; exact Nat.ne_of_gt (IsS133.lt (show IsS133 w0 _ g s0_0 s0_1 s0_2 from by repeat (first | (with_reducible first | exact HI0.out | apply IsS133.alloc | apply IsS133.drewN | apply IsS133.drew | apply IsS133.set_1 | apply IsS133.set_2) | exact HI0.out))) : gb307 ≠ g)); replace HI0 := Aside0.mk (IsS133.below dz28 hb); clear hb hbox hg) | ((with_reducible refine gate_callee (f := 105) rfl ?_); refine goesL_ (some 7) rfl rfl Try.func105 (by kernel_rfl) rfl #[.pointer (some ⟨g, 0, none⟩), .int .i64 3] rfl dz1 ?_; (with_reducible refine (spec_l1Below.calls g s0_0 s0_1 s0_2 3 t308 t309 t310 w0 _ ?side1 ?side2 A2.out).mono ?_); (case side1 => repeat (first | (with_reducible first | exact HI0.out | apply IsS133.alloc | apply IsS133.drewN | apply IsS133.drew | apply IsS133.set_1 | apply IsS133.set_2 | refine IsS133.far ?_ NB0_307.out _) | exact HI0.out)); (case side2 => repeat (first | (with_reducible first | exact HB.out | apply below_alloc | apply pw_below_drewN | apply below_drew1 | refine below_set ?_ (IsS133.ge HI0.out) | refine below_set ?_ GE307.out) | exact HB.out)); rintro e w3 ⟨rfl, hi, hb, hk⟩; refine ⟨_, rfl, ?_⟩; replace BK307 := Aside0.mk (KeepBut.blk hk (g' := gb307) (o := .cells #[.slice none 0 0, .int .i64 0] 73 (0, 0)) dz50 NB307_0.out (by simp)); replace HK := Aside0.mk (KeepBut.trans dz58 hk (.inl rfl)); replace HB := Aside0.mk (hb); replace HI0 := Aside0.mk (hi); (try clear hb); (try clear hb2); (try clear hk); (try clear hi)) | ((with_reducible refine gate_dst (N := 3) rfl ?_); refine box_event kr_ (N := 3) kr_ (cs := #[.slice none 0 0, .int .i64 0]) (t := 73) ks_ ?_; intro gb311 hg w4 hbox hb; replace HB := Aside0.mk (below_step (by repeat (first | (with_reducible first | exact HB.out | apply below_alloc | apply pw_below_drewN | apply below_drew1 | refine below_set ?_ (IsS133.ge HI0.out) | refine below_set ?_ GE307.out) | exact HB.out)) hb); have BK311 := Aside0.mk (hbox); have GW311 := Aside0.mk ((by rw [hg]; exact (keep_size (w := w) (g := g) (row := none) dz58) : w.heap.size ≤ gb311)); have GE311 := Aside0.mk ((Nat.le_trans HW0.out (by rw [hg]; exact (keep_size (w := w) (g := g) (row := none) dz58) : w.heap.size ≤ gb311) : w0.heap.size ≤ gb311)); replace HK := Aside0.mk (KeepBut.trans dz58 (KeepBut.of_below hb g none) (.inl rfl)); have NB307_311 := (nbl_ hg BK307); have NB311_307 := (nbr_ hg BK307); replace BK307 := (bkb_ BK307 hb); have NB0_311 := Aside0.mk ((by rw [hg]; exact Nat.ne_of_lt (IsS133.lt (show IsS133 w0 _ g s0_0 t309 t310 from by repeat (first | (with_reducible first | exact HI0.out | apply IsS133.alloc | apply IsS133.drewN | apply IsS133.drew | apply IsS133.set_1 | apply IsS133.set_2 | refine IsS133.far ?_ NB0_307.out _) | exact HI0.out))) : g ≠ gb311)); have NB311_0 := Aside0.mk ((by rw [hg]; exact Nat.ne_of_gt (IsS133.lt (show IsS133 w0 _ g s0_0 t309 t310 from by repeat (first | (with_reducible first | exact HI0.out | apply IsS133.alloc | apply IsS133.drewN | apply IsS133.drew | apply IsS133.set_1 | apply IsS133.set_2 | refine IsS133.far ?_ NB0_307.out _) | exact HI0.out))) : gb311 ≠ g)); replace HI0 := Aside0.mk (IsS133.below (by repeat (first | (with_reducible first | exact HI0.out | apply IsS133.alloc | apply IsS133.drewN | apply IsS133.drew | apply IsS133.set_1 | apply IsS133.set_2 | refine IsS133.far ?_ NB0_307.out _) | exact HI0.out)) hb); clear hb hbox hg; have hnb7 := NB311_307.out; have hnc7 := NB307_311.out; have hnb8 := NB311_0.out; have hnc8 := NB0_311.out; obtain ⟨hcz9_0, hcz9_1, hfz9_0, hfz9_1⟩ := cz2_ BK311) | ((with_reducible refine gate_callee (f := 105) rfl ?_); refine goesL_ (some 11) rfl rfl Try.func105 (by kernel_rfl) rfl #[.pointer (some ⟨g, 0, none⟩), .int .i64 5] rfl dz1 ?_; (with_reducible refine (spec_l1Below.calls g s0_0 t309 t310 5 t312 t313 t314 w0 _ ?side1 ?side2 A3.out).mono ?_); (case side1 => exact dz305); (case side2 => exact dz306); rintro e w5 ⟨rfl, hi, hb, hk⟩; refine ⟨_, rfl, ?_⟩; replace BK307 := Aside0.mk (KeepBut.blk hk (g' := gb307) (o := .cells #[.slice none 0 0, .int .i64 0] 73 (0, 0)) (by (with_reducible repeat (first | refine blk_drewN ?_ _ | refine blk_drew ?_ | refine blk_alloc ?_ _)); refine blk_far ?_ NB307_311.out _; (with_reducible repeat (first | refine blk_drewN ?_ _ | refine blk_drew ?_ | refine blk_alloc ?_ _)); refine blk_far ?_ NB307_311.out _; (with_reducible repeat (first | refine blk_drewN ?_ _ | refine blk_drew ?_ | refine blk_alloc ?_ _)); exact BK307.out) NB307_0.out (by simp)); replace BK311 := Aside0.mk (KeepBut.blk hk (g' := gb311) (o := .cells #[.slice none 0 0, .int .i64 (wrap64 (1 + t308))] 73 (0, 0)) (by (with_reducible repeat (first | refine blk_drewN ?_ _ | refine blk_drew ?_ | refine blk_alloc ?_ _)); refine blk_put (cs := #[.slice none 0 0, .int .i64 0]) ?_ 1 _ rfl; (with_reducible repeat (first | refine blk_drewN ?_ _ | refine blk_drew ?_ | refine blk_alloc ?_ _)); refine blk_put (cs := #[.slice none 0 0, .int .i64 0]) ?_ 0 _ rfl; (with_reducible repeat (first | refine blk_drewN ?_ _ | refine blk_drew ?_ | refine blk_alloc ?_ _)); exact BK311.out) NB311_0.out (by simp)); replace HK := Aside0.mk (KeepBut.trans dz45 hk (.inl rfl)); replace HB := Aside0.mk (hb); replace HI0 := Aside0.mk (hi); (try clear hb); (try clear hb2); (try clear hk); (try clear hi)))
 go_loopg [5] k (fun kq v5 w' => ∃ (x5_1 : Int) (x1001_1 : Int) (x1002_1 : Int) (x312000_1 : List Int) (u312000 : Value), v5 = .int .i64 x5_1 ∧ Aside0 (spec_l4DrawRight.l0 kq (wrap64 (3 + t312)) x5_1 s0_0 x1001_1 x1002_1 x312000_1 (wrap64 (1 + t308)) = some (r1, r2, r3, r4)) ∧ Aside0 (kq ≤ k) ∧ Aside0 (Kd.R (Kd.int .i64) 3 w' w.heap.size (fun _ => True) u312000 x312000_1) ∧ Aside0 (w'.heap[gb307]? = some (.cells #[(.slice none 0 0), .int .i64 0] 73 (0, 0))) ∧ Aside0 (w'.heap[gb311]? = some (.cells #[u312000, .int .i64 (wrap64 (1 + t308))] 73 (0, 0))) ∧ Aside0 (IsS133 w0 w' g s0_0 x1001_1 x1002_1) ∧ Aside0 (KeepBut w w' g none) ∧ Aside0 (Below w0.heap.size w0 w'))
 case atStart => exact ⟨(0), (t313), (t314), (([] : List Int)), (.slice none 0 0), dz3, H', ⟨Nat.le_refl _⟩, ⟨by first | exact Kd.R_nil _ _ _ _ _ | exact Kd.N_nil _ _ _ _ _ | exact Kd.V_nil _ _ _ _ _ | exact Kd.Q_nil _ _ _ _ _ | exact Kd.S_nil _ _ _ _ _⟩, ⟨by (with_reducible repeat (first | refine blk_drewN ?_ _ | refine blk_drew ?_ | refine blk_alloc ?_ _)); exact BK307.out⟩, ⟨by (with_reducible repeat (first | refine blk_drewN ?_ _ | refine blk_drew ?_ | refine blk_alloc ?_ _)); exact BK311.out⟩, ⟨by repeat (first | (with_reducible first | exact HI0.out | apply IsS133.alloc | apply IsS133.drewN | apply IsS133.drew | apply IsS133.set_1 | apply IsS133.set_2 | refine IsS133.far ?_ NB0_307.out _ | refine IsS133.far ?_ NB0_311.out _) | exact HI0.out)⟩, ⟨by repeat (first | (with_reducible first | exact HK.out | apply KeepBut.set_ | apply keep_drewN | apply keep_drew | apply keep_alloc | refine keep_far ?_ GW307.out _ | refine keep_far ?_ GW311.out _) | exact HK.out)⟩, ⟨by repeat (first | (with_reducible first | exact HB.out | apply below_alloc | apply pw_below_drewN | apply below_drew1 | refine below_set ?_ (IsS133.ge HI0.out) | refine below_set ?_ GE307.out | refine below_set ?_ GE311.out) | exact HB.out)⟩⟩
 case round =>
  clear H'
  try clear c1
  try clear p2
  try clear c6
  try clear p6
  try clear c7
  try clear c8
  try clear c10
  try clear hcz9_0
  try clear hcz9_1
  try clear hfz9_0
  try clear hfz9_1
  obtain ⟨x5_1, x1001_1, x1002_1, x312000_1, u312000, rfl, HA, HK1, HO_312000, BK307, BK311, HI0, HK, HB⟩ := hrel
  cases gk with
  | zero => exact absurd HA.out (by simp [spec_l4DrawRight.l0])
  | succ k1 =>
   have H := HA.out
   clear HA
   simp only [spec_l4DrawRight.l0] at H
   by_cases c11 : x5_1 < (wrap64 (3 + t312))
   ·rw [if_pos c11] at H
    have c11b0 : decide (x5_1 < (wrap64 (3 + t312))) = true := decide_eq_true c11
    clear c11
    replace H := Option.bind_eq_some_iff.mp H
    obtain ⟨⟨t315, t316, t317⟩, A120, H⟩ := H
    replace H : (if x312000_1.length < 17592186044416 then (spec_l4DrawRight.l0 k1 (wrap64 (3 + t312)) (wrap64 (x5_1 + 1)) s0_0 t316 t317 (x312000_1 ++ [t315]) (wrap64 (1 + t308))) else (none)) = some (r1, r2, r3, r4) := H
    have A12 := Aside0.mk A120
    clear A120
    by_cases c13 : x312000_1.length < 17592186044416
    ·rw [if_pos c13] at H
     have LMc13 := Aside0.mk c13
     clear c13
     obtain ⟨y318, hy318⟩ : ∃ y_ : List Int, y_ = (x312000_1 ++ [t315]) := ⟨_, rfl⟩
     replace H : (spec_l4DrawRight.l0 k1 (wrap64 (3 + t312)) (wrap64 (x5_1 + 1)) s0_0 t316 t317 y318 (wrap64 (1 + t308))) = some (r1, r2, r3, r4) := by first | (rw [hy318]; with_reducible exact H) | (have H2_ := (Option.bind_some _ _).symm.trans H; rw [hy318]; with_reducible exact H2_) | (have H2_ := (Option.bind_some _ _).symm.trans H; with_reducible exact H2_) | with_reducible exact H | (rw [hy318]; exact H) | exact H
     have Ny318 := Aside0.mk hy318
     clear hy318
     have H' := Aside0.mk H
     clear H
     try go_wp2
     replace HO_312000 := Aside0.mk (Kd.R_drew HO_312000.out)
     replace BK307 := Aside0.mk (blk_drew BK307.out)
     replace BK311 := Aside0.mk (blk_drew BK311.out)
     replace HI0 := Aside0.mk (IsS133.drew HI0.out)
     replace HK := Aside0.mk (keep_drew HK.out)
     replace HB := Aside0.mk (below_drew1 HB.out)
     refine start_ (n := 8) (S := fun w' => w'.cell? ⟨gb311, 0, none⟩ = some (u312000) ∧ w'.cell? ⟨gb311, 1, none⟩ = some (.int .i64 (wrap64 (1 + t308)))) (ds := [7]) (fl_ 0 8) (by kernel_rfl) rfl rfl ⟨(blk_cell BK311.out 0).trans rfl, (blk_cell BK311.out 1).trans rfl⟩ (fun hHeld => ?_); refine with_tabW spec_l4DrawRight.tab6 spec_l4DrawRight.bits6 (fun HT_ HW_ => ?_)
     generalize wr.drew = w14 at HO_312000 BK307 BK311 HI0 HK HB hHeld ⊢
     refine pure_ (i := 0) (N := some 18) (v := ?_) (a' := ?_) (fl_ 1 7) rfl rfl (any_of HT_.out (by kernel_rfl)) (fun _ _ _ h => h) (Or.inl ⟨by rfl, ?_⟩) ?_ ?_
     rotate_left
     ·exact dz311
     rotate_left
     ·exact dz312
     refine pure_ (i := 2) (N := some 20) (v := ?_) (a' := ?_) #[true, false, true, false, false, false, false, false] rfl rfl (any_of HT_.out (by kernel_rfl)) (fun _ _ _ h => h) (Or.inl ⟨by rfl, ?_⟩) ?_ ?_
     rotate_left
     ·exact dz311
     rotate_left
     ·exact dz312
     refine take_ (i := 1) (N := some 19) (v := ?_) (a' := ?_) (fl_ 3 5) rfl rfl (take_ofW HT_.out HW_.out (by kernel_rfl)) (fun _ _ _ h => h) (Or.inl ⟨by rfl, ?_⟩) hHeld ?_ ?_
     rotate_left
     ·exact dz313
     rotate_left
     ·exact dz312
     refine one_ (i := 3) (N := some 21) (fl_ 4 4) rfl rfl (one_of HT_.out (by kernel_rfl)) (by decide) (fun K hK => ?_)
     refine goes_ Try.func105 (by kernel_rfl) rfl #[.pointer (some ⟨g, 0, none⟩), .int .i64 5] (by rfl) rfl rfl dz1 ?_
     with_reducible refine (spec_l1Below.calls g s0_0 x1001_1 x1002_1 5 t315 t316 t317 w0 _ ?side1 ?side2 A12.out).mono ?_
     (case side1 => exact dz305)
     (case side2 => exact dz306)
     rintro e w15 ⟨rfl, hi, hb, hk⟩
     refine ⟨_, rfl, ?_⟩
     replace HO_312000 := Aside0.mk (Kd.R_mono (Kd.R_keep (IsS133.apart (show IsS133 w0 _ g s0_0 x1001_1 x1002_1 from by repeat (first | (with_reducible first | exact HI0.out | apply IsS133.alloc | apply IsS133.drewN | apply IsS133.drew | apply IsS133.set_1 | apply IsS133.set_2 | refine IsS133.far ?_ NB0_307.out _ | refine IsS133.far ?_ NB0_311.out _) | exact HI0.out)) dz59 (by decide)) hk (fun _ h => h.2)) (fun _ h => h.1))
     replace BK307 := Aside0.mk (KeepBut.blk hk (g' := gb307) (o := .cells #[.slice none 0 0, .int .i64 0] 73 (0, 0)) dz50 NB307_0.out (by simp))
     replace BK311 := Aside0.mk (KeepBut.blk hk (g' := gb311) (o := .cells #[u312000, .int .i64 (wrap64 (1 + t308))] 73 (0, 0)) dz60 NB311_0.out (by simp))
     replace HK := Aside0.mk (KeepBut.trans dz45 hk (.inl rfl))
     replace HB := Aside0.mk (hb)
     replace HI0 := Aside0.mk (hi)
     (try clear hb)
     (try clear hb2)
     (try clear hk)
     (try clear hi)
     refine hK.out _ _ ⟨(blk_cell BK311.out 0).trans rfl, (blk_cell BK311.out 1).trans rfl⟩ (fun hHeld => ?_)
     clear hK K
     refine norm_ (a' := ?_) ?_ ?_
     rotate_left
     ·show Act.put _ (some 21) _ = _
      simp only [Act.put, List.setIfInBounds_toArray, List.set_cons_zero, List.set_cons_succ, i64_w, i32_w]
      rfl
     refine one_ (i := 4) (N := some 22) (fl_ 5 3) rfl rfl (one_of HT_.out (by kernel_rfl)) (by decide) (fun K hK => ?_)
     refine value_ (w1 := ?_) (v := ?_) (by rfl) rfl ?_ ?_
     rotate_left 2
     ·go_simp
      constructor
      ·rfl
      rfl
     refine hK.out _ _ ⟨(blk_cell (blk_alloc BK311.out _) 0).trans rfl, (blk_cell (blk_alloc BK311.out _) 1).trans rfl⟩ (fun hHeld => ?_)
     clear hK K
     refine norm_ (a' := ?_) ?_ ?_
     rotate_left
     ·show Act.put _ (some 22) _ = _
      simp only [Act.put, List.setIfInBounds_toArray, List.set_cons_zero, List.set_cons_succ, i64_w, i32_w]
      rfl
     refine one_ (i := 5) (N := some 23) (fl_ 6 2) rfl rfl (one_of HT_.out (by kernel_rfl)) (by decide) (fun K hK => ?_)
     refine Kd.R_append_step (Kd.int .i64) w.heap.size (by rfl) (.tmp 19) (.tmp 22) 26 3 (.int .i64 0) 8 rfl Try.underlying26 info3 rfl (by decide) (by omega) u312000 x312000_1 t315 [.int .i64 t315] (fun _ => True) (fun _ => False) rfl rfl ?aP (fun _ hk => hk.elim) ?aF ?aO (Below.refl _ _) ?aS ?aL ?_
     (case aP => exact rfl)
     (case aF => exact (fun _ _ => trivial))
     (case aO => exact dz59)
     (case aS => exact (keep_size (w := w) (g := g) (row := none) dz45))
     (case aL => have := LMc13.out; omega)
     intro v319 w16 ho hb hg hat
     rw [← Ny318.out] at ho
     replace BK307 := Aside0.mk (blk_grown (g := gb307) (o := .cells #[.slice none 0 0, .int .i64 0] 73 (0, 0)) dz50 hg (Kd.R_ne HO_312000.out BK307.out (by decide)))
     replace BK311 := Aside0.mk (blk_grown (g := gb311) (o := .cells #[u312000, .int .i64 (wrap64 (1 + t308))] 73 (0, 0)) dz60 hg (Kd.R_ne HO_312000.out BK311.out (by decide)))
     replace HB := Aside0.mk (below_weaken (by repeat (first | (with_reducible first | exact HB.out | apply below_alloc | apply pw_below_drewN | apply below_drew1 | refine below_set ?_ (IsS133.ge HI0.out) | refine below_set ?_ GE307.out | refine below_set ?_ GE311.out) | exact HB.out)) HL.out hb)
     replace HI0 := Aside0.mk (IsS133.grown (by repeat (first | (with_reducible first | exact HI0.out | apply IsS133.alloc | apply IsS133.drewN | apply IsS133.drew | apply IsS133.set_1 | apply IsS133.set_2 | refine IsS133.far ?_ NB0_307.out _ | refine IsS133.far ?_ NB0_311.out _) | exact HI0.out)) hg (IsS133.own_ne HI0.out HO_312000.out (by decide)))
     replace HK := Aside0.mk (KeepBut.trans dz45 (KeepBut.of_grown hg g) (Kd.R_base2 HO_312000.out))
     have HO320 := Aside0.mk (ho)
     clear HO_312000
     clear ho hb hg hat
     obtain ⟨Ao17, co17, eo17⟩ := Kd.R_slice HO320.out
     (first | subst eo17 | (injection eo17 with f1_ f2_ f3_; have f4_ := f1_.symm; have f5_ := f3_.symm; clear f1_ f2_ f3_; subst f4_; subst f5_))
     refine hK.out _ _ ⟨(blk_cell BK311.out 0).trans rfl, (blk_cell BK311.out 1).trans rfl⟩ (fun hHeld => ?_)
     clear hK K
     refine norm_ (a' := ?_) ?_ ?_
     rotate_left
     ·show Act.put _ (some 23) _ = _
      simp only [Act.put, List.setIfInBounds_toArray, List.set_cons_zero, List.set_cons_succ, i64_w, i32_w]
      rfl
     refine pure_ (i := 6) (N := some 24) (v := ?_) (a' := ?_) (fl_ 7 1) rfl rfl (any_of HT_.out (by kernel_rfl)) (fun _ _ _ h => h) (Or.inl ⟨by rfl, ?_⟩) ?_ ?_
     rotate_left
     ·exact dz311
     rotate_left
     ·exact dz312
     refine last_ (i := 7) (N := none) (fl_ 8 0) rfl rfl (one_of HT_.out (by kernel_rfl)) (by decide) (fun K hK => ?_)
     have hs18 : w16.cell? ⟨gb311, 0, none⟩ = some (u312000) := (blk_cell BK311.out 0).trans rfl
     have hfs18 := blk_frozen BK311.out 0
     have hns18_0 := NB307_311.out
     have hms18_0 := NB311_307.out
     refine skip_ (w1 := ?_) (by rfl) rfl ?_ ?_
     rotate_left
     ·go_simp
      rfl
     refine hK.out _ _ ?_
     clear hK K
     refine done_ (done_of HT_.out (by kernel_rfl)) ?_
     try go_wp2
     go_roundg k1
     case measure => have := HK1.out; omega
     case rel => exact ⟨(wrap64 (x5_1 + 1)), (t316), (t317), (y318), (.slice Ao17 y318.length co17), dz3, H', ⟨by have := HK1.out; omega⟩, ⟨by (with_reducible repeat (first | apply Kd.R_alloc | apply Kd.R_drewN | apply Kd.R_drew)); exact Kd.R_mono (Kd.R_far (p := ⟨gb311, 0, none⟩) (Kd.R_types HO320.out BK311.out (by decide)) (fun _ hk => hk.2) (.slice Ao17 y318.length co17)) (fun _ hk => trivial)⟩, ⟨by (with_reducible repeat (first | refine blk_drewN ?_ _ | refine blk_drew ?_ | refine blk_alloc ?_ _)); refine blk_far ?_ NB307_311.out _; (with_reducible repeat (first | refine blk_drewN ?_ _ | refine blk_drew ?_ | refine blk_alloc ?_ _)); exact BK307.out⟩, ⟨by (with_reducible repeat (first | refine blk_drewN ?_ _ | refine blk_drew ?_ | refine blk_alloc ?_ _)); refine blk_put (cs := #[u312000, .int .i64 (wrap64 (1 + t308))]) ?_ 0 _ rfl; (with_reducible repeat (first | refine blk_drewN ?_ _ | refine blk_drew ?_ | refine blk_alloc ?_ _)); exact BK311.out⟩, ⟨by repeat (first | (with_reducible first | exact HI0.out | apply IsS133.alloc | apply IsS133.drewN | apply IsS133.drew | apply IsS133.set_1 | apply IsS133.set_2 | refine IsS133.far ?_ NB0_307.out _ | refine IsS133.far ?_ NB0_311.out _) | exact HI0.out)⟩, ⟨by repeat (first | (with_reducible first | exact HK.out | apply KeepBut.set_ | apply keep_drewN | apply keep_drew | apply keep_alloc | refine keep_far ?_ GW307.out _ | refine keep_far ?_ GW311.out _) | exact HK.out)⟩, ⟨by repeat (first | (with_reducible first | exact HB.out | apply below_alloc | apply pw_below_drewN | apply below_drew1 | refine below_set ?_ (IsS133.ge HI0.out) | refine below_set ?_ GE307.out | refine below_set ?_ GE311.out) | exact HB.out)⟩⟩
    rw [if_neg c13] at H
    exact absurd H (by simp)
   rw [if_neg c11] at H
   have c11b0 : decide (x5_1 < (wrap64 (3 + t312))) = false := decide_eq_false c11
   clear c11
   replace H := Option.bind_eq_some_iff.mp H
   obtain ⟨⟨t321, t322, t323⟩, A190, H⟩ := H
   replace H : (if t321 = true then (some (x312000_1, 2, t322, t323)) else (some (x312000_1, (wrap64 (1 + t308)), t322, t323))) = some (r1, r2, r3, r4) := H
   have A19 := Aside0.mk A190
   clear A190
   by_cases c20 : t321 = true
   ·subst c20
    have H1 : (some (x312000_1, 2, t322, t323)) = some (r1, r2, r3, r4) := by rw [if_pos rfl] at H; exact H
    clear H
    have H := H1
    clear H1
    simp only [Option.some.injEq, Prod.mk.injEq] at H
    obtain ⟨rfl, rfl, rfl, rfl⟩ := H
    go_wp2_with (first | ((with_reducible refine gate_callee (f := 84) rfl ?_); refine goesL_ (some 26) rfl rfl Try.func84 (by kernel_rfl) rfl #[.pointer (some ⟨g, 0, none⟩), .int .i64 2] rfl dz1 ?_; (with_reducible refine (spec_l1Once.calls g s0_0 x1001_1 x1002_1 2 true t322 t323 w0 _ ?side1 ?side2 A19.out).mono ?_); (case side1 => exact dz305); (case side2 => exact dz306); rintro e w21 ⟨rfl, hi, hb, hk⟩; refine ⟨_, rfl, ?_⟩; replace HO_312000 := Aside0.mk (Kd.R_mono (Kd.R_keep (IsS133.apart (show IsS133 w0 _ g s0_0 x1001_1 x1002_1 from by repeat (first | (with_reducible first | exact HI0.out | apply IsS133.alloc | apply IsS133.drewN | apply IsS133.drew | apply IsS133.set_1 | apply IsS133.set_2 | refine IsS133.far ?_ NB0_307.out _ | refine IsS133.far ?_ NB0_311.out _) | exact HI0.out)) dz59 (by decide)) hk (fun _ h => h.2)) (fun _ h => h.1)); replace BK307 := Aside0.mk (KeepBut.blk hk (g' := gb307) (o := .cells #[.slice none 0 0, .int .i64 0] 73 (0, 0)) dz50 NB307_0.out (by simp)); replace BK311 := Aside0.mk (KeepBut.blk hk (g' := gb311) (o := .cells #[u312000, .int .i64 (wrap64 (1 + t308))] 73 (0, 0)) dz60 NB311_0.out (by simp)); replace HK := Aside0.mk (KeepBut.trans dz45 hk (.inl rfl)); replace HB := Aside0.mk (hb); replace HI0 := Aside0.mk (hi); (try clear hb); (try clear hb2); (try clear hk); (try clear hi); have hnb22 := NB311_307.out; have hnc22 := NB307_311.out; have hnb23 := NB311_0.out; have hnc23 := NB0_311.out; obtain ⟨hcz24_0, hcz24_1, hfz24_0, hfz24_1⟩ := cz2_ BK311; obtain ⟨Ao25, co25, eo25⟩ := Kd.R_slice HO_312000.out; subst eo25; have hnb26 := NB307_0.out; have hnc26 := NB0_307.out; obtain ⟨hcz27_0, hcz27_1, hfz27_0, hfz27_1⟩ := cz2_ BK307))
    refine bodyPost_ret (results_cell_row rfl _ _ gb307 73 #[.slice Ao25 x312000_1.length co25, .int .i64 2] (0, 0) _ rfl (by (with_reducible repeat (first | refine blk_drewN ?_ _ | refine blk_drew ?_ | refine blk_alloc ?_ _)); refine blk_put (cs := #[.slice Ao25 x312000_1.length co25, .int .i64 0]) ?_ 1 _ rfl; (with_reducible repeat (first | refine blk_drewN ?_ _ | refine blk_drew ?_ | refine blk_alloc ?_ _)); refine blk_put (cs := #[.slice none 0 0, .int .i64 0]) ?_ 0 _ rfl; (with_reducible repeat (first | refine blk_drewN ?_ _ | refine blk_drew ?_ | refine blk_alloc ?_ _)); refine blk_far ?_ NB307_311.out _; (with_reducible repeat (first | refine blk_drewN ?_ _ | refine blk_drew ?_ | refine blk_alloc ?_ _)); exact BK307.out) Try.underlying73 rfl (by kernel_rfl)) rfl ?_
    exact ⟨_, by first | rfl | (simp [errW_none, errW_some] <;> rfl) | (simp [*, errW_none, errW_some] <;> rfl), by (with_reducible repeat (first | apply Kd.R_alloc | apply Kd.R_drewN | apply Kd.R_drew)); exact Kd.R_mono (Kd.R_far (p := ⟨gb307, 1, none⟩) (Kd.R_far (p := ⟨gb307, 0, none⟩) (Kd.R_far (p := ⟨gb311, 1, none⟩) (Kd.R_types (Kd.R_types HO_312000.out BK311.out (by decide)) BK307.out (by decide)) (fun _ hk => hk.1.2) (.int .i64 2)) (fun _ hk => hk.2) (.slice Ao25 x312000_1.length co25)) (fun _ hk => hk.2) (.int .i64 2)) (fun _ hk => trivial), by repeat (first | (with_reducible first | exact HI0.out | apply IsS133.alloc | apply IsS133.drewN | apply IsS133.drew | apply IsS133.set_1 | apply IsS133.set_2 | refine IsS133.far ?_ NB0_307.out _ | refine IsS133.far ?_ NB0_311.out _) | exact HI0.out), by repeat (first | (with_reducible first | exact HB.out | apply below_alloc | apply pw_below_drewN | apply below_drew1 | refine below_set ?_ (IsS133.ge HI0.out) | refine below_set ?_ GE307.out | refine below_set ?_ GE311.out) | exact HB.out), by repeat (first | (with_reducible first | exact HK.out | apply KeepBut.set_ | apply keep_drewN | apply keep_drew | apply keep_alloc | refine keep_far ?_ GW307.out _ | refine keep_far ?_ GW311.out _) | exact HK.out)⟩
   replace c20 := Bool.eq_false_iff.mpr c20
   subst c20
   have H1 : (some (x312000_1, (wrap64 (1 + t308)), t322, t323)) = some (r1, r2, r3, r4) := by rw [if_neg (show ¬ (false = true) by decide)] at H; exact H
   clear H
   have H := H1
   clear H1
   simp only [Option.some.injEq, Prod.mk.injEq] at H
   obtain ⟨rfl, rfl, rfl, rfl⟩ := H
   go_wp2_with (first | ((with_reducible refine gate_callee (f := 84) rfl ?_); refine goesL_ (some 26) rfl rfl Try.func84 (by kernel_rfl) rfl #[.pointer (some ⟨g, 0, none⟩), .int .i64 2] rfl dz1 ?_; (with_reducible refine (spec_l1Once.calls g s0_0 x1001_1 x1002_1 2 false t322 t323 w0 _ ?side1 ?side2 A19.out).mono ?_); (case side1 => exact dz305); (case side2 => exact dz306); rintro e w28 ⟨rfl, hi, hb, hk⟩; refine ⟨_, rfl, ?_⟩; replace HO_312000 := Aside0.mk (Kd.R_mono (Kd.R_keep (IsS133.apart (show IsS133 w0 _ g s0_0 x1001_1 x1002_1 from by repeat (first | (with_reducible first | exact HI0.out | apply IsS133.alloc | apply IsS133.drewN | apply IsS133.drew | apply IsS133.set_1 | apply IsS133.set_2 | refine IsS133.far ?_ NB0_307.out _ | refine IsS133.far ?_ NB0_311.out _) | exact HI0.out)) dz59 (by decide)) hk (fun _ h => h.2)) (fun _ h => h.1)); replace BK307 := Aside0.mk (KeepBut.blk hk (g' := gb307) (o := .cells #[.slice none 0 0, .int .i64 0] 73 (0, 0)) dz50 NB307_0.out (by simp)); replace BK311 := Aside0.mk (KeepBut.blk hk (g' := gb311) (o := .cells #[u312000, .int .i64 (wrap64 (1 + t308))] 73 (0, 0)) dz60 NB311_0.out (by simp)); replace HK := Aside0.mk (KeepBut.trans dz45 hk (.inl rfl)); replace HB := Aside0.mk (hb); replace HI0 := Aside0.mk (hi); (try clear hb); (try clear hb2); (try clear hk); (try clear hi); have hnb29 := NB311_307.out; have hnc29 := NB307_311.out; have hnb30 := NB311_0.out; have hnc30 := NB0_311.out; obtain ⟨hcz31_0, hcz31_1, hfz31_0, hfz31_1⟩ := cz2_ BK311; obtain ⟨Ao32, co32, eo32⟩ := Kd.R_slice HO_312000.out; subst eo32; have hnb33 := NB307_0.out; have hnc33 := NB0_307.out; obtain ⟨hcz34_0, hcz34_1, hfz34_0, hfz34_1⟩ := cz2_ BK307))
   refine bodyPost_ret (results_cell_row rfl _ _ gb307 73 #[.slice Ao32 x312000_1.length co32, .int .i64 (wrap64 (1 + t308))] (0, 0) _ rfl (by (with_reducible repeat (first | refine blk_drewN ?_ _ | refine blk_drew ?_ | refine blk_alloc ?_ _)); refine blk_put (cs := #[.slice Ao32 x312000_1.length co32, .int .i64 0]) ?_ 1 _ rfl; (with_reducible repeat (first | refine blk_drewN ?_ _ | refine blk_drew ?_ | refine blk_alloc ?_ _)); refine blk_put (cs := #[.slice none 0 0, .int .i64 0]) ?_ 0 _ rfl; (with_reducible repeat (first | refine blk_drewN ?_ _ | refine blk_drew ?_ | refine blk_alloc ?_ _)); exact BK307.out) Try.underlying73 rfl (by kernel_rfl)) rfl ?_
   exact ⟨_, by first | rfl | (simp [errW_none, errW_some] <;> rfl) | (simp [*, errW_none, errW_some] <;> rfl), by (with_reducible repeat (first | apply Kd.R_alloc | apply Kd.R_drewN | apply Kd.R_drew)); exact Kd.R_mono (Kd.R_far (p := ⟨gb307, 1, none⟩) (Kd.R_far (p := ⟨gb307, 0, none⟩) (Kd.R_types HO_312000.out BK307.out (by decide)) (fun _ hk => hk.2) (.slice Ao32 x312000_1.length co32)) (fun _ hk => hk.2) (.int .i64 (wrap64 (1 + t308)))) (fun _ hk => trivial), by repeat (first | (with_reducible first | exact HI0.out | apply IsS133.alloc | apply IsS133.drewN | apply IsS133.drew | apply IsS133.set_1 | apply IsS133.set_2 | refine IsS133.far ?_ NB0_307.out _ | refine IsS133.far ?_ NB0_311.out _) | exact HI0.out), by repeat (first | (with_reducible first | exact HB.out | apply below_alloc | apply pw_below_drewN | apply below_drew1 | refine below_set ?_ (IsS133.ge HI0.out) | refine below_set ?_ GE307.out | refine below_set ?_ GE311.out) | exact HB.out), by repeat (first | (with_reducible first | exact HK.out | apply KeepBut.set_ | apply keep_drewN | apply keep_drew | apply keep_alloc | refine keep_far ?_ GW307.out _ | refine keep_far ?_ GW311.out _) | exact HK.out)⟩
def spec_DrawWriterSure.f (k : Nat) (l0 : List Int) : Option (Int × (List (S53))) := (spec_l1New.f k l0).bind fun bt325 => ((spec_l4DrawRight.f k bt325.1 bt325.2.1 bt325.2.2).bind fun bt329 => ((spec_l8Draw.f k bt325.1 bt329.2.2.1 bt329.2.2.2 bt329.1 bt329.2.1).bind fun bt335 => (some (bt335.1, bt335.2.1))))
set_option maxHeartbeats 8000000 in
set_option maxRecDepth 100000 in
theorem spec_DrawWriterSure.calls (k : Nat) (A0 : Option Addr) (c0 : Nat) (l0 : List Int) (r1 : Int) (r2 : List (S53)) (w : World) (hr0 : Kd.C (Kd.int .u8) w A0 l0.length l0) (hc0 : l0.length ≤ c0) (h : spec_DrawWriterSure.f k l0 = some (r1, r2)) :
  Calls Try.prog 24 #[.slice A0 l0.length c0] w fun e w' => ∃ v1_ : Value, e = .returned (.agg #[.int .i64 r1, v1_]) ∧ Kd.N k53 53 w' w.heap.size (fun k_ => (w.heap.size ≤ k_)) v1_ r2 ∧ Below w.heap.size w w' := by
 have hu49 := Try.underlying49
 have HR0 := Aside0.mk hr0
 have HC0 := Aside0.mk hc0
 clear hr0 hc0
 have HB := Aside0.mk (Below.refl w.heap.size w)
 have H : ((spec_l1New.f k l0).bind fun bt325 => ((spec_l4DrawRight.f k bt325.1 bt325.2.1 bt325.2.2).bind fun bt329 => ((spec_l8Draw.f k bt325.1 bt329.2.2.1 bt329.2.2.2 bt329.1 bt329.2.1).bind fun bt335 => (some (bt335.1, bt335.2.1))))) = some (r1, r2) := h
 clear h
 replace H := Option.bind_eq_some_iff.mp H
 obtain ⟨⟨t325, t326, t327⟩, A20, H⟩ := H
 replace H : ((spec_l4DrawRight.f k t325 t326 t327).bind fun bt329 => ((spec_l8Draw.f k t325 bt329.2.2.1 bt329.2.2.2 bt329.1 bt329.2.1).bind fun bt335 => (some (bt335.1, bt335.2.1)))) = some (r1, r2) := H
 have A2 := Aside0.mk A20
 clear A20
 replace H := Option.bind_eq_some_iff.mp H
 obtain ⟨⟨t329, t332, t333, t334⟩, A30, H⟩ := H
 replace H : ((spec_l8Draw.f k t325 t333 t334 t329 t332).bind fun bt335 => (some (bt335.1, bt335.2.1))) = some (r1, r2) := H
 have A3 := Aside0.mk A30
 clear A30
 replace H := Option.bind_eq_some_iff.mp H
 obtain ⟨⟨t335, t336, t339, t340⟩, A40, H⟩ := H
 replace H : (some (t335, t336)) = some (r1, r2) := H
 have A4 := Aside0.mk A40
 clear A40
 simp only [Option.some.injEq, Prod.mk.injEq] at H
 obtain ⟨rfl, rfl⟩ := H
 go_enter Try.func24, Try.ntmps24
 go_wp2_with (first | ((with_reducible refine gate_dst (N := 2) rfl ?_); refine box_event kr_ (N := 2) kr_ (cs := #[.int .i64 0, .slice none 0 0]) (t := 49) ks_ ?_; intro gb324 hg w1 hbox hb; have BK324 := Aside0.mk (hbox); have GW324 : Aside0 (w.heap.size ≤ gb324) := szl_ hg dz2; have GE324 : Aside0 (w.heap.size ≤ gb324) := szl_ hg dz2; replace HB := Aside0.mk (below_step dz2 hb); clear hb hbox hg) | ((with_reducible refine gate_callee (f := 59) rfl ?_); refine goesL_ (some 5) rfl rfl Try.func59 (by kernel_rfl) rfl #[.slice A0 l0.length c0] rfl dz1 ?_; (with_reducible refine (spec_l1New.calls k _ _ l0 t325 t326 t327 w _ ?side1 ?side2 ?side3 A2.out).mono ?_); (case side1 => repeat (first | (with_reducible first | exact HB.out | apply below_alloc | apply pw_below_drewN | apply below_drew1 | refine below_set ?_ GE324.out) | exact HB.out)); (case side2 => exact HR0.out); (case side3 => exact HC0.out); rintro e w2 ⟨g328, rfl, hi, hb, hb2⟩; refine ⟨_, rfl, ?_⟩; replace HB := Aside0.mk (hb); have HI328 := Aside0.mk (hi); have NB328_324 := Aside0.mk (IsS133.ne_blk hi (blk_below (g := gb324) (o := .cells #[.int .i64 0, .slice none 0 0] 49 (0, 0)) dz46 hb2) (by decide)); have NB324_328 := Aside0.mk (Ne.symm (IsS133.ne_blk hi (blk_below (g := gb324) (o := .cells #[.int .i64 0, .slice none 0 0] 49 (0, 0)) dz46 hb2) (by decide))); replace BK324 := Aside0.mk (blk_below (g := gb324) (o := .cells #[.int .i64 0, .slice none 0 0] 49 (0, 0)) dz46 hb2); (try clear hb); (try clear hb2); (try clear hk); (try clear hi)) | ((with_reducible refine gate_callee (f := 61) rfl ?_); refine goesL_ (some 8) rfl rfl Try.func61 (by kernel_rfl) rfl #[.pointer (some ⟨g328, 0, none⟩)] rfl dz1 ?_; (with_reducible refine (spec_l4DrawRight.calls k g328 t325 t326 t327 t329 t332 t333 t334 w _ ?side1 ?side2 A3.out).mono ?_); (case side1 => exact dz307); (case side2 => exact dz308); rintro e w3 ⟨v330, rfl, ho0, hi, hb, hk⟩; refine ⟨_, rfl, ?_⟩; replace BK324 := Aside0.mk (KeepBut.blk hk (g' := gb324) (o := .cells #[.int .i64 0, .slice none 0 0] 49 (0, 0)) dz46 NB324_328.out (by simp)); have HO331 := Aside0.mk (Kd.R_lower (Kd.R_newM (M := fun k_ => (w.heap.size ≤ k_)) ho0 (below_size dz61) (fun k_ h_ => h_)) (below_size dz61)); replace HB := Aside0.mk (hb); replace HI328 := Aside0.mk (hi); (try clear hb); (try clear hb2); (try clear hk); (try clear hi); (try clear ho0); obtain ⟨Ao8, co8, eo8⟩ := Kd.R_slice HO331.out; subst eo8) | ((with_reducible refine gate_callee (f := 60) rfl ?_); refine goesL_ (some 9) rfl rfl Try.func60 (by kernel_rfl) rfl #[.pointer (some ⟨g328, 0, none⟩), .agg #[.slice Ao8 t329.length co8, .int .i64 t332]] rfl dz1 ?_; (with_reducible refine (spec_l8Draw.calls k g328 t325 t333 t334 _ _ t329 t332 t335 t336 t339 t340 w _ ?side1 ?side2 ?side3 ?side4 ?side5 A4.out).mono ?_); (case side1 => exact dz307); (case side2 => exact dz308); (case side3 => repeat (first | exact (Kd.R_reads' HO331.out).2.2 | (with_reducible refine Kd.C_alloc ?_ _) | (with_reducible refine Kd.C_drewN ?_ _) | (with_reducible refine Kd.C_drew ?_))); (case side4 => exact (Kd.R_reads' HO331.out).2.1); (case side5 => exact far_slice (IsS133.own_ne HI328.out HO331.out (by decide))); rintro e w4 ⟨v337, rfl, ho0, hi, hb, hk⟩; refine ⟨_, rfl, ?_⟩; have HO338 := Aside0.mk (Kd.N_lower (Kd.N_mono (ok' := fun k_ => (w.heap.size ≤ k_) ∧ some k_ ≠ (.slice Ao8 t329.length co8 : Value).ownBlock ∧ k_ ≠ gb324 ∧ k_ ≠ g328) ho0 (fun k_ hk_ => ⟨(Nat.le_trans (below_size dz61) hk_), (Kd.fresh' (Kd.R_lt (by (with_reducible repeat (first | apply Kd.R_alloc | apply Kd.R_drewN | apply Kd.R_drew)); exact HO331.out)) k_ hk_), (Kd.freshB (g := gb324) (o := .cells #[.int .i64 0, .slice none 0 0] 49 (0, 0)) dz46 k_ hk_), (IsS133.fresh (by repeat (first | (with_reducible first | exact HI328.out | apply IsS133.alloc | apply IsS133.drewN | apply IsS133.drew | apply IsS133.set_1 | apply IsS133.set_2 | refine IsS133.far ?_ NB328_324.out _) | exact HI328.out)) k_ hk_)⟩)) (below_size dz61)); replace BK324 := Aside0.mk (KeepBut.blk hk (g' := gb324) (o := .cells #[.int .i64 0, .slice none 0 0] 49 (0, 0)) dz46 NB324_328.out (by simp)); replace HO331 := Aside0.mk (Kd.R_mono (Kd.R_keep (IsS133.apart (show IsS133 w _ g328 t325 t333 t334 from by repeat (first | (with_reducible first | exact HI328.out | apply IsS133.alloc | apply IsS133.drewN | apply IsS133.drew | apply IsS133.set_1 | apply IsS133.set_2 | refine IsS133.far ?_ NB328_324.out _) | exact HI328.out)) (by (with_reducible repeat (first | apply Kd.R_alloc | apply Kd.R_drewN | apply Kd.R_drew)); exact HO331.out) (by decide)) hk (fun _ h => h.2)) (fun _ h => h.1)); replace HB := Aside0.mk (hb); replace HI328 := Aside0.mk (hi); (try clear hb); (try clear hb2); (try clear hk); (try clear hi); (try clear ho0); have hnb10 := NB324_328.out; have hnc10 := NB328_324.out; obtain ⟨hcz11_0, hcz11_1, hfz11_0, hfz11_1⟩ := cz2_ BK324; obtain ⟨Ao12, co12, eo12⟩ := Kd.N_slice HO338.out; subst eo12))
 refine bodyPost_ret (results_cell_row rfl _ _ gb324 49 #[.int .i64 t335, .slice Ao12 t336.length co12] (0, 0) _ rfl (by (with_reducible repeat (first | refine blk_drewN ?_ _ | refine blk_drew ?_ | refine blk_alloc ?_ _)); refine blk_put (cs := #[.int .i64 t335, .slice none 0 0]) ?_ 1 _ rfl; (with_reducible repeat (first | refine blk_drewN ?_ _ | refine blk_drew ?_ | refine blk_alloc ?_ _)); refine blk_put (cs := #[.int .i64 0, .slice none 0 0]) ?_ 0 _ rfl; (with_reducible repeat (first | refine blk_drewN ?_ _ | refine blk_drew ?_ | refine blk_alloc ?_ _)); exact BK324.out) Try.underlying49 rfl (by kernel_rfl)) rfl ?_
 exact ⟨_, by first | rfl | (simp [errW_none, errW_some] <;> rfl) | (simp [*, errW_none, errW_some] <;> rfl), by (with_reducible repeat (first | apply Kd.N_alloc | apply Kd.N_drewN | apply Kd.N_drew)); exact Kd.N_mono (Kd.N_far (p := ⟨gb324, 1, none⟩) (Kd.N_far (p := ⟨gb324, 0, none⟩) (Kd.N_mono HO338.out (fun k_ hk => (⟨hk, hk.2.2.1⟩ : _ ∧ k_ ≠ gb324))) (fun _ hk => hk.2) (.int .i64 t335)) (fun _ hk => hk.2) (.slice Ao12 t336.length co12)) (fun _ hk => hk.1.1), by repeat (first | (with_reducible first | exact HB.out | apply below_alloc | apply pw_below_drewN | apply below_drew1 | refine below_set ?_ (IsS133.ge HI328.out) | refine below_set ?_ GE324.out) | exact HB.out)⟩
def impl_WriterSure.l0 : Nat → List (S53) → Int → Int → Int → List (S53) → Option (Int)
 | 0, _, _, _, _, _ => none
 | k + 1, x6, x7, x8, x342000, x342001 => if x8 < x7 then (if 0 ≤ x8 then (if x8 < (x6.length : Int) then (if ((rd_T53 x6 x8).f2 = true) then (impl_WriterSure.l0 k x6 x7 (wrap64 (x8 + 1)) x342000 x342001) else (some x8)) else (none)) else (none)) else (some (x342001.length : Int))
def impl_WriterSure.f (k : Nat) (a0_0 : Int) (l0_1 : List (S53)) : Option (Int) := impl_WriterSure.l0 k l0_1 (l0_1.length : Int) 0 a0_0 l0_1
set_option maxHeartbeats 8000000 in
set_option maxRecDepth 100000 in
theorem impl_WriterSure.calls (k : Nat) (a0_0 : Int) (A0_1 : Option Addr) (c0_1 : Nat) (l0_1 : List (S53)) (r : Int) (w : World) (hr0_1 : Kd.C k53 w A0_1 l0_1.length l0_1) (hc0_1 : l0_1.length ≤ c0_1) (h : impl_WriterSure.f k a0_0 l0_1 = some r) :
  Calls Try.prog 25 #[.agg #[.int .i64 a0_0, .slice A0_1 l0_1.length c0_1]] w fun e w' => e = .returned (.int .i64 r) ∧ Below w.heap.size w w' := by
 have hu49 := Try.underlying49
 have hu53 := Try.underlying53
 have HR0_1 := Aside0.mk hr0_1
 have HC0_1 := Aside0.mk hc0_1
 clear hr0_1 hc0_1
 have HB := Aside0.mk (Below.refl w.heap.size w)
 have H : (impl_WriterSure.l0 k l0_1 (l0_1.length : Int) 0 a0_0 l0_1) = some r := h
 clear h
 have H' := Aside0.mk H
 clear H
 go_enter Try.func25, Try.ntmps25
 go_wp2_with (first | ((with_reducible refine gate_dst (N := 1) rfl ?_); refine box_event kr_ (N := 1) kr_ (cs := #[.int .i64 a0_0, .slice A0_1 l0_1.length c0_1]) (t := 49) ks_ ?_; intro gb341 hg w1 hbox hb; have BK341 := Aside0.mk (hbox); have GW341 : Aside0 (w.heap.size ≤ gb341) := szl_ hg dz2; have GE341 : Aside0 (w.heap.size ≤ gb341) := szl_ hg dz2; replace HB := Aside0.mk (below_step dz2 hb); clear hb hbox hg; obtain ⟨hcz3_0, hcz3_1, hfz3_0, hfz3_1⟩ := cz2_ BK341))
 go_loopg [8] k (fun kq v8 w' => ∃ (x8_1 : Int), v8 = .int .i64 x8_1 ∧ Aside0 (impl_WriterSure.l0 kq l0_1 (l0_1.length : Int) x8_1 a0_0 l0_1 = some r) ∧ Aside0 (kq ≤ k) ∧ Aside0 (w'.heap[gb341]? = some (.cells #[.int .i64 a0_0, (.slice A0_1 l0_1.length c0_1)] 49 (0, 0))) ∧ Aside0 (Below w.heap.size w w'))
 case atStart => exact ⟨(0), dz3, H', ⟨Nat.le_refl _⟩, ⟨by (with_reducible repeat (first | refine blk_drewN ?_ _ | refine blk_drew ?_ | refine blk_alloc ?_ _)); exact BK341.out⟩, ⟨by repeat (first | (with_reducible first | exact HB.out | apply below_alloc | apply pw_below_drewN | apply below_drew1 | refine below_set ?_ GE341.out) | exact HB.out)⟩⟩
 case round =>
  clear H'
  try clear c2
  try clear p2
  try clear hcz3_0
  try clear hcz3_1
  try clear hfz3_0
  try clear hfz3_1
  obtain ⟨x8_1, rfl, HA, HK1, BK341, HB⟩ := hrel
  cases gk with
  | zero => exact absurd HA.out (by simp [impl_WriterSure.l0])
  | succ k1 =>
   have H := HA.out
   clear HA
   simp only [impl_WriterSure.l0] at H
   by_cases c4 : x8_1 < (l0_1.length : Int)
   ·rw [if_pos c4] at H
    have c4b0 : decide (x8_1 < (l0_1.length : Int)) = true := decide_eq_true c4
    clear c4
    by_cases c5 : 0 ≤ x8_1
    ·rw [if_pos c5] at H
     have c5b0 : decide (0 ≤ x8_1) = true := decide_eq_true c5
     clear c5
     by_cases c6 : x8_1 < (l0_1.length : Int)
     ·rw [if_pos c6] at H
      have c6b0 : decide (x8_1 < (l0_1.length : Int)) = true := decide_eq_true c6
      clear c6
      obtain ⟨bq7, hbq7⟩ : ∃ b_ : Bool, b_ = ((rd_T53 l0_1 x8_1).f2) := ⟨_, rfl⟩
      replace H : (if (bq7 = true) then (impl_WriterSure.l0 k1 l0_1 (l0_1.length : Int) (wrap64 (x8_1 + 1)) a0_0 l0_1) else (some x8_1)) = some r := by rw [← hbq7] at H; exact H
      have Nbq7 := Aside0.mk hbq7
      clear hbq7
      by_cases c8 : (bq7 = true)
      ·subst c8
       have H1 : (impl_WriterSure.l0 k1 l0_1 (l0_1.length : Int) (wrap64 (x8_1 + 1)) a0_0 l0_1) = some r := by rw [if_pos rfl] at H; exact H
       clear H
       have H := H1
       clear H1
       have H' := Aside0.mk H
       clear H
       have p342 : 0 ≤ (x8_1 : Int) := of_decide_eq_true dz0
       have q342 : x8_1 < (l0_1.length : Int) := of_decide_eq_true dz0
       obtain ⟨ad342, A342_1, c342_1, e342, hx342_0, hx342_1, hx342_2, hl342_1, hi342_1⟩ := at_T53 HR0_1.out x8_1 p342 q342
       (try rw [← Nbq7.out] at hx342_2)
       cases e342
       replace hx342_0 := hxl_ HB hx342_0
       replace hx342_1 := hxl_ HB hx342_1
       replace hx342_2 := hxl_ HB hx342_2
       have HR342_1 := Aside0.mk hi342_1
       have HC342_1 := Aside0.mk hl342_1
       clear hi342_1 hl342_1
       replace p342 := eq_true p342
       replace q342 := eq_true q342
       go_wp2_with (first | ((with_reducible refine gate_dst (N := 4) rfl ?_); refine box_event kr_ (N := 4) kr_ (cs := #[.string (⟨#[]⟩ : ByteArray), .slice none 0 0, .bool false]) (t := 53) ks_ ?_; intro gb343 hg w9 hbox hb; have BK343 := Aside0.mk (hbox); have GW343 : Aside0 (w.heap.size ≤ gb343) := szl_ hg dz47; have GE343 : Aside0 (w.heap.size ≤ gb343) := szl_ hg dz47; replace HB := Aside0.mk (below_step dz47 hb); have NB341_343 := (nbl_ hg BK341); have NB343_341 := (nbr_ hg BK341); replace BK341 := (bkb_ BK341 hb); clear hb hbox hg; have hnb10 := NB343_341.out; have hnc10 := NB341_343.out; obtain ⟨hcz11_0, hcz11_1, hcz11_2, hfz11_0, hfz11_1, hfz11_2⟩ := cz3_ BK343))
       go_roundg k1
       case measure => have := HK1.out; omega
       case rel => first | exact ⟨(wrap64 (x8_1 + 1)), dz3, H', ⟨by have := HK1.out; omega⟩, ⟨by (with_reducible repeat (first | refine blk_drewN ?_ _ | refine blk_drew ?_ | refine blk_alloc ?_ _)); refine blk_far ?_ NB341_343.out _; (with_reducible repeat (first | refine blk_drewN ?_ _ | refine blk_drew ?_ | refine blk_alloc ?_ _)); refine blk_far ?_ NB341_343.out _; (with_reducible repeat (first | refine blk_drewN ?_ _ | refine blk_drew ?_ | refine blk_alloc ?_ _)); refine blk_far ?_ NB341_343.out _; (with_reducible repeat (first | refine blk_drewN ?_ _ | refine blk_drew ?_ | refine blk_alloc ?_ _)); exact BK341.out⟩, ⟨by repeat (first | (with_reducible first | exact HB.out | apply below_alloc | apply pw_below_drewN | apply below_drew1 | refine below_set ?_ GE341.out | refine below_set ?_ GE343.out) | exact HB.out)⟩⟩ | (simp only [← Nbq7.out]; exact ⟨(wrap64 (x8_1 + 1)), dz3, H', ⟨by have := HK1.out; omega⟩, ⟨by (with_reducible repeat (first | refine blk_drewN ?_ _ | refine blk_drew ?_ | refine blk_alloc ?_ _)); refine blk_far ?_ NB341_343.out _; (with_reducible repeat (first | refine blk_drewN ?_ _ | refine blk_drew ?_ | refine blk_alloc ?_ _)); refine blk_far ?_ NB341_343.out _; (with_reducible repeat (first | refine blk_drewN ?_ _ | refine blk_drew ?_ | refine blk_alloc ?_ _)); refine blk_far ?_ NB341_343.out _; (with_reducible repeat (first | refine blk_drewN ?_ _ | refine blk_drew ?_ | refine blk_alloc ?_ _)); exact BK341.out⟩, ⟨by repeat (first | (with_reducible first | exact HB.out | apply below_alloc | apply pw_below_drewN | apply below_drew1 | refine below_set ?_ GE341.out | refine below_set ?_ GE343.out) | exact HB.out)⟩⟩)
      replace c8 := Bool.eq_false_iff.mpr c8
      subst c8
      have H1 : (some x8_1) = some r := by rw [if_neg (show ¬ (false = true) by decide)] at H; exact H
      clear H
      have H := H1
      clear H1
      obtain rfl := Option.some.inj H
      have p342 : 0 ≤ (x8_1 : Int) := of_decide_eq_true dz0
      have q342 : x8_1 < (l0_1.length : Int) := of_decide_eq_true dz0
      obtain ⟨ad342, A342_1, c342_1, e342, hx342_0, hx342_1, hx342_2, hl342_1, hi342_1⟩ := at_T53 HR0_1.out x8_1 p342 q342
      (try rw [← Nbq7.out] at hx342_2)
      cases e342
      replace hx342_0 := hxl_ HB hx342_0
      replace hx342_1 := hxl_ HB hx342_1
      replace hx342_2 := hxl_ HB hx342_2
      have HR342_1 := Aside0.mk hi342_1
      have HC342_1 := Aside0.mk hl342_1
      clear hi342_1 hl342_1
      replace p342 := eq_true p342
      replace q342 := eq_true q342
      go_wp2_with (first | ((with_reducible refine gate_dst (N := 4) rfl ?_); refine box_event kr_ (N := 4) kr_ (cs := #[.string (⟨#[]⟩ : ByteArray), .slice none 0 0, .bool false]) (t := 53) ks_ ?_; intro gb343 hg w12 hbox hb; have BK343 := Aside0.mk (hbox); have GW343 : Aside0 (w.heap.size ≤ gb343) := szl_ hg dz47; have GE343 : Aside0 (w.heap.size ≤ gb343) := szl_ hg dz47; replace HB := Aside0.mk (below_step dz47 hb); have NB341_343 := (nbl_ hg BK341); have NB343_341 := (nbr_ hg BK341); replace BK341 := (bkb_ BK341 hb); clear hb hbox hg; have hnb13 := NB343_341.out; have hnc13 := NB341_343.out; obtain ⟨hcz14_0, hcz14_1, hcz14_2, hfz14_0, hfz14_1, hfz14_2⟩ := cz3_ BK343))
      go_ret
      exact ⟨by first | rfl | (simp [errW_none, errW_some] <;> rfl) | (simp [*, errW_none, errW_some] <;> rfl), by repeat (first | (with_reducible first | exact HB.out | apply below_alloc | apply pw_below_drewN | apply below_drew1 | refine below_set ?_ GE341.out | refine below_set ?_ GE343.out) | exact HB.out)⟩
     rw [if_neg c6] at H
     exact absurd H (by simp)
    rw [if_neg c5] at H
    exact absurd H (by simp)
   rw [if_neg c4] at H
   have c4b0 : decide (x8_1 < (l0_1.length : Int)) = false := decide_eq_false c4
   clear c4
   obtain rfl := Option.some.inj H
   obtain ⟨hcz15_0, hcz15_1, hfz15_0, hfz15_1⟩ := cz2_ BK341
   go_wp2
   go_ret
   exact ⟨by first | rfl | (simp [errW_none, errW_some] <;> rfl) | (simp [*, errW_none, errW_some] <;> rfl), by repeat (first | (with_reducible first | exact HB.out | apply below_alloc | apply pw_below_drewN | apply below_drew1 | refine below_set ?_ GE341.out) | exact HB.out)⟩
def spec_WriterSure.l0 : Nat → Int → Int → List (S53) → Option (Int)
 | 0, _, _, _ => none
 | k + 1, x3, x345000, x345001 => if x3 < (x345001.length : Int) then (if 0 ≤ x3 then (if (rd_T53 x345001 x3).f2 = true then (spec_WriterSure.l0 k (wrap64 (x3 + 1)) x345000 x345001) else (some x3)) else (none)) else (some x3)
def spec_WriterSure.f (k : Nat) (a0_0 : Int) (l0_1 : List (S53)) : Option (Int) := spec_WriterSure.l0 k 0 a0_0 l0_1
set_option maxHeartbeats 8000000 in
set_option maxRecDepth 100000 in
theorem spec_WriterSure.calls (k : Nat) (a0_0 : Int) (A0_1 : Option Addr) (c0_1 : Nat) (l0_1 : List (S53)) (r : Int) (w : World) (hr0_1 : Kd.C k53 w A0_1 l0_1.length l0_1) (hc0_1 : l0_1.length ≤ c0_1) (h : spec_WriterSure.f k a0_0 l0_1 = some r) :
  Calls Try.prog 26 #[.agg #[.int .i64 a0_0, .slice A0_1 l0_1.length c0_1]] w fun e w' => e = .returned (.int .i64 r) ∧ Below w.heap.size w w' := by
 have hu49 := Try.underlying49
 have HR0_1 := Aside0.mk hr0_1
 have HC0_1 := Aside0.mk hc0_1
 clear hr0_1 hc0_1
 have HB := Aside0.mk (Below.refl w.heap.size w)
 have H : (spec_WriterSure.l0 k 0 a0_0 l0_1) = some r := h
 clear h
 have H' := Aside0.mk H
 clear H
 go_enter Try.func26, Try.ntmps26
 go_wp2_with (first | ((with_reducible refine gate_dst (N := 1) rfl ?_); refine box_event kr_ (N := 1) kr_ (cs := #[.int .i64 a0_0, .slice A0_1 l0_1.length c0_1]) (t := 49) ks_ ?_; intro gb344 hg w1 hbox hb; have BK344 := Aside0.mk (hbox); have GW344 : Aside0 (w.heap.size ≤ gb344) := szl_ hg dz2; have GE344 : Aside0 (w.heap.size ≤ gb344) := szl_ hg dz2; replace HB := Aside0.mk (below_step dz2 hb); clear hb hbox hg))
 go_loopg [3] k (fun kq v3 w' => ∃ (x3_1 : Int), v3 = .int .i64 x3_1 ∧ Aside0 (spec_WriterSure.l0 kq x3_1 a0_0 l0_1 = some r) ∧ Aside0 (kq ≤ k) ∧ Aside0 (w'.heap[gb344]? = some (.cells #[.int .i64 a0_0, (.slice A0_1 l0_1.length c0_1)] 49 (0, 0))) ∧ Aside0 (Below w.heap.size w w'))
 case atStart => exact ⟨(0), dz3, H', ⟨Nat.le_refl _⟩, ⟨by (with_reducible repeat (first | refine blk_drewN ?_ _ | refine blk_drew ?_ | refine blk_alloc ?_ _)); exact BK344.out⟩, ⟨by repeat (first | (with_reducible first | exact HB.out | apply below_alloc | apply pw_below_drewN | apply below_drew1 | refine below_set ?_ GE344.out) | exact HB.out)⟩⟩
 case round =>
  clear H'
  try clear c2
  try clear p2
  obtain ⟨x3_1, rfl, HA, HK1, BK344, HB⟩ := hrel
  cases gk with
  | zero => exact absurd HA.out (by simp [spec_WriterSure.l0])
  | succ k1 =>
   have H := HA.out
   clear HA
   simp only [spec_WriterSure.l0] at H
   by_cases c3 : x3_1 < (l0_1.length : Int)
   ·rw [if_pos c3] at H
    have c3b0 : decide (x3_1 < (l0_1.length : Int)) = true := decide_eq_true c3
    clear c3
    by_cases c4 : 0 ≤ x3_1
    ·rw [if_pos c4] at H
     have c4b0 : decide (0 ≤ x3_1) = true := decide_eq_true c4
     clear c4
     obtain ⟨bq5, hbq5⟩ : ∃ b_ : Bool, b_ = ((rd_T53 l0_1 x3_1).f2) := ⟨_, rfl⟩
     replace H : (if bq5 = true then (spec_WriterSure.l0 k1 (wrap64 (x3_1 + 1)) a0_0 l0_1) else (some x3_1)) = some r := by rw [← hbq5] at H; exact H
     have Nbq5 := Aside0.mk hbq5
     clear hbq5
     by_cases c6 : bq5 = true
     ·subst c6
      have H1 : (spec_WriterSure.l0 k1 (wrap64 (x3_1 + 1)) a0_0 l0_1) = some r := by rw [if_pos rfl] at H; exact H
      clear H
      have H := H1
      clear H1
      have H' := Aside0.mk H
      clear H
      obtain ⟨hcz7_0, hcz7_1, hfz7_0, hfz7_1⟩ := cz2_ BK344
      have p345 : 0 ≤ (x3_1 : Int) := of_decide_eq_true dz0
      have q345 : x3_1 < (l0_1.length : Int) := of_decide_eq_true dz0
      obtain ⟨ad345, A345_1, c345_1, e345, hx345_0, hx345_1, hx345_2, hl345_1, hi345_1⟩ := at_T53 HR0_1.out x3_1 p345 q345
      (try rw [← Nbq5.out] at hx345_2)
      cases e345
      replace hx345_0 := hxl_ HB hx345_0
      replace hx345_1 := hxl_ HB hx345_1
      replace hx345_2 := hxl_ HB hx345_2
      have HR345_1 := Aside0.mk hi345_1
      have HC345_1 := Aside0.mk hl345_1
      clear hi345_1 hl345_1
      replace p345 := eq_true p345
      replace q345 := eq_true q345
      go_wp2
      go_roundg k1
      case measure => have := HK1.out; omega
      case rel => first | exact ⟨(wrap64 (x3_1 + 1)), dz3, H', ⟨by have := HK1.out; omega⟩, ⟨by (with_reducible repeat (first | refine blk_drewN ?_ _ | refine blk_drew ?_ | refine blk_alloc ?_ _)); exact BK344.out⟩, ⟨by repeat (first | (with_reducible first | exact HB.out | apply below_alloc | apply pw_below_drewN | apply below_drew1 | refine below_set ?_ GE344.out) | exact HB.out)⟩⟩ | (simp only [← Nbq5.out]; exact ⟨(wrap64 (x3_1 + 1)), dz3, H', ⟨by have := HK1.out; omega⟩, ⟨by (with_reducible repeat (first | refine blk_drewN ?_ _ | refine blk_drew ?_ | refine blk_alloc ?_ _)); exact BK344.out⟩, ⟨by repeat (first | (with_reducible first | exact HB.out | apply below_alloc | apply pw_below_drewN | apply below_drew1 | refine below_set ?_ GE344.out) | exact HB.out)⟩⟩)
     replace c6 := Bool.eq_false_iff.mpr c6
     subst c6
     have H1 : (some x3_1) = some r := by rw [if_neg (show ¬ (false = true) by decide)] at H; exact H
     clear H
     have H := H1
     clear H1
     obtain rfl := Option.some.inj H
     obtain ⟨hcz8_0, hcz8_1, hfz8_0, hfz8_1⟩ := cz2_ BK344
     have p345 : 0 ≤ (x3_1 : Int) := of_decide_eq_true dz0
     have q345 : x3_1 < (l0_1.length : Int) := of_decide_eq_true dz0
     obtain ⟨ad345, A345_1, c345_1, e345, hx345_0, hx345_1, hx345_2, hl345_1, hi345_1⟩ := at_T53 HR0_1.out x3_1 p345 q345
     (try rw [← Nbq5.out] at hx345_2)
     cases e345
     replace hx345_0 := hxl_ HB hx345_0
     replace hx345_1 := hxl_ HB hx345_1
     replace hx345_2 := hxl_ HB hx345_2
     have HR345_1 := Aside0.mk hi345_1
     have HC345_1 := Aside0.mk hl345_1
     clear hi345_1 hl345_1
     replace p345 := eq_true p345
     replace q345 := eq_true q345
     go_wp2
     go_ret
     exact dz327
    rw [if_neg c4] at H
    exact absurd H (by simp)
   rw [if_neg c3] at H
   have c3b0 : decide (x3_1 < (l0_1.length : Int)) = false := decide_eq_false c3
   clear c3
   obtain rfl := Option.some.inj H
   obtain ⟨hcz9_0, hcz9_1, hfz9_0, hfz9_1⟩ := cz2_ BK344
   go_wp2
   go_ret
   exact dz327
end Go.Proofs.Ytdkdhciogedoiaa.PFnSureTo
