-- Written by wip/gen/pack.py of this repo. Lean checks it.
import Derived.Test.YtdkdhciogedoiabKFnAddedP0
import Derived.Test.YtdkdhciogedoiabKFnAddedP1
import Derived.Test.YtdkdhciogedoiabKFnAddedP5
import Derived.Test.YtdkdhciogedoiabKFnAddedP10
import Derived.Test.YtdkdhciogedoiabKFnAddedP12
import Derived.Test.YtdkdhciogedoiabKFnAddedP13
import Derived.Test.YtdkdhciogedoiabKFnAddedD
namespace Go.Proofs.Ytdkdhciogedoiab.PFnAdded
open Go.RowKit Go.Proofs.YtdkdhciogedoiabW.PrintWords Go.Proofs.YtdkdhciogedoiabW.PrintLast Go.Proofs.YtdkdhciogedoiabW.PrintMore Go.Proofs.YtdkdhciogedoiabW.Sq
attribute [local go_sem] max2_int min2_int max_two min_two max_three min_three max_four min_four
set_option linter.unusedVariables false
set_option linter.unusedSimpArgs false
mutual
def laws_FnAdded.j0 : Nat → ByteArray → Int → Bool → Bool → List Int → Int → Int → List (S50) → Int → List (S50) → Option (Bool)
 | 0, _, _, _, _, _, _, _, _, _, _ => none
 | k + 1, x5, x7, x8, x45, x491000, x491001, x492000, x492001, x499000, x499001 => if x45 = true then (none) else (if x8 = true then (laws_FnAdded.l0 k x5 x7 0 x491000 x491001 x492000 x492001 x499000 x499001) else (if (x499001.length : Int) = (x492001.length : Int) then (some true) else (some ((x499001.length : Int) == 0))))
def laws_FnAdded.l0 : Nat → ByteArray → Int → Int → List Int → Int → Int → List (S50) → Int → List (S50) → Option (Bool)
 | 0, _, _, _, _, _, _, _, _, _ => none
 | k + 1, x5, x7, x12, x491000, x491001, x492000, x492001, x499000, x499001 => if x12 < (x492001.length : Int) then (if 0 ≤ x12 then (if x12 < (x499001.length : Int) then (if ((rd_T50 x499001 x12).f0).toList = ((rd_T50 x492001 x12).f0).toList then (if (((rd_T50 x499001 x12).f2) != ((rd_T50 x492001 x12).f2)) = true then (none) else (laws_FnAdded.l0 k x5 x7 (wrap64 (x12 + 1)) x491000 x491001 x492000 x492001 x499000 x499001)) else (none)) else (none)) else (none)) else (if 0 ≤ (wrap64 (x7 - 1)) then (if (wrap64 (x7 - 1)) < (x499001.length : Int) then (if x7 = (wrap64 ((x492001.length : Int) + 1)) then (if ((rd_T50 x499001 (wrap64 (x7 - 1))).f0).toList = x5.toList then (if (((rd_T50 x499001 (wrap64 (x7 - 1))).f1).length : Int) = 0 then (if ((rd_T50 x499001 (wrap64 (x7 - 1))).f2 = true) then (none) else ((impl_WriterSure.f k x499000 x499001).bind fun t512 => (if t512 ≤ (x492001.length : Int) then ((impl_WriterOk.f k x491000 x491001 x499000 x499001).bind fun t513 => (some t513)) else (none)))) else (none)) else (none)) else (none)) else (none)) else (none))
end
def laws_FnAdded.f (k : Nat) (l0 : List Int) : Option (Bool) := (laws_big.f l0).bind fun t480 => (if t480 = true then (some true) else ((spec_DrawWriterAdd.f k l0).bind fun bt481 => ((impl_WriterAdd.f k bt481.1 bt481.2.1 bt481.2.2.1 bt481.2.2.2.1 bt481.2.2.2.2).bind fun bt492 => ((spec_WriterAdd.f k bt481.1 bt481.2.1 bt481.2.2.1 bt481.2.2.2.1 bt481.2.2.2.2).bind fun bt499 => (if (bt492.2.2.2 != bt499.2.2.2) = true then (laws_FnAdded.j0 k bt481.2.2.2.2 bt492.2.2.1 bt492.2.2.2 true bt481.1 bt481.2.1 bt481.2.2.1 bt481.2.2.2.1 bt492.1 bt492.2.1) else (laws_FnAdded.j0 k bt481.2.2.2.2 bt492.2.2.1 bt492.2.2.2 (bt492.2.2.1 != bt499.2.2.1) bt481.1 bt481.2.1 bt481.2.2.1 bt481.2.2.2.1 bt492.1 bt492.2.1))))))
def laws_FnAdded.T13 : Bool × List (List Nat × List Nat) := (true, [([], []), ([0], [0]), ([], []), ([1, 2], [1, 2]), ([3], [3]), ([4], [4]), ([], []), ([6], [6]), ([], []), ([7, 8], [7, 8]), ([9], [9]), ([10], [10]), ([5, 11], [5, 11]), ([12], [12]), ([13], [13]), ([14, 13], [13, 14]), ([13], [13]), ([15, 16, 13], [13, 15, 16]), ([17, 13], [13, 17]), ([18, 13], [13, 18]), ([13], [13]), ([20, 13], [13, 20]), ([13], [13]), ([21, 22, 13], [13, 21, 22]), ([23, 13], [13, 23]), ([24, 13], [13, 24]), ([19, 25, 13], [13, 19, 25]), ([13, 26], [13, 26])])
def laws_FnAdded.B13 : List Nat := [0, 1, 0, 7, 15, 31, 0, 64, 0, 448, 960, 1984, 4095, 8191, 16383, 32767, 16383, 131071, 262143, 524287, 16383, 1064959, 16383, 7356415, 15745023, 32522239, 67108863, 134217727]
theorem laws_FnAdded.tab13 : rtab .any (opsOf Try.f4 13) = laws_FnAdded.T13 := by kernel_rfl
theorem laws_FnAdded.bits13 : waitsOk laws_FnAdded.T13.2 laws_FnAdded.B13 = true := by kernel_rfl
def laws_FnAdded.T16 : Bool × List (List Nat × List Nat) := (true, [([], []), ([], []), ([1], [1]), ([2], [2]), ([3], [3]), ([0, 4], [0, 4]), ([5], [5]), ([6], [6]), ([7, 6], [6, 7]), ([6], [6]), ([8, 9, 6], [6, 8, 9]), ([6, 10], [6, 10]), ([11, 6], [11]), ([12], [12]), ([13, 12], [12, 13]), ([14, 12], [12, 14]), ([15, 12], [12, 15]), ([12, 16], [12, 16]), ([17, 12], [17]), ([18], [18]), ([19, 18], [18, 19]), ([20, 18], [18, 20]), ([18, 21], [18, 21]), ([22, 18], [22]), ([23], [23]), ([24, 23, 23], [23, 24]), ([23], [23]), ([26, 23], [23, 26]), ([27, 23], [23, 27]), ([25, 28, 23], [23, 25, 28]), ([23, 29], [23, 29]), ([30, 25], [30]), ([31], [31]), ([31], [31]), ([32, 33, 31, 31], [31, 32, 33]), ([31, 34], [31, 34]), ([35, 34, 0, 1, 2, 3, 4, 5, 6, 7, 8, 9, 10, 11, 12, 13, 14, 15, 16, 17, 18, 19, 20, 21, 22, 23, 24, 25, 26, 27, 28, 29, 30, 31, 32, 33, 34, 35], [35])])
def laws_FnAdded.B16 : List Nat := [0, 0, 2, 6, 14, 31, 63, 127, 255, 127, 1023, 2047, 4095, 8191, 16383, 32767, 65535, 131071, 262143, 524287, 1048575, 2097151, 4194303, 8388607, 16777215, 33554431, 16777215, 83886079, 218103807, 536870911, 1073741823, 2147483647, 4294967295, 4294967295, 17179869183, 34359738367, 68719476735]
theorem laws_FnAdded.tab16 : rtab .any (opsOf Try.f4 16) = laws_FnAdded.T16 := by kernel_rfl
theorem laws_FnAdded.bits16 : waitsOk laws_FnAdded.T16.2 laws_FnAdded.B16 = true := by kernel_rfl
set_option maxHeartbeats 8000000 in
set_option maxRecDepth 100000 in
theorem laws_FnAdded.calls (k : Nat) (A0 : Option Addr) (c0 : Nat) (l0 : List Int) (r : Bool) (w : World) (hr0 : Kd.C (Kd.int .u8) w A0 l0.length l0) (hc0 : l0.length ≤ c0) (h : laws_FnAdded.f k l0 = some r) :
  Calls Try.prog 4 #[.slice A0 l0.length c0] w fun e w' => e = .returned (.bool r) ∧ Below w.heap.size w w' := by
 have hu31 := Try.underlying31
 have hu44 := Try.underlying44
 have hu50 := Try.underlying50
 have HR0 := Aside0.mk hr0
 have HC0 := Aside0.mk hc0
 clear hr0 hc0
 have HB := Aside0.mk (Below.refl w.heap.size w)
 have H : ((laws_big.f l0).bind fun t480 => (if t480 = true then (some true) else ((spec_DrawWriterAdd.f k l0).bind fun bt481 => ((impl_WriterAdd.f k bt481.1 bt481.2.1 bt481.2.2.1 bt481.2.2.2.1 bt481.2.2.2.2).bind fun bt492 => ((spec_WriterAdd.f k bt481.1 bt481.2.1 bt481.2.2.1 bt481.2.2.2.1 bt481.2.2.2.2).bind fun bt499 => (if (bt492.2.2.2 != bt499.2.2.2) = true then (laws_FnAdded.j0 k bt481.2.2.2.2 bt492.2.2.1 bt492.2.2.2 true bt481.1 bt481.2.1 bt481.2.2.1 bt481.2.2.2.1 bt492.1 bt492.2.1) else (laws_FnAdded.j0 k bt481.2.2.2.2 bt492.2.2.1 bt492.2.2.2 (bt492.2.2.1 != bt499.2.2.1) bt481.1 bt481.2.1 bt481.2.2.1 bt481.2.2.2.1 bt492.1 bt492.2.1))))))) = some r := h
 clear h
 replace H := Option.bind_eq_some_iff.mp H
 obtain ⟨t480, A20, H⟩ := H
 replace H : (if t480 = true then (some true) else ((spec_DrawWriterAdd.f k l0).bind fun bt481 => ((impl_WriterAdd.f k bt481.1 bt481.2.1 bt481.2.2.1 bt481.2.2.2.1 bt481.2.2.2.2).bind fun bt492 => ((spec_WriterAdd.f k bt481.1 bt481.2.1 bt481.2.2.1 bt481.2.2.2.1 bt481.2.2.2.2).bind fun bt499 => (if (bt492.2.2.2 != bt499.2.2.2) = true then (laws_FnAdded.j0 k bt481.2.2.2.2 bt492.2.2.1 bt492.2.2.2 true bt481.1 bt481.2.1 bt481.2.2.1 bt481.2.2.2.1 bt492.1 bt492.2.1) else (laws_FnAdded.j0 k bt481.2.2.2.2 bt492.2.2.1 bt492.2.2.2 (bt492.2.2.1 != bt499.2.2.1) bt481.1 bt481.2.1 bt481.2.2.1 bt481.2.2.2.1 bt492.1 bt492.2.1)))))) = some r := H
 have A2 := Aside0.mk A20
 clear A20
 by_cases c3 : t480 = true
 ·subst c3
  have H1 : (some true) = some r := by rw [if_pos rfl] at H; exact H
  clear H
  have H := H1
  clear H1
  obtain rfl := Option.some.inj H
  go_enter Try.func4, Try.ntmps4
  go_wp2_with (first | ((with_reducible refine gate_callee (f := 17) rfl ?_); refine goesL_ (some 15) rfl rfl Try.func17 (by kernel_rfl) rfl #[.slice A0 l0.length c0] rfl dz1 ?_; (with_reducible refine (laws_big.calls _ _ l0 true _ ?side1 ?side2 A2.out).mono ?_); (case side1 => exact dz484); (case side2 => exact HC0.out); rintro e w' ⟨rfl, ⟨nd, rfl⟩⟩; refine ⟨_, rfl, ?_⟩))
  go_ret
  exact ⟨by first | rfl | (simp [errW_none, errW_some] <;> rfl) | (simp [*, errW_none, errW_some] <;> rfl), by repeat (first | (with_reducible first | exact HB.out | apply below_alloc | apply pw_below_drewN | apply below_drew1) | exact HB.out)⟩
 replace c3 := Bool.eq_false_iff.mpr c3
 subst c3
 have H1 : ((spec_DrawWriterAdd.f k l0).bind fun bt481 => ((impl_WriterAdd.f k bt481.1 bt481.2.1 bt481.2.2.1 bt481.2.2.2.1 bt481.2.2.2.2).bind fun bt492 => ((spec_WriterAdd.f k bt481.1 bt481.2.1 bt481.2.2.1 bt481.2.2.2.1 bt481.2.2.2.2).bind fun bt499 => (if (bt492.2.2.2 != bt499.2.2.2) = true then (laws_FnAdded.j0 k bt481.2.2.2.2 bt492.2.2.1 bt492.2.2.2 true bt481.1 bt481.2.1 bt481.2.2.1 bt481.2.2.2.1 bt492.1 bt492.2.1) else (laws_FnAdded.j0 k bt481.2.2.2.2 bt492.2.2.1 bt492.2.2.2 (bt492.2.2.1 != bt499.2.2.1) bt481.1 bt481.2.1 bt481.2.2.1 bt481.2.2.2.1 bt492.1 bt492.2.1))))) = some r := by rw [if_neg (show ¬ (false = true) by decide)] at H; exact H
 clear H
 have H := H1
 clear H1
 replace H := Option.bind_eq_some_iff.mp H
 obtain ⟨⟨t481, t484, t485, t486, t489⟩, A40, H⟩ := H
 replace H : ((impl_WriterAdd.f k t481 t484 t485 t486 t489).bind fun bt492 => ((spec_WriterAdd.f k t481 t484 t485 t486 t489).bind fun bt499 => (if (bt492.2.2.2 != bt499.2.2.2) = true then (laws_FnAdded.j0 k t489 bt492.2.2.1 bt492.2.2.2 true t481 t484 t485 t486 bt492.1 bt492.2.1) else (laws_FnAdded.j0 k t489 bt492.2.2.1 bt492.2.2.2 (bt492.2.2.1 != bt499.2.2.1) t481 t484 t485 t486 bt492.1 bt492.2.1)))) = some r := H
 have A4 := Aside0.mk A40
 clear A40
 replace H := Option.bind_eq_some_iff.mp H
 obtain ⟨⟨t492, t493, t496, t497⟩, A50, H⟩ := H
 replace H : ((spec_WriterAdd.f k t481 t484 t485 t486 t489).bind fun bt499 => (if (t497 != bt499.2.2.2) = true then (laws_FnAdded.j0 k t489 t496 t497 true t481 t484 t485 t486 t492 t493) else (laws_FnAdded.j0 k t489 t496 t497 (t496 != bt499.2.2.1) t481 t484 t485 t486 t492 t493))) = some r := H
 have A5 := Aside0.mk A50
 clear A50
 replace H := Option.bind_eq_some_iff.mp H
 obtain ⟨⟨t499, t500, t503, t504⟩, A60, H⟩ := H
 replace H : (if (t497 != t504) = true then (laws_FnAdded.j0 k t489 t496 t497 true t481 t484 t485 t486 t492 t493) else (laws_FnAdded.j0 k t489 t496 t497 (t496 != t503) t481 t484 t485 t486 t492 t493)) = some r := H
 have A6 := Aside0.mk A60
 clear A60
 have HC7 := Aside0.mk H
 clear H
 go_enter Try.func4, Try.ntmps4
 go_upto_region 6 with (first | ((with_reducible refine gate_callee (f := 17) rfl ?_); refine goesL_ (some 15) rfl rfl Try.func17 (by kernel_rfl) rfl #[.slice A0 l0.length c0] rfl dz1 ?_; (with_reducible refine (laws_big.calls _ _ l0 false _ ?side1 ?side2 A2.out).mono ?_); (case side1 => exact dz484); (case side2 => exact HC0.out); rintro e w' ⟨rfl, ⟨nd, rfl⟩⟩; refine ⟨_, rfl, ?_⟩) | ((with_reducible refine gate_callee (f := 18) rfl ?_); refine goesL_ (some 18) rfl rfl Try.func18 (by kernel_rfl) rfl #[.slice A0 l0.length c0] rfl dz1 ?_; (with_reducible refine (spec_DrawWriterAdd.calls k _ _ l0 t481 t484 t485 t486 t489 _ ?side1 ?side2 A4.out).mono ?_); (case side1 => exact dz484); (case side2 => exact HC0.out); rintro e w1 ⟨v482, v487, rfl, ho0, ho1, hb⟩; refine ⟨_, rfl, ?_⟩; have HO483 := Aside0.mk (Kd.R_lower (Kd.R_mono (ok' := fun k_ => True) ho0 (fun _ hk_ => trivial)) (below_size dz2)); have HO488 := Aside0.mk (Kd.N_lower (Kd.N_mono (ok' := fun k_ => some k_ ≠ (v482 : Value).ownBlock) ho1 (fun k_ hk_ => hk_.2)) (below_size dz2)); replace HB := Aside0.mk (below_step dz2 hb); (try clear hb); (try clear hb2); (try clear hk); (try clear hi); (try clear ho0); (try clear ho1)) | ((with_reducible refine gate_dst (N := 3) rfl ?_); (try (refine gate_guard (by rfl) ?_; dsimp only)); refine box_event kr_ (N := 3) kr_ (cs := #[.slice none 0 0, .int .i64 0]) (t := 31) ks_ ?_; intro gb490 hg w2 hbox hb; replace HO483 := (rbb_ HO483 hb); replace HO488 := Aside0.mk (Kd.N_below (Kd.N_elderB dz98 gb490 (Nat.le_of_eq hg.symm)) hb); have BK490 := Aside0.mk (hbox); have GW490 : Aside0 (w.heap.size ≤ gb490) := szl_ hg dz2; have GE490 : Aside0 (w.heap.size ≤ gb490) := szl_ hg dz2; replace HB := Aside0.mk (below_step dz2 hb); clear hb hbox hg) | ((with_reducible refine gate_dst (N := 4) rfl ?_); (try (refine gate_guard (by rfl) ?_; dsimp only)); refine box_event kr_ (N := 4) kr_ (cs := #[.int .i64 0, .slice none 0 0]) (t := 44) ks_ ?_; intro gb491 hg w3 hbox hb; replace HO483 := (rbb_ HO483 hb); replace HO488 := Aside0.mk (Kd.N_below (Kd.N_elderB dz98 gb491 (Nat.le_of_eq hg.symm)) hb); have BK491 := Aside0.mk (hbox); have GW491 : Aside0 (w.heap.size ≤ gb491) := szl_ hg dz127; have GE491 : Aside0 (w.heap.size ≤ gb491) := szl_ hg dz127; replace HB := Aside0.mk (below_step dz127 hb); have NB490_491 := (nbl_ hg BK490); have NB491_490 := (nbr_ hg BK490); replace BK490 := (bkb_ BK490 hb); clear hb hbox hg; obtain ⟨Ao11, co11, eo11⟩ := Kd.R_slice HO483.out; subst eo11; have hnb12 := NB490_491.out; have hnc12 := NB491_490.out; obtain ⟨hcz13_0, hcz13_1, hfz13_0, hfz13_1⟩ := cz2_ BK490; obtain ⟨hcz14_0, hcz14_1, hfz14_0, hfz14_1⟩ := cz2_ BK491; obtain ⟨Ao15, co15, eo15⟩ := Kd.N_slice HO488.out; subst eo15) | ((with_reducible refine gate_callee (f := 19) rfl ?_); refine goesL_ (some 26) rfl rfl Try.func19 (by kernel_rfl) rfl #[.agg #[.slice Ao11 t481.length co11, .int .i64 t484], .agg #[.int .i64 t485, .slice Ao15 t486.length co15], .string t489] rfl dz1 ?_; (with_reducible refine (impl_WriterAdd.calls k _ _ t481 t484 t485 _ _ t486 t489 t492 t493 t496 t497 _ ?side1 ?side2 ?side3 ?side4 A5.out).mono ?_); (case side1 => refine (Kd.R_reads' (e := 3) (base := w.heap.size) (ok := fun k_ => True) (n := t481.length) (c := co11) ?_).2.2; exact (by (with_reducible repeat (first | apply Kd.R_alloc | apply Kd.R_drewN | apply Kd.R_drew)); exact (Kd.R_mono (Kd.R_mono (Kd.R_far (p := ⟨gb491, 1, none⟩) (Kd.R_far (p := ⟨gb491, 0, none⟩) (Kd.R_far (p := ⟨gb490, 1, none⟩) (Kd.R_far (p := ⟨gb490, 0, none⟩) (Kd.R_types (Kd.R_types HO483.out BK490.out (by decide)) BK491.out (by decide)) (fun _ hk => hk.1.2) (.slice Ao11 t481.length co11)) (fun _ hk => hk.1.2) (.int .i64 t484)) (fun _ hk => hk.2) (.int .i64 t485)) (fun _ hk => hk.2) (.slice Ao15 t486.length co15)) (fun _ h_ => h_.1)) (fun _ h_ => h_.1)))); (case side2 => exact (Kd.R_reads' HO483.out).2.1); (case side3 => refine (Kd.N_reads' (e := 50) (base := w.heap.size) (ok := fun k_ => ((some k_ ≠ (.slice Ao11 t481.length co11 : Value).ownBlock ∧ k_ ≠ gb490) ∧ k_ ≠ gb491)) (n := t486.length) (c := co15) ?_).2.2; exact dz128); (case side4 => exact (Kd.N_reads' HO488.out).2.1); rintro e w4 ⟨v494, rfl, ho0, hb⟩; refine ⟨_, rfl, ?_⟩; have HO495 := Aside0.mk (Kd.N_lower (Kd.N_mono (ok' := fun k_ => some k_ ≠ (.slice Ao11 t481.length co11 : Value).ownBlock ∧ some k_ ≠ (.slice Ao15 t486.length co15 : Value).ownBlock ∧ k_ ≠ gb490 ∧ k_ ≠ gb491) (Kd.S_N (Kd.S_bound ho0)) (fun k_ hk_ => ⟨(Kd.fresh' (Kd.R_lt (by (with_reducible repeat (first | apply Kd.R_alloc | apply Kd.R_drewN | apply Kd.R_drew)); exact (Kd.R_mono (Kd.R_mono (Kd.R_far (p := ⟨gb491, 1, none⟩) (Kd.R_far (p := ⟨gb491, 0, none⟩) (Kd.R_far (p := ⟨gb490, 1, none⟩) (Kd.R_far (p := ⟨gb490, 0, none⟩) (Kd.R_types (Kd.R_types HO483.out BK490.out (by decide)) BK491.out (by decide)) (fun _ hk => hk.1.2) (.slice Ao11 t481.length co11)) (fun _ hk => hk.1.2) (.int .i64 t484)) (fun _ hk => hk.2) (.int .i64 t485)) (fun _ hk => hk.2) (.slice Ao15 t486.length co15)) (fun _ h_ => h_.1)) (fun _ h_ => h_.1)))) k_ hk_.2.1), (Kd.fresh' (Kd.N_lt dz128) k_ hk_.2.1), (Kd.freshB (g := gb490) (o := .cells #[.slice Ao11 t481.length co11, .int .i64 t484] 31 (0, 0)) dz165 k_ hk_.2.1), (Kd.freshB (g := gb491) (o := .cells #[.int .i64 t485, .slice Ao15 t486.length co15] 44 (0, 0)) dz166 k_ hk_.2.1)⟩)) (below_size dz77)); replace HO483 := Aside0.mk (Kd.R_below (by (with_reducible repeat (first | apply Kd.R_alloc | apply Kd.R_drewN | apply Kd.R_drew)); exact (Kd.R_mono (Kd.R_mono (Kd.R_far (p := ⟨gb491, 1, none⟩) (Kd.R_far (p := ⟨gb491, 0, none⟩) (Kd.R_far (p := ⟨gb490, 1, none⟩) (Kd.R_far (p := ⟨gb490, 0, none⟩) (Kd.R_types (Kd.R_types HO483.out BK490.out (by decide)) BK491.out (by decide)) (fun _ hk => hk.1.2) (.slice Ao11 t481.length co11)) (fun _ hk => hk.1.2) (.int .i64 t484)) (fun _ hk => hk.2) (.int .i64 t485)) (fun _ hk => hk.2) (.slice Ao15 t486.length co15)) (fun _ h_ => h_.1)) (fun _ h_ => h_.1))) hb); replace HO488 := Aside0.mk (Kd.N_elder' dz128 dz38 hb); replace BK490 := Aside0.mk (blk_below (g := gb490) (o := .cells #[.slice Ao11 t481.length co11, .int .i64 t484] 31 (0, 0)) dz165 hb); replace BK491 := Aside0.mk (blk_below (g := gb491) (o := .cells #[.int .i64 t485, .slice Ao15 t486.length co15] 44 (0, 0)) dz166 hb); replace HB := Aside0.mk (below_step dz77 hb); (try clear hb); (try clear hb2); (try clear hk); (try clear hi); (try clear ho0)) | ((with_reducible refine gate_dst (N := 6) rfl ?_); (try (refine gate_guard (by rfl) ?_; dsimp only)); refine box_event kr_ (N := 6) kr_ (cs := #[.int .i64 0, .slice none 0 0]) (t := 44) ks_ ?_; intro gb498 hg w5 hbox hb; replace HO483 := (rbb_ HO483 hb); replace HO488 := Aside0.mk (Kd.N_below (Kd.N_elderB dz98 gb498 (Nat.le_of_eq hg.symm)) hb); replace HO495 := Aside0.mk (Kd.N_below (Kd.N_elderB (by (with_reducible repeat (first | apply Kd.N_alloc | apply Kd.N_drewN | apply Kd.N_drew)); exact HO495.out) gb498 (Nat.le_of_eq hg.symm)) hb); have BK498 := Aside0.mk (hbox); have GW498 : Aside0 (w.heap.size ≤ gb498) := szl_ hg dz77; have GE498 : Aside0 (w.heap.size ≤ gb498) := szl_ hg dz77; replace HB := Aside0.mk (below_step dz77 hb); have NB490_498 := (nbl_ hg BK490); have NB498_490 := (nbr_ hg BK490); replace BK490 := (bkb_ BK490 hb); have NB491_498 := (nbl_ hg BK491); have NB498_491 := (nbr_ hg BK491); replace BK491 := (bkb_ BK491 hb); clear hb hbox hg; have hnb18 := NB498_490.out; have hnc18 := NB490_498.out; have hnb19 := NB498_491.out; have hnc19 := NB491_498.out; obtain ⟨hcz20_0, hcz20_1, hfz20_0, hfz20_1⟩ := cz2_ BK498; obtain ⟨Ao21, co21, eo21⟩ := Kd.N_slice HO495.out; subst eo21; obtain ⟨hcz22_0, hcz22_1, hfz22_0, hfz22_1⟩ := cz2_ BK490; obtain ⟨hcz23_0, hcz23_1, hfz23_0, hfz23_1⟩ := cz2_ BK491) | ((with_reducible refine gate_callee (f := 20) rfl ?_); refine goesL_ (some 34) rfl rfl Try.func20 (by kernel_rfl) rfl #[.agg #[.slice Ao11 t481.length co11, .int .i64 t484], .agg #[.int .i64 t485, .slice Ao15 t486.length co15], .string t489] rfl dz1 ?_; (with_reducible refine (spec_WriterAdd.calls k _ _ t481 t484 t485 _ _ t486 t489 t499 t500 t503 t504 _ ?side1 ?side2 ?side3 ?side4 A6.out).mono ?_); (case side1 => refine (Kd.R_reads' (e := 3) (base := w.heap.size) (ok := fun k_ => True) (n := t481.length) (c := co11) ?_).2.2; exact (by (with_reducible repeat (first | apply Kd.R_alloc | apply Kd.R_drewN | apply Kd.R_drew)); exact (Kd.R_mono (Kd.R_far (p := ⟨gb498, 1, none⟩) (Kd.R_far (p := ⟨gb498, 0, none⟩) (Kd.R_types HO483.out BK498.out (by decide)) (fun _ hk => hk.2) (.int .i64 t492)) (fun _ hk => hk.2) (.slice Ao21 t493.length co21)) (fun _ h_ => h_.1)))); (case side2 => exact (Kd.R_reads' HO483.out).2.1); (case side3 => refine (Kd.N_reads' (e := 50) (base := w.heap.size) (ok := fun k_ => ((((some k_ ≠ (.slice Ao11 t481.length co11 : Value).ownBlock ∧ k_ ≠ gb490) ∧ k_ ≠ gb491) ∧ some k_ ≠ (.slice Ao21 t493.length co21 : Value).ownBlock) ∧ k_ ≠ gb498)) (n := t486.length) (c := co15) ?_).2.2; exact dz129); (case side4 => exact (Kd.N_reads' HO488.out).2.1); rintro e w6 ⟨v501, rfl, ho0, hb⟩; refine ⟨_, rfl, ?_⟩; have HO502 := Aside0.mk (Kd.N_lower (Kd.N_mono (ok' := fun k_ => some k_ ≠ (.slice Ao11 t481.length co11 : Value).ownBlock ∧ some k_ ≠ (.slice Ao15 t486.length co15 : Value).ownBlock ∧ some k_ ≠ (.slice Ao21 t493.length co21 : Value).ownBlock ∧ k_ ≠ gb490 ∧ k_ ≠ gb491 ∧ k_ ≠ gb498) (Kd.S_N (Kd.S_bound ho0)) (fun k_ hk_ => ⟨(Kd.fresh' (Kd.R_lt (by (with_reducible repeat (first | apply Kd.R_alloc | apply Kd.R_drewN | apply Kd.R_drew)); exact (Kd.R_mono (Kd.R_far (p := ⟨gb498, 1, none⟩) (Kd.R_far (p := ⟨gb498, 0, none⟩) (Kd.R_types HO483.out BK498.out (by decide)) (fun _ hk => hk.2) (.int .i64 t492)) (fun _ hk => hk.2) (.slice Ao21 t493.length co21)) (fun _ h_ => h_.1)))) k_ hk_.2.1), (Kd.fresh' (Kd.N_lt dz129) k_ hk_.2.1), (Kd.fresh' (Kd.N_lt dz168) k_ hk_.2.1), (Kd.freshB (g := gb490) (o := .cells #[.slice Ao11 t481.length co11, .int .i64 t484] 31 (0, 0)) dz169 k_ hk_.2.1), (Kd.freshB (g := gb491) (o := .cells #[.int .i64 t485, .slice Ao15 t486.length co15] 44 (0, 0)) dz170 k_ hk_.2.1), (Kd.freshB (g := gb498) (o := .cells #[.int .i64 t492, .slice Ao21 t493.length co21] 44 (0, 0)) dz171 k_ hk_.2.1)⟩)) (below_size dz78)); replace HO483 := Aside0.mk (Kd.R_below (by (with_reducible repeat (first | apply Kd.R_alloc | apply Kd.R_drewN | apply Kd.R_drew)); exact (Kd.R_mono (Kd.R_far (p := ⟨gb498, 1, none⟩) (Kd.R_far (p := ⟨gb498, 0, none⟩) (Kd.R_types HO483.out BK498.out (by decide)) (fun _ hk => hk.2) (.int .i64 t492)) (fun _ hk => hk.2) (.slice Ao21 t493.length co21)) (fun _ h_ => h_.1))) hb); replace HO488 := Aside0.mk (Kd.N_elder' dz129 dz38 hb); replace HO495 := Aside0.mk (Kd.N_elder' dz168 dz38 hb); replace BK490 := Aside0.mk (blk_below (g := gb490) (o := .cells #[.slice Ao11 t481.length co11, .int .i64 t484] 31 (0, 0)) dz169 hb); replace BK491 := Aside0.mk (blk_below (g := gb491) (o := .cells #[.int .i64 t485, .slice Ao15 t486.length co15] 44 (0, 0)) dz170 hb); replace BK498 := Aside0.mk (blk_below (g := gb498) (o := .cells #[.int .i64 t492, .slice Ao21 t493.length co21] 44 (0, 0)) dz171 hb); replace HB := Aside0.mk (below_step dz78 hb); (try clear hb); (try clear hb2); (try clear hk); (try clear hi); (try clear ho0)) | ((with_reducible refine gate_dst (N := 9) rfl ?_); (try (refine gate_guard (by rfl) ?_; dsimp only)); refine box_event kr_ (N := 9) kr_ (cs := #[.int .i64 0, .slice none 0 0]) (t := 44) ks_ ?_; intro gb505 hg w7 hbox hb; replace HO483 := (rbb_ HO483 hb); replace HO488 := Aside0.mk (Kd.N_below (Kd.N_elderB dz98 gb505 (Nat.le_of_eq hg.symm)) hb); replace HO495 := Aside0.mk (Kd.N_below (Kd.N_elderB (by (with_reducible repeat (first | apply Kd.N_alloc | apply Kd.N_drewN | apply Kd.N_drew)); exact HO495.out) gb505 (Nat.le_of_eq hg.symm)) hb); replace HO502 := Aside0.mk (Kd.N_below (Kd.N_elderB (by (with_reducible repeat (first | apply Kd.N_alloc | apply Kd.N_drewN | apply Kd.N_drew)); exact HO502.out) gb505 (Nat.le_of_eq hg.symm)) hb); have BK505 := Aside0.mk (hbox); have GW505 : Aside0 (w.heap.size ≤ gb505) := szl_ hg dz78; have GE505 : Aside0 (w.heap.size ≤ gb505) := szl_ hg dz78; replace HB := Aside0.mk (below_step dz78 hb); have NB490_505 := (nbl_ hg BK490); have NB505_490 := (nbr_ hg BK490); replace BK490 := (bkb_ BK490 hb); have NB491_505 := (nbl_ hg BK491); have NB505_491 := (nbr_ hg BK491); replace BK491 := (bkb_ BK491 hb); have NB498_505 := (nbl_ hg BK498); have NB505_498 := (nbr_ hg BK498); replace BK498 := (bkb_ BK498 hb); clear hb hbox hg; have hnb26 := NB505_490.out; have hnc26 := NB490_505.out; have hnb27 := NB505_491.out; have hnc27 := NB491_505.out; have hnb28 := NB505_498.out; have hnc28 := NB498_505.out; obtain ⟨hcz29_0, hcz29_1, hfz29_0, hfz29_1⟩ := cz2_ BK505; obtain ⟨Ao30, co30, eo30⟩ := Kd.N_slice HO502.out; subst eo30))
 (try simp only [Act.put, List.setIfInBounds_toArray, List.set_cons_zero, List.set_cons_succ])
 go_cut [45] (fun v45 wc => ∃ (kq : Nat) (x45_6 : Bool), v45 = .bool x45_6 ∧ Aside0 (laws_FnAdded.j0 kq t489 t496 t497 x45_6 t481 t484 t485 t486 t492 t493 = some r) ∧ Aside0 (kq ≤ k) ∧ Aside0 (Kd.R (Kd.int .i64) 3 wc w.heap.size (fun _ => True) (.slice Ao11 t481.length co11) t481) ∧ Aside0 (Kd.N k50 50 wc w.heap.size (fun k_ => some k_ ≠ ((.slice Ao11 t481.length co11) : Value).ownBlock ∧ some k_ ≠ ((.slice Ao21 t493.length co21) : Value).ownBlock ∧ some k_ ≠ ((.slice Ao30 t500.length co30) : Value).ownBlock ∧ k_ ≠ gb490 ∧ k_ ≠ gb491 ∧ k_ ≠ gb498 ∧ k_ ≠ gb505) (.slice Ao15 t486.length co15) t486) ∧ Aside0 (Kd.N k50 50 wc w.heap.size (fun k_ => some k_ ≠ ((.slice Ao11 t481.length co11) : Value).ownBlock ∧ some k_ ≠ ((.slice Ao15 t486.length co15) : Value).ownBlock ∧ some k_ ≠ ((.slice Ao30 t500.length co30) : Value).ownBlock ∧ k_ ≠ gb490 ∧ k_ ≠ gb491 ∧ k_ ≠ gb498 ∧ k_ ≠ gb505) (.slice Ao21 t493.length co21) t493) ∧ Aside0 (Kd.N k50 50 wc w.heap.size (fun k_ => some k_ ≠ ((.slice Ao11 t481.length co11) : Value).ownBlock ∧ some k_ ≠ ((.slice Ao15 t486.length co15) : Value).ownBlock ∧ some k_ ≠ ((.slice Ao21 t493.length co21) : Value).ownBlock ∧ k_ ≠ gb490 ∧ k_ ≠ gb491 ∧ k_ ≠ gb498 ∧ k_ ≠ gb505) (.slice Ao30 t500.length co30) t500) ∧ Aside0 (wc.heap[gb490]? = some (.cells #[(.slice Ao11 t481.length co11), .int .i64 t484] 31 (0, 0))) ∧ Aside0 (wc.heap[gb491]? = some (.cells #[.int .i64 t485, (.slice Ao15 t486.length co15)] 44 (0, 0))) ∧ Aside0 (wc.heap[gb498]? = some (.cells #[.int .i64 t492, (.slice Ao21 t493.length co21)] 44 (0, 0))) ∧ Aside0 (wc.heap[gb505]? = some (.cells #[.int .i64 t499, (.slice Ao30 t500.length co30)] 44 (0, 0))) ∧ Aside0 (Below w.heap.size w wc))
 case first =>
  have H := HC7.out
  clear HC7
  by_cases c31 : (t497 != t504) = true
  ·rw [if_pos c31] at H
   have c31b0 : (t497 != t504) = true := c31
   (try (have c31b1 : decide (t497 = t504) = false := by simpa using c31))
   (try (have c31b2 : (t497 == t504) = false := by simpa using c31))
   (try (have c31b3 : ¬ (t497 = t504) := by simpa using c31))
   clear c31
   (first | rw [c31b0] | (simp only [i64_w, i32_w]; rw [c31b0]) | skip)
   have H' := Aside0.mk H
   clear H
   go_wp2
   go_meet
   case rel => exact ⟨_, (true), dz3, H', ⟨by first | omega | exact Nat.le_refl _⟩, ⟨by (with_reducible repeat (first | apply Kd.R_alloc | apply Kd.R_drewN | apply Kd.R_drew)); exact Kd.R_mono (Kd.R_far (p := ⟨gb505, 1, none⟩) (Kd.R_far (p := ⟨gb505, 0, none⟩) (Kd.R_types HO483.out BK505.out (by decide)) (fun _ hk => hk.2) (.int .i64 t499)) (fun _ hk => hk.2) (.slice Ao30 t500.length co30)) (fun _ hk => trivial)⟩, ⟨by (with_reducible repeat (first | apply Kd.N_alloc | apply Kd.N_drewN | apply Kd.N_drew)); exact Kd.N_mono (Kd.N_far (p := ⟨gb505, 1, none⟩) (Kd.N_far (p := ⟨gb505, 0, none⟩) (Kd.N_mono HO488.out (fun k_ hk => (⟨hk, hk.2⟩ : _ ∧ k_ ≠ gb505))) (fun _ hk => hk.2) (.int .i64 t499)) (fun _ hk => hk.2) (.slice Ao30 t500.length co30)) (fun _ hk => ⟨hk.1.1.1.1.1.1.1, ⟨hk.1.1.1.1.2, ⟨hk.1.1.2, ⟨hk.1.1.1.1.1.1.2, ⟨hk.1.1.1.1.1.2, ⟨hk.1.1.1.2, hk.1.2⟩⟩⟩⟩⟩⟩)⟩, ⟨by (with_reducible repeat (first | apply Kd.N_alloc | apply Kd.N_drewN | apply Kd.N_drew)); exact Kd.N_mono (Kd.N_far (p := ⟨gb505, 1, none⟩) (Kd.N_far (p := ⟨gb505, 0, none⟩) (Kd.N_mono HO495.out (fun k_ hk => (⟨hk, hk.2⟩ : _ ∧ k_ ≠ gb505))) (fun _ hk => hk.2) (.int .i64 t499)) (fun _ hk => hk.2) (.slice Ao30 t500.length co30)) (fun _ hk => ⟨hk.1.1.1.1.1, ⟨hk.1.1.1.1.2.1, ⟨hk.1.1.2, ⟨hk.1.1.1.1.2.2.1, ⟨hk.1.1.1.1.2.2.2, ⟨hk.1.1.1.2, hk.1.2⟩⟩⟩⟩⟩⟩)⟩, ⟨by (with_reducible repeat (first | apply Kd.N_alloc | apply Kd.N_drewN | apply Kd.N_drew)); exact Kd.N_mono (Kd.N_far (p := ⟨gb505, 1, none⟩) (Kd.N_far (p := ⟨gb505, 0, none⟩) (Kd.N_mono HO502.out (fun k_ hk => (⟨hk, hk.2⟩ : _ ∧ k_ ≠ gb505))) (fun _ hk => hk.2) (.int .i64 t499)) (fun _ hk => hk.2) (.slice Ao30 t500.length co30)) (fun _ hk => ⟨hk.1.1.1, ⟨hk.1.1.2.1, ⟨hk.1.1.2.2.1, ⟨hk.1.1.2.2.2.1, ⟨hk.1.1.2.2.2.2.1, ⟨hk.1.1.2.2.2.2.2, hk.1.2⟩⟩⟩⟩⟩⟩)⟩, ⟨by (with_reducible repeat (first | refine blk_drewN ?_ _ | refine blk_drew ?_ | refine blk_alloc ?_ _)); refine blk_far ?_ NB490_505.out _; (with_reducible repeat (first | refine blk_drewN ?_ _ | refine blk_drew ?_ | refine blk_alloc ?_ _)); refine blk_far ?_ NB490_505.out _; (with_reducible repeat (first | refine blk_drewN ?_ _ | refine blk_drew ?_ | refine blk_alloc ?_ _)); exact BK490.out⟩, ⟨by (with_reducible repeat (first | refine blk_drewN ?_ _ | refine blk_drew ?_ | refine blk_alloc ?_ _)); refine blk_far ?_ NB491_505.out _; (with_reducible repeat (first | refine blk_drewN ?_ _ | refine blk_drew ?_ | refine blk_alloc ?_ _)); refine blk_far ?_ NB491_505.out _; (with_reducible repeat (first | refine blk_drewN ?_ _ | refine blk_drew ?_ | refine blk_alloc ?_ _)); exact BK491.out⟩, ⟨by (with_reducible repeat (first | refine blk_drewN ?_ _ | refine blk_drew ?_ | refine blk_alloc ?_ _)); refine blk_far ?_ NB498_505.out _; (with_reducible repeat (first | refine blk_drewN ?_ _ | refine blk_drew ?_ | refine blk_alloc ?_ _)); refine blk_far ?_ NB498_505.out _; (with_reducible repeat (first | refine blk_drewN ?_ _ | refine blk_drew ?_ | refine blk_alloc ?_ _)); exact BK498.out⟩, ⟨by (with_reducible repeat (first | refine blk_drewN ?_ _ | refine blk_drew ?_ | refine blk_alloc ?_ _)); refine blk_put (cs := #[.int .i64 t499, .slice none 0 0]) ?_ 1 _ rfl; (with_reducible repeat (first | refine blk_drewN ?_ _ | refine blk_drew ?_ | refine blk_alloc ?_ _)); refine blk_put (cs := #[.int .i64 0, .slice none 0 0]) ?_ 0 _ rfl; (with_reducible repeat (first | refine blk_drewN ?_ _ | refine blk_drew ?_ | refine blk_alloc ?_ _)); exact BK505.out⟩, ⟨by repeat (first | (with_reducible first | exact HB.out | apply below_alloc | apply pw_below_drewN | apply below_drew1 | refine below_set ?_ GE490.out | refine below_set ?_ GE491.out | refine below_set ?_ GE498.out | refine below_set ?_ GE505.out) | exact HB.out)⟩⟩
  rw [if_neg c31] at H
  have c31b0 : (t497 != t504) = false := by simpa using c31
  (try (have c31b1 : decide (t497 = t504) = true := by simpa using c31))
  (try (have c31b2 : (t497 == t504) = true := by simpa using c31))
  clear c31
  (first | rw [c31b0] | (simp only [i64_w, i32_w]; rw [c31b0]) | skip)
  have H' := Aside0.mk H
  clear H
  go_wp2
  go_meet
  case rel => exact ⟨_, ((t496 != t503)), dz3, H', ⟨by first | omega | exact Nat.le_refl _⟩, ⟨by (with_reducible repeat (first | apply Kd.R_alloc | apply Kd.R_drewN | apply Kd.R_drew)); exact Kd.R_mono (Kd.R_far (p := ⟨gb505, 1, none⟩) (Kd.R_far (p := ⟨gb505, 0, none⟩) (Kd.R_types HO483.out BK505.out (by decide)) (fun _ hk => hk.2) (.int .i64 t499)) (fun _ hk => hk.2) (.slice Ao30 t500.length co30)) (fun _ hk => trivial)⟩, ⟨by (with_reducible repeat (first | apply Kd.N_alloc | apply Kd.N_drewN | apply Kd.N_drew)); exact Kd.N_mono (Kd.N_far (p := ⟨gb505, 1, none⟩) (Kd.N_far (p := ⟨gb505, 0, none⟩) (Kd.N_mono HO488.out (fun k_ hk => (⟨hk, hk.2⟩ : _ ∧ k_ ≠ gb505))) (fun _ hk => hk.2) (.int .i64 t499)) (fun _ hk => hk.2) (.slice Ao30 t500.length co30)) (fun _ hk => ⟨hk.1.1.1.1.1.1.1, ⟨hk.1.1.1.1.2, ⟨hk.1.1.2, ⟨hk.1.1.1.1.1.1.2, ⟨hk.1.1.1.1.1.2, ⟨hk.1.1.1.2, hk.1.2⟩⟩⟩⟩⟩⟩)⟩, ⟨by (with_reducible repeat (first | apply Kd.N_alloc | apply Kd.N_drewN | apply Kd.N_drew)); exact Kd.N_mono (Kd.N_far (p := ⟨gb505, 1, none⟩) (Kd.N_far (p := ⟨gb505, 0, none⟩) (Kd.N_mono HO495.out (fun k_ hk => (⟨hk, hk.2⟩ : _ ∧ k_ ≠ gb505))) (fun _ hk => hk.2) (.int .i64 t499)) (fun _ hk => hk.2) (.slice Ao30 t500.length co30)) (fun _ hk => ⟨hk.1.1.1.1.1, ⟨hk.1.1.1.1.2.1, ⟨hk.1.1.2, ⟨hk.1.1.1.1.2.2.1, ⟨hk.1.1.1.1.2.2.2, ⟨hk.1.1.1.2, hk.1.2⟩⟩⟩⟩⟩⟩)⟩, ⟨by (with_reducible repeat (first | apply Kd.N_alloc | apply Kd.N_drewN | apply Kd.N_drew)); exact Kd.N_mono (Kd.N_far (p := ⟨gb505, 1, none⟩) (Kd.N_far (p := ⟨gb505, 0, none⟩) (Kd.N_mono HO502.out (fun k_ hk => (⟨hk, hk.2⟩ : _ ∧ k_ ≠ gb505))) (fun _ hk => hk.2) (.int .i64 t499)) (fun _ hk => hk.2) (.slice Ao30 t500.length co30)) (fun _ hk => ⟨hk.1.1.1, ⟨hk.1.1.2.1, ⟨hk.1.1.2.2.1, ⟨hk.1.1.2.2.2.1, ⟨hk.1.1.2.2.2.2.1, ⟨hk.1.1.2.2.2.2.2, hk.1.2⟩⟩⟩⟩⟩⟩)⟩, ⟨by (with_reducible repeat (first | refine blk_drewN ?_ _ | refine blk_drew ?_ | refine blk_alloc ?_ _)); refine blk_far ?_ NB490_505.out _; (with_reducible repeat (first | refine blk_drewN ?_ _ | refine blk_drew ?_ | refine blk_alloc ?_ _)); refine blk_far ?_ NB490_505.out _; (with_reducible repeat (first | refine blk_drewN ?_ _ | refine blk_drew ?_ | refine blk_alloc ?_ _)); exact BK490.out⟩, ⟨by (with_reducible repeat (first | refine blk_drewN ?_ _ | refine blk_drew ?_ | refine blk_alloc ?_ _)); refine blk_far ?_ NB491_505.out _; (with_reducible repeat (first | refine blk_drewN ?_ _ | refine blk_drew ?_ | refine blk_alloc ?_ _)); refine blk_far ?_ NB491_505.out _; (with_reducible repeat (first | refine blk_drewN ?_ _ | refine blk_drew ?_ | refine blk_alloc ?_ _)); exact BK491.out⟩, ⟨by (with_reducible repeat (first | refine blk_drewN ?_ _ | refine blk_drew ?_ | refine blk_alloc ?_ _)); refine blk_far ?_ NB498_505.out _; (with_reducible repeat (first | refine blk_drewN ?_ _ | refine blk_drew ?_ | refine blk_alloc ?_ _)); refine blk_far ?_ NB498_505.out _; (with_reducible repeat (first | refine blk_drewN ?_ _ | refine blk_drew ?_ | refine blk_alloc ?_ _)); exact BK498.out⟩, ⟨by (with_reducible repeat (first | refine blk_drewN ?_ _ | refine blk_drew ?_ | refine blk_alloc ?_ _)); refine blk_put (cs := #[.int .i64 t499, .slice none 0 0]) ?_ 1 _ rfl; (with_reducible repeat (first | refine blk_drewN ?_ _ | refine blk_drew ?_ | refine blk_alloc ?_ _)); refine blk_put (cs := #[.int .i64 0, .slice none 0 0]) ?_ 0 _ rfl; (with_reducible repeat (first | refine blk_drewN ?_ _ | refine blk_drew ?_ | refine blk_alloc ?_ _)); exact BK505.out⟩, ⟨by repeat (first | (with_reducible first | exact HB.out | apply below_alloc | apply pw_below_drewN | apply below_drew1 | refine below_set ?_ GE490.out | refine below_set ?_ GE491.out | refine below_set ?_ GE498.out | refine below_set ?_ GE505.out) | exact HB.out)⟩⟩
 case rest =>
  clear HC7
  try clear c1
  try clear c2
  try clear p2
  try clear c3
  try clear c4
  try clear c12
  try clear c17
  try clear c18
  try clear c19
  try clear c20
  try clear c26
  try clear c27
  try clear c28
  try clear c31
  try clear c31b0
  try clear c31b1
  try clear c31b2
  try clear hcz13_0
  try clear hcz13_1
  try clear hcz14_0
  try clear hcz14_1
  try clear hcz20_0
  try clear hcz20_1
  try clear hcz22_0
  try clear hcz22_1
  try clear hcz23_0
  try clear hcz23_1
  try clear hcz29_0
  try clear hcz29_1
  try clear hfz13_0
  try clear hfz13_1
  try clear hfz14_0
  try clear hfz14_1
  try clear hfz20_0
  try clear hfz20_1
  try clear hfz22_0
  try clear hfz22_1
  try clear hfz23_0
  try clear hfz23_1
  try clear hfz29_0
  try clear hfz29_1
  obtain ⟨kq, x45_6, rfl, HA, HJ6, HO_491000, HO_492001, HO_499001, HO_506001, BK490, BK491, BK498, BK505, HB⟩ := hcut
  cases kq with
  | zero => exact absurd HA.out (by simp [laws_FnAdded.j0])
  | succ kj6 =>
   have H := HA.out
   clear HA
   simp only [laws_FnAdded.j0] at H
   by_cases c32 : x45_6 = true
   ·subst c32
    have H1 : (none) = some r := by rw [if_pos rfl] at H; exact H
    clear H
    have H := H1
    clear H1
    exact absurd H (by simp)
   replace c32 := Bool.eq_false_iff.mpr c32
   subst c32
   have H1 : (if t497 = true then (laws_FnAdded.l0 kj6 t489 t496 0 t481 t484 t485 t486 t492 t493) else (if (t493.length : Int) = (t486.length : Int) then (some true) else (some ((t493.length : Int) == 0)))) = some r := by rw [if_neg (show ¬ (false = true) by decide)] at H; exact H
   clear H
   have H := H1
   clear H1
   by_cases c33 : t497 = true
   ·subst c33
    have H1 : (laws_FnAdded.l0 kj6 t489 t496 0 t481 t484 t485 t486 t492 t493) = some r := by rw [if_pos rfl] at H; exact H
    clear H
    have H := H1
    clear H1
    have H' := Aside0.mk H
    clear H
    go_wp2
    go_loopg [12] kj6 (fun kq v12 w' => ∃ (x12_2 : Int), v12 = .int .i64 x12_2 ∧ Aside0 (laws_FnAdded.l0 kq t489 t496 x12_2 t481 t484 t485 t486 t492 t493 = some r) ∧ Aside0 (kq ≤ kj6) ∧ Aside0 (Kd.R (Kd.int .i64) 3 w' w.heap.size (fun _ => True) (.slice Ao11 t481.length co11) t481) ∧ Aside0 (Kd.N k50 50 w' w.heap.size (fun k_ => some k_ ≠ ((.slice Ao11 t481.length co11) : Value).ownBlock ∧ some k_ ≠ ((.slice Ao21 t493.length co21) : Value).ownBlock ∧ some k_ ≠ ((.slice Ao30 t500.length co30) : Value).ownBlock ∧ k_ ≠ gb490 ∧ k_ ≠ gb491 ∧ k_ ≠ gb498 ∧ k_ ≠ gb505) (.slice Ao15 t486.length co15) t486) ∧ Aside0 (Kd.N k50 50 w' w.heap.size (fun k_ => some k_ ≠ ((.slice Ao11 t481.length co11) : Value).ownBlock ∧ some k_ ≠ ((.slice Ao15 t486.length co15) : Value).ownBlock ∧ some k_ ≠ ((.slice Ao30 t500.length co30) : Value).ownBlock ∧ k_ ≠ gb490 ∧ k_ ≠ gb491 ∧ k_ ≠ gb498 ∧ k_ ≠ gb505) (.slice Ao21 t493.length co21) t493) ∧ Aside0 (Kd.N k50 50 w' w.heap.size (fun k_ => some k_ ≠ ((.slice Ao11 t481.length co11) : Value).ownBlock ∧ some k_ ≠ ((.slice Ao15 t486.length co15) : Value).ownBlock ∧ some k_ ≠ ((.slice Ao21 t493.length co21) : Value).ownBlock ∧ k_ ≠ gb490 ∧ k_ ≠ gb491 ∧ k_ ≠ gb498 ∧ k_ ≠ gb505) (.slice Ao30 t500.length co30) t500) ∧ Aside0 (w'.heap[gb490]? = some (.cells #[(.slice Ao11 t481.length co11), .int .i64 t484] 31 (0, 0))) ∧ Aside0 (w'.heap[gb491]? = some (.cells #[.int .i64 t485, (.slice Ao15 t486.length co15)] 44 (0, 0))) ∧ Aside0 (w'.heap[gb498]? = some (.cells #[.int .i64 t492, (.slice Ao21 t493.length co21)] 44 (0, 0))) ∧ Aside0 (w'.heap[gb505]? = some (.cells #[.int .i64 t499, (.slice Ao30 t500.length co30)] 44 (0, 0))) ∧ Aside0 (Below w.heap.size w w'))
    case atStart => exact ⟨(0), dz3, H', ⟨Nat.le_refl _⟩, ⟨by (with_reducible repeat (first | apply Kd.R_alloc | apply Kd.R_drewN | apply Kd.R_drew)); exact HO_491000.out⟩, ⟨by (with_reducible repeat (first | apply Kd.N_alloc | apply Kd.N_drewN | apply Kd.N_drew)); exact HO_492001.out⟩, ⟨by (with_reducible repeat (first | apply Kd.N_alloc | apply Kd.N_drewN | apply Kd.N_drew)); exact HO_499001.out⟩, ⟨by (with_reducible repeat (first | apply Kd.N_alloc | apply Kd.N_drewN | apply Kd.N_drew)); exact HO_506001.out⟩, ⟨by (with_reducible repeat (first | refine blk_drewN ?_ _ | refine blk_drew ?_ | refine blk_alloc ?_ _)); exact BK490.out⟩, ⟨by (with_reducible repeat (first | refine blk_drewN ?_ _ | refine blk_drew ?_ | refine blk_alloc ?_ _)); exact BK491.out⟩, ⟨by (with_reducible repeat (first | refine blk_drewN ?_ _ | refine blk_drew ?_ | refine blk_alloc ?_ _)); exact BK498.out⟩, ⟨by (with_reducible repeat (first | refine blk_drewN ?_ _ | refine blk_drew ?_ | refine blk_alloc ?_ _)); exact BK505.out⟩, ⟨by repeat (first | (with_reducible first | exact HB.out | apply below_alloc | apply pw_below_drewN | apply below_drew1 | refine below_set ?_ GE490.out | refine below_set ?_ GE491.out | refine below_set ?_ GE498.out | refine below_set ?_ GE505.out) | exact HB.out)⟩⟩
    case round =>
     clear H'
     try clear c1
     try clear c2
     try clear p2
     try clear c3
     try clear c4
     try clear c12
     try clear c17
     try clear c18
     try clear c19
     try clear c20
     try clear c26
     try clear c27
     try clear c28
     try clear c31
     try clear c31b0
     try clear c31b1
     try clear c31b2
     try clear c32
     try clear c33
     try clear hcz13_0
     try clear hcz13_1
     try clear hcz14_0
     try clear hcz14_1
     try clear hcz20_0
     try clear hcz20_1
     try clear hcz22_0
     try clear hcz22_1
     try clear hcz23_0
     try clear hcz23_1
     try clear hcz29_0
     try clear hcz29_1
     try clear hfz13_0
     try clear hfz13_1
     try clear hfz14_0
     try clear hfz14_1
     try clear hfz20_0
     try clear hfz20_1
     try clear hfz22_0
     try clear hfz22_1
     try clear hfz23_0
     try clear hfz23_1
     try clear hfz29_0
     try clear hfz29_1
     try clear p2
     obtain ⟨x12_2, rfl, HA, HK2, HO_491000, HO_492001, HO_499001, HO_506001, BK490, BK491, BK498, BK505, HB⟩ := hrel
     cases gk with
     | zero => exact absurd HA.out (by simp [laws_FnAdded.l0])
     | succ k2 =>
      have H := HA.out
      clear HA
      simp only [laws_FnAdded.l0] at H
      by_cases c34 : x12_2 < (t486.length : Int)
      ·rw [if_pos c34] at H
       have c34b0 : decide (x12_2 < (t486.length : Int)) = true := decide_eq_true c34
       clear c34
       by_cases c35 : 0 ≤ x12_2
       ·rw [if_pos c35] at H
        have c35b0 : decide (0 ≤ x12_2) = true := decide_eq_true c35
        clear c35
        by_cases c36 : x12_2 < (t493.length : Int)
        ·rw [if_pos c36] at H
         have c36b0 : decide (x12_2 < (t493.length : Int)) = true := decide_eq_true c36
         clear c36
         by_cases c37 : ((rd_T50 t493 x12_2).f0).toList = ((rd_T50 t486 x12_2).f0).toList
         ·rw [if_pos c37] at H
          have c37b0 : (((rd_T50 t493 x12_2).f0).toList == ((rd_T50 t486 x12_2).f0).toList) = true := beq_iff_eq.mpr c37
          have c37b1 : (((rd_T50 t493 x12_2).f0).toList != ((rd_T50 t486 x12_2).f0).toList) = false := bne_eq_false_iff_eq.mpr c37
          clear c37
          by_cases c38 : (((rd_T50 t493 x12_2).f2) != ((rd_T50 t486 x12_2).f2)) = true
          ·rw [if_pos c38] at H
           exact absurd H (by simp)
          rw [if_neg c38] at H
          have c38b0 : (((rd_T50 t493 x12_2).f2) != ((rd_T50 t486 x12_2).f2)) = false := by simpa using c38
          (try (have c38b1 : decide (((rd_T50 t493 x12_2).f2) = ((rd_T50 t486 x12_2).f2)) = true := by simpa using c38))
          (try (have c38b2 : (((rd_T50 t493 x12_2).f2) == ((rd_T50 t486 x12_2).f2)) = true := by simpa using c38))
          clear c38
          have H' := Aside0.mk H
          clear H
          have hnb39 := NB491_490.out
          have hnc39 := NB490_491.out
          have hnb40 := NB491_498.out
          have hnc40 := NB498_491.out
          have hnb41 := NB491_505.out
          have hnc41 := NB505_491.out
          obtain ⟨hcz42_0, hcz42_1, hfz42_0, hfz42_1⟩ := cz2_ BK491
          try go_wp2
          replace HO_491000 := Aside0.mk (Kd.R_drew HO_491000.out)
          replace HO_492001 := Aside0.mk (Kd.N_drew HO_492001.out)
          replace HO_499001 := Aside0.mk (Kd.N_drew HO_499001.out)
          replace HO_506001 := Aside0.mk (Kd.N_drew HO_506001.out)
          replace BK490 := Aside0.mk (blk_drew BK490.out)
          replace BK491 := Aside0.mk (blk_drew BK491.out)
          replace BK498 := Aside0.mk (blk_drew BK498.out)
          replace BK505 := Aside0.mk (blk_drew BK505.out)
          replace HB := Aside0.mk (below_drew1 HB.out)
          have p506 : 0 ≤ (x12_2 : Int) := of_decide_eq_true dz0
          have q506 : x12_2 < (t493.length : Int) := of_decide_eq_true dz0
          obtain ⟨ad506, A506_1, c506_1, e506, hx506_0, hx506_1, hx506_2, hl506_1, hi506_1⟩ := at_T50 (Kd.N_reads' HO_499001.out).2.2 x12_2 p506 q506
          cases e506
          obtain ⟨ce506, hce506, hMe506, hcc506⟩ := Kd.N_get HO_499001.out z50 x12_2 p506 (by first | exact q506 | exact of_decide_eq_true dz0 | (have e_ := (Kd.N_reads' HO_499001.out).1; omega))
          obtain ⟨ua506_1, uc506_1, rfl, ul506_1, ge506_1⟩ := k50_openF hMe506
          have hv506_1 := hcc506 1 _ rfl
          rw [add_field _ _ 1 (by omega)] at hv506_1
          replace hv506_1 := Option.some.inj (hv506_1.symm.trans hx506_1)
          injection hv506_1 with hva_ hvn_ hvc_
          rw [hva_] at ge506_1
          rw [hvc_] at ul506_1
          have HL506_1 := Aside0.mk (show Kd.V (Kd.int .i64) 3 _ w.heap.size _ _ ((rd_T50 t493 x12_2).f1) from Kd.V_mk ul506_1 ge506_1)
          clear hva_ hvn_ hvc_ ge506_1 ul506_1
          clear hcc506 hce506
          have HR506_1 := Aside0.mk hi506_1
          have HC506_1 := Aside0.mk hl506_1
          clear hi506_1 hl506_1
          replace p506 := eq_true p506
          replace q506 := eq_true q506
          have p507 : 0 ≤ (x12_2 : Int) := of_decide_eq_true dz0
          have q507 : x12_2 < (t486.length : Int) := of_decide_eq_true dz0
          obtain ⟨ad507, A507_1, c507_1, e507, hx507_0, hx507_1, hx507_2, hl507_1, hi507_1⟩ := at_T50 (Kd.N_reads' HO_492001.out).2.2 x12_2 p507 q507
          cases e507
          obtain ⟨ce507, hce507, hMe507, hcc507⟩ := Kd.N_get HO_492001.out z50 x12_2 p507 (by first | exact q507 | exact of_decide_eq_true dz0 | (have e_ := (Kd.N_reads' HO_492001.out).1; omega))
          obtain ⟨ua507_1, uc507_1, rfl, ul507_1, ge507_1⟩ := k50_openF hMe507
          have hv507_1 := hcc507 1 _ rfl
          rw [add_field _ _ 1 (by omega)] at hv507_1
          replace hv507_1 := Option.some.inj (hv507_1.symm.trans hx507_1)
          injection hv507_1 with hva_ hvn_ hvc_
          rw [hva_] at ge507_1
          rw [hvc_] at ul507_1
          have HL507_1 := Aside0.mk (show Kd.V (Kd.int .i64) 3 _ w.heap.size _ _ ((rd_T50 t486 x12_2).f1) from Kd.V_mk ul507_1 ge507_1)
          clear hva_ hvn_ hvc_ ge507_1 ul507_1
          clear hcc507 hce507
          have HR507_1 := Aside0.mk hi507_1
          have HC507_1 := Aside0.mk hl507_1
          clear hi507_1 hl507_1
          replace p507 := eq_true p507
          replace q507 := eq_true q507
          have p508 : 0 ≤ (x12_2 : Int) := of_decide_eq_true dz0
          have q508 : x12_2 < (t493.length : Int) := of_decide_eq_true dz0
          obtain ⟨ad508, A508_1, c508_1, e508, hx508_0, hx508_1, hx508_2, hl508_1, hi508_1⟩ := at_T50 (Kd.N_reads' HO_499001.out).2.2 x12_2 p508 q508
          obtain rfl : ad506 = ad508 := (by injection e508)
          obtain ⟨ce508, hce508, hMe508, hcc508⟩ := Kd.N_get HO_499001.out z50 x12_2 p508 (by first | exact q508 | exact of_decide_eq_true dz0 | (have e_ := (Kd.N_reads' HO_499001.out).1; omega))
          obtain ⟨ua508_1, uc508_1, rfl, ul508_1, ge508_1⟩ := k50_openF hMe508
          have hv508_1 := hcc508 1 _ rfl
          rw [add_field _ _ 1 (by omega)] at hv508_1
          replace hv508_1 := Option.some.inj (hv508_1.symm.trans hx508_1)
          injection hv508_1 with hva_ hvn_ hvc_
          rw [hva_] at ge508_1
          rw [hvc_] at ul508_1
          have HL508_1 := Aside0.mk (show Kd.V (Kd.int .i64) 3 _ w.heap.size _ _ ((rd_T50 t493 x12_2).f1) from Kd.V_mk ul508_1 ge508_1)
          clear hva_ hvn_ hvc_ ge508_1 ul508_1
          clear hcc508 hce508
          have HR508_1 := Aside0.mk hi508_1
          have HC508_1 := Aside0.mk hl508_1
          clear hi508_1 hl508_1
          replace p508 := eq_true p508
          replace q508 := eq_true q508
          have ea_ := Option.some.inj (hx506_1.symm.trans hx508_1)
          injection ea_ with ea_ en_ ec_
          subst ea_
          subst ec_
          clear en_
          have p509 : 0 ≤ (x12_2 : Int) := of_decide_eq_true dz0
          have q509 : x12_2 < (t486.length : Int) := of_decide_eq_true dz0
          obtain ⟨ad509, A509_1, c509_1, e509, hx509_0, hx509_1, hx509_2, hl509_1, hi509_1⟩ := at_T50 (Kd.N_reads' HO_492001.out).2.2 x12_2 p509 q509
          obtain rfl : ad507 = ad509 := (by injection e509)
          obtain ⟨ce509, hce509, hMe509, hcc509⟩ := Kd.N_get HO_492001.out z50 x12_2 p509 (by first | exact q509 | exact of_decide_eq_true dz0 | (have e_ := (Kd.N_reads' HO_492001.out).1; omega))
          obtain ⟨ua509_1, uc509_1, rfl, ul509_1, ge509_1⟩ := k50_openF hMe509
          have hv509_1 := hcc509 1 _ rfl
          rw [add_field _ _ 1 (by omega)] at hv509_1
          replace hv509_1 := Option.some.inj (hv509_1.symm.trans hx509_1)
          injection hv509_1 with hva_ hvn_ hvc_
          rw [hva_] at ge509_1
          rw [hvc_] at ul509_1
          have HL509_1 := Aside0.mk (show Kd.V (Kd.int .i64) 3 _ w.heap.size _ _ ((rd_T50 t486 x12_2).f1) from Kd.V_mk ul509_1 ge509_1)
          clear hva_ hvn_ hvc_ ge509_1 ul509_1
          clear hcc509 hce509
          have HR509_1 := Aside0.mk hi509_1
          have HC509_1 := Aside0.mk hl509_1
          clear hi509_1 hl509_1
          replace p509 := eq_true p509
          replace q509 := eq_true q509
          have ea_ := Option.some.inj (hx507_1.symm.trans hx509_1)
          injection ea_ with ea_ en_ ec_
          subst ea_
          subst ec_
          clear en_
          refine start_ (n := 28) (S := fun w' => w'.cell? ⟨gb498, 0, none⟩ = some (.int .i64 t492) ∧ w'.cell? ⟨gb498, 1, none⟩ = some (.slice (some ad506) t493.length co21) ∧ w'.cell? ⟨gb491, 0, none⟩ = some (.int .i64 t485) ∧ w'.cell? ⟨gb491, 1, none⟩ = some (.slice (some ad507) t486.length co15) ∧ w'.cell? (ad506.add ((x12_2).toNat * 3)) = some (.string ((rd_T50 t493 x12_2).f0)) ∧ w'.cell? ⟨(ad506.add ((x12_2).toNat * 3)).block, (ad506.add ((x12_2).toNat * 3)).off + 1, none⟩ = some (.slice A506_1 ((rd_T50 t493 x12_2).f1).length c506_1) ∧ w'.cell? ⟨(ad506.add ((x12_2).toNat * 3)).block, (ad506.add ((x12_2).toNat * 3)).off + 2, none⟩ = some (.bool ((rd_T50 t493 x12_2).f2)) ∧ w'.cell? (ad507.add ((x12_2).toNat * 3)) = some (.string ((rd_T50 t486 x12_2).f0)) ∧ w'.cell? ⟨(ad507.add ((x12_2).toNat * 3)).block, (ad507.add ((x12_2).toNat * 3)).off + 1, none⟩ = some (.slice A507_1 ((rd_T50 t486 x12_2).f1).length c507_1) ∧ w'.cell? ⟨(ad507.add ((x12_2).toNat * 3)).block, (ad507.add ((x12_2).toNat * 3)).off + 2, none⟩ = some (.bool ((rd_T50 t486 x12_2).f2)) ∧ w'.cell? (ad506.add ((x12_2).toNat * 3)) = some (.string ((rd_T50 t493 x12_2).f0)) ∧ w'.cell? ⟨(ad506.add ((x12_2).toNat * 3)).block, (ad506.add ((x12_2).toNat * 3)).off + 1, none⟩ = some (.slice A506_1 ((rd_T50 t493 x12_2).f1).length c506_1) ∧ w'.cell? ⟨(ad506.add ((x12_2).toNat * 3)).block, (ad506.add ((x12_2).toNat * 3)).off + 2, none⟩ = some (.bool ((rd_T50 t493 x12_2).f2)) ∧ w'.cell? (ad507.add ((x12_2).toNat * 3)) = some (.string ((rd_T50 t486 x12_2).f0)) ∧ w'.cell? ⟨(ad507.add ((x12_2).toNat * 3)).block, (ad507.add ((x12_2).toNat * 3)).off + 1, none⟩ = some (.slice A507_1 ((rd_T50 t486 x12_2).f1).length c507_1) ∧ w'.cell? ⟨(ad507.add ((x12_2).toNat * 3)).block, (ad507.add ((x12_2).toNat * 3)).off + 2, none⟩ = some (.bool ((rd_T50 t486 x12_2).f2))) (ds := []) (fl_ 0 28) (by kernel_rfl) rfl rfl ⟨(blk_cell BK498.out 0).trans rfl, (blk_cell BK498.out 1).trans rfl, (blk_cell BK491.out 0).trans rfl, (blk_cell BK491.out 1).trans rfl, hx506_0, hx506_1, hx506_2, hx507_0, hx507_1, hx507_2, hx508_0, hx508_1, hx508_2, hx509_0, hx509_1, hx509_2⟩ (fun hHeld => ?_); refine with_tabW laws_FnAdded.tab13 laws_FnAdded.bits13 (fun HT_ HW_ => ?_)
          generalize wr.drew = w43 at HO_491000 HO_492001 HO_499001 HO_506001 BK490 BK491 BK498 BK505 HB HL506_1 HL507_1 HL508_1 HL509_1 HR506_1 HR507_1 HR508_1 HR509_1 hx506_0 hx506_1 hx506_2 hx507_0 hx507_1 hx507_2 hx508_0 hx508_1 hx508_2 hx509_0 hx509_1 hx509_2 hHeld ⊢
          refine pure_ (i := 0) (N := some 68) (v := ?_) (a' := ?_) (fl_ 1 27) rfl rfl (any_of HT_.out (by kernel_rfl)) (fun _ _ _ h => h) (Or.inl ⟨by rfl, ?_⟩) ?_ ?_
          rotate_left
          ·exact dz489
          rotate_left
          ·exact dz490
          refine pure_ (i := 2) (N := some 70) (v := ?_) (a' := ?_) #[true, false, true, false, false, false, false, false, false, false, false, false, false, false, false, false, false, false, false, false, false, false, false, false, false, false, false, false] rfl rfl (any_of HT_.out (by kernel_rfl)) (fun _ _ _ h => h) (Or.inl ⟨by rfl, ?_⟩) ?_ ?_
          rotate_left
          ·exact dz489
          rotate_left
          ·exact dz490
          refine pure_ (i := 6) (N := some 74) (v := ?_) (a' := ?_) #[true, false, true, false, false, false, true, false, false, false, false, false, false, false, false, false, false, false, false, false, false, false, false, false, false, false, false, false] rfl rfl (any_of HT_.out (by kernel_rfl)) (fun _ _ _ h => h) (Or.inl ⟨by rfl, ?_⟩) ?_ ?_
          rotate_left
          ·exact dz489
          rotate_left
          ·exact dz490
          refine pure_ (i := 8) (N := some 76) (v := ?_) (a' := ?_) #[true, false, true, false, false, false, true, false, true, false, false, false, false, false, false, false, false, false, false, false, false, false, false, false, false, false, false, false] rfl rfl (any_of HT_.out (by kernel_rfl)) (fun _ _ _ h => h) (Or.inl ⟨by rfl, ?_⟩) ?_ ?_
          rotate_left
          ·exact dz489
          rotate_left
          ·exact dz490
          refine take_ (i := 1) (N := some 69) (v := ?_) (a' := ?_) #[true, true, true, false, false, false, true, false, true, false, false, false, false, false, false, false, false, false, false, false, false, false, false, false, false, false, false, false] rfl rfl (take_ofW HT_.out HW_.out (by kernel_rfl)) (fun _ _ _ h => h) (Or.inl ⟨by rfl, ?_⟩) hHeld ?_ ?_
          rotate_left
          ·exact dz501
          rotate_left
          ·exact dz490
          refine pure_ (i := 3) (N := some 71) (v := ?_) (a' := ?_) #[true, true, true, true, false, false, true, false, true, false, false, false, false, false, false, false, false, false, false, false, false, false, false, false, false, false, false, false] rfl rfl (any_of HT_.out (by kernel_rfl)) (fun _ _ _ h => h) (Or.inl ⟨by rfl, ?_⟩) ?_ ?_
          rotate_left
          ·exact dz489
          rotate_left
          ·exact dz490
          refine pure_ (i := 4) (N := some 72) (v := ?_) (a' := ?_) #[true, true, true, true, true, false, true, false, true, false, false, false, false, false, false, false, false, false, false, false, false, false, false, false, false, false, false, false] rfl rfl (any_of HT_.out (by kernel_rfl)) (fun _ _ _ h => h) (Or.inl ⟨by rfl, ?_⟩) ?_ ?_
          rotate_left
          ·exact dz489
          rotate_left
          ·exact dz490
          refine take_ (i := 5) (N := some 73) (v := ?_) (a' := ?_) #[true, true, true, true, true, true, true, false, true, false, false, false, false, false, false, false, false, false, false, false, false, false, false, false, false, false, false, false] rfl rfl (take_ofW HT_.out HW_.out (by kernel_rfl)) (fun _ _ _ h => h) (Or.inl ⟨by rfl, ?_⟩) hHeld ?_ ?_
          rotate_left
          ·exact dz501
          rotate_left
          ·exact dz490
          refine take_ (i := 7) (N := some 75) (v := ?_) (a' := ?_) (fl_ 9 19) rfl rfl (take_ofW HT_.out HW_.out (by kernel_rfl)) (fun _ _ _ h => h) (Or.inl ⟨by rfl, ?_⟩) hHeld ?_ ?_
          rotate_left
          ·exact dz501
          rotate_left
          ·exact dz490
          refine pure_ (i := 9) (N := some 77) (v := ?_) (a' := ?_) (fl_ 10 18) rfl rfl (any_of HT_.out (by kernel_rfl)) (fun _ _ _ h => h) (Or.inl ⟨by rfl, ?_⟩) ?_ ?_
          rotate_left
          ·exact dz489
          rotate_left
          ·exact dz490
          refine pure_ (i := 10) (N := some 78) (v := ?_) (a' := ?_) (fl_ 11 17) rfl rfl (any_of HT_.out (by kernel_rfl)) (fun _ _ _ h => h) (Or.inl ⟨by rfl, ?_⟩) ?_ ?_
          rotate_left
          ·exact dz489
          rotate_left
          ·exact dz490
          refine take_ (i := 11) (N := some 79) (v := ?_) (a' := ?_) (fl_ 12 16) rfl rfl (take_ofW HT_.out HW_.out (by kernel_rfl)) (fun _ _ _ h => h) (Or.inl ⟨by rfl, ?_⟩) hHeld ?_ ?_
          rotate_left
          ·exact dz501
          rotate_left
          ·exact dz490
          refine pure_ (i := 12) (N := some 80) (v := ?_) (a' := ?_) (fl_ 13 15) rfl rfl (any_of HT_.out (by kernel_rfl)) (fun _ _ _ h => h) (Or.inl ⟨by rfl, ?_⟩) ?_ ?_
          rotate_left
          ·exact dz489
          rotate_left
          ·exact dz490
          refine pure_ (i := 13) (N := some 81) (v := ?_) (a' := ?_) (fl_ 14 14) rfl rfl (any_of HT_.out (by kernel_rfl)) (fun _ _ _ h => h) (Or.inl ⟨by rfl, ?_⟩) ?_ ?_
          rotate_left
          ·exact dz489
          rotate_left
          ·exact dz490
          refine pure_ (i := 14) (N := some 82) (v := ?_) (a' := ?_) (fl_ 15 13) rfl rfl (any_of HT_.out (by kernel_rfl)) (fun _ _ _ h => h) (Or.inl ⟨by rfl, ?_⟩) ?_ ?_
          rotate_left
          ·exact dz489
          rotate_left
          ·exact dz490
          refine pure_ (i := 16) (N := some 84) (v := ?_) (a' := ?_) #[true, true, true, true, true, true, true, true, true, true, true, true, true, true, true, false, true, false, false, false, false, false, false, false, false, false, false, false] rfl rfl (any_of HT_.out (by kernel_rfl)) (fun _ _ _ h => h) (Or.inl ⟨by rfl, ?_⟩) ?_ ?_
          rotate_left
          ·exact dz489
          rotate_left
          ·exact dz490
          refine pure_ (i := 20) (N := some 88) (v := ?_) (a' := ?_) #[true, true, true, true, true, true, true, true, true, true, true, true, true, true, true, false, true, false, false, false, true, false, false, false, false, false, false, false] rfl rfl (any_of HT_.out (by kernel_rfl)) (fun _ _ _ h => h) (Or.inl ⟨by rfl, ?_⟩) ?_ ?_
          rotate_left
          ·exact dz489
          rotate_left
          ·exact dz490
          refine pure_ (i := 22) (N := some 90) (v := ?_) (a' := ?_) #[true, true, true, true, true, true, true, true, true, true, true, true, true, true, true, false, true, false, false, false, true, false, true, false, false, false, false, false] rfl rfl (any_of HT_.out (by kernel_rfl)) (fun _ _ _ h => h) (Or.inl ⟨by rfl, ?_⟩) ?_ ?_
          rotate_left
          ·exact dz489
          rotate_left
          ·exact dz490
          refine take_ (i := 15) (N := some 83) (v := ?_) (a' := ?_) #[true, true, true, true, true, true, true, true, true, true, true, true, true, true, true, true, true, false, false, false, true, false, true, false, false, false, false, false] rfl rfl (take_ofW HT_.out HW_.out (by kernel_rfl)) (fun _ _ _ h => h) (Or.inl ⟨by rfl, ?_⟩) hHeld ?_ ?_
          rotate_left
          ·exact dz501
          rotate_left
          ·exact dz490
          refine pure_ (i := 17) (N := some 85) (v := ?_) (a' := ?_) #[true, true, true, true, true, true, true, true, true, true, true, true, true, true, true, true, true, true, false, false, true, false, true, false, false, false, false, false] rfl rfl (any_of HT_.out (by kernel_rfl)) (fun _ _ _ h => h) (Or.inl ⟨by rfl, ?_⟩) ?_ ?_
          rotate_left
          ·exact dz489
          rotate_left
          ·exact dz490
          refine pure_ (i := 18) (N := some 86) (v := ?_) (a' := ?_) #[true, true, true, true, true, true, true, true, true, true, true, true, true, true, true, true, true, true, true, false, true, false, true, false, false, false, false, false] rfl rfl (any_of HT_.out (by kernel_rfl)) (fun _ _ _ h => h) (Or.inl ⟨by rfl, ?_⟩) ?_ ?_
          rotate_left
          ·exact dz489
          rotate_left
          ·exact dz490
          refine take_ (i := 19) (N := some 87) (v := ?_) (a' := ?_) #[true, true, true, true, true, true, true, true, true, true, true, true, true, true, true, true, true, true, true, true, true, false, true, false, false, false, false, false] rfl rfl (take_ofW HT_.out HW_.out (by kernel_rfl)) (fun _ _ _ h => h) (Or.inl ⟨by rfl, ?_⟩) hHeld ?_ ?_
          rotate_left
          ·exact dz501
          rotate_left
          ·exact dz490
          refine take_ (i := 21) (N := some 89) (v := ?_) (a' := ?_) (fl_ 23 5) rfl rfl (take_ofW HT_.out HW_.out (by kernel_rfl)) (fun _ _ _ h => h) (Or.inl ⟨by rfl, ?_⟩) hHeld ?_ ?_
          rotate_left
          ·exact dz501
          rotate_left
          ·exact dz490
          refine pure_ (i := 23) (N := some 91) (v := ?_) (a' := ?_) (fl_ 24 4) rfl rfl (any_of HT_.out (by kernel_rfl)) (fun _ _ _ h => h) (Or.inl ⟨by rfl, ?_⟩) ?_ ?_
          rotate_left
          ·exact dz489
          rotate_left
          ·exact dz490
          refine pure_ (i := 24) (N := some 92) (v := ?_) (a' := ?_) (fl_ 25 3) rfl rfl (any_of HT_.out (by kernel_rfl)) (fun _ _ _ h => h) (Or.inl ⟨by rfl, ?_⟩) ?_ ?_
          rotate_left
          ·exact dz489
          rotate_left
          ·exact dz490
          refine take_ (i := 25) (N := some 93) (v := ?_) (a' := ?_) (fl_ 26 2) rfl rfl (take_ofW HT_.out HW_.out (by kernel_rfl)) (fun _ _ _ h => h) (Or.inl ⟨by rfl, ?_⟩) hHeld ?_ ?_
          rotate_left
          ·exact dz501
          rotate_left
          ·exact dz490
          refine pure_ (i := 26) (N := some 94) (v := ?_) (a' := ?_) (fl_ 27 1) rfl rfl (any_of HT_.out (by kernel_rfl)) (fun _ _ _ h => h) (Or.inl ⟨by rfl, ?_⟩) ?_ ?_
          rotate_left
          ·exact dz489
          rotate_left
          ·exact dz490
          refine pure_ (i := 27) (N := some 95) (v := ?_) (a' := ?_) (fl_ 28 0) rfl rfl (any_of HT_.out (by kernel_rfl)) (fun _ _ _ h => h) (Or.inl ⟨by rfl, ?_⟩) ?_ ?_
          rotate_left
          ·exact dz489
          rotate_left
          ·exact dz490
          refine done_ (done_of HT_.out (by kernel_rfl)) ?_
          try go_wp2
          go_roundg k2
          case measure => have := HJ6.out; have := HK2.out; omega
          case rel => exact ⟨(wrap64 (x12_2 + 1)), dz3, H', ⟨by have := HJ6.out; have := HK2.out; omega⟩, ⟨by (with_reducible repeat (first | apply Kd.R_alloc | apply Kd.R_drewN | apply Kd.R_drew)); exact HO_491000.out⟩, ⟨by (with_reducible repeat (first | apply Kd.N_alloc | apply Kd.N_drewN | apply Kd.N_drew)); exact HO_492001.out⟩, ⟨by (with_reducible repeat (first | apply Kd.N_alloc | apply Kd.N_drewN | apply Kd.N_drew)); exact HO_499001.out⟩, ⟨by (with_reducible repeat (first | apply Kd.N_alloc | apply Kd.N_drewN | apply Kd.N_drew)); exact HO_506001.out⟩, ⟨by (with_reducible repeat (first | refine blk_drewN ?_ _ | refine blk_drew ?_ | refine blk_alloc ?_ _)); exact BK490.out⟩, ⟨by (with_reducible repeat (first | refine blk_drewN ?_ _ | refine blk_drew ?_ | refine blk_alloc ?_ _)); exact BK491.out⟩, ⟨by (with_reducible repeat (first | refine blk_drewN ?_ _ | refine blk_drew ?_ | refine blk_alloc ?_ _)); exact BK498.out⟩, ⟨by (with_reducible repeat (first | refine blk_drewN ?_ _ | refine blk_drew ?_ | refine blk_alloc ?_ _)); exact BK505.out⟩, ⟨by repeat (first | (with_reducible first | exact HB.out | apply below_alloc | apply pw_below_drewN | apply below_drew1 | refine below_set ?_ GE490.out | refine below_set ?_ GE491.out | refine below_set ?_ GE498.out | refine below_set ?_ GE505.out) | exact HB.out)⟩⟩
         rw [if_neg c37] at H
         have c37b0 : (((rd_T50 t493 x12_2).f0).toList == ((rd_T50 t486 x12_2).f0).toList) = false := beq_eq_false_iff_ne.mpr c37
         have c37b1 : (((rd_T50 t493 x12_2).f0).toList != ((rd_T50 t486 x12_2).f0).toList) = true := bne_iff_ne.mpr c37
         exact absurd H (by simp)
        rw [if_neg c36] at H
        exact absurd H (by simp)
       rw [if_neg c35] at H
       exact absurd H (by simp)
      rw [if_neg c34] at H
      have c34b0 : decide (x12_2 < (t486.length : Int)) = false := decide_eq_false c34
      clear c34
      obtain ⟨ji44, hji44⟩ : ∃ j_ : Int, (wrap64 (t496 - 1)) = j_ := ⟨_, rfl⟩
      replace H : (if 0 ≤ (ji44) then (if (ji44) < (t493.length : Int) then (if t496 = (wrap64 ((t486.length : Int) + 1)) then (if ((rd_T50 t493 (ji44)).f0).toList = t489.toList then (if (((rd_T50 t493 (ji44)).f1).length : Int) = 0 then (if ((rd_T50 t493 (ji44)).f2 = true) then (none) else ((impl_WriterSure.f k2 t492 t493).bind fun t512 => (if t512 ≤ (t486.length : Int) then ((impl_WriterOk.f k2 t481 t484 t492 t493).bind fun t513 => (some t513)) else (none)))) else (none)) else (none)) else (none)) else (none)) else (none)) = some r := by first | (rw [hji44] at H; exact H) | (simp only [hji44] at H ⊢; exact H)
      have hji44w : (IntKind.i64.wrap (t496 - 1)) = ji44 := (i64_w _).trans hji44
      by_cases c45 : 0 ≤ (ji44)
      ·rw [if_pos c45] at H
       have c45b0 : decide (0 ≤ (ji44)) = true := decide_eq_true c45
       clear c45
       by_cases c46 : (ji44) < (t493.length : Int)
       ·rw [if_pos c46] at H
        have c46b0 : decide ((ji44) < (t493.length : Int)) = true := decide_eq_true c46
        clear c46
        by_cases c47 : t496 = (wrap64 ((t486.length : Int) + 1))
        ·rw [if_pos c47] at H
         have c47b0 : (t496 == (wrap64 ((t486.length : Int) + 1))) = true := beq_iff_eq.mpr c47
         have c47b1 : (t496 != (wrap64 ((t486.length : Int) + 1))) = false := bne_eq_false_iff_eq.mpr c47
         clear c47
         by_cases c48 : ((rd_T50 t493 (ji44)).f0).toList = t489.toList
         ·rw [if_pos c48] at H
          have c48b0 : (((rd_T50 t493 (ji44)).f0).toList == t489.toList) = true := beq_iff_eq.mpr c48
          have c48b1 : (((rd_T50 t493 (ji44)).f0).toList != t489.toList) = false := bne_eq_false_iff_eq.mpr c48
          clear c48
          by_cases c49 : (((rd_T50 t493 (ji44)).f1).length : Int) = 0
          ·rw [if_pos c49] at H
           have c49b0 : ((((rd_T50 t493 (ji44)).f1).length : Int) == 0) = true := beq_iff_eq.mpr c49
           have c49b1 : ((((rd_T50 t493 (ji44)).f1).length : Int) != 0) = false := bne_eq_false_iff_eq.mpr c49
           clear c49
           obtain ⟨bq50, hbq50⟩ : ∃ b_ : Bool, b_ = ((rd_T50 t493 (ji44)).f2) := ⟨_, rfl⟩
           replace H : (if (bq50 = true) then (none) else ((impl_WriterSure.f k2 t492 t493).bind fun t512 => (if t512 ≤ (t486.length : Int) then ((impl_WriterOk.f k2 t481 t484 t492 t493).bind fun t513 => (some t513)) else (none)))) = some r := by rw [← hbq50] at H; exact H
           have Nbq50 := Aside0.mk hbq50
           clear hbq50
           by_cases c51 : (bq50 = true)
           ·subst c51
            have H1 : (none) = some r := by rw [if_pos rfl] at H; exact H
            clear H
            have H := H1
            clear H1
            exact absurd H (by simp)
           replace c51 := Bool.eq_false_iff.mpr c51
           subst c51
           have H1 : ((impl_WriterSure.f k2 t492 t493).bind fun t512 => (if t512 ≤ (t486.length : Int) then ((impl_WriterOk.f k2 t481 t484 t492 t493).bind fun t513 => (some t513)) else (none))) = some r := by rw [if_neg (show ¬ (false = true) by decide)] at H; exact H
           clear H
           have H := H1
           clear H1
           replace H := Option.bind_eq_some_iff.mp H
           obtain ⟨t512, A520, H⟩ := H
           replace H : (if t512 ≤ (t486.length : Int) then ((impl_WriterOk.f k2 t481 t484 t492 t493).bind fun t513 => (some t513)) else (none)) = some r := H
           have A52 := Aside0.mk A520
           clear A520
           by_cases c53 : t512 ≤ (t486.length : Int)
           ·rw [if_pos c53] at H
            have c53b0 : decide (t512 ≤ (t486.length : Int)) = true := decide_eq_true c53
            clear c53
            replace H := Option.bind_eq_some_iff.mp H
            obtain ⟨t513, A540, H⟩ := H
            replace H : (some t513) = some r := H
            have A54 := Aside0.mk A540
            clear A540
            obtain rfl := Option.some.inj H
            have hnb55 := NB491_490.out
            have hnc55 := NB490_491.out
            have hnb56 := NB491_498.out
            have hnc56 := NB498_491.out
            have hnb57 := NB491_505.out
            have hnc57 := NB505_491.out
            obtain ⟨hcz58_0, hcz58_1, hfz58_0, hfz58_1⟩ := cz2_ BK491
            have hnb59 := NB498_490.out
            have hnc59 := NB490_498.out
            have hnb60 := NB498_505.out
            have hnc60 := NB505_498.out
            obtain ⟨hcz61_0, hcz61_1, hfz61_0, hfz61_1⟩ := cz2_ BK498
            have p510 : 0 ≤ ((ji44) : Int) := of_decide_eq_true dz0
            have q510 : (ji44) < (t493.length : Int) := of_decide_eq_true dz0
            obtain ⟨ad510, A510_1, c510_1, e510, hx510_0, hx510_1, hx510_2, hl510_1, hi510_1⟩ := at_T50 (Kd.N_reads' HO_499001.out).2.2 (ji44) p510 q510
            (try rw [← Nbq50.out] at hx510_2)
            cases e510
            obtain ⟨ce510, hce510, hMe510, hcc510⟩ := Kd.N_get HO_499001.out z50 (ji44) p510 (by first | exact q510 | exact of_decide_eq_true dz0 | (have e_ := (Kd.N_reads' HO_499001.out).1; omega))
            obtain ⟨ua510_1, uc510_1, rfl, ul510_1, ge510_1⟩ := k50_openF hMe510
            have hv510_1 := hcc510 1 _ rfl
            rw [add_field _ _ 1 (by omega)] at hv510_1
            replace hv510_1 := Option.some.inj (hv510_1.symm.trans hx510_1)
            injection hv510_1 with hva_ hvn_ hvc_
            rw [hva_] at ge510_1
            rw [hvc_] at ul510_1
            have HL510_1 := Aside0.mk (show Kd.V (Kd.int .i64) 3 _ w.heap.size _ _ ((rd_T50 t493 (ji44)).f1) from Kd.V_mk ul510_1 ge510_1)
            clear hva_ hvn_ hvc_ ge510_1 ul510_1
            clear hcc510 hce510
            have HR510_1 := Aside0.mk hi510_1
            have HC510_1 := Aside0.mk hl510_1
            clear hi510_1 hl510_1
            replace p510 := eq_true p510
            replace q510 := eq_true q510
            try go_wp2_with (first | ((with_reducible refine gate_dst (N := 13) rfl ?_); (try (refine gate_guard (by rfl) ?_; dsimp only)); refine box_event kr_ (N := 13) kr_ (cs := #[.string (⟨#[]⟩ : ByteArray), .slice none 0 0, .bool false]) (t := 50) ks_ ?_; intro gb511 hg w62 hbox hb; replace HO_491000 := (rbb_ HO_491000 hb); replace HO_492001 := Aside0.mk (Kd.N_below (Kd.N_elderB dz130 gb511 (Nat.le_of_eq hg.symm)) hb); replace HO_499001 := Aside0.mk (Kd.N_below (Kd.N_elderB dz131 gb511 (Nat.le_of_eq hg.symm)) hb); replace HO_506001 := Aside0.mk (Kd.N_below (Kd.N_elderB dz132 gb511 (Nat.le_of_eq hg.symm)) hb); replace HL510_1 := Aside0.mk (Kd.V_below (Kd.V_elderB dz133 gb511 (Nat.le_of_eq hg.symm)) hb); replace HR510_1 := Aside0.mk (Kd.C_below (by repeat (first | (with_reducible exact HR510_1.out) | (with_reducible refine Kd.C_alloc ?_ _) | (with_reducible refine Kd.C_drewN ?_ _) | (with_reducible refine Kd.C_drew ?_) | exact HR510_1.out)) hb); have BK511 := Aside0.mk (hbox); have GW511 : Aside0 (w.heap.size ≤ gb511) := szl_ hg dz134; have GE511 : Aside0 (w.heap.size ≤ gb511) := szl_ hg dz134; replace HB := Aside0.mk (below_step dz134 hb); have NB490_511 := (nbl_ hg BK490); have NB511_490 := (nbr_ hg BK490); replace BK490 := (bkb_ BK490 hb); have NB491_511 := (nbl_ hg BK491); have NB511_491 := (nbr_ hg BK491); replace BK491 := (bkb_ BK491 hb); have NB498_511 := (nbl_ hg BK498); have NB511_498 := (nbr_ hg BK498); replace BK498 := (bkb_ BK498 hb); have NB505_511 := (nbl_ hg BK505); have NB511_505 := (nbr_ hg BK505); replace BK505 := (bkb_ BK505 hb); clear hb hbox hg; have hnb63 := NB511_490.out; have hnc63 := NB490_511.out; have hnb64 := NB511_491.out; have hnc64 := NB491_511.out; have hnb65 := NB511_498.out; have hnc65 := NB498_511.out; have hnb66 := NB511_505.out; have hnc66 := NB505_511.out; obtain ⟨hcz67_0, hcz67_1, hcz67_2, hfz67_0, hfz67_1, hfz67_2⟩ := cz3_ BK511))
            have n0_ : Aside0 (Kd.R (Kd.int .i64) 3 (((w62.setCell ⟨gb511, 0, none⟩ (.string ((rd_T50 t493 (ji44)).f0))).setCell ⟨gb511, 1, none⟩ (.slice A510_1 ((rd_T50 t493 (ji44)).f1).length c510_1)).setCell ⟨gb511, 2, none⟩ (.bool false)) w.heap.size (fun _ => True) (.slice Ao11 t481.length co11) t481) := ⟨by (with_reducible repeat (first | apply Kd.R_alloc | apply Kd.R_drewN | apply Kd.R_drew)); exact Kd.R_mono (Kd.R_far (p := ⟨gb511, 2, none⟩) (Kd.R_far (p := ⟨gb511, 1, none⟩) (Kd.R_far (p := ⟨gb511, 0, none⟩) (Kd.R_types HO_491000.out BK511.out (by decide)) (fun _ hk => hk.2) (.string ((rd_T50 t493 (ji44)).f0))) (fun _ hk => hk.2) (.slice A510_1 ((rd_T50 t493 (ji44)).f1).length c510_1)) (fun _ hk => hk.2) (.bool false)) (fun _ hk => trivial)⟩
            have n1_ : Aside0 (Kd.N k50 50 (((w62.setCell ⟨gb511, 0, none⟩ (.string ((rd_T50 t493 (ji44)).f0))).setCell ⟨gb511, 1, none⟩ (.slice A510_1 ((rd_T50 t493 (ji44)).f1).length c510_1)).setCell ⟨gb511, 2, none⟩ (.bool false)) w.heap.size (fun k_ => some k_ ≠ (.slice Ao11 t481.length co11 : Value).ownBlock ∧ some k_ ≠ (.slice (some ad510) t493.length co21 : Value).ownBlock ∧ some k_ ≠ (.slice Ao30 t500.length co30 : Value).ownBlock ∧ k_ ≠ gb490 ∧ k_ ≠ gb491 ∧ k_ ≠ gb498 ∧ k_ ≠ gb505 ∧ k_ ≠ gb511) (.slice Ao15 t486.length co15) t486) := ⟨by (with_reducible repeat (first | apply Kd.N_alloc | apply Kd.N_drewN | apply Kd.N_drew)); exact Kd.N_mono (Kd.N_far (p := ⟨gb511, 2, none⟩) (Kd.N_far (p := ⟨gb511, 1, none⟩) (Kd.N_far (p := ⟨gb511, 0, none⟩) (Kd.N_mono HO_492001.out (fun k_ hk => (⟨hk, hk.2⟩ : _ ∧ k_ ≠ gb511))) (fun _ hk => hk.2) (.string ((rd_T50 t493 (ji44)).f0))) (fun _ hk => hk.2) (.slice A510_1 ((rd_T50 t493 (ji44)).f1).length c510_1)) (fun _ hk => hk.2) (.bool false)) (fun _ hk => ⟨hk.1.1.1, ⟨hk.1.1.2.1, ⟨hk.1.1.2.2.1, ⟨hk.1.1.2.2.2.1, ⟨hk.1.1.2.2.2.2.1, ⟨hk.1.1.2.2.2.2.2.1, ⟨hk.1.1.2.2.2.2.2.2, hk.1.2⟩⟩⟩⟩⟩⟩⟩)⟩
            have n2_ : Aside0 (Kd.N k50 50 (((w62.setCell ⟨gb511, 0, none⟩ (.string ((rd_T50 t493 (ji44)).f0))).setCell ⟨gb511, 1, none⟩ (.slice A510_1 ((rd_T50 t493 (ji44)).f1).length c510_1)).setCell ⟨gb511, 2, none⟩ (.bool false)) w.heap.size (fun k_ => some k_ ≠ (.slice Ao11 t481.length co11 : Value).ownBlock ∧ some k_ ≠ (.slice Ao15 t486.length co15 : Value).ownBlock ∧ some k_ ≠ (.slice Ao30 t500.length co30 : Value).ownBlock ∧ k_ ≠ gb490 ∧ k_ ≠ gb491 ∧ k_ ≠ gb498 ∧ k_ ≠ gb505 ∧ k_ ≠ gb511) (.slice (some ad510) t493.length co21) t493) := ⟨by (with_reducible repeat (first | apply Kd.N_alloc | apply Kd.N_drewN | apply Kd.N_drew)); exact Kd.N_mono (Kd.N_far (p := ⟨gb511, 2, none⟩) (Kd.N_far (p := ⟨gb511, 1, none⟩) (Kd.N_far (p := ⟨gb511, 0, none⟩) (Kd.N_mono HO_499001.out (fun k_ hk => (⟨hk, hk.2⟩ : _ ∧ k_ ≠ gb511))) (fun _ hk => hk.2) (.string ((rd_T50 t493 (ji44)).f0))) (fun _ hk => hk.2) (.slice A510_1 ((rd_T50 t493 (ji44)).f1).length c510_1)) (fun _ hk => hk.2) (.bool false)) (fun _ hk => ⟨hk.1.1.1, ⟨hk.1.1.2.1, ⟨hk.1.1.2.2.1, ⟨hk.1.1.2.2.2.1, ⟨hk.1.1.2.2.2.2.1, ⟨hk.1.1.2.2.2.2.2.1, ⟨hk.1.1.2.2.2.2.2.2, hk.1.2⟩⟩⟩⟩⟩⟩⟩)⟩
            have n3_ : Aside0 (Kd.N k50 50 (((w62.setCell ⟨gb511, 0, none⟩ (.string ((rd_T50 t493 (ji44)).f0))).setCell ⟨gb511, 1, none⟩ (.slice A510_1 ((rd_T50 t493 (ji44)).f1).length c510_1)).setCell ⟨gb511, 2, none⟩ (.bool false)) w.heap.size (fun k_ => some k_ ≠ (.slice Ao11 t481.length co11 : Value).ownBlock ∧ some k_ ≠ (.slice Ao15 t486.length co15 : Value).ownBlock ∧ some k_ ≠ (.slice (some ad510) t493.length co21 : Value).ownBlock ∧ k_ ≠ gb490 ∧ k_ ≠ gb491 ∧ k_ ≠ gb498 ∧ k_ ≠ gb505 ∧ k_ ≠ gb511) (.slice Ao30 t500.length co30) t500) := ⟨by (with_reducible repeat (first | apply Kd.N_alloc | apply Kd.N_drewN | apply Kd.N_drew)); exact Kd.N_mono (Kd.N_far (p := ⟨gb511, 2, none⟩) (Kd.N_far (p := ⟨gb511, 1, none⟩) (Kd.N_far (p := ⟨gb511, 0, none⟩) (Kd.N_mono HO_506001.out (fun k_ hk => (⟨hk, hk.2⟩ : _ ∧ k_ ≠ gb511))) (fun _ hk => hk.2) (.string ((rd_T50 t493 (ji44)).f0))) (fun _ hk => hk.2) (.slice A510_1 ((rd_T50 t493 (ji44)).f1).length c510_1)) (fun _ hk => hk.2) (.bool false)) (fun _ hk => ⟨hk.1.1.1, ⟨hk.1.1.2.1, ⟨hk.1.1.2.2.1, ⟨hk.1.1.2.2.2.1, ⟨hk.1.1.2.2.2.2.1, ⟨hk.1.1.2.2.2.2.2.1, ⟨hk.1.1.2.2.2.2.2.2, hk.1.2⟩⟩⟩⟩⟩⟩⟩)⟩
            have n4_ : Aside0 (Kd.V (Kd.int .i64) 3 (((w62.setCell ⟨gb511, 0, none⟩ (.string ((rd_T50 t493 (ji44)).f0))).setCell ⟨gb511, 1, none⟩ (.slice A510_1 ((rd_T50 t493 (ji44)).f1).length c510_1)).setCell ⟨gb511, 2, none⟩ (.bool false)) w.heap.size (fun k_ => some k_ ≠ (.slice Ao11 t481.length co11 : Value).ownBlock ∧ some k_ ≠ (.slice Ao15 t486.length co15 : Value).ownBlock ∧ some k_ ≠ (.slice (some ad510) t493.length co21 : Value).ownBlock ∧ some k_ ≠ (.slice Ao30 t500.length co30 : Value).ownBlock ∧ k_ ≠ gb490 ∧ k_ ≠ gb491 ∧ k_ ≠ gb498 ∧ k_ ≠ gb505 ∧ k_ ≠ gb511) (.slice A510_1 ((rd_T50 t493 (ji44)).f1).length c510_1) ((rd_T50 t493 (ji44)).f1)) := ⟨by (with_reducible repeat (first | apply Kd.V_alloc | apply Kd.V_drewN | apply Kd.V_drew)); exact Kd.V_mono (Kd.V_far (p := ⟨gb511, 2, none⟩) (Kd.V_far (p := ⟨gb511, 1, none⟩) (Kd.V_far (p := ⟨gb511, 0, none⟩) (Kd.V_mono HL510_1.out (fun k_ hk => (⟨hk, hk.2⟩ : _ ∧ k_ ≠ gb511))) (fun _ hk => hk.2) (.string ((rd_T50 t493 (ji44)).f0))) (fun _ hk => hk.2) (.slice A510_1 ((rd_T50 t493 (ji44)).f1).length c510_1)) (fun _ hk => hk.2) (.bool false)) (fun _ hk => ⟨hk.1.1.1.1, ⟨hk.1.1.1.2.1, ⟨hk.1.1.2, ⟨hk.1.1.1.2.2.1, ⟨hk.1.1.1.2.2.2.1, ⟨hk.1.1.1.2.2.2.2.1, ⟨hk.1.1.1.2.2.2.2.2.1, ⟨hk.1.1.1.2.2.2.2.2.2, hk.1.2⟩⟩⟩⟩⟩⟩⟩⟩)⟩
            have n5_ : Aside0 ((((w62.setCell ⟨gb511, 0, none⟩ (.string ((rd_T50 t493 (ji44)).f0))).setCell ⟨gb511, 1, none⟩ (.slice A510_1 ((rd_T50 t493 (ji44)).f1).length c510_1)).setCell ⟨gb511, 2, none⟩ (.bool false)).heap[gb490]? = some (.cells #[.slice Ao11 t481.length co11, .int .i64 t484] 31 (0, 0))) := ⟨by (with_reducible repeat (first | refine blk_drewN ?_ _ | refine blk_drew ?_ | refine blk_alloc ?_ _)); refine blk_far ?_ NB490_511.out _; (with_reducible repeat (first | refine blk_drewN ?_ _ | refine blk_drew ?_ | refine blk_alloc ?_ _)); refine blk_far ?_ NB490_511.out _; (with_reducible repeat (first | refine blk_drewN ?_ _ | refine blk_drew ?_ | refine blk_alloc ?_ _)); refine blk_far ?_ NB490_511.out _; (with_reducible repeat (first | refine blk_drewN ?_ _ | refine blk_drew ?_ | refine blk_alloc ?_ _)); exact BK490.out⟩
            have n6_ : Aside0 ((((w62.setCell ⟨gb511, 0, none⟩ (.string ((rd_T50 t493 (ji44)).f0))).setCell ⟨gb511, 1, none⟩ (.slice A510_1 ((rd_T50 t493 (ji44)).f1).length c510_1)).setCell ⟨gb511, 2, none⟩ (.bool false)).heap[gb491]? = some (.cells #[.int .i64 t485, .slice Ao15 t486.length co15] 44 (0, 0))) := ⟨by (with_reducible repeat (first | refine blk_drewN ?_ _ | refine blk_drew ?_ | refine blk_alloc ?_ _)); refine blk_far ?_ NB491_511.out _; (with_reducible repeat (first | refine blk_drewN ?_ _ | refine blk_drew ?_ | refine blk_alloc ?_ _)); refine blk_far ?_ NB491_511.out _; (with_reducible repeat (first | refine blk_drewN ?_ _ | refine blk_drew ?_ | refine blk_alloc ?_ _)); refine blk_far ?_ NB491_511.out _; (with_reducible repeat (first | refine blk_drewN ?_ _ | refine blk_drew ?_ | refine blk_alloc ?_ _)); exact BK491.out⟩
            have n7_ : Aside0 ((((w62.setCell ⟨gb511, 0, none⟩ (.string ((rd_T50 t493 (ji44)).f0))).setCell ⟨gb511, 1, none⟩ (.slice A510_1 ((rd_T50 t493 (ji44)).f1).length c510_1)).setCell ⟨gb511, 2, none⟩ (.bool false)).heap[gb498]? = some (.cells #[.int .i64 t492, .slice (some ad510) t493.length co21] 44 (0, 0))) := ⟨by (with_reducible repeat (first | refine blk_drewN ?_ _ | refine blk_drew ?_ | refine blk_alloc ?_ _)); refine blk_far ?_ NB498_511.out _; (with_reducible repeat (first | refine blk_drewN ?_ _ | refine blk_drew ?_ | refine blk_alloc ?_ _)); refine blk_far ?_ NB498_511.out _; (with_reducible repeat (first | refine blk_drewN ?_ _ | refine blk_drew ?_ | refine blk_alloc ?_ _)); refine blk_far ?_ NB498_511.out _; (with_reducible repeat (first | refine blk_drewN ?_ _ | refine blk_drew ?_ | refine blk_alloc ?_ _)); exact BK498.out⟩
            have n8_ : Aside0 ((((w62.setCell ⟨gb511, 0, none⟩ (.string ((rd_T50 t493 (ji44)).f0))).setCell ⟨gb511, 1, none⟩ (.slice A510_1 ((rd_T50 t493 (ji44)).f1).length c510_1)).setCell ⟨gb511, 2, none⟩ (.bool false)).heap[gb505]? = some (.cells #[.int .i64 t499, .slice Ao30 t500.length co30] 44 (0, 0))) := ⟨by (with_reducible repeat (first | refine blk_drewN ?_ _ | refine blk_drew ?_ | refine blk_alloc ?_ _)); refine blk_far ?_ NB505_511.out _; (with_reducible repeat (first | refine blk_drewN ?_ _ | refine blk_drew ?_ | refine blk_alloc ?_ _)); refine blk_far ?_ NB505_511.out _; (with_reducible repeat (first | refine blk_drewN ?_ _ | refine blk_drew ?_ | refine blk_alloc ?_ _)); refine blk_far ?_ NB505_511.out _; (with_reducible repeat (first | refine blk_drewN ?_ _ | refine blk_drew ?_ | refine blk_alloc ?_ _)); exact BK505.out⟩
            have n9_ : Aside0 ((((w62.setCell ⟨gb511, 0, none⟩ (.string ((rd_T50 t493 (ji44)).f0))).setCell ⟨gb511, 1, none⟩ (.slice A510_1 ((rd_T50 t493 (ji44)).f1).length c510_1)).setCell ⟨gb511, 2, none⟩ (.bool false)).heap[gb511]? = some (.cells #[.string ((rd_T50 t493 (ji44)).f0), .slice A510_1 ((rd_T50 t493 (ji44)).f1).length c510_1, .bool false] 50 (0, 0))) := ⟨by (with_reducible repeat (first | refine blk_drewN ?_ _ | refine blk_drew ?_ | refine blk_alloc ?_ _)); refine blk_put (cs := #[.string ((rd_T50 t493 (ji44)).f0), .slice A510_1 ((rd_T50 t493 (ji44)).f1).length c510_1, .bool false]) ?_ 2 _ rfl; (with_reducible repeat (first | refine blk_drewN ?_ _ | refine blk_drew ?_ | refine blk_alloc ?_ _)); refine blk_put (cs := #[.string ((rd_T50 t493 (ji44)).f0), .slice none 0 0, .bool false]) ?_ 1 _ rfl; (with_reducible repeat (first | refine blk_drewN ?_ _ | refine blk_drew ?_ | refine blk_alloc ?_ _)); refine blk_put (cs := #[.string (⟨#[]⟩ : ByteArray), .slice none 0 0, .bool false]) ?_ 0 _ rfl; (with_reducible repeat (first | refine blk_drewN ?_ _ | refine blk_drew ?_ | refine blk_alloc ?_ _)); exact BK511.out⟩
            have n10_ : Aside0 (Below w.heap.size w (((w62.setCell ⟨gb511, 0, none⟩ (.string ((rd_T50 t493 (ji44)).f0))).setCell ⟨gb511, 1, none⟩ (.slice A510_1 ((rd_T50 t493 (ji44)).f1).length c510_1)).setCell ⟨gb511, 2, none⟩ (.bool false))) := ⟨by repeat (first | (with_reducible first | exact HB.out | apply below_alloc | apply pw_below_drewN | apply below_drew1 | refine below_set ?_ GE490.out | refine below_set ?_ GE491.out | refine below_set ?_ GE498.out | refine below_set ?_ GE505.out | refine below_set ?_ GE511.out) | exact HB.out)⟩
            (try clear HO_491000)
            (try clear HO_492001)
            (try clear HO_499001)
            (try clear HO_506001)
            (try clear HL510_1)
            (try clear BK490)
            (try clear BK491)
            (try clear BK498)
            (try clear BK505)
            (try clear BK511)
            (try clear HB)
            generalize (((w62.setCell ⟨gb511, 0, none⟩ (.string ((rd_T50 t493 (ji44)).f0))).setCell ⟨gb511, 1, none⟩ (.slice A510_1 ((rd_T50 t493 (ji44)).f1).length c510_1)).setCell ⟨gb511, 2, none⟩ (.bool false)) = w68 at n0_ n1_ n2_ n3_ n4_ n5_ n6_ n7_ n8_ n9_ n10_ ⊢
            have HO_491000 := n0_
            have HO_492001 := n1_
            have HO_499001 := n2_
            have HO_506001 := n3_
            have HL510_1 := n4_
            have BK490 := n5_
            have BK491 := n6_
            have BK498 := n7_
            have BK505 := n8_
            have BK511 := n9_
            have HB := n10_
            clear n0_ n1_ n2_ n3_ n4_ n5_ n6_ n7_ n8_ n9_ n10_
            replace HO_491000 := Aside0.mk (Kd.R_drew HO_491000.out)
            replace HO_492001 := Aside0.mk (Kd.N_drew HO_492001.out)
            replace HO_499001 := Aside0.mk (Kd.N_drew HO_499001.out)
            replace HO_506001 := Aside0.mk (Kd.N_drew HO_506001.out)
            replace HL510_1 := Aside0.mk (Kd.V_drew HL510_1.out)
            replace BK490 := Aside0.mk (blk_drew BK490.out)
            replace BK491 := Aside0.mk (blk_drew BK491.out)
            replace BK498 := Aside0.mk (blk_drew BK498.out)
            replace BK505 := Aside0.mk (blk_drew BK505.out)
            replace BK511 := Aside0.mk (blk_drew BK511.out)
            replace HB := Aside0.mk (below_drew1 HB.out)
            refine start_ (n := 37) (S := fun w' => w'.cell? ⟨gb491, 0, none⟩ = some (.int .i64 t485) ∧ w'.cell? ⟨gb491, 1, none⟩ = some (.slice Ao15 t486.length co15) ∧ w'.cell? ⟨gb511, 0, none⟩ = some (.string ((rd_T50 t493 (ji44)).f0)) ∧ w'.cell? ⟨gb511, 1, none⟩ = some (.slice A510_1 ((rd_T50 t493 (ji44)).f1).length c510_1) ∧ w'.cell? ⟨gb511, 2, none⟩ = some (.bool false) ∧ w'.cell? ⟨gb498, 0, none⟩ = some (.int .i64 t492) ∧ w'.cell? ⟨gb498, 1, none⟩ = some (.slice (some ad510) t493.length co21) ∧ w'.cell? ⟨gb490, 0, none⟩ = some (.slice Ao11 t481.length co11) ∧ w'.cell? ⟨gb490, 1, none⟩ = some (.int .i64 t484)) (ds := []) (fl_ 0 37) (by kernel_rfl) rfl rfl ⟨(blk_cell BK491.out 0).trans rfl, (blk_cell BK491.out 1).trans rfl, (blk_cell BK511.out 0).trans rfl, (blk_cell BK511.out 1).trans rfl, (blk_cell BK511.out 2).trans rfl, (blk_cell BK498.out 0).trans rfl, (blk_cell BK498.out 1).trans rfl, (blk_cell BK490.out 0).trans rfl, (blk_cell BK490.out 1).trans rfl⟩ (fun hHeld => ?_); refine with_tabW laws_FnAdded.tab16 laws_FnAdded.bits16 (fun HT_ HW_ => ?_)
            generalize w68.drew = w69 at HO_491000 HO_492001 HO_499001 HO_506001 HL510_1 BK490 BK491 BK498 BK505 BK511 HB hHeld ⊢
            refine pure_ (i := 0) (N := some 102) (v := ?_) (a' := ?_) (fl_ 1 36) rfl rfl (any_of HT_.out (by kernel_rfl)) (fun _ _ _ h => h) (Or.inl ⟨by rfl, ?_⟩) ?_ ?_
            rotate_left
            ·exact dz489
            rotate_left
            ·exact dz490
            refine pure_ (i := 1) (N := some 103) (v := ?_) (a' := ?_) (fl_ 2 35) rfl rfl (any_of HT_.out (by kernel_rfl)) (fun _ _ _ h => h) (Or.inl ⟨by rfl, ?_⟩) ?_ ?_
            rotate_left
            ·exact dz489
            rotate_left
            ·exact dz490
            refine take_ (i := 2) (N := some 104) (v := ?_) (a' := ?_) (fl_ 3 34) rfl rfl (take_ofW HT_.out HW_.out (by kernel_rfl)) (fun _ _ _ h => h) (Or.inl ⟨by rfl, ?_⟩) hHeld ?_ ?_
            rotate_left
            ·exact dz502
            rotate_left
            ·exact dz490
            refine pure_ (i := 3) (N := some 105) (v := ?_) (a' := ?_) (fl_ 4 33) rfl rfl (any_of HT_.out (by kernel_rfl)) (fun _ _ _ h => h) (Or.inl ⟨by rfl, ?_⟩) ?_ ?_
            rotate_left
            ·exact dz489
            rotate_left
            ·exact dz490
            refine pure_ (i := 4) (N := some 106) (v := ?_) (a' := ?_) (fl_ 5 32) rfl rfl (any_of HT_.out (by kernel_rfl)) (fun _ _ _ h => h) (Or.inl ⟨by rfl, ?_⟩) ?_ ?_
            rotate_left
            ·exact dz489
            rotate_left
            ·exact dz490
            refine pure_ (i := 5) (N := some 107) (v := ?_) (a' := ?_) (fl_ 6 31) rfl rfl (any_of HT_.out (by kernel_rfl)) (fun _ _ _ h => h) (Or.inl ⟨by rfl, ?_⟩) ?_ ?_
            rotate_left
            ·exact dz489
            rotate_left
            ·exact dz490
            refine pure_ (i := 6) (N := some 108) (v := ?_) (a' := ?_) (fl_ 7 30) rfl rfl (any_of HT_.out (by kernel_rfl)) (fun _ _ _ h => h) (Or.inl ⟨by rfl, ?_⟩) ?_ ?_
            rotate_left
            ·exact dz489
            rotate_left
            ·exact dz490
            refine pure_ (i := 7) (N := some 109) (v := ?_) (a' := ?_) (fl_ 8 29) rfl rfl (any_of HT_.out (by kernel_rfl)) (fun _ _ _ h => h) (Or.inl ⟨by rfl, ?_⟩) ?_ ?_
            rotate_left
            ·exact dz489
            rotate_left
            ·exact dz490
            refine pure_ (i := 9) (N := some 111) (v := ?_) (a' := ?_) #[true, true, true, true, true, true, true, true, false, true, false, false, false, false, false, false, false, false, false, false, false, false, false, false, false, false, false, false, false, false, false, false, false, false, false, false, false] rfl rfl (any_of HT_.out (by kernel_rfl)) (fun _ _ _ h => h) (Or.inl ⟨by rfl, ?_⟩) ?_ ?_
            rotate_left
            ·exact dz489
            rotate_left
            ·exact dz490
            refine take_ (i := 8) (N := some 110) (v := ?_) (a' := ?_) (fl_ 10 27) rfl rfl (take_ofW HT_.out HW_.out (by kernel_rfl)) (fun _ _ _ h => h) (Or.inl ⟨by rfl, ?_⟩) hHeld ?_ ?_
            rotate_left
            ·exact dz502
            rotate_left
            ·exact dz490
            refine pure_ (i := 10) (N := some 112) (v := ?_) (a' := ?_) (fl_ 11 26) rfl rfl (any_of HT_.out (by kernel_rfl)) (fun _ _ _ h => h) (Or.inl ⟨by rfl, ?_⟩) ?_ ?_
            rotate_left
            ·exact dz489
            rotate_left
            ·exact dz490
            refine pure_ (i := 11) (N := some 113) (v := ?_) (a' := ?_) (fl_ 12 25) rfl rfl (any_of HT_.out (by kernel_rfl)) (fun _ _ _ h => h) (Or.inl ⟨by rfl, ?_⟩) ?_ ?_
            rotate_left
            ·exact dz489
            rotate_left
            ·exact dz490
            refine pure_ (i := 12) (N := some 114) (v := ?_) (a' := ?_) (fl_ 13 24) rfl rfl (any_of HT_.out (by kernel_rfl)) (fun _ _ _ h => h) (Or.inl ⟨by rfl, ?_⟩) ?_ ?_
            rotate_left
            ·exact dz489
            rotate_left
            ·exact dz490
            refine pure_ (i := 13) (N := some 115) (v := ?_) (a' := ?_) (fl_ 14 23) rfl rfl (any_of HT_.out (by kernel_rfl)) (fun _ _ _ h => h) (Or.inl ⟨by rfl, ?_⟩) ?_ ?_
            rotate_left
            ·exact dz489
            rotate_left
            ·exact dz490
            refine take_ (i := 14) (N := some 116) (v := ?_) (a' := ?_) (fl_ 15 22) rfl rfl (take_ofW HT_.out HW_.out (by kernel_rfl)) (fun _ _ _ h => h) (Or.inl ⟨by rfl, ?_⟩) hHeld ?_ ?_
            rotate_left
            ·exact dz502
            rotate_left
            ·exact dz490
            refine pure_ (i := 15) (N := some 117) (v := ?_) (a' := ?_) (fl_ 16 21) rfl rfl (any_of HT_.out (by kernel_rfl)) (fun _ _ _ h => h) (Or.inl ⟨by rfl, ?_⟩) ?_ ?_
            rotate_left
            ·exact dz489
            rotate_left
            ·exact dz490
            refine pure_ (i := 16) (N := some 118) (v := ?_) (a' := ?_) (fl_ 17 20) rfl rfl (any_of HT_.out (by kernel_rfl)) (fun _ _ _ h => h) (Or.inl ⟨by rfl, ?_⟩) ?_ ?_
            rotate_left
            ·exact dz489
            rotate_left
            ·exact dz490
            refine pure_ (i := 17) (N := some 119) (v := ?_) (a' := ?_) (fl_ 18 19) rfl rfl (any_of HT_.out (by kernel_rfl)) (fun _ _ _ h => h) (Or.inl ⟨by rfl, ?_⟩) ?_ ?_
            rotate_left
            ·exact dz489
            rotate_left
            ·exact dz490
            refine pure_ (i := 18) (N := some 120) (v := ?_) (a' := ?_) (fl_ 19 18) rfl rfl (any_of HT_.out (by kernel_rfl)) (fun _ _ _ h => h) (Or.inl ⟨by rfl, ?_⟩) ?_ ?_
            rotate_left
            ·exact dz489
            rotate_left
            ·exact dz490
            refine pure_ (i := 19) (N := some 121) (v := ?_) (a' := ?_) (fl_ 20 17) rfl rfl (any_of HT_.out (by kernel_rfl)) (fun _ _ _ h => h) (Or.inl ⟨by rfl, ?_⟩) ?_ ?_
            rotate_left
            ·exact dz489
            rotate_left
            ·exact dz490
            refine take_ (i := 20) (N := some 122) (v := ?_) (a' := ?_) (fl_ 21 16) rfl rfl (take_ofW HT_.out HW_.out (by kernel_rfl)) (fun _ _ _ h => h) (Or.inl ⟨by rfl, ?_⟩) hHeld ?_ ?_
            rotate_left
            ·exact dz502
            rotate_left
            ·exact dz490
            refine pure_ (i := 21) (N := some 123) (v := ?_) (a' := ?_) (fl_ 22 15) rfl rfl (any_of HT_.out (by kernel_rfl)) (fun _ _ _ h => h) (Or.inl ⟨by rfl, ?_⟩) ?_ ?_
            rotate_left
            ·exact dz489
            rotate_left
            ·exact dz490
            refine pure_ (i := 22) (N := some 124) (v := ?_) (a' := ?_) (fl_ 23 14) rfl rfl (any_of HT_.out (by kernel_rfl)) (fun _ _ _ h => h) (Or.inl ⟨by rfl, ?_⟩) ?_ ?_
            rotate_left
            ·exact dz489
            rotate_left
            ·exact dz490
            refine pure_ (i := 23) (N := some 125) (v := ?_) (a' := ?_) (fl_ 24 13) rfl rfl (any_of HT_.out (by kernel_rfl)) (fun _ _ _ h => h) (Or.inl ⟨by rfl, ?_⟩) ?_ ?_
            rotate_left
            ·exact dz489
            rotate_left
            ·exact dz490
            refine pure_ (i := 26) (N := some 128) (v := ?_) (a' := ?_) #[true, true, true, true, true, true, true, true, true, true, true, true, true, true, true, true, true, true, true, true, true, true, true, true, false, false, true, false, false, false, false, false, false, false, false, false, false] rfl rfl (any_of HT_.out (by kernel_rfl)) (fun _ _ _ h => h) (Or.inl ⟨by rfl, ?_⟩) ?_ ?_
            rotate_left
            ·exact dz489
            rotate_left
            ·exact dz490
            refine take_ (i := 24) (N := some 126) (v := ?_) (a' := ?_) #[true, true, true, true, true, true, true, true, true, true, true, true, true, true, true, true, true, true, true, true, true, true, true, true, true, false, true, false, false, false, false, false, false, false, false, false, false] rfl rfl (take_ofW HT_.out HW_.out (by kernel_rfl)) (fun _ _ _ h => h) (Or.inl ⟨by rfl, ?_⟩) hHeld ?_ ?_
            rotate_left
            ·exact dz502
            rotate_left
            ·exact dz490
            refine take_ (i := 27) (N := some 129) (v := ?_) (a' := ?_) #[true, true, true, true, true, true, true, true, true, true, true, true, true, true, true, true, true, true, true, true, true, true, true, true, true, false, true, true, false, false, false, false, false, false, false, false, false] rfl rfl (take_ofW HT_.out HW_.out (by kernel_rfl)) (fun _ _ _ h => h) (Or.inl ⟨by rfl, ?_⟩) hHeld ?_ ?_
            rotate_left
            ·exact dz502
            rotate_left
            ·exact dz490
            refine pure_ (i := 28) (N := some 130) (v := ?_) (a' := ?_) #[true, true, true, true, true, true, true, true, true, true, true, true, true, true, true, true, true, true, true, true, true, true, true, true, true, false, true, true, true, false, false, false, false, false, false, false, false] rfl rfl (any_of HT_.out (by kernel_rfl)) (fun _ _ _ h => h) (Or.inl ⟨by rfl, ?_⟩) ?_ ?_
            rotate_left
            ·exact dz489
            rotate_left
            ·exact dz490
            refine one_ (i := 25) (N := some 127) (fl_ 29 8) rfl rfl (one_of HT_.out (by kernel_rfl)) (by decide) (fun K hK => ?_)
            refine goes_ Try.func21 (by kernel_rfl) rfl #[.agg #[.int .i64 t492, .slice (some ad510) t493.length co21]] (by rfl) rfl rfl dz1 ?_
            with_reducible refine (impl_WriterSure.calls k2 t492 _ _ t493 t512 _ ?side1 ?side2 A52.out).mono ?_
            (case side1 => exact dz488)
            (case side2 => exact (Kd.N_reads' HO_499001.out).2.1)
            rintro e w70 ⟨rfl, hb⟩
            refine ⟨_, rfl, ?_⟩
            replace HO_491000 := (rbb_ HO_491000 hb)
            replace HO_492001 := Aside0.mk (Kd.N_below dz130 hb)
            replace HO_499001 := Aside0.mk (Kd.N_below dz131 hb)
            replace HO_506001 := Aside0.mk (Kd.N_below dz132 hb)
            replace HL510_1 := Aside0.mk (Kd.V_below dz133 hb)
            replace BK490 := (bkb_ BK490 hb)
            replace BK491 := (bkb_ BK491 hb)
            replace BK498 := (bkb_ BK498 hb)
            replace BK505 := (bkb_ BK505 hb)
            replace BK511 := Aside0.mk (blk_below (g := gb511) (o := .cells #[.string ((rd_T50 t493 (ji44)).f0), .slice A510_1 ((rd_T50 t493 (ji44)).f1).length c510_1, .bool false] 50 (0, 0)) dz172 hb)
            replace HB := Aside0.mk (below_step dz173 hb)
            (try clear hb)
            (try clear hb2)
            (try clear hk)
            (try clear hi)
            refine hK.out _ _ ⟨(blk_cell BK491.out 0).trans rfl, (blk_cell BK491.out 1).trans rfl, (blk_cell BK511.out 0).trans rfl, (blk_cell BK511.out 1).trans rfl, (blk_cell BK511.out 2).trans rfl, (blk_cell BK498.out 0).trans rfl, (blk_cell BK498.out 1).trans rfl, (blk_cell BK490.out 0).trans rfl, (blk_cell BK490.out 1).trans rfl⟩ (fun hHeld => ?_)
            clear hK K
            refine norm_ (a' := ?_) ?_ ?_
            rotate_left
            ·show Act.put _ (some 127) _ = _
             simp only [Act.put, List.setIfInBounds_toArray, List.set_cons_zero, List.set_cons_succ, i64_w, i32_w]
             rfl
            refine pure_ (i := 29) (N := some 131) (v := ?_) (a' := ?_) (fl_ 30 7) rfl rfl (any_of HT_.out (by kernel_rfl)) (fun _ _ _ h => h) (Or.inl ⟨by rfl, ?_⟩) ?_ ?_
            rotate_left
            ·exact dz489
            rotate_left
            ·exact dz490
            refine pure_ (i := 30) (N := some 132) (v := ?_) (a' := ?_) (fl_ 31 6) rfl rfl (any_of HT_.out (by kernel_rfl)) (fun _ _ _ h => h) (Or.inl ⟨by rfl, ?_⟩) ?_ ?_
            rotate_left
            ·exact dz489
            rotate_left
            ·exact dz490
            refine pure_ (i := 31) (N := some 133) (v := ?_) (a' := ?_) (fl_ 32 5) rfl rfl (any_of HT_.out (by kernel_rfl)) (fun _ _ _ h => h) (Or.inl ⟨by rfl, ?_⟩) ?_ ?_
            rotate_left
            ·exact dz489
            rotate_left
            ·exact dz490
            refine take_ (i := 32) (N := some 134) (v := ?_) (a' := ?_) (fl_ 33 4) rfl rfl (take_ofW HT_.out HW_.out (by kernel_rfl)) (fun _ _ _ h => h) (Or.inl ⟨by rfl, ?_⟩) hHeld ?_ ?_
            rotate_left
            ·exact dz502
            rotate_left
            ·exact dz490
            refine take_ (i := 33) (N := some 135) (v := ?_) (a' := ?_) (fl_ 34 3) rfl rfl (take_ofW HT_.out HW_.out (by kernel_rfl)) (fun _ _ _ h => h) (Or.inl ⟨by rfl, ?_⟩) hHeld ?_ ?_
            rotate_left
            ·exact dz502
            rotate_left
            ·exact dz490
            refine one_ (i := 34) (N := some 136) (fl_ 35 2) rfl rfl (one_of HT_.out (by kernel_rfl)) (by decide) (fun K hK => ?_)
            refine goes_ Try.func22 (by kernel_rfl) rfl #[.agg #[.slice Ao11 t481.length co11, .int .i64 t484], .agg #[.int .i64 t492, .slice (some ad510) t493.length co21]] (by rfl) rfl rfl dz1 ?_
            with_reducible refine (impl_WriterOk.calls k2 _ _ t481 t484 t492 _ _ t493 t513 _ ?side1 ?side2 ?side3 ?side4 A54.out).mono ?_
            (case side1 => repeat (first | exact (Kd.R_reads' HO_491000.out).2.2 | (with_reducible refine Kd.C_alloc ?_ _) | (with_reducible refine Kd.C_drewN ?_ _) | (with_reducible refine Kd.C_drew ?_)))
            (case side2 => exact (Kd.R_reads' HO_491000.out).2.1)
            (case side3 => exact dz488)
            (case side4 => exact (Kd.N_reads' HO_499001.out).2.1)
            rintro e w71 ⟨rfl, hb⟩
            refine ⟨_, rfl, ?_⟩
            replace HO_491000 := (rbb_ HO_491000 hb)
            replace HO_492001 := Aside0.mk (Kd.N_below dz130 hb)
            replace HO_499001 := Aside0.mk (Kd.N_below dz131 hb)
            replace HO_506001 := Aside0.mk (Kd.N_below dz132 hb)
            replace HL510_1 := Aside0.mk (Kd.V_below dz133 hb)
            replace BK490 := (bkb_ BK490 hb)
            replace BK491 := (bkb_ BK491 hb)
            replace BK498 := (bkb_ BK498 hb)
            replace BK505 := (bkb_ BK505 hb)
            replace BK511 := Aside0.mk (blk_below (g := gb511) (o := .cells #[.string ((rd_T50 t493 (ji44)).f0), .slice A510_1 ((rd_T50 t493 (ji44)).f1).length c510_1, .bool false] 50 (0, 0)) dz172 hb)
            replace HB := Aside0.mk (below_step dz173 hb)
            (try clear hb)
            (try clear hb2)
            (try clear hk)
            (try clear hi)
            refine hK.out _ _ ⟨(blk_cell BK491.out 0).trans rfl, (blk_cell BK491.out 1).trans rfl, (blk_cell BK511.out 0).trans rfl, (blk_cell BK511.out 1).trans rfl, (blk_cell BK511.out 2).trans rfl, (blk_cell BK498.out 0).trans rfl, (blk_cell BK498.out 1).trans rfl, (blk_cell BK490.out 0).trans rfl, (blk_cell BK490.out 1).trans rfl⟩ (fun hHeld => ?_)
            clear hK K
            refine norm_ (a' := ?_) ?_ ?_
            rotate_left
            ·show Act.put _ (some 136) _ = _
             simp only [Act.put, List.setIfInBounds_toArray, List.set_cons_zero, List.set_cons_succ, i64_w, i32_w]
             rfl
            refine pure_ (i := 35) (N := some 137) (v := ?_) (a' := ?_) (fl_ 36 1) rfl rfl (any_of HT_.out (by kernel_rfl)) (fun _ _ _ h => h) (Or.inl ⟨by rfl, ?_⟩) ?_ ?_
            rotate_left
            ·exact dz489
            rotate_left
            ·exact dz490
            refine pure_ (i := 36) (N := some 2) (v := ?_) (a' := ?_) (fl_ 37 0) rfl rfl (any_of HT_.out (by kernel_rfl)) (fun _ _ _ h => h) (Or.inl ⟨by rfl, ?_⟩) ?_ ?_
            rotate_left
            ·exact dz489
            rotate_left
            ·exact dz490
            refine done_ (done_of HT_.out (by kernel_rfl)) ?_
            try go_wp2
            go_ret
            exact ⟨by first | rfl | (simp [errW_none, errW_some] <;> rfl) | (simp only [← hji44]; first | rfl | (simp [errW_none, errW_some] <;> rfl)) | (simp [*, errW_none, errW_some] <;> rfl), by repeat (first | (with_reducible first | exact HB.out | apply below_alloc | apply pw_below_drewN | apply below_drew1 | refine below_set ?_ GE490.out | refine below_set ?_ GE491.out | refine below_set ?_ GE498.out | refine below_set ?_ GE505.out | refine below_set ?_ GE511.out) | exact HB.out)⟩
           rw [if_neg c53] at H
           have c53b0 : decide (t512 ≤ (t486.length : Int)) = false := decide_eq_false c53
           clear c53
           exact absurd H (by simp)
          rw [if_neg c49] at H
          have c49b0 : ((((rd_T50 t493 (ji44)).f1).length : Int) == 0) = false := beq_eq_false_iff_ne.mpr c49
          have c49b1 : ((((rd_T50 t493 (ji44)).f1).length : Int) != 0) = true := bne_iff_ne.mpr c49
          have c49b2 : ¬ (((rd_T50 t493 (ji44)).f1) = []) := fun h_ => c49 (by rw [h_]; rfl)
          exact absurd H (by simp)
         rw [if_neg c48] at H
         have c48b0 : (((rd_T50 t493 (ji44)).f0).toList == t489.toList) = false := beq_eq_false_iff_ne.mpr c48
         have c48b1 : (((rd_T50 t493 (ji44)).f0).toList != t489.toList) = true := bne_iff_ne.mpr c48
         exact absurd H (by simp)
        rw [if_neg c47] at H
        have c47b0 : (t496 == (wrap64 ((t486.length : Int) + 1))) = false := beq_eq_false_iff_ne.mpr c47
        have c47b1 : (t496 != (wrap64 ((t486.length : Int) + 1))) = true := bne_iff_ne.mpr c47
        exact absurd H (by simp)
       rw [if_neg c46] at H
       exact absurd H (by simp)
      rw [if_neg c45] at H
      exact absurd H (by simp)
   replace c33 := Bool.eq_false_iff.mpr c33
   subst c33
   have H1 : (if (t493.length : Int) = (t486.length : Int) then (some true) else (some ((t493.length : Int) == 0))) = some r := by rw [if_neg (show ¬ (false = true) by decide)] at H; exact H
   clear H
   have H := H1
   clear H1
   by_cases c72 : (t493.length : Int) = (t486.length : Int)
   ·rw [if_pos c72] at H
    have c72b0 : ((t493.length : Int) == (t486.length : Int)) = true := beq_iff_eq.mpr c72
    have c72b1 : ((t493.length : Int) != (t486.length : Int)) = false := bne_eq_false_iff_eq.mpr c72
    have c72b2 : (t493.length == t486.length) = true := by first | simpa using c72 | (simp at c72 ⊢; omega)
    clear c72
    obtain rfl := Option.some.inj H
    have hnb73 := NB498_490.out
    have hnc73 := NB490_498.out
    have hnb74 := NB498_491.out
    have hnc74 := NB491_498.out
    have hnb75 := NB498_505.out
    have hnc75 := NB505_498.out
    obtain ⟨hcz76_0, hcz76_1, hfz76_0, hfz76_1⟩ := cz2_ BK498
    have hnb77 := NB491_490.out
    have hnc77 := NB490_491.out
    have hnb78 := NB491_505.out
    have hnc78 := NB505_491.out
    obtain ⟨hcz79_0, hcz79_1, hfz79_0, hfz79_1⟩ := cz2_ BK491
    go_wp2
    go_ret
    exact dz516
   rw [if_neg c72] at H
   have c72b0 : ((t493.length : Int) == (t486.length : Int)) = false := beq_eq_false_iff_ne.mpr c72
   have c72b1 : ((t493.length : Int) != (t486.length : Int)) = true := bne_iff_ne.mpr c72
   have c72b2 : (t493.length == t486.length) = false := by first | simpa using c72 | (simp at c72 ⊢; omega)
   obtain rfl := Option.some.inj H
   have hnb80 := NB498_490.out
   have hnc80 := NB490_498.out
   have hnb81 := NB498_491.out
   have hnc81 := NB491_498.out
   have hnb82 := NB498_505.out
   have hnc82 := NB505_498.out
   obtain ⟨hcz83_0, hcz83_1, hfz83_0, hfz83_1⟩ := cz2_ BK498
   have hnb84 := NB491_490.out
   have hnc84 := NB490_491.out
   have hnb85 := NB491_505.out
   have hnc85 := NB505_491.out
   obtain ⟨hcz86_0, hcz86_1, hfz86_0, hfz86_1⟩ := cz2_ BK491
   go_wp2
   go_ret
   exact dz516
def laws_FnAdded.Pure : Prop := ∀ (l0 : List Int), l0.length ≤ maxLen → l0.length * 1 ≤ 140737488351232 → (∀ x ∈ l0, (Lit.int .u8 x).wf = true) → ∃ k, laws_FnAdded.f k l0 = some true
theorem laws_FnAdded.walk (P : laws_FnAdded.Pure) (a0 : Option Addr) (len0 cap0 : Nat) (z0 : List Int) (w : World) (w0 : (a0 = none ∧ len0 = 0 ∧ cap0 = 0 ∧ z0 = []) ∨ ∃ x, a0 = some x ∧ len0 ≤ cap0 ∧ cap0 ≤ maxLen ∧ z0.length = cap0 ∧ (∀ i, i < z0.length → w.cell? (x.add i) = some (.int .u8 (z0.getD i 0))) ∧ ∀ n ∈ z0, (Lit.int .u8 n).wf = true) (y0 : len0 * 1 ≤ 140737488351232) :
  Calls Try.prog 4 #[.slice a0 len0 cap0] w fun e w' => e = .returned (.bool true) ∧ Below w.heap.size w w' := by
 obtain ⟨l0, rfl, hr0, hm0, hw0, hc0⟩ := ReadsInt.ofRowC w0
 obtain ⟨k, h⟩ := P l0 hm0 y0 hw0
 refine (laws_FnAdded.calls k _ _ l0 true w (Kd.C_of_reads (d := (0 : Int)) (h1 := fun _ => rfl) hr0) hc0 h).mono ?_
 rintro e w' ⟨rfl, hd⟩
 exact ⟨rfl, hd⟩
end Go.Proofs.Ytdkdhciogedoiab.PFnAdded
