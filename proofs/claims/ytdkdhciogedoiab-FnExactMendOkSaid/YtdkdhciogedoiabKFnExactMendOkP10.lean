-- Written by wip/gen/pack.py of this repo. Lean checks it.
import Derived.Test.YtdkdhciogedoiabKFnExactMendOkP0
import Derived.Test.YtdkdhciogedoiabKFnExactMendOkP1
import Derived.Test.YtdkdhciogedoiabKFnExactMendOkP4
import Derived.Test.YtdkdhciogedoiabKFnExactMendOkP5
import Derived.Test.YtdkdhciogedoiabKFnExactMendOkP8
import Derived.Test.YtdkdhciogedoiabKFnExactMendOkP9
import Derived.Test.YtdkdhciogedoiabKFnExactMendOkD
namespace Go.Proofs.Ytdkdhciogedoiab.PFnExactMendOk
open Go.RowKit Go.Proofs.YtdkdhciogedoiabW.PrintWords Go.Proofs.YtdkdhciogedoiabW.PrintLast Go.Proofs.YtdkdhciogedoiabW.PrintMore Go.Proofs.YtdkdhciogedoiabW.Sq
attribute [local go_sem] max2_int min2_int max_two min_two max_three min_three max_four min_four
set_option linter.unusedVariables false
set_option linter.unusedSimpArgs false
def laws_FnExactMendOk.f (k : Nat) (l0_0 : List Int) (a0_1 : Int) (a1_0 : Int) (a1_1 : Int) (l1_2 : List Int) (l1_3 : List (S155)) (a1_4 : Bool) (l1_5 : List (List Int)) : Option (Bool) := (laws_szConfig.f l0_0 a0_1 1048576).bind fun t271 => (if t271 < 0 then (some true) else ((laws_szMend.f k a1_0 a1_1 l1_2 l1_3 a1_4 l1_5 t271).bind fun t272 => (if t272 < 0 then (some true) else ((laws_toConfig.f k l0_0 a0_1).bind fun bt273 => ((laws_toMend.f k a1_0 a1_1 l1_2 l1_3 a1_4 l1_5).bind fun bt277 => ((spec_MendOk.f k bt273.1 bt273.2 bt277.1 bt277.2.1 bt277.2.2.1 bt277.2.2.2.1 bt277.2.2.2.2.1 bt277.2.2.2.2.2).bind fun t289 => ((laws_toConfig.f k l0_0 a0_1).bind fun bt290 => ((laws_toMend.f k a1_0 a1_1 l1_2 l1_3 a1_4 l1_5).bind fun bt295 => ((impl_MendOk.f k bt290.1 bt290.2 bt295.1 bt295.2.1 bt295.2.2.1 bt295.2.2.2.1 bt295.2.2.2.2.1 bt295.2.2.2.2.2).bind fun t308 => (if (t308 != t289) = true then (none) else ((laws_toConfig.f k l0_0 a0_1).bind fun bt309 => ((laws_eqConfig.f k bt290.1 bt290.2 bt309.1 bt309.2).bind fun t313 => (if t313 = true then ((laws_toMend.f k a1_0 a1_1 l1_2 l1_3 a1_4 l1_5).bind fun bt314 => ((laws_eqMend.f k bt295.1 bt295.2.1 bt295.2.2.1 bt295.2.2.2.1 bt295.2.2.2.2.1 bt295.2.2.2.2.2 bt314.1 bt314.2.1 bt314.2.2.1 bt314.2.2.2.1 bt314.2.2.2.2.1 bt314.2.2.2.2.2).bind fun t326 => (if t326 = true then (some true) else (none)))) else (none))))))))))))))
theorem laws_FnExactMendOk.mono : ∀ a0 a1 a2 a3 a4 a5 a6 a7 k, LeO (laws_FnExactMendOk.f k a0 a1 a2 a3 a4 a5 a6 a7) (laws_FnExactMendOk.f (k + 1) a0 a1 a2 a3 a4 a5 a6 a7) := by
  intro a0 a1 a2 a3 a4 a5 a6 a7 k
  unfold laws_FnExactMendOk.f
  repeat' first
      | (with_reducible exact impl_MendOk.mono _ _ _ _ _ _ _ _ _)
      | (with_reducible exact laws_eqConfig.mono _ _ _ _ _)
      | (with_reducible exact laws_eqMend.mono _ _ _ _ _ _ _ _ _ _ _ _ _)
      | (with_reducible exact laws_szMend.mono _ _ _ _ _ _ _ _)
      | (with_reducible exact laws_toConfig.mono _ _ _)
      | (with_reducible exact laws_toMend.mono _ _ _ _ _ _ _)
      | (with_reducible exact spec_MendOk.mono _ _ _ _ _ _ _ _ _)
      | (with_reducible exact LeO.refl _)
      | (with_reducible exact LeO.none _)
      | (with_reducible refine LeO.ite ?_ ?_)
      | (with_reducible refine LeO.bind ?_ (fun _ => ?_))
      | exact impl_MendOk.mono _ _ _ _ _ _ _ _ _
      | exact laws_eqConfig.mono _ _ _ _ _
      | exact laws_eqMend.mono _ _ _ _ _ _ _ _ _ _ _ _ _
      | exact laws_szMend.mono _ _ _ _ _ _ _ _
      | exact laws_toConfig.mono _ _ _
      | exact laws_toMend.mono _ _ _ _ _ _ _
      | exact spec_MendOk.mono _ _ _ _ _ _ _ _ _
      | exact LeO.none _
      | refine LeO.ite ?_ ?_
      | refine LeO.bind ?_ (fun _ => ?_)
set_option maxHeartbeats 8000000 in
set_option maxRecDepth 100000 in
theorem laws_FnExactMendOk.calls (k : Nat) (A0_0 : Option Addr) (c0_0 : Nat) (l0_0 : List Int) (a0_1 : Int) (a1_0 : Int) (a1_1 : Int) (A1_2 : Option Addr) (c1_2 : Nat) (l1_2 : List Int) (A1_3 : Option Addr) (c1_3 : Nat) (l1_3 : List (S155)) (a1_4 : Bool) (A1_5 : Option Addr) (c1_5 : Nat) (l1_5 : List (List Int)) (r : Bool) (w : World) (hr0_0 : Kd.C (Kd.int .i64) w A0_0 l0_0.length l0_0) (hc0_0 : l0_0.length ≤ c0_0) (hr1_2 : Kd.C (Kd.int .i64) w A1_2 l1_2.length l1_2) (hc1_2 : l1_2.length ≤ c1_2) (hr1_3 : Kd.C k155 w A1_3 l1_3.length l1_3) (hc1_3 : l1_3.length ≤ c1_3) (hr1_5 : Kd.C (Kd.slice 3 (Kd.int .i64)) w A1_5 l1_5.length l1_5) (hc1_5 : l1_5.length ≤ c1_5) (h : laws_FnExactMendOk.f k l0_0 a0_1 a1_0 a1_1 l1_2 l1_3 a1_4 l1_5 = some r) :
    Calls Try.prog 5 #[.agg #[.slice A0_0 l0_0.length c0_0, .int .i64 a0_1], .agg #[.int .i64 a1_0, .int .i64 a1_1, .slice A1_2 l1_2.length c1_2, .slice A1_3 l1_3.length c1_3, .bool a1_4, .slice A1_5 l1_5.length c1_5]] w fun e w' => e = .returned (.bool r) ∧ Below w.heap.size w w' := by
  have hu24 := Try.underlying24
  have hu56 := Try.underlying56
  have hu31 := Try.underlying31
  have hu61 := Try.underlying61
  have HR0_0 := Aside0.mk hr0_0
  have HC0_0 := Aside0.mk hc0_0
  clear hr0_0 hc0_0
  have HR1_2 := Aside0.mk hr1_2
  have HC1_2 := Aside0.mk hc1_2
  clear hr1_2 hc1_2
  have HR1_3 := Aside0.mk hr1_3
  have HC1_3 := Aside0.mk hc1_3
  clear hr1_3 hc1_3
  have HR1_5 := Aside0.mk hr1_5
  have HC1_5 := Aside0.mk hc1_5
  clear hr1_5 hc1_5
  have HB := Aside0.mk (Below.refl w.heap.size w)
  have H : ((laws_szConfig.f l0_0 a0_1 1048576).bind fun t271 => (if t271 < 0 then (some true) else ((laws_szMend.f k a1_0 a1_1 l1_2 l1_3 a1_4 l1_5 t271).bind fun t272 => (if t272 < 0 then (some true) else ((laws_toConfig.f k l0_0 a0_1).bind fun bt273 => ((laws_toMend.f k a1_0 a1_1 l1_2 l1_3 a1_4 l1_5).bind fun bt277 => ((spec_MendOk.f k bt273.1 bt273.2 bt277.1 bt277.2.1 bt277.2.2.1 bt277.2.2.2.1 bt277.2.2.2.2.1 bt277.2.2.2.2.2).bind fun t289 => ((laws_toConfig.f k l0_0 a0_1).bind fun bt290 => ((laws_toMend.f k a1_0 a1_1 l1_2 l1_3 a1_4 l1_5).bind fun bt295 => ((impl_MendOk.f k bt290.1 bt290.2 bt295.1 bt295.2.1 bt295.2.2.1 bt295.2.2.2.1 bt295.2.2.2.2.1 bt295.2.2.2.2.2).bind fun t308 => (if (t308 != t289) = true then (none) else ((laws_toConfig.f k l0_0 a0_1).bind fun bt309 => ((laws_eqConfig.f k bt290.1 bt290.2 bt309.1 bt309.2).bind fun t313 => (if t313 = true then ((laws_toMend.f k a1_0 a1_1 l1_2 l1_3 a1_4 l1_5).bind fun bt314 => ((laws_eqMend.f k bt295.1 bt295.2.1 bt295.2.2.1 bt295.2.2.2.1 bt295.2.2.2.2.1 bt295.2.2.2.2.2 bt314.1 bt314.2.1 bt314.2.2.1 bt314.2.2.2.1 bt314.2.2.2.2.1 bt314.2.2.2.2.2).bind fun t326 => (if t326 = true then (some true) else (none)))) else (none))))))))))))))) = some r := h
  clear h
  replace H := Option.bind_eq_some_iff.mp H
  obtain ⟨t271, A30, H⟩ := H
  replace H : (if t271 < 0 then (some true) else ((laws_szMend.f k a1_0 a1_1 l1_2 l1_3 a1_4 l1_5 t271).bind fun t272 => (if t272 < 0 then (some true) else ((laws_toConfig.f k l0_0 a0_1).bind fun bt273 => ((laws_toMend.f k a1_0 a1_1 l1_2 l1_3 a1_4 l1_5).bind fun bt277 => ((spec_MendOk.f k bt273.1 bt273.2 bt277.1 bt277.2.1 bt277.2.2.1 bt277.2.2.2.1 bt277.2.2.2.2.1 bt277.2.2.2.2.2).bind fun t289 => ((laws_toConfig.f k l0_0 a0_1).bind fun bt290 => ((laws_toMend.f k a1_0 a1_1 l1_2 l1_3 a1_4 l1_5).bind fun bt295 => ((impl_MendOk.f k bt290.1 bt290.2 bt295.1 bt295.2.1 bt295.2.2.1 bt295.2.2.2.1 bt295.2.2.2.2.1 bt295.2.2.2.2.2).bind fun t308 => (if (t308 != t289) = true then (none) else ((laws_toConfig.f k l0_0 a0_1).bind fun bt309 => ((laws_eqConfig.f k bt290.1 bt290.2 bt309.1 bt309.2).bind fun t313 => (if t313 = true then ((laws_toMend.f k a1_0 a1_1 l1_2 l1_3 a1_4 l1_5).bind fun bt314 => ((laws_eqMend.f k bt295.1 bt295.2.1 bt295.2.2.1 bt295.2.2.2.1 bt295.2.2.2.2.1 bt295.2.2.2.2.2 bt314.1 bt314.2.1 bt314.2.2.1 bt314.2.2.2.1 bt314.2.2.2.2.1 bt314.2.2.2.2.2).bind fun t326 => (if t326 = true then (some true) else (none)))) else (none)))))))))))))) = some r := H
  have A3 := Aside0.mk A30
  clear A30
  by_cases c4 : t271 < 0
  · rw [if_pos c4] at H
    have c4b0 : decide (t271 < 0) = true := decide_eq_true c4
    clear c4
    obtain rfl := Option.some.inj H
    go_enter Try.func5, Try.ntmps5
    go_wp2_with (first | ((with_reducible refine gate_dst (N := 2) rfl ?_); refine box_event ?hg (N := 2) ?hd (cs := #[.slice A0_0 l0_0.length c0_0, .int .i64 a0_1]) (t := 24) ?hr ?_; (case hd => rfl); (case hg => rfl); (case hr => first | (go_simp; done) | (go_simp; rfl)); intro gb269 hg w1 hbox hb; have n0_ := Aside0.mk (below_step dz0 hb); have n1_ := Aside0.mk (hbox); have n2_ := Aside0.mk ((by rw [hg]; exact (below_size dz0) : w.heap.size ≤ gb269)); have n3_ := Aside0.mk ((by rw [hg]; exact (below_size dz0) : w.heap.size ≤ gb269)); clear HB; have HB := n0_; have BK269 := n1_; have GW269 := n2_; have GE269 := n3_; clear n0_ n1_ n2_ n3_; clear hb hbox hg) | ((with_reducible refine gate_dst (N := 3) rfl ?_); refine box_event ?hg (N := 3) ?hd (cs := #[.int .i64 a1_0, .int .i64 a1_1, .slice A1_2 l1_2.length c1_2, .slice A1_3 l1_3.length c1_3, .bool a1_4, .slice A1_5 l1_5.length c1_5]) (t := 56) ?hr ?_; (case hd => rfl); (case hg => rfl); (case hr => first | (go_simp; done) | (go_simp; rfl)); intro gb270 hg w2 hbox hb; have n0_ := Aside0.mk (blk_below (g := gb269) (o := .cells #[.slice A0_0 l0_0.length c0_0, .int .i64 a0_1] 24 (0, 0)) dz4 hb); have n1_ := Aside0.mk (below_step dz23 hb); have n2_ := Aside0.mk (hbox); have n3_ := Aside0.mk ((by rw [hg]; exact (below_size dz23) : w.heap.size ≤ gb270)); have n4_ := Aside0.mk ((by rw [hg]; exact (below_size dz23) : w.heap.size ≤ gb270)); have n5_ := Aside0.mk ((by rw [hg]; exact Nat.ne_of_lt (blk_lt (g := gb269) (o := .cells #[.slice A0_0 l0_0.length c0_0, .int .i64 a0_1] 24 (0, 0)) dz4) : gb269 ≠ gb270)); have n6_ := Aside0.mk ((by rw [hg]; exact Nat.ne_of_gt (blk_lt (g := gb269) (o := .cells #[.slice A0_0 l0_0.length c0_0, .int .i64 a0_1] 24 (0, 0)) dz4) : gb270 ≠ gb269)); clear BK269; clear HB; have BK269 := n0_; have HB := n1_; have BK270 := n2_; have GW270 := n3_; have GE270 := n4_; have NB269_270 := n5_; have NB270_269 := n6_; clear n0_ n1_ n2_ n3_ n4_ n5_ n6_; clear hb hbox hg; have hnb7 := NB269_270.out; have hnc7 := NB270_269.out; have hcz8_0 : w2.cell? ⟨gb269, 0, none⟩ = some (.slice A0_0 l0_0.length c0_0) := (blk_cell BK269.out 0).trans rfl; have hcz8_1 : w2.cell? ⟨gb269, 1, none⟩ = some (.int .i64 a0_1) := (blk_cell BK269.out 1).trans rfl; have hfz8_0 := blk_frozen BK269.out 0; have hfz8_1 := blk_frozen BK269.out 1) | ((with_reducible refine gate_callee (f := 9) rfl ?_); refine goesL_ (some 12) rfl rfl Try.func9 (by kernel_rfl) rfl #[.agg #[.slice A0_0 l0_0.length c0_0, .int .i64 a0_1], .int .i64 1048576] rfl dz2 ?_; (with_reducible refine (laws_szConfig.calls _ _ l0_0 a0_1 1048576 t271 _ ?side1 ?side2 A3.out).mono ?_); (case side1 => repeat (first | exact (Kd.C_below HR0_0.out HB.out) | (with_reducible refine Kd.C_alloc ?_ _) | (with_reducible refine Kd.C_drewN ?_ _) | (with_reducible refine Kd.C_drew ?_))); (case side2 => exact HC0_0.out); rintro e w3 ⟨rfl, hb⟩; refine ⟨_, rfl, ?_⟩; have n0_ := Aside0.mk (blk_below (g := gb269) (o := .cells #[.slice A0_0 l0_0.length c0_0, .int .i64 a0_1] 24 (0, 0)) dz4 hb); have n1_ := Aside0.mk (blk_below (g := gb270) (o := .cells #[.int .i64 a1_0, .int .i64 a1_1, .slice A1_2 l1_2.length c1_2, .slice A1_3 l1_3.length c1_3, .bool a1_4, .slice A1_5 l1_5.length c1_5] 56 (0, 0)) dz10 hb); have n2_ := Aside0.mk (below_step dz15 hb); clear BK269; clear BK270; clear HB; have BK269 := n0_; have BK270 := n1_; have HB := n2_; clear n0_ n1_ n2_; (try clear hb); (try clear hb2); (try clear hk); (try clear hi)))
    go_ret
    exact dz84
  · rw [if_neg c4] at H
    have c4b0 : decide (t271 < 0) = false := decide_eq_false c4
    clear c4
    replace H := Option.bind_eq_some_iff.mp H
    obtain ⟨t272, A100, H⟩ := H
    replace H : (if t272 < 0 then (some true) else ((laws_toConfig.f k l0_0 a0_1).bind fun bt273 => ((laws_toMend.f k a1_0 a1_1 l1_2 l1_3 a1_4 l1_5).bind fun bt277 => ((spec_MendOk.f k bt273.1 bt273.2 bt277.1 bt277.2.1 bt277.2.2.1 bt277.2.2.2.1 bt277.2.2.2.2.1 bt277.2.2.2.2.2).bind fun t289 => ((laws_toConfig.f k l0_0 a0_1).bind fun bt290 => ((laws_toMend.f k a1_0 a1_1 l1_2 l1_3 a1_4 l1_5).bind fun bt295 => ((impl_MendOk.f k bt290.1 bt290.2 bt295.1 bt295.2.1 bt295.2.2.1 bt295.2.2.2.1 bt295.2.2.2.2.1 bt295.2.2.2.2.2).bind fun t308 => (if (t308 != t289) = true then (none) else ((laws_toConfig.f k l0_0 a0_1).bind fun bt309 => ((laws_eqConfig.f k bt290.1 bt290.2 bt309.1 bt309.2).bind fun t313 => (if t313 = true then ((laws_toMend.f k a1_0 a1_1 l1_2 l1_3 a1_4 l1_5).bind fun bt314 => ((laws_eqMend.f k bt295.1 bt295.2.1 bt295.2.2.1 bt295.2.2.2.1 bt295.2.2.2.2.1 bt295.2.2.2.2.2 bt314.1 bt314.2.1 bt314.2.2.1 bt314.2.2.2.1 bt314.2.2.2.2.1 bt314.2.2.2.2.2).bind fun t326 => (if t326 = true then (some true) else (none)))) else (none)))))))))))) = some r := H
    have A10 := Aside0.mk A100
    clear A100
    by_cases c11 : t272 < 0
    · rw [if_pos c11] at H
      have c11b0 : decide (t272 < 0) = true := decide_eq_true c11
      clear c11
      obtain rfl := Option.some.inj H
      go_enter Try.func5, Try.ntmps5
      go_wp2_with (first | ((with_reducible refine gate_dst (N := 2) rfl ?_); refine box_event ?hg (N := 2) ?hd (cs := #[.slice A0_0 l0_0.length c0_0, .int .i64 a0_1]) (t := 24) ?hr ?_; (case hd => rfl); (case hg => rfl); (case hr => first | (go_simp; done) | (go_simp; rfl)); intro gb269 hg w1 hbox hb; have n0_ := Aside0.mk (below_step dz0 hb); have n1_ := Aside0.mk (hbox); have n2_ := Aside0.mk ((by rw [hg]; exact (below_size dz0) : w.heap.size ≤ gb269)); have n3_ := Aside0.mk ((by rw [hg]; exact (below_size dz0) : w.heap.size ≤ gb269)); clear HB; have HB := n0_; have BK269 := n1_; have GW269 := n2_; have GE269 := n3_; clear n0_ n1_ n2_ n3_; clear hb hbox hg) | ((with_reducible refine gate_dst (N := 3) rfl ?_); refine box_event ?hg (N := 3) ?hd (cs := #[.int .i64 a1_0, .int .i64 a1_1, .slice A1_2 l1_2.length c1_2, .slice A1_3 l1_3.length c1_3, .bool a1_4, .slice A1_5 l1_5.length c1_5]) (t := 56) ?hr ?_; (case hd => rfl); (case hg => rfl); (case hr => first | (go_simp; done) | (go_simp; rfl)); intro gb270 hg w2 hbox hb; have n0_ := Aside0.mk (blk_below (g := gb269) (o := .cells #[.slice A0_0 l0_0.length c0_0, .int .i64 a0_1] 24 (0, 0)) dz4 hb); have n1_ := Aside0.mk (below_step dz23 hb); have n2_ := Aside0.mk (hbox); have n3_ := Aside0.mk ((by rw [hg]; exact (below_size dz23) : w.heap.size ≤ gb270)); have n4_ := Aside0.mk ((by rw [hg]; exact (below_size dz23) : w.heap.size ≤ gb270)); have n5_ := Aside0.mk ((by rw [hg]; exact Nat.ne_of_lt (blk_lt (g := gb269) (o := .cells #[.slice A0_0 l0_0.length c0_0, .int .i64 a0_1] 24 (0, 0)) dz4) : gb269 ≠ gb270)); have n6_ := Aside0.mk ((by rw [hg]; exact Nat.ne_of_gt (blk_lt (g := gb269) (o := .cells #[.slice A0_0 l0_0.length c0_0, .int .i64 a0_1] 24 (0, 0)) dz4) : gb270 ≠ gb269)); clear BK269; clear HB; have BK269 := n0_; have HB := n1_; have BK270 := n2_; have GW270 := n3_; have GE270 := n4_; have NB269_270 := n5_; have NB270_269 := n6_; clear n0_ n1_ n2_ n3_ n4_ n5_ n6_; clear hb hbox hg; have hnb14 := NB269_270.out; have hnc14 := NB270_269.out; have hcz15_0 : w2.cell? ⟨gb269, 0, none⟩ = some (.slice A0_0 l0_0.length c0_0) := (blk_cell BK269.out 0).trans rfl; have hcz15_1 : w2.cell? ⟨gb269, 1, none⟩ = some (.int .i64 a0_1) := (blk_cell BK269.out 1).trans rfl; have hfz15_0 := blk_frozen BK269.out 0; have hfz15_1 := blk_frozen BK269.out 1) | ((with_reducible refine gate_callee (f := 9) rfl ?_); refine goesL_ (some 12) rfl rfl Try.func9 (by kernel_rfl) rfl #[.agg #[.slice A0_0 l0_0.length c0_0, .int .i64 a0_1], .int .i64 1048576] rfl dz2 ?_; (with_reducible refine (laws_szConfig.calls _ _ l0_0 a0_1 1048576 t271 _ ?side1 ?side2 A3.out).mono ?_); (case side1 => repeat (first | exact (Kd.C_below HR0_0.out HB.out) | (with_reducible refine Kd.C_alloc ?_ _) | (with_reducible refine Kd.C_drewN ?_ _) | (with_reducible refine Kd.C_drew ?_))); (case side2 => exact HC0_0.out); rintro e w3 ⟨rfl, hb⟩; refine ⟨_, rfl, ?_⟩; have n0_ := Aside0.mk (blk_below (g := gb269) (o := .cells #[.slice A0_0 l0_0.length c0_0, .int .i64 a0_1] 24 (0, 0)) dz4 hb); have n1_ := Aside0.mk (blk_below (g := gb270) (o := .cells #[.int .i64 a1_0, .int .i64 a1_1, .slice A1_2 l1_2.length c1_2, .slice A1_3 l1_3.length c1_3, .bool a1_4, .slice A1_5 l1_5.length c1_5] 56 (0, 0)) dz10 hb); have n2_ := Aside0.mk (below_step dz15 hb); clear BK269; clear BK270; clear HB; have BK269 := n0_; have BK270 := n1_; have HB := n2_; clear n0_ n1_ n2_; (try clear hb); (try clear hb2); (try clear hk); (try clear hi); have hcz17_0 : w3.cell? ⟨gb270, 0, none⟩ = some (.int .i64 a1_0) := (blk_cell BK270.out 0).trans rfl; have hcz17_1 : w3.cell? ⟨gb270, 1, none⟩ = some (.int .i64 a1_1) := (blk_cell BK270.out 1).trans rfl; have hcz17_2 : w3.cell? ⟨gb270, 2, none⟩ = some (.slice A1_2 l1_2.length c1_2) := (blk_cell BK270.out 2).trans rfl; have hcz17_3 : w3.cell? ⟨gb270, 3, none⟩ = some (.slice A1_3 l1_3.length c1_3) := (blk_cell BK270.out 3).trans rfl; have hcz17_4 : w3.cell? ⟨gb270, 4, none⟩ = some (.bool a1_4) := (blk_cell BK270.out 4).trans rfl; have hcz17_5 : w3.cell? ⟨gb270, 5, none⟩ = some (.slice A1_5 l1_5.length c1_5) := (blk_cell BK270.out 5).trans rfl; have hfz17_0 := blk_frozen BK270.out 0; have hfz17_1 := blk_frozen BK270.out 1; have hfz17_2 := blk_frozen BK270.out 2; have hfz17_3 := blk_frozen BK270.out 3; have hfz17_4 := blk_frozen BK270.out 4; have hfz17_5 := blk_frozen BK270.out 5) | ((with_reducible refine gate_callee (f := 23) rfl ?_); refine goesL_ (some 17) rfl rfl Try.func23 (by kernel_rfl) rfl #[.agg #[.int .i64 a1_0, .int .i64 a1_1, .slice A1_2 l1_2.length c1_2, .slice A1_3 l1_3.length c1_3, .bool a1_4, .slice A1_5 l1_5.length c1_5], .int .i64 t271] rfl dz2 ?_; (with_reducible refine (laws_szMend.calls k a1_0 a1_1 _ _ l1_2 _ _ l1_3 a1_4 _ _ l1_5 t271 t272 _ ?side1 ?side2 ?side3 ?side4 ?side5 ?side6 A10.out).mono ?_); (case side1 => repeat (first | exact (Kd.C_below HR1_2.out HB.out) | (with_reducible refine Kd.C_alloc ?_ _) | (with_reducible refine Kd.C_drewN ?_ _) | (with_reducible refine Kd.C_drew ?_))); (case side2 => exact HC1_2.out); (case side3 => repeat (first | exact (Kd.C_below HR1_3.out HB.out) | (with_reducible refine Kd.C_alloc ?_ _) | (with_reducible refine Kd.C_drewN ?_ _) | (with_reducible refine Kd.C_drew ?_))); (case side4 => exact HC1_3.out); (case side5 => repeat (first | exact (Kd.C_below HR1_5.out HB.out) | (with_reducible refine Kd.C_alloc ?_ _) | (with_reducible refine Kd.C_drewN ?_ _) | (with_reducible refine Kd.C_drew ?_))); (case side6 => exact HC1_5.out); rintro e w4 ⟨rfl, hb⟩; refine ⟨_, rfl, ?_⟩; have n0_ := Aside0.mk (blk_below (g := gb269) (o := .cells #[.slice A0_0 l0_0.length c0_0, .int .i64 a0_1] 24 (0, 0)) dz4 hb); have n1_ := Aside0.mk (blk_below (g := gb270) (o := .cells #[.int .i64 a1_0, .int .i64 a1_1, .slice A1_2 l1_2.length c1_2, .slice A1_3 l1_3.length c1_3, .bool a1_4, .slice A1_5 l1_5.length c1_5] 56 (0, 0)) dz10 hb); have n2_ := Aside0.mk (below_step dz15 hb); clear BK269; clear BK270; clear HB; have BK269 := n0_; have BK270 := n1_; have HB := n2_; clear n0_ n1_ n2_; (try clear hb); (try clear hb2); (try clear hk); (try clear hi)))
      go_ret
      exact dz84
    · rw [if_neg c11] at H
      have c11b0 : decide (t272 < 0) = false := decide_eq_false c11
      clear c11
      replace H := Option.bind_eq_some_iff.mp H
      obtain ⟨⟨t273, t276⟩, A190, H⟩ := H
      replace H : ((laws_toMend.f k a1_0 a1_1 l1_2 l1_3 a1_4 l1_5).bind fun bt277 => ((spec_MendOk.f k t273 t276 bt277.1 bt277.2.1 bt277.2.2.1 bt277.2.2.2.1 bt277.2.2.2.2.1 bt277.2.2.2.2.2).bind fun t289 => ((laws_toConfig.f k l0_0 a0_1).bind fun bt290 => ((laws_toMend.f k a1_0 a1_1 l1_2 l1_3 a1_4 l1_5).bind fun bt295 => ((impl_MendOk.f k bt290.1 bt290.2 bt295.1 bt295.2.1 bt295.2.2.1 bt295.2.2.2.1 bt295.2.2.2.2.1 bt295.2.2.2.2.2).bind fun t308 => (if (t308 != t289) = true then (none) else ((laws_toConfig.f k l0_0 a0_1).bind fun bt309 => ((laws_eqConfig.f k bt290.1 bt290.2 bt309.1 bt309.2).bind fun t313 => (if t313 = true then ((laws_toMend.f k a1_0 a1_1 l1_2 l1_3 a1_4 l1_5).bind fun bt314 => ((laws_eqMend.f k bt295.1 bt295.2.1 bt295.2.2.1 bt295.2.2.2.1 bt295.2.2.2.2.1 bt295.2.2.2.2.2 bt314.1 bt314.2.1 bt314.2.2.1 bt314.2.2.2.1 bt314.2.2.2.2.1 bt314.2.2.2.2.2).bind fun t326 => (if t326 = true then (some true) else (none)))) else (none)))))))))) = some r := H
      have A19 := Aside0.mk A190
      clear A190
      replace H := Option.bind_eq_some_iff.mp H
      obtain ⟨⟨t277, t278, t279, t282, t285, t286⟩, A200, H⟩ := H
      replace H : ((spec_MendOk.f k t273 t276 t277 t278 t279 t282 t285 t286).bind fun t289 => ((laws_toConfig.f k l0_0 a0_1).bind fun bt290 => ((laws_toMend.f k a1_0 a1_1 l1_2 l1_3 a1_4 l1_5).bind fun bt295 => ((impl_MendOk.f k bt290.1 bt290.2 bt295.1 bt295.2.1 bt295.2.2.1 bt295.2.2.2.1 bt295.2.2.2.2.1 bt295.2.2.2.2.2).bind fun t308 => (if (t308 != t289) = true then (none) else ((laws_toConfig.f k l0_0 a0_1).bind fun bt309 => ((laws_eqConfig.f k bt290.1 bt290.2 bt309.1 bt309.2).bind fun t313 => (if t313 = true then ((laws_toMend.f k a1_0 a1_1 l1_2 l1_3 a1_4 l1_5).bind fun bt314 => ((laws_eqMend.f k bt295.1 bt295.2.1 bt295.2.2.1 bt295.2.2.2.1 bt295.2.2.2.2.1 bt295.2.2.2.2.2 bt314.1 bt314.2.1 bt314.2.2.1 bt314.2.2.2.1 bt314.2.2.2.2.1 bt314.2.2.2.2.2).bind fun t326 => (if t326 = true then (some true) else (none)))) else (none))))))))) = some r := H
      have A20 := Aside0.mk A200
      clear A200
      replace H := Option.bind_eq_some_iff.mp H
      obtain ⟨t289, A210, H⟩ := H
      replace H : ((laws_toConfig.f k l0_0 a0_1).bind fun bt290 => ((laws_toMend.f k a1_0 a1_1 l1_2 l1_3 a1_4 l1_5).bind fun bt295 => ((impl_MendOk.f k bt290.1 bt290.2 bt295.1 bt295.2.1 bt295.2.2.1 bt295.2.2.2.1 bt295.2.2.2.2.1 bt295.2.2.2.2.2).bind fun t308 => (if (t308 != t289) = true then (none) else ((laws_toConfig.f k l0_0 a0_1).bind fun bt309 => ((laws_eqConfig.f k bt290.1 bt290.2 bt309.1 bt309.2).bind fun t313 => (if t313 = true then ((laws_toMend.f k a1_0 a1_1 l1_2 l1_3 a1_4 l1_5).bind fun bt314 => ((laws_eqMend.f k bt295.1 bt295.2.1 bt295.2.2.1 bt295.2.2.2.1 bt295.2.2.2.2.1 bt295.2.2.2.2.2 bt314.1 bt314.2.1 bt314.2.2.1 bt314.2.2.2.1 bt314.2.2.2.2.1 bt314.2.2.2.2.2).bind fun t326 => (if t326 = true then (some true) else (none)))) else (none)))))))) = some r := H
      have A21 := Aside0.mk A210
      clear A210
      replace H := Option.bind_eq_some_iff.mp H
      obtain ⟨⟨t290, t293⟩, A220, H⟩ := H
      replace H : ((laws_toMend.f k a1_0 a1_1 l1_2 l1_3 a1_4 l1_5).bind fun bt295 => ((impl_MendOk.f k t290 t293 bt295.1 bt295.2.1 bt295.2.2.1 bt295.2.2.2.1 bt295.2.2.2.2.1 bt295.2.2.2.2.2).bind fun t308 => (if (t308 != t289) = true then (none) else ((laws_toConfig.f k l0_0 a0_1).bind fun bt309 => ((laws_eqConfig.f k t290 t293 bt309.1 bt309.2).bind fun t313 => (if t313 = true then ((laws_toMend.f k a1_0 a1_1 l1_2 l1_3 a1_4 l1_5).bind fun bt314 => ((laws_eqMend.f k bt295.1 bt295.2.1 bt295.2.2.1 bt295.2.2.2.1 bt295.2.2.2.2.1 bt295.2.2.2.2.2 bt314.1 bt314.2.1 bt314.2.2.1 bt314.2.2.2.1 bt314.2.2.2.2.1 bt314.2.2.2.2.2).bind fun t326 => (if t326 = true then (some true) else (none)))) else (none))))))) = some r := H
      have A22 := Aside0.mk A220
      clear A220
      replace H := Option.bind_eq_some_iff.mp H
      obtain ⟨⟨t295, t296, t297, t300, t303, t304⟩, A230, H⟩ := H
      replace H : ((impl_MendOk.f k t290 t293 t295 t296 t297 t300 t303 t304).bind fun t308 => (if (t308 != t289) = true then (none) else ((laws_toConfig.f k l0_0 a0_1).bind fun bt309 => ((laws_eqConfig.f k t290 t293 bt309.1 bt309.2).bind fun t313 => (if t313 = true then ((laws_toMend.f k a1_0 a1_1 l1_2 l1_3 a1_4 l1_5).bind fun bt314 => ((laws_eqMend.f k t295 t296 t297 t300 t303 t304 bt314.1 bt314.2.1 bt314.2.2.1 bt314.2.2.2.1 bt314.2.2.2.2.1 bt314.2.2.2.2.2).bind fun t326 => (if t326 = true then (some true) else (none)))) else (none)))))) = some r := H
      have A23 := Aside0.mk A230
      clear A230
      replace H := Option.bind_eq_some_iff.mp H
      obtain ⟨t308, A240, H⟩ := H
      replace H : (if (t308 != t289) = true then (none) else ((laws_toConfig.f k l0_0 a0_1).bind fun bt309 => ((laws_eqConfig.f k t290 t293 bt309.1 bt309.2).bind fun t313 => (if t313 = true then ((laws_toMend.f k a1_0 a1_1 l1_2 l1_3 a1_4 l1_5).bind fun bt314 => ((laws_eqMend.f k t295 t296 t297 t300 t303 t304 bt314.1 bt314.2.1 bt314.2.2.1 bt314.2.2.2.1 bt314.2.2.2.2.1 bt314.2.2.2.2.2).bind fun t326 => (if t326 = true then (some true) else (none)))) else (none))))) = some r := H
      have A24 := Aside0.mk A240
      clear A240
      by_cases c25 : (t308 != t289) = true
      · rw [if_pos c25] at H
        exact absurd H (by simp)
      · rw [if_neg c25] at H
        have c25b0 : (t308 != t289) = false := by simpa using c25
        (try (have c25b1 : decide (t308 = t289) = true := by simpa using c25))
        (try (have c25b2 : (t308 == t289) = true := by simpa using c25))
        clear c25
        replace H := Option.bind_eq_some_iff.mp H
        obtain ⟨⟨t309, t312⟩, A260, H⟩ := H
        replace H : ((laws_eqConfig.f k t290 t293 t309 t312).bind fun t313 => (if t313 = true then ((laws_toMend.f k a1_0 a1_1 l1_2 l1_3 a1_4 l1_5).bind fun bt314 => ((laws_eqMend.f k t295 t296 t297 t300 t303 t304 bt314.1 bt314.2.1 bt314.2.2.1 bt314.2.2.2.1 bt314.2.2.2.2.1 bt314.2.2.2.2.2).bind fun t326 => (if t326 = true then (some true) else (none)))) else (none))) = some r := H
        have A26 := Aside0.mk A260
        clear A260
        replace H := Option.bind_eq_some_iff.mp H
        obtain ⟨t313, A270, H⟩ := H
        replace H : (if t313 = true then ((laws_toMend.f k a1_0 a1_1 l1_2 l1_3 a1_4 l1_5).bind fun bt314 => ((laws_eqMend.f k t295 t296 t297 t300 t303 t304 bt314.1 bt314.2.1 bt314.2.2.1 bt314.2.2.2.1 bt314.2.2.2.2.1 bt314.2.2.2.2.2).bind fun t326 => (if t326 = true then (some true) else (none)))) else (none)) = some r := H
        have A27 := Aside0.mk A270
        clear A270
        by_cases c28 : t313 = true
        · subst c28
          have H1 : ((laws_toMend.f k a1_0 a1_1 l1_2 l1_3 a1_4 l1_5).bind fun bt314 => ((laws_eqMend.f k t295 t296 t297 t300 t303 t304 bt314.1 bt314.2.1 bt314.2.2.1 bt314.2.2.2.1 bt314.2.2.2.2.1 bt314.2.2.2.2.2).bind fun t326 => (if t326 = true then (some true) else (none)))) = some r := by rw [if_pos rfl] at H; exact H
          clear H
          have H := H1
          clear H1
          replace H := Option.bind_eq_some_iff.mp H
          obtain ⟨⟨t314, t315, t316, t319, t322, t323⟩, A290, H⟩ := H
          replace H : ((laws_eqMend.f k t295 t296 t297 t300 t303 t304 t314 t315 t316 t319 t322 t323).bind fun t326 => (if t326 = true then (some true) else (none))) = some r := H
          have A29 := Aside0.mk A290
          clear A290
          replace H := Option.bind_eq_some_iff.mp H
          obtain ⟨t326, A300, H⟩ := H
          replace H : (if t326 = true then (some true) else (none)) = some r := H
          have A30 := Aside0.mk A300
          clear A300
          by_cases c31 : t326 = true
          · subst c31
            have H1 : (some true) = some r := by rw [if_pos rfl] at H; exact H
            clear H
            have H := H1
            clear H1
            obtain rfl := Option.some.inj H
            go_enter Try.func5, Try.ntmps5
            try go_wp2_with (first | ((with_reducible refine gate_dst (N := 2) rfl ?_); refine box_event ?hg (N := 2) ?hd (cs := #[.slice A0_0 l0_0.length c0_0, .int .i64 a0_1]) (t := 24) ?hr ?_; (case hd => rfl); (case hg => rfl); (case hr => first | (go_simp; done) | (go_simp; rfl)); intro gb269 hg w1 hbox hb; have n0_ := Aside0.mk (below_step dz0 hb); have n1_ := Aside0.mk (hbox); have n2_ := Aside0.mk ((by rw [hg]; exact (below_size dz0) : w.heap.size ≤ gb269)); have n3_ := Aside0.mk ((by rw [hg]; exact (below_size dz0) : w.heap.size ≤ gb269)); clear HB; have HB := n0_; have BK269 := n1_; have GW269 := n2_; have GE269 := n3_; clear n0_ n1_ n2_ n3_; clear hb hbox hg) | ((with_reducible refine gate_dst (N := 3) rfl ?_); refine box_event ?hg (N := 3) ?hd (cs := #[.int .i64 a1_0, .int .i64 a1_1, .slice A1_2 l1_2.length c1_2, .slice A1_3 l1_3.length c1_3, .bool a1_4, .slice A1_5 l1_5.length c1_5]) (t := 56) ?hr ?_; (case hd => rfl); (case hg => rfl); (case hr => first | (go_simp; done) | (go_simp; rfl)); intro gb270 hg w2 hbox hb; have n0_ := Aside0.mk (blk_below (g := gb269) (o := .cells #[.slice A0_0 l0_0.length c0_0, .int .i64 a0_1] 24 (0, 0)) dz4 hb); have n1_ := Aside0.mk (below_step dz23 hb); have n2_ := Aside0.mk (hbox); have n3_ := Aside0.mk ((by rw [hg]; exact (below_size dz23) : w.heap.size ≤ gb270)); have n4_ := Aside0.mk ((by rw [hg]; exact (below_size dz23) : w.heap.size ≤ gb270)); have n5_ := Aside0.mk ((by rw [hg]; exact Nat.ne_of_lt (blk_lt (g := gb269) (o := .cells #[.slice A0_0 l0_0.length c0_0, .int .i64 a0_1] 24 (0, 0)) dz4) : gb269 ≠ gb270)); have n6_ := Aside0.mk ((by rw [hg]; exact Nat.ne_of_gt (blk_lt (g := gb269) (o := .cells #[.slice A0_0 l0_0.length c0_0, .int .i64 a0_1] 24 (0, 0)) dz4) : gb270 ≠ gb269)); clear BK269; clear HB; have BK269 := n0_; have HB := n1_; have BK270 := n2_; have GW270 := n3_; have GE270 := n4_; have NB269_270 := n5_; have NB270_269 := n6_; clear n0_ n1_ n2_ n3_ n4_ n5_ n6_; clear hb hbox hg; have hnb34 := NB269_270.out; have hnc34 := NB270_269.out; have hcz35_0 : w2.cell? ⟨gb269, 0, none⟩ = some (.slice A0_0 l0_0.length c0_0) := (blk_cell BK269.out 0).trans rfl; have hcz35_1 : w2.cell? ⟨gb269, 1, none⟩ = some (.int .i64 a0_1) := (blk_cell BK269.out 1).trans rfl; have hfz35_0 := blk_frozen BK269.out 0; have hfz35_1 := blk_frozen BK269.out 1) | ((with_reducible refine gate_callee (f := 9) rfl ?_); refine goesL_ (some 12) rfl rfl Try.func9 (by kernel_rfl) rfl #[.agg #[.slice A0_0 l0_0.length c0_0, .int .i64 a0_1], .int .i64 1048576] rfl dz2 ?_; (with_reducible refine (laws_szConfig.calls _ _ l0_0 a0_1 1048576 t271 _ ?side1 ?side2 A3.out).mono ?_); (case side1 => repeat (first | exact (Kd.C_below HR0_0.out HB.out) | (with_reducible refine Kd.C_alloc ?_ _) | (with_reducible refine Kd.C_drewN ?_ _) | (with_reducible refine Kd.C_drew ?_))); (case side2 => exact HC0_0.out); rintro e w3 ⟨rfl, hb⟩; refine ⟨_, rfl, ?_⟩; have n0_ := Aside0.mk (blk_below (g := gb269) (o := .cells #[.slice A0_0 l0_0.length c0_0, .int .i64 a0_1] 24 (0, 0)) dz4 hb); have n1_ := Aside0.mk (blk_below (g := gb270) (o := .cells #[.int .i64 a1_0, .int .i64 a1_1, .slice A1_2 l1_2.length c1_2, .slice A1_3 l1_3.length c1_3, .bool a1_4, .slice A1_5 l1_5.length c1_5] 56 (0, 0)) dz10 hb); have n2_ := Aside0.mk (below_step dz15 hb); clear BK269; clear BK270; clear HB; have BK269 := n0_; have BK270 := n1_; have HB := n2_; clear n0_ n1_ n2_; (try clear hb); (try clear hb2); (try clear hk); (try clear hi); have hcz37_0 : w3.cell? ⟨gb270, 0, none⟩ = some (.int .i64 a1_0) := (blk_cell BK270.out 0).trans rfl; have hcz37_1 : w3.cell? ⟨gb270, 1, none⟩ = some (.int .i64 a1_1) := (blk_cell BK270.out 1).trans rfl; have hcz37_2 : w3.cell? ⟨gb270, 2, none⟩ = some (.slice A1_2 l1_2.length c1_2) := (blk_cell BK270.out 2).trans rfl; have hcz37_3 : w3.cell? ⟨gb270, 3, none⟩ = some (.slice A1_3 l1_3.length c1_3) := (blk_cell BK270.out 3).trans rfl; have hcz37_4 : w3.cell? ⟨gb270, 4, none⟩ = some (.bool a1_4) := (blk_cell BK270.out 4).trans rfl; have hcz37_5 : w3.cell? ⟨gb270, 5, none⟩ = some (.slice A1_5 l1_5.length c1_5) := (blk_cell BK270.out 5).trans rfl; have hfz37_0 := blk_frozen BK270.out 0; have hfz37_1 := blk_frozen BK270.out 1; have hfz37_2 := blk_frozen BK270.out 2; have hfz37_3 := blk_frozen BK270.out 3; have hfz37_4 := blk_frozen BK270.out 4; have hfz37_5 := blk_frozen BK270.out 5) | ((with_reducible refine gate_callee (f := 23) rfl ?_); refine goesL_ (some 17) rfl rfl Try.func23 (by kernel_rfl) rfl #[.agg #[.int .i64 a1_0, .int .i64 a1_1, .slice A1_2 l1_2.length c1_2, .slice A1_3 l1_3.length c1_3, .bool a1_4, .slice A1_5 l1_5.length c1_5], .int .i64 t271] rfl dz2 ?_; (with_reducible refine (laws_szMend.calls k a1_0 a1_1 _ _ l1_2 _ _ l1_3 a1_4 _ _ l1_5 t271 t272 _ ?side1 ?side2 ?side3 ?side4 ?side5 ?side6 A10.out).mono ?_); (case side1 => repeat (first | exact (Kd.C_below HR1_2.out HB.out) | (with_reducible refine Kd.C_alloc ?_ _) | (with_reducible refine Kd.C_drewN ?_ _) | (with_reducible refine Kd.C_drew ?_))); (case side2 => exact HC1_2.out); (case side3 => repeat (first | exact (Kd.C_below HR1_3.out HB.out) | (with_reducible refine Kd.C_alloc ?_ _) | (with_reducible refine Kd.C_drewN ?_ _) | (with_reducible refine Kd.C_drew ?_))); (case side4 => exact HC1_3.out); (case side5 => repeat (first | exact (Kd.C_below HR1_5.out HB.out) | (with_reducible refine Kd.C_alloc ?_ _) | (with_reducible refine Kd.C_drewN ?_ _) | (with_reducible refine Kd.C_drew ?_))); (case side6 => exact HC1_5.out); rintro e w4 ⟨rfl, hb⟩; refine ⟨_, rfl, ?_⟩; have n0_ := Aside0.mk (blk_below (g := gb269) (o := .cells #[.slice A0_0 l0_0.length c0_0, .int .i64 a0_1] 24 (0, 0)) dz4 hb); have n1_ := Aside0.mk (blk_below (g := gb270) (o := .cells #[.int .i64 a1_0, .int .i64 a1_1, .slice A1_2 l1_2.length c1_2, .slice A1_3 l1_3.length c1_3, .bool a1_4, .slice A1_5 l1_5.length c1_5] 56 (0, 0)) dz10 hb); have n2_ := Aside0.mk (below_step dz15 hb); clear BK269; clear BK270; clear HB; have BK269 := n0_; have BK270 := n1_; have HB := n2_; clear n0_ n1_ n2_; (try clear hb); (try clear hb2); (try clear hk); (try clear hi)))
            have n0_ := Aside0.mk (blk_drew BK269.out)
            have n1_ := Aside0.mk (blk_drew BK270.out)
            have n2_ := Aside0.mk (below_drew1 HB.out)
            clear BK269
            clear BK270
            clear HB
            have BK269 := n0_
            have BK270 := n1_
            have HB := n2_
            clear n0_ n1_ n2_
            refine start_ (n := 6) (S := fun w' => w'.cell? ⟨gb269, 0, none⟩ = some (.slice A0_0 l0_0.length c0_0) ∧ w'.cell? ⟨gb269, 1, none⟩ = some (.int .i64 a0_1) ∧ w'.cell? ⟨gb270, 0, none⟩ = some (.int .i64 a1_0) ∧ w'.cell? ⟨gb270, 1, none⟩ = some (.int .i64 a1_1) ∧ w'.cell? ⟨gb270, 2, none⟩ = some (.slice A1_2 l1_2.length c1_2) ∧ w'.cell? ⟨gb270, 3, none⟩ = some (.slice A1_3 l1_3.length c1_3) ∧ w'.cell? ⟨gb270, 4, none⟩ = some (.bool a1_4) ∧ w'.cell? ⟨gb270, 5, none⟩ = some (.slice A1_5 l1_5.length c1_5)) (ds := []) #[false, false, false, false, false, false] (by kernel_rfl) rfl rfl ⟨(blk_cell BK269.out 0).trans rfl, (blk_cell BK269.out 1).trans rfl, (blk_cell BK270.out 0).trans rfl, (blk_cell BK270.out 1).trans rfl, (blk_cell BK270.out 2).trans rfl, (blk_cell BK270.out 3).trans rfl, (blk_cell BK270.out 4).trans rfl, (blk_cell BK270.out 5).trans rfl⟩ (fun hHeld => ?_)
            generalize w4.drew = w7 at BK269 BK270 HB hHeld ⊢
            refine take_ (i := 0) (N := some 20) (v := ?_) (a' := ?_) #[true, false, false, false, false, false] rfl rfl (by kernel_rfl) (fun _ _ _ h => h) (Or.inl ⟨by rfl, ?_⟩) hHeld ?_ ?_
            rotate_left
            · rintro w' ⟨s0, s1, s2, s3, s4, s5, s6, s7⟩
              go_simp
              with_reducible rfl
            rotate_left
            · simp only [Act.put, List.setIfInBounds_toArray, List.set_cons_zero, List.set_cons_succ, i64_w, i32_w]
              rfl
            refine take_ (i := 2) (N := some 22) (v := ?_) (a' := ?_) #[true, false, true, false, false, false] rfl rfl (by kernel_rfl) (fun _ _ _ h => h) (Or.inl ⟨by rfl, ?_⟩) hHeld ?_ ?_
            rotate_left
            · rintro w' ⟨s0, s1, s2, s3, s4, s5, s6, s7⟩
              go_simp
              with_reducible rfl
            rotate_left
            · simp only [Act.put, List.setIfInBounds_toArray, List.set_cons_zero, List.set_cons_succ, i64_w, i32_w]
              rfl
            refine one_ (i := 1) (N := some 21) #[true, true, true, false, false, false] rfl rfl (by kernel_rfl) (by decide) (fun K hK => ?_)
            refine goes_ Try.func12 (by kernel_rfl) rfl #[.agg #[.slice A0_0 l0_0.length c0_0, .int .i64 a0_1]] (by rfl) rfl rfl dz2 ?_
            with_reducible refine (laws_toConfig.calls k _ _ l0_0 a0_1 t273 t276 _ ?side1 ?side2 A19.out).mono ?_
            (case side1 => repeat (first | exact (Kd.C_below HR0_0.out HB.out) | (with_reducible refine Kd.C_alloc ?_ _) | (with_reducible refine Kd.C_drewN ?_ _) | (with_reducible refine Kd.C_drew ?_)))
            (case side2 => exact HC0_0.out)
            rintro e w40 ⟨v274, rfl, ho0, hb⟩
            refine ⟨_, rfl, ?_⟩
            have n0_ := Aside0.mk (Kd.R_lower ho0 (below_size dz15))
            have n1_ := Aside0.mk (blk_below (g := gb269) (o := .cells #[.slice A0_0 l0_0.length c0_0, .int .i64 a0_1] 24 (0, 0)) dz4 hb)
            have n2_ := Aside0.mk (blk_below (g := gb270) (o := .cells #[.int .i64 a1_0, .int .i64 a1_1, .slice A1_2 l1_2.length c1_2, .slice A1_3 l1_3.length c1_3, .bool a1_4, .slice A1_5 l1_5.length c1_5] 56 (0, 0)) dz10 hb)
            have n3_ := Aside0.mk (below_step dz15 hb)
            clear BK269
            clear BK270
            clear HB
            have HO275 := n0_
            have BK269 := n1_
            have BK270 := n2_
            have HB := n3_
            clear n0_ n1_ n2_ n3_
            (try clear hb)
            (try clear hb2)
            (try clear hk)
            (try clear hi)
            (try clear ho0)
            refine hK.out _ _ ⟨(blk_cell BK269.out 0).trans rfl, (blk_cell BK269.out 1).trans rfl, (blk_cell BK270.out 0).trans rfl, (blk_cell BK270.out 1).trans rfl, (blk_cell BK270.out 2).trans rfl, (blk_cell BK270.out 3).trans rfl, (blk_cell BK270.out 4).trans rfl, (blk_cell BK270.out 5).trans rfl⟩ (fun hHeld => ?_)
            clear hK K
            refine norm_ (a' := ?_) ?_ ?_
            rotate_left
            · show Act.put _ (some 21) _ = _
              simp only [Act.put, List.setIfInBounds_toArray, List.set_cons_zero, List.set_cons_succ, i64_w, i32_w]
              rfl
            refine one_ (i := 3) (N := some 23) #[true, true, true, true, false, false] rfl rfl (by kernel_rfl) (by decide) (fun K hK => ?_)
            refine goes_ Try.func25 (by kernel_rfl) rfl #[.agg #[.int .i64 a1_0, .int .i64 a1_1, .slice A1_2 l1_2.length c1_2, .slice A1_3 l1_3.length c1_3, .bool a1_4, .slice A1_5 l1_5.length c1_5]] (by rfl) rfl rfl dz2 ?_
            with_reducible refine (laws_toMend.calls k a1_0 a1_1 _ _ l1_2 _ _ l1_3 a1_4 _ _ l1_5 t277 t278 t279 t282 t285 t286 _ ?side1 ?side2 ?side3 ?side4 ?side5 ?side6 A20.out).mono ?_
            (case side1 => repeat (first | exact (Kd.C_below HR1_2.out HB.out) | (with_reducible refine Kd.C_alloc ?_ _) | (with_reducible refine Kd.C_drewN ?_ _) | (with_reducible refine Kd.C_drew ?_)))
            (case side2 => exact HC1_2.out)
            (case side3 => repeat (first | exact (Kd.C_below HR1_3.out HB.out) | (with_reducible refine Kd.C_alloc ?_ _) | (with_reducible refine Kd.C_drewN ?_ _) | (with_reducible refine Kd.C_drew ?_)))
            (case side4 => exact HC1_3.out)
            (case side5 => repeat (first | exact (Kd.C_below HR1_5.out HB.out) | (with_reducible refine Kd.C_alloc ?_ _) | (with_reducible refine Kd.C_drewN ?_ _) | (with_reducible refine Kd.C_drew ?_)))
            (case side6 => exact HC1_5.out)
            rintro e w41 ⟨v280, v283, v287, rfl, ho0, ho1, ho2, hb⟩
            refine ⟨_, rfl, ?_⟩
            have n0_ := Aside0.mk (Kd.R_elder' dz17 (Kd.R_base ho0) hb)
            have n1_ := Aside0.mk (Kd.R_lower (Kd.R_new' ho0 (Kd.R_lt dz17)) (below_size dz15))
            have n2_ := Aside0.mk (Kd.R_lower ho1 (below_size dz15))
            have n3_ := Aside0.mk (Kd.S_lower (Kd.S_new' ho2 (Kd.R_lt dz17)) (below_size dz15))
            have n4_ := Aside0.mk (blk_below (g := gb269) (o := .cells #[.slice A0_0 l0_0.length c0_0, .int .i64 a0_1] 24 (0, 0)) dz4 hb)
            have n5_ := Aside0.mk (blk_below (g := gb270) (o := .cells #[.int .i64 a1_0, .int .i64 a1_1, .slice A1_2 l1_2.length c1_2, .slice A1_3 l1_3.length c1_3, .bool a1_4, .slice A1_5 l1_5.length c1_5] 56 (0, 0)) dz10 hb)
            have n6_ := Aside0.mk (below_step dz15 hb)
            clear HO275
            clear BK269
            clear BK270
            clear HB
            have HO275 := n0_
            have HO281 := n1_
            have HO284 := n2_
            have HO288 := n3_
            have BK269 := n4_
            have BK270 := n5_
            have HB := n6_
            clear n0_ n1_ n2_ n3_ n4_ n5_ n6_
            (try clear hb)
            (try clear hb2)
            (try clear hk)
            (try clear hi)
            (try clear ho0)
            (try clear ho1)
            (try clear ho2)
            obtain ⟨Ao42, co42, eo42⟩ := Kd.R_slice HO275.out
            (first | subst eo42 | (injection eo42 with f1_ f2_ f3_; have f4_ := f1_.symm; have f5_ := f3_.symm; clear f1_ f2_ f3_; subst f4_; subst f5_))
            obtain ⟨Ao43, co43, eo43⟩ := Kd.R_slice HO281.out
            (first | subst eo43 | (injection eo43 with f1_ f2_ f3_; have f4_ := f1_.symm; have f5_ := f3_.symm; clear f1_ f2_ f3_; subst f4_; subst f5_))
            obtain ⟨Ao44, co44, eo44⟩ := Kd.R_slice HO284.out
            (first | subst eo44 | (injection eo44 with f1_ f2_ f3_; have f4_ := f1_.symm; have f5_ := f3_.symm; clear f1_ f2_ f3_; subst f4_; subst f5_))
            obtain ⟨Ao45, co45, eo45⟩ := Kd.S_slice HO288.out
            (first | subst eo45 | (injection eo45 with f1_ f2_ f3_; have f4_ := f1_.symm; have f5_ := f3_.symm; clear f1_ f2_ f3_; subst f4_; subst f5_))
            refine hK.out _ _ ⟨(blk_cell BK269.out 0).trans rfl, (blk_cell BK269.out 1).trans rfl, (blk_cell BK270.out 0).trans rfl, (blk_cell BK270.out 1).trans rfl, (blk_cell BK270.out 2).trans rfl, (blk_cell BK270.out 3).trans rfl, (blk_cell BK270.out 4).trans rfl, (blk_cell BK270.out 5).trans rfl⟩ (fun hHeld => ?_)
            clear hK K
            refine norm_ (a' := ?_) ?_ ?_
            rotate_left
            · show Act.put _ (some 23) _ = _
              simp only [Act.put, List.setIfInBounds_toArray, List.set_cons_zero, List.set_cons_succ, i64_w, i32_w]
              rfl
            refine one_ (i := 4) (N := some 24) #[true, true, true, true, true, false] rfl rfl (by kernel_rfl) (by decide) (fun K hK => ?_)
            refine goes_ Try.func24 (by kernel_rfl) rfl #[.agg #[.slice Ao42 t273.length co42, .int .i64 t276], .agg #[.int .i64 t277, .int .i64 t278, .slice Ao43 t279.length co43, .slice Ao44 t282.length co44, .bool t285, .slice Ao45 t286.length co45]] (by rfl) rfl rfl dz2 ?_
            with_reducible refine (spec_MendOk.calls k _ _ t273 t276 t277 t278 _ _ t279 _ _ t282 t285 _ _ t286 t289 _ ?side1 ?side2 ?side3 ?side4 ?side5 ?side6 ?side7 ?side8 A21.out).mono ?_
            (case side1 => repeat (first | exact (Kd.R_reads' HO275.out).2.2 | (with_reducible refine Kd.C_alloc ?_ _) | (with_reducible refine Kd.C_drewN ?_ _) | (with_reducible refine Kd.C_drew ?_)))
            (case side2 => exact (Kd.R_reads' HO275.out).2.1)
            (case side3 => repeat (first | exact (Kd.R_reads' HO281.out).2.2 | (with_reducible refine Kd.C_alloc ?_ _) | (with_reducible refine Kd.C_drewN ?_ _) | (with_reducible refine Kd.C_drew ?_)))
            (case side4 => exact (Kd.R_reads' HO281.out).2.1)
            (case side5 => repeat (first | exact (Kd.R_reads' HO284.out).2.2 | (with_reducible refine Kd.C_alloc ?_ _) | (with_reducible refine Kd.C_drewN ?_ _) | (with_reducible refine Kd.C_drew ?_)))
            (case side6 => exact (Kd.R_reads' HO284.out).2.1)
            (case side7 => repeat (first | exact (Kd.S_reads' HO288.out).2.2 | (with_reducible refine Kd.C_alloc ?_ _) | (with_reducible refine Kd.C_drewN ?_ _) | (with_reducible refine Kd.C_drew ?_)))
            (case side8 => exact (Kd.S_reads' HO288.out).2.1)
            rintro e w46 ⟨rfl, hb⟩
            refine ⟨_, rfl, ?_⟩
            have n0_ := Aside0.mk (Kd.R_below dz17 hb)
            have n1_ := Aside0.mk (Kd.R_below dz20 hb)
            have n2_ := Aside0.mk (Kd.R_below dz24 hb)
            have n3_ := Aside0.mk (Kd.S_below dz25 hb)
            have n4_ := Aside0.mk (blk_below (g := gb269) (o := .cells #[.slice A0_0 l0_0.length c0_0, .int .i64 a0_1] 24 (0, 0)) dz4 hb)
            have n5_ := Aside0.mk (blk_below (g := gb270) (o := .cells #[.int .i64 a1_0, .int .i64 a1_1, .slice A1_2 l1_2.length c1_2, .slice A1_3 l1_3.length c1_3, .bool a1_4, .slice A1_5 l1_5.length c1_5] 56 (0, 0)) dz10 hb)
            have n6_ := Aside0.mk (below_step dz15 hb)
            clear HO275
            clear HO281
            clear HO284
            clear HO288
            clear BK269
            clear BK270
            clear HB
            have HO275 := n0_
            have HO281 := n1_
            have HO284 := n2_
            have HO288 := n3_
            have BK269 := n4_
            have BK270 := n5_
            have HB := n6_
            clear n0_ n1_ n2_ n3_ n4_ n5_ n6_
            (try clear hb)
            (try clear hb2)
            (try clear hk)
            (try clear hi)
            refine hK.out _ _ ⟨(blk_cell BK269.out 0).trans rfl, (blk_cell BK269.out 1).trans rfl, (blk_cell BK270.out 0).trans rfl, (blk_cell BK270.out 1).trans rfl, (blk_cell BK270.out 2).trans rfl, (blk_cell BK270.out 3).trans rfl, (blk_cell BK270.out 4).trans rfl, (blk_cell BK270.out 5).trans rfl⟩ (fun hHeld => ?_)
            clear hK K
            refine norm_ (a' := ?_) ?_ ?_
            rotate_left
            · show Act.put _ (some 24) _ = _
              simp only [Act.put, List.setIfInBounds_toArray, List.set_cons_zero, List.set_cons_succ, i64_w, i32_w]
              rfl
            refine pure_ (i := 5) (N := some 6) (v := ?_) (a' := ?_) #[true, true, true, true, true, true] rfl rfl (by kernel_rfl) (fun _ _ _ h => h) (Or.inl ⟨by rfl, ?_⟩) ?_ ?_
            rotate_left
            · intro w'
              go_simp
              with_reducible rfl
            rotate_left
            · simp only [Act.put, List.setIfInBounds_toArray, List.set_cons_zero, List.set_cons_succ, i64_w, i32_w]
              rfl
            refine done_ (by kernel_rfl) ?_
            have hcz47_0 : w46.cell? ⟨gb269, 0, none⟩ = some (.slice A0_0 l0_0.length c0_0) := (blk_cell BK269.out 0).trans rfl
            have hcz47_1 : w46.cell? ⟨gb269, 1, none⟩ = some (.int .i64 a0_1) := (blk_cell BK269.out 1).trans rfl
            have hfz47_0 := blk_frozen BK269.out 0
            have hfz47_1 := blk_frozen BK269.out 1
            try go_wp2_with (first | ((with_reducible refine gate_callee (f := 12) rfl ?_); refine goesL_ (some 26) rfl rfl Try.func12 (by kernel_rfl) rfl #[.agg #[.slice A0_0 l0_0.length c0_0, .int .i64 a0_1]] rfl dz2 ?_; (with_reducible refine (laws_toConfig.calls k _ _ l0_0 a0_1 t290 t293 _ ?side1 ?side2 A22.out).mono ?_); (case side1 => repeat (first | exact (Kd.C_below HR0_0.out HB.out) | (with_reducible refine Kd.C_alloc ?_ _) | (with_reducible refine Kd.C_drewN ?_ _) | (with_reducible refine Kd.C_drew ?_))); (case side2 => exact HC0_0.out); rintro e w48 ⟨v291, rfl, ho0, hb⟩; refine ⟨_, rfl, ?_⟩; have n0_ := Aside0.mk (Kd.R_elder' dz17 (Kd.R_base ho0) hb); have n1_ := Aside0.mk (Kd.R_elder' dz20 (Kd.R_base ho0) hb); have n2_ := Aside0.mk (Kd.R_below dz24 hb); have n3_ := Aside0.mk (Kd.S_elder' dz25 (Kd.R_base ho0) hb); have n4_ := Aside0.mk (Kd.R_lower (Kd.R_new' (Kd.R_new' ho0 (Kd.R_lt dz17)) (Kd.R_lt dz20)) (below_size dz15)); have n5_ := Aside0.mk (blk_below (g := gb269) (o := .cells #[.slice A0_0 l0_0.length c0_0, .int .i64 a0_1] 24 (0, 0)) dz4 hb); have n6_ := Aside0.mk (blk_below (g := gb270) (o := .cells #[.int .i64 a1_0, .int .i64 a1_1, .slice A1_2 l1_2.length c1_2, .slice A1_3 l1_3.length c1_3, .bool a1_4, .slice A1_5 l1_5.length c1_5] 56 (0, 0)) dz10 hb); have n7_ := Aside0.mk (below_step dz15 hb); clear HO275; clear HO281; clear HO284; clear HO288; clear BK269; clear BK270; clear HB; have HO275 := n0_; have HO281 := n1_; have HO284 := n2_; have HO288 := n3_; have HO292 := n4_; have BK269 := n5_; have BK270 := n6_; have HB := n7_; clear n0_ n1_ n2_ n3_ n4_ n5_ n6_ n7_; (try clear hb); (try clear hb2); (try clear hk); (try clear hi); (try clear ho0)) | ((with_reducible refine gate_dst (N := 7) rfl ?_); refine box_event ?hg (N := 7) ?hd (cs := #[.slice none 0 0, .int .i64 0]) (t := 31) ?hr ?_; (case hd => rfl); (case hg => rfl); (case hr => first | (go_simp; done) | (go_simp; rfl)); intro gb294 hg w49 hbox hb; have n0_ := Aside0.mk (Kd.R_below dz17 hb); have n1_ := Aside0.mk (Kd.R_below dz20 hb); have n2_ := Aside0.mk (Kd.R_below dz24 hb); have n3_ := Aside0.mk (Kd.S_below dz25 hb); have n4_ := Aside0.mk (Kd.R_below dz26 hb); have n5_ := Aside0.mk (blk_below (g := gb269) (o := .cells #[.slice A0_0 l0_0.length c0_0, .int .i64 a0_1] 24 (0, 0)) dz4 hb); have n6_ := Aside0.mk (blk_below (g := gb270) (o := .cells #[.int .i64 a1_0, .int .i64 a1_1, .slice A1_2 l1_2.length c1_2, .slice A1_3 l1_3.length c1_3, .bool a1_4, .slice A1_5 l1_5.length c1_5] 56 (0, 0)) dz10 hb); have n7_ := Aside0.mk (below_step dz15 hb); have n8_ := Aside0.mk (hbox); have n9_ := Aside0.mk ((by rw [hg]; exact (below_size dz15) : w.heap.size ≤ gb294)); have n10_ := Aside0.mk ((by rw [hg]; exact (below_size dz15) : w.heap.size ≤ gb294)); have n11_ := Aside0.mk ((by rw [hg]; exact Nat.ne_of_lt (blk_lt (g := gb269) (o := .cells #[.slice A0_0 l0_0.length c0_0, .int .i64 a0_1] 24 (0, 0)) dz4) : gb269 ≠ gb294)); have n12_ := Aside0.mk ((by rw [hg]; exact Nat.ne_of_gt (blk_lt (g := gb269) (o := .cells #[.slice A0_0 l0_0.length c0_0, .int .i64 a0_1] 24 (0, 0)) dz4) : gb294 ≠ gb269)); have n13_ := Aside0.mk ((by rw [hg]; exact Nat.ne_of_lt (blk_lt (g := gb270) (o := .cells #[.int .i64 a1_0, .int .i64 a1_1, .slice A1_2 l1_2.length c1_2, .slice A1_3 l1_3.length c1_3, .bool a1_4, .slice A1_5 l1_5.length c1_5] 56 (0, 0)) dz10) : gb270 ≠ gb294)); have n14_ := Aside0.mk ((by rw [hg]; exact Nat.ne_of_gt (blk_lt (g := gb270) (o := .cells #[.int .i64 a1_0, .int .i64 a1_1, .slice A1_2 l1_2.length c1_2, .slice A1_3 l1_3.length c1_3, .bool a1_4, .slice A1_5 l1_5.length c1_5] 56 (0, 0)) dz10) : gb294 ≠ gb270)); clear HO275; clear HO281; clear HO284; clear HO288; clear HO292; clear BK269; clear BK270; clear HB; have HO275 := n0_; have HO281 := n1_; have HO284 := n2_; have HO288 := n3_; have HO292 := n4_; have BK269 := n5_; have BK270 := n6_; have HB := n7_; have BK294 := n8_; have GW294 := n9_; have GE294 := n10_; have NB269_294 := n11_; have NB294_269 := n12_; have NB270_294 := n13_; have NB294_270 := n14_; clear n0_ n1_ n2_ n3_ n4_ n5_ n6_ n7_ n8_ n9_ n10_ n11_ n12_ n13_ n14_; clear hb hbox hg; obtain ⟨Ao50, co50, eo50⟩ := Kd.R_slice HO292.out; subst eo50; have hnb51 := NB294_269.out; have hnc51 := NB269_294.out; have hnb52 := NB294_270.out; have hnc52 := NB270_294.out; have hcz53_0 : w49.cell? ⟨gb294, 0, none⟩ = some (.slice none 0 0) := (blk_cell BK294.out 0).trans rfl; have hcz53_1 : w49.cell? ⟨gb294, 1, none⟩ = some (.int .i64 0) := (blk_cell BK294.out 1).trans rfl; have hfz53_0 := blk_frozen BK294.out 0; have hfz53_1 := blk_frozen BK294.out 1; have hcz54_0 : w49.cell? ⟨gb270, 0, none⟩ = some (.int .i64 a1_0) := (blk_cell BK270.out 0).trans rfl; have hcz54_1 : w49.cell? ⟨gb270, 1, none⟩ = some (.int .i64 a1_1) := (blk_cell BK270.out 1).trans rfl; have hcz54_2 : w49.cell? ⟨gb270, 2, none⟩ = some (.slice A1_2 l1_2.length c1_2) := (blk_cell BK270.out 2).trans rfl; have hcz54_3 : w49.cell? ⟨gb270, 3, none⟩ = some (.slice A1_3 l1_3.length c1_3) := (blk_cell BK270.out 3).trans rfl; have hcz54_4 : w49.cell? ⟨gb270, 4, none⟩ = some (.bool a1_4) := (blk_cell BK270.out 4).trans rfl; have hcz54_5 : w49.cell? ⟨gb270, 5, none⟩ = some (.slice A1_5 l1_5.length c1_5) := (blk_cell BK270.out 5).trans rfl; have hfz54_0 := blk_frozen BK270.out 0; have hfz54_1 := blk_frozen BK270.out 1; have hfz54_2 := blk_frozen BK270.out 2; have hfz54_3 := blk_frozen BK270.out 3; have hfz54_4 := blk_frozen BK270.out 4; have hfz54_5 := blk_frozen BK270.out 5) | ((with_reducible refine gate_callee (f := 25) rfl ?_); refine goesL_ (some 28) rfl rfl Try.func25 (by kernel_rfl) rfl #[.agg #[.int .i64 a1_0, .int .i64 a1_1, .slice A1_2 l1_2.length c1_2, .slice A1_3 l1_3.length c1_3, .bool a1_4, .slice A1_5 l1_5.length c1_5]] rfl dz2 ?_; (with_reducible refine (laws_toMend.calls k a1_0 a1_1 _ _ l1_2 _ _ l1_3 a1_4 _ _ l1_5 t295 t296 t297 t300 t303 t304 _ ?side1 ?side2 ?side3 ?side4 ?side5 ?side6 A23.out).mono ?_); (case side1 => exact Kd.C_below HR1_2.out dz21); (case side2 => exact HC1_2.out); (case side3 => exact Kd.C_below HR1_3.out dz21); (case side4 => exact HC1_3.out); (case side5 => exact Kd.C_below HR1_5.out dz21); (case side6 => exact HC1_5.out); rintro e w55 ⟨v298, v301, v305, rfl, ho0, ho1, ho2, hb⟩; refine ⟨_, rfl, ?_⟩; have n0_ := Aside0.mk (Kd.R_elder' (by (with_reducible repeat (first | apply Kd.R_alloc | apply Kd.R_drewN | apply Kd.R_drew)); exact (Kd.R_mono (Kd.R_far (p := ⟨gb294, 1, none⟩) (Kd.R_far (p := ⟨gb294, 0, none⟩) (Kd.R_types HO275.out BK294.out (by decide)) (fun _ hk => hk.2) (.slice Ao50 t290.length co50)) (fun _ hk => hk.2) (.int .i64 t293)) (fun _ h_ => h_.1))) (Kd.R_base ho0) hb); have n1_ := Aside0.mk (Kd.R_elder' (by (with_reducible repeat (first | apply Kd.R_alloc | apply Kd.R_drewN | apply Kd.R_drew)); exact (Kd.R_mono (Kd.R_far (p := ⟨gb294, 1, none⟩) (Kd.R_far (p := ⟨gb294, 0, none⟩) (Kd.R_types HO281.out BK294.out (by decide)) (fun _ hk => hk.2) (.slice Ao50 t290.length co50)) (fun _ hk => hk.2) (.int .i64 t293)) (fun _ h_ => h_.1))) (Kd.R_base ho0) hb); have n2_ := Aside0.mk (Kd.R_elder' (by (with_reducible repeat (first | apply Kd.R_alloc | apply Kd.R_drewN | apply Kd.R_drew)); exact (Kd.R_mono (Kd.R_far (p := ⟨gb294, 1, none⟩) (Kd.R_far (p := ⟨gb294, 0, none⟩) (Kd.R_types HO284.out BK294.out (by decide)) (fun _ hk => hk.2) (.slice Ao50 t290.length co50)) (fun _ hk => hk.2) (.int .i64 t293)) (fun _ h_ => h_.1))) (Kd.R_base ho1) hb); have n3_ := Aside0.mk (Kd.S_mono (Kd.S_told (Kd.S_told (Kd.S_old (by (with_reducible repeat (first | apply Kd.S_alloc | apply Kd.S_drewN | apply Kd.S_drew)); exact (Kd.S_mono (Kd.S_far (p := ⟨gb294, 1, none⟩) (Kd.S_far (p := ⟨gb294, 0, none⟩) (Kd.S_types HO288.out BK294.out (by decide)) (fun _ hk => hk.2) (.slice Ao50 t290.length co50)) (fun _ hk => hk.2) (.int .i64 t293)) (fun _ h_ => h_.1))) hb) (Kd.R_base ho0)) (Kd.S_base ho2)) (fun _ h_ => h_.1)); have n4_ := Aside0.mk (Kd.R_elder' (by (with_reducible repeat (first | apply Kd.R_alloc | apply Kd.R_drewN | apply Kd.R_drew)); exact (Kd.R_mono (Kd.R_far (p := ⟨gb294, 1, none⟩) (Kd.R_far (p := ⟨gb294, 0, none⟩) (Kd.R_types HO292.out BK294.out (by decide)) (fun _ hk => hk.2) (.slice Ao50 t290.length co50)) (fun _ hk => hk.2) (.int .i64 t293)) (fun _ h_ => h_.1))) (Kd.R_base ho0) hb); have n5_ := Aside0.mk (Kd.R_lower (Kd.R_new' (Kd.R_new' (Kd.R_new' ho0 (Kd.R_lt (by (with_reducible repeat (first | apply Kd.R_alloc | apply Kd.R_drewN | apply Kd.R_drew)); exact (Kd.R_mono (Kd.R_far (p := ⟨gb294, 1, none⟩) (Kd.R_far (p := ⟨gb294, 0, none⟩) (Kd.R_types HO275.out BK294.out (by decide)) (fun _ hk => hk.2) (.slice Ao50 t290.length co50)) (fun _ hk => hk.2) (.int .i64 t293)) (fun _ h_ => h_.1))))) (Kd.R_lt (by (with_reducible repeat (first | apply Kd.R_alloc | apply Kd.R_drewN | apply Kd.R_drew)); exact (Kd.R_mono (Kd.R_far (p := ⟨gb294, 1, none⟩) (Kd.R_far (p := ⟨gb294, 0, none⟩) (Kd.R_types HO281.out BK294.out (by decide)) (fun _ hk => hk.2) (.slice Ao50 t290.length co50)) (fun _ hk => hk.2) (.int .i64 t293)) (fun _ h_ => h_.1))))) (Kd.R_lt (by (with_reducible repeat (first | apply Kd.R_alloc | apply Kd.R_drewN | apply Kd.R_drew)); exact (Kd.R_mono (Kd.R_far (p := ⟨gb294, 1, none⟩) (Kd.R_far (p := ⟨gb294, 0, none⟩) (Kd.R_types HO292.out BK294.out (by decide)) (fun _ hk => hk.2) (.slice Ao50 t290.length co50)) (fun _ hk => hk.2) (.int .i64 t293)) (fun _ h_ => h_.1))))) (below_size dz21)); have n6_ := Aside0.mk (Kd.R_lower (Kd.R_new' ho1 (Kd.R_lt (by (with_reducible repeat (first | apply Kd.R_alloc | apply Kd.R_drewN | apply Kd.R_drew)); exact (Kd.R_mono (Kd.R_far (p := ⟨gb294, 1, none⟩) (Kd.R_far (p := ⟨gb294, 0, none⟩) (Kd.R_types HO284.out BK294.out (by decide)) (fun _ hk => hk.2) (.slice Ao50 t290.length co50)) (fun _ hk => hk.2) (.int .i64 t293)) (fun _ h_ => h_.1))))) (below_size dz21)); have n7_ := Aside0.mk (Kd.S_lower (Kd.S_new' (Kd.S_new' (Kd.S_new' (Kd.S_new' ho2 (Kd.R_lt (by (with_reducible repeat (first | apply Kd.R_alloc | apply Kd.R_drewN | apply Kd.R_drew)); exact (Kd.R_mono (Kd.R_far (p := ⟨gb294, 1, none⟩) (Kd.R_far (p := ⟨gb294, 0, none⟩) (Kd.R_types HO275.out BK294.out (by decide)) (fun _ hk => hk.2) (.slice Ao50 t290.length co50)) (fun _ hk => hk.2) (.int .i64 t293)) (fun _ h_ => h_.1))))) (Kd.R_lt (by (with_reducible repeat (first | apply Kd.R_alloc | apply Kd.R_drewN | apply Kd.R_drew)); exact (Kd.R_mono (Kd.R_far (p := ⟨gb294, 1, none⟩) (Kd.R_far (p := ⟨gb294, 0, none⟩) (Kd.R_types HO281.out BK294.out (by decide)) (fun _ hk => hk.2) (.slice Ao50 t290.length co50)) (fun _ hk => hk.2) (.int .i64 t293)) (fun _ h_ => h_.1))))) (Kd.S_lt (by (with_reducible repeat (first | apply Kd.S_alloc | apply Kd.S_drewN | apply Kd.S_drew)); exact (Kd.S_mono (Kd.S_far (p := ⟨gb294, 1, none⟩) (Kd.S_far (p := ⟨gb294, 0, none⟩) (Kd.S_types HO288.out BK294.out (by decide)) (fun _ hk => hk.2) (.slice Ao50 t290.length co50)) (fun _ hk => hk.2) (.int .i64 t293)) (fun _ h_ => h_.1))))) (Kd.R_lt (by (with_reducible repeat (first | apply Kd.R_alloc | apply Kd.R_drewN | apply Kd.R_drew)); exact (Kd.R_mono (Kd.R_far (p := ⟨gb294, 1, none⟩) (Kd.R_far (p := ⟨gb294, 0, none⟩) (Kd.R_types HO292.out BK294.out (by decide)) (fun _ hk => hk.2) (.slice Ao50 t290.length co50)) (fun _ hk => hk.2) (.int .i64 t293)) (fun _ h_ => h_.1))))) (below_size dz21)); have n8_ := Aside0.mk (blk_below (g := gb269) (o := .cells #[.slice A0_0 l0_0.length c0_0, .int .i64 a0_1] 24 (0, 0)) (by (with_reducible repeat (first | refine blk_drewN ?_ _ | refine blk_drew ?_ | refine blk_alloc ?_ _)); refine blk_far ?_ NB269_294.out _; (with_reducible repeat (first | refine blk_drewN ?_ _ | refine blk_drew ?_ | refine blk_alloc ?_ _)); refine blk_far ?_ NB269_294.out _; (with_reducible repeat (first | refine blk_drewN ?_ _ | refine blk_drew ?_ | refine blk_alloc ?_ _)); exact BK269.out) hb); have n9_ := Aside0.mk (blk_below (g := gb270) (o := .cells #[.int .i64 a1_0, .int .i64 a1_1, .slice A1_2 l1_2.length c1_2, .slice A1_3 l1_3.length c1_3, .bool a1_4, .slice A1_5 l1_5.length c1_5] 56 (0, 0)) (by (with_reducible repeat (first | refine blk_drewN ?_ _ | refine blk_drew ?_ | refine blk_alloc ?_ _)); refine blk_far ?_ NB270_294.out _; (with_reducible repeat (first | refine blk_drewN ?_ _ | refine blk_drew ?_ | refine blk_alloc ?_ _)); refine blk_far ?_ NB270_294.out _; (with_reducible repeat (first | refine blk_drewN ?_ _ | refine blk_drew ?_ | refine blk_alloc ?_ _)); exact BK270.out) hb); have n10_ := Aside0.mk (blk_below (g := gb294) (o := .cells #[.slice Ao50 t290.length co50, .int .i64 t293] 31 (0, 0)) (by (with_reducible repeat (first | refine blk_drewN ?_ _ | refine blk_drew ?_ | refine blk_alloc ?_ _)); refine blk_put (cs := #[.slice Ao50 t290.length co50, .int .i64 0]) ?_ 1 _ rfl; (with_reducible repeat (first | refine blk_drewN ?_ _ | refine blk_drew ?_ | refine blk_alloc ?_ _)); refine blk_put (cs := #[.slice none 0 0, .int .i64 0]) ?_ 0 _ rfl; (with_reducible repeat (first | refine blk_drewN ?_ _ | refine blk_drew ?_ | refine blk_alloc ?_ _)); exact BK294.out) hb); have n11_ := Aside0.mk (below_step dz21 hb); clear HO275; clear HO281; clear HO284; clear HO288; clear HO292; clear BK269; clear BK270; clear BK294; clear HB; have HO275 := n0_; have HO281 := n1_; have HO284 := n2_; have HO288 := n3_; have HO292 := n4_; have HO299 := n5_; have HO302 := n6_; have HO306 := n7_; have BK269 := n8_; have BK270 := n9_; have BK294 := n10_; have HB := n11_; clear n0_ n1_ n2_ n3_ n4_ n5_ n6_ n7_ n8_ n9_ n10_ n11_; (try clear hb); (try clear hb2); (try clear hk); (try clear hi); (try clear ho0); (try clear ho1); (try clear ho2)) | ((with_reducible refine gate_dst (N := 8) rfl ?_); refine box_event ?hg (N := 8) ?hd (cs := #[.int .i64 0, .int .i64 0, .slice none 0 0, .slice none 0 0, .bool false, .slice none 0 0]) (t := 61) ?hr ?_; (case hd => rfl); (case hg => rfl); (case hr => first | (go_simp; done) | (go_simp; rfl)); intro gb307 hg w56 hbox hb; have n0_ := Aside0.mk (Kd.R_below dz17 hb); have n1_ := Aside0.mk (Kd.R_below dz20 hb); have n2_ := Aside0.mk (Kd.R_below dz24 hb); have n3_ := Aside0.mk (Kd.S_below dz25 hb); have n4_ := Aside0.mk (Kd.R_below dz26 hb); have n5_ := Aside0.mk (Kd.R_below dz28 hb); have n6_ := Aside0.mk (Kd.R_below dz34 hb); have n7_ := Aside0.mk (Kd.S_below dz35 hb); have n8_ := Aside0.mk (blk_below (g := gb269) (o := .cells #[.slice A0_0 l0_0.length c0_0, .int .i64 a0_1] 24 (0, 0)) dz4 hb); have n9_ := Aside0.mk (blk_below (g := gb270) (o := .cells #[.int .i64 a1_0, .int .i64 a1_1, .slice A1_2 l1_2.length c1_2, .slice A1_3 l1_3.length c1_3, .bool a1_4, .slice A1_5 l1_5.length c1_5] 56 (0, 0)) dz10 hb); have n10_ := Aside0.mk (blk_below (g := gb294) (o := .cells #[.slice Ao50 t290.length co50, .int .i64 t293] 31 (0, 0)) dz30 hb); have n11_ := Aside0.mk (below_step dz21 hb); have n12_ := Aside0.mk (hbox); have n13_ := Aside0.mk ((by rw [hg]; exact (below_size dz21) : w.heap.size ≤ gb307)); have n14_ := Aside0.mk ((by rw [hg]; exact (below_size dz21) : w.heap.size ≤ gb307)); have n15_ := Aside0.mk ((by rw [hg]; exact Nat.ne_of_lt (blk_lt (g := gb269) (o := .cells #[.slice A0_0 l0_0.length c0_0, .int .i64 a0_1] 24 (0, 0)) dz4) : gb269 ≠ gb307)); have n16_ := Aside0.mk ((by rw [hg]; exact Nat.ne_of_gt (blk_lt (g := gb269) (o := .cells #[.slice A0_0 l0_0.length c0_0, .int .i64 a0_1] 24 (0, 0)) dz4) : gb307 ≠ gb269)); have n17_ := Aside0.mk ((by rw [hg]; exact Nat.ne_of_lt (blk_lt (g := gb270) (o := .cells #[.int .i64 a1_0, .int .i64 a1_1, .slice A1_2 l1_2.length c1_2, .slice A1_3 l1_3.length c1_3, .bool a1_4, .slice A1_5 l1_5.length c1_5] 56 (0, 0)) dz10) : gb270 ≠ gb307)); have n18_ := Aside0.mk ((by rw [hg]; exact Nat.ne_of_gt (blk_lt (g := gb270) (o := .cells #[.int .i64 a1_0, .int .i64 a1_1, .slice A1_2 l1_2.length c1_2, .slice A1_3 l1_3.length c1_3, .bool a1_4, .slice A1_5 l1_5.length c1_5] 56 (0, 0)) dz10) : gb307 ≠ gb270)); have n19_ := Aside0.mk ((by rw [hg]; exact Nat.ne_of_lt (blk_lt (g := gb294) (o := .cells #[.slice Ao50 t290.length co50, .int .i64 t293] 31 (0, 0)) dz30) : gb294 ≠ gb307)); have n20_ := Aside0.mk ((by rw [hg]; exact Nat.ne_of_gt (blk_lt (g := gb294) (o := .cells #[.slice Ao50 t290.length co50, .int .i64 t293] 31 (0, 0)) dz30) : gb307 ≠ gb294)); clear HO275; clear HO281; clear HO284; clear HO288; clear HO292; clear HO299; clear HO302; clear HO306; clear BK269; clear BK270; clear BK294; clear HB; have HO275 := n0_; have HO281 := n1_; have HO284 := n2_; have HO288 := n3_; have HO292 := n4_; have HO299 := n5_; have HO302 := n6_; have HO306 := n7_; have BK269 := n8_; have BK270 := n9_; have BK294 := n10_; have HB := n11_; have BK307 := n12_; have GW307 := n13_; have GE307 := n14_; have NB269_307 := n15_; have NB307_269 := n16_; have NB270_307 := n17_; have NB307_270 := n18_; have NB294_307 := n19_; have NB307_294 := n20_; clear n0_ n1_ n2_ n3_ n4_ n5_ n6_ n7_ n8_ n9_ n10_ n11_ n12_ n13_ n14_ n15_ n16_ n17_ n18_ n19_ n20_; clear hb hbox hg; have hnb57 := NB307_269.out; have hnc57 := NB269_307.out; have hnb58 := NB307_270.out; have hnc58 := NB270_307.out; have hnb59 := NB307_294.out; have hnc59 := NB294_307.out; have hcz60_0 : w56.cell? ⟨gb307, 0, none⟩ = some (.int .i64 0) := (blk_cell BK307.out 0).trans rfl; have hcz60_1 : w56.cell? ⟨gb307, 1, none⟩ = some (.int .i64 0) := (blk_cell BK307.out 1).trans rfl; have hcz60_2 : w56.cell? ⟨gb307, 2, none⟩ = some (.slice none 0 0) := (blk_cell BK307.out 2).trans rfl; have hcz60_3 : w56.cell? ⟨gb307, 3, none⟩ = some (.slice none 0 0) := (blk_cell BK307.out 3).trans rfl; have hcz60_4 : w56.cell? ⟨gb307, 4, none⟩ = some (.bool false) := (blk_cell BK307.out 4).trans rfl; have hcz60_5 : w56.cell? ⟨gb307, 5, none⟩ = some (.slice none 0 0) := (blk_cell BK307.out 5).trans rfl; have hfz60_0 := blk_frozen BK307.out 0; have hfz60_1 := blk_frozen BK307.out 1; have hfz60_2 := blk_frozen BK307.out 2; have hfz60_3 := blk_frozen BK307.out 3; have hfz60_4 := blk_frozen BK307.out 4; have hfz60_5 := blk_frozen BK307.out 5; obtain ⟨Ao61, co61, eo61⟩ := Kd.R_slice HO299.out; subst eo61; obtain ⟨Ao62, co62, eo62⟩ := Kd.R_slice HO302.out; subst eo62; obtain ⟨Ao63, co63, eo63⟩ := Kd.S_slice HO306.out; subst eo63; have hcz64_0 : w56.cell? ⟨gb294, 0, none⟩ = some (.slice Ao50 t290.length co50) := (blk_cell BK294.out 0).trans rfl; have hcz64_1 : w56.cell? ⟨gb294, 1, none⟩ = some (.int .i64 t293) := (blk_cell BK294.out 1).trans rfl; have hfz64_0 := blk_frozen BK294.out 0; have hfz64_1 := blk_frozen BK294.out 1) | ((with_reducible refine gate_callee (f := 26) rfl ?_); refine goesL_ (some 31) rfl rfl Try.func26 (by kernel_rfl) rfl #[.agg #[.slice Ao50 t290.length co50, .int .i64 t293], .agg #[.int .i64 t295, .int .i64 t296, .slice Ao61 t297.length co61, .slice Ao62 t300.length co62, .bool t303, .slice Ao63 t304.length co63]] rfl dz2 ?_; (with_reducible refine (impl_MendOk.calls k _ _ t290 t293 t295 t296 _ _ t297 _ _ t300 t303 _ _ t304 t308 _ ?side1 ?side2 ?side3 ?side4 ?side5 ?side6 ?side7 ?side8 A24.out).mono ?_); (case side1 => refine (Kd.R_reads' (e := 3) (base := w.heap.size) (ok := fun k_ => (((True ∧ some k_ ≠ (.slice Ao42 t273.length co42 : Value).ownBlock) ∧ some k_ ≠ (.slice Ao43 t279.length co43 : Value).ownBlock) ∧ some k_ ≠ (.slice Ao61 t297.length co61 : Value).ownBlock)) (n := t290.length) (c := co50) ?_).2.2; exact (by (with_reducible repeat (first | apply Kd.R_alloc | apply Kd.R_drewN | apply Kd.R_drew)); exact (Kd.R_mono (Kd.R_far (p := ⟨gb307, 5, none⟩) (Kd.R_far (p := ⟨gb307, 4, none⟩) (Kd.R_far (p := ⟨gb307, 3, none⟩) (Kd.R_far (p := ⟨gb307, 2, none⟩) (Kd.R_far (p := ⟨gb307, 1, none⟩) (Kd.R_far (p := ⟨gb307, 0, none⟩) (Kd.R_types HO292.out BK307.out (by decide)) (fun _ hk => hk.2) (.int .i64 t295)) (fun _ hk => hk.2) (.int .i64 t296)) (fun _ hk => hk.2) (.slice Ao61 t297.length co61)) (fun _ hk => hk.2) (.slice Ao62 t300.length co62)) (fun _ hk => hk.2) (.bool t303)) (fun _ hk => hk.2) (.slice Ao63 t304.length co63)) (fun _ h_ => h_.1)))); (case side2 => exact (Kd.R_reads' HO292.out).2.1); (case side3 => refine (Kd.R_reads' (e := 3) (base := w.heap.size) (ok := fun k_ => (((True ∧ some k_ ≠ (.slice Ao42 t273.length co42 : Value).ownBlock) ∧ some k_ ≠ (.slice Ao43 t279.length co43 : Value).ownBlock) ∧ some k_ ≠ (.slice Ao50 t290.length co50 : Value).ownBlock)) (n := t297.length) (c := co61) ?_).2.2; exact (by (with_reducible repeat (first | apply Kd.R_alloc | apply Kd.R_drewN | apply Kd.R_drew)); exact (Kd.R_mono (Kd.R_far (p := ⟨gb307, 5, none⟩) (Kd.R_far (p := ⟨gb307, 4, none⟩) (Kd.R_far (p := ⟨gb307, 3, none⟩) (Kd.R_far (p := ⟨gb307, 2, none⟩) (Kd.R_far (p := ⟨gb307, 1, none⟩) (Kd.R_far (p := ⟨gb307, 0, none⟩) (Kd.R_types HO299.out BK307.out (by decide)) (fun _ hk => hk.2) (.int .i64 t295)) (fun _ hk => hk.2) (.int .i64 t296)) (fun _ hk => hk.2) (.slice Ao61 t297.length co61)) (fun _ hk => hk.2) (.slice Ao62 t300.length co62)) (fun _ hk => hk.2) (.bool t303)) (fun _ hk => hk.2) (.slice Ao63 t304.length co63)) (fun _ h_ => h_.1)))); (case side4 => exact (Kd.R_reads' HO299.out).2.1); (case side5 => refine (Kd.R_reads' (e := 118) (base := w.heap.size) (ok := fun k_ => (True ∧ some k_ ≠ (.slice Ao44 t282.length co44 : Value).ownBlock)) (n := t300.length) (c := co62) ?_).2.2; exact (by (with_reducible repeat (first | apply Kd.R_alloc | apply Kd.R_drewN | apply Kd.R_drew)); exact (Kd.R_mono (Kd.R_far (p := ⟨gb307, 5, none⟩) (Kd.R_far (p := ⟨gb307, 4, none⟩) (Kd.R_far (p := ⟨gb307, 3, none⟩) (Kd.R_far (p := ⟨gb307, 2, none⟩) (Kd.R_far (p := ⟨gb307, 1, none⟩) (Kd.R_far (p := ⟨gb307, 0, none⟩) (Kd.R_types HO302.out BK307.out (by decide)) (fun _ hk => hk.2) (.int .i64 t295)) (fun _ hk => hk.2) (.int .i64 t296)) (fun _ hk => hk.2) (.slice Ao61 t297.length co61)) (fun _ hk => hk.2) (.slice Ao62 t300.length co62)) (fun _ hk => hk.2) (.bool t303)) (fun _ hk => hk.2) (.slice Ao63 t304.length co63)) (fun _ h_ => h_.1)))); (case side6 => exact (Kd.R_reads' HO302.out).2.1); (case side7 => refine (Kd.S_reads' (e := 22) (base := w.heap.size) (ok := fun k_ => ((((some k_ ≠ (.slice Ao61 t297.length co61 : Value).ownBlock ∧ some k_ ≠ (.slice Ao42 t273.length co42 : Value).ownBlock) ∧ some k_ ≠ (.slice Ao43 t279.length co43 : Value).ownBlock) ∧ some k_ ≠ (.slice Ao45 t286.length co45 : Value).ownBlock) ∧ some k_ ≠ (.slice Ao50 t290.length co50 : Value).ownBlock)) (n := t304.length) (c := co63) ?_).2.2; exact (by (with_reducible repeat (first | apply Kd.S_alloc | apply Kd.S_drewN | apply Kd.S_drew)); exact (Kd.S_mono (Kd.S_far (p := ⟨gb307, 5, none⟩) (Kd.S_far (p := ⟨gb307, 4, none⟩) (Kd.S_far (p := ⟨gb307, 3, none⟩) (Kd.S_far (p := ⟨gb307, 2, none⟩) (Kd.S_far (p := ⟨gb307, 1, none⟩) (Kd.S_far (p := ⟨gb307, 0, none⟩) (Kd.S_types HO306.out BK307.out (by decide)) (fun _ hk => hk.2) (.int .i64 t295)) (fun _ hk => hk.2) (.int .i64 t296)) (fun _ hk => hk.2) (.slice Ao61 t297.length co61)) (fun _ hk => hk.2) (.slice Ao62 t300.length co62)) (fun _ hk => hk.2) (.bool t303)) (fun _ hk => hk.2) (.slice Ao63 t304.length co63)) (fun _ h_ => h_.1)))); (case side8 => exact (Kd.S_reads' HO306.out).2.1); rintro e w65 ⟨rfl, hb⟩; refine ⟨_, rfl, ?_⟩; have n0_ := Aside0.mk (Kd.R_below (by (with_reducible repeat (first | apply Kd.R_alloc | apply Kd.R_drewN | apply Kd.R_drew)); exact (Kd.R_mono (Kd.R_far (p := ⟨gb307, 5, none⟩) (Kd.R_far (p := ⟨gb307, 4, none⟩) (Kd.R_far (p := ⟨gb307, 3, none⟩) (Kd.R_far (p := ⟨gb307, 2, none⟩) (Kd.R_far (p := ⟨gb307, 1, none⟩) (Kd.R_far (p := ⟨gb307, 0, none⟩) (Kd.R_types HO275.out BK307.out (by decide)) (fun _ hk => hk.2) (.int .i64 t295)) (fun _ hk => hk.2) (.int .i64 t296)) (fun _ hk => hk.2) (.slice Ao61 t297.length co61)) (fun _ hk => hk.2) (.slice Ao62 t300.length co62)) (fun _ hk => hk.2) (.bool t303)) (fun _ hk => hk.2) (.slice Ao63 t304.length co63)) (fun _ h_ => h_.1))) hb); have n1_ := Aside0.mk (Kd.R_below (by (with_reducible repeat (first | apply Kd.R_alloc | apply Kd.R_drewN | apply Kd.R_drew)); exact (Kd.R_mono (Kd.R_far (p := ⟨gb307, 5, none⟩) (Kd.R_far (p := ⟨gb307, 4, none⟩) (Kd.R_far (p := ⟨gb307, 3, none⟩) (Kd.R_far (p := ⟨gb307, 2, none⟩) (Kd.R_far (p := ⟨gb307, 1, none⟩) (Kd.R_far (p := ⟨gb307, 0, none⟩) (Kd.R_types HO281.out BK307.out (by decide)) (fun _ hk => hk.2) (.int .i64 t295)) (fun _ hk => hk.2) (.int .i64 t296)) (fun _ hk => hk.2) (.slice Ao61 t297.length co61)) (fun _ hk => hk.2) (.slice Ao62 t300.length co62)) (fun _ hk => hk.2) (.bool t303)) (fun _ hk => hk.2) (.slice Ao63 t304.length co63)) (fun _ h_ => h_.1))) hb); have n2_ := Aside0.mk (Kd.R_below (by (with_reducible repeat (first | apply Kd.R_alloc | apply Kd.R_drewN | apply Kd.R_drew)); exact (Kd.R_mono (Kd.R_far (p := ⟨gb307, 5, none⟩) (Kd.R_far (p := ⟨gb307, 4, none⟩) (Kd.R_far (p := ⟨gb307, 3, none⟩) (Kd.R_far (p := ⟨gb307, 2, none⟩) (Kd.R_far (p := ⟨gb307, 1, none⟩) (Kd.R_far (p := ⟨gb307, 0, none⟩) (Kd.R_types HO284.out BK307.out (by decide)) (fun _ hk => hk.2) (.int .i64 t295)) (fun _ hk => hk.2) (.int .i64 t296)) (fun _ hk => hk.2) (.slice Ao61 t297.length co61)) (fun _ hk => hk.2) (.slice Ao62 t300.length co62)) (fun _ hk => hk.2) (.bool t303)) (fun _ hk => hk.2) (.slice Ao63 t304.length co63)) (fun _ h_ => h_.1))) hb); have n3_ := Aside0.mk (Kd.S_below (by (with_reducible repeat (first | apply Kd.S_alloc | apply Kd.S_drewN | apply Kd.S_drew)); exact (Kd.S_mono (Kd.S_far (p := ⟨gb307, 5, none⟩) (Kd.S_far (p := ⟨gb307, 4, none⟩) (Kd.S_far (p := ⟨gb307, 3, none⟩) (Kd.S_far (p := ⟨gb307, 2, none⟩) (Kd.S_far (p := ⟨gb307, 1, none⟩) (Kd.S_far (p := ⟨gb307, 0, none⟩) (Kd.S_types HO288.out BK307.out (by decide)) (fun _ hk => hk.2) (.int .i64 t295)) (fun _ hk => hk.2) (.int .i64 t296)) (fun _ hk => hk.2) (.slice Ao61 t297.length co61)) (fun _ hk => hk.2) (.slice Ao62 t300.length co62)) (fun _ hk => hk.2) (.bool t303)) (fun _ hk => hk.2) (.slice Ao63 t304.length co63)) (fun _ h_ => h_.1))) hb); have n4_ := Aside0.mk (Kd.R_below (by (with_reducible repeat (first | apply Kd.R_alloc | apply Kd.R_drewN | apply Kd.R_drew)); exact (Kd.R_mono (Kd.R_far (p := ⟨gb307, 5, none⟩) (Kd.R_far (p := ⟨gb307, 4, none⟩) (Kd.R_far (p := ⟨gb307, 3, none⟩) (Kd.R_far (p := ⟨gb307, 2, none⟩) (Kd.R_far (p := ⟨gb307, 1, none⟩) (Kd.R_far (p := ⟨gb307, 0, none⟩) (Kd.R_types HO292.out BK307.out (by decide)) (fun _ hk => hk.2) (.int .i64 t295)) (fun _ hk => hk.2) (.int .i64 t296)) (fun _ hk => hk.2) (.slice Ao61 t297.length co61)) (fun _ hk => hk.2) (.slice Ao62 t300.length co62)) (fun _ hk => hk.2) (.bool t303)) (fun _ hk => hk.2) (.slice Ao63 t304.length co63)) (fun _ h_ => h_.1))) hb); have n5_ := Aside0.mk (Kd.R_below (by (with_reducible repeat (first | apply Kd.R_alloc | apply Kd.R_drewN | apply Kd.R_drew)); exact (Kd.R_mono (Kd.R_far (p := ⟨gb307, 5, none⟩) (Kd.R_far (p := ⟨gb307, 4, none⟩) (Kd.R_far (p := ⟨gb307, 3, none⟩) (Kd.R_far (p := ⟨gb307, 2, none⟩) (Kd.R_far (p := ⟨gb307, 1, none⟩) (Kd.R_far (p := ⟨gb307, 0, none⟩) (Kd.R_types HO299.out BK307.out (by decide)) (fun _ hk => hk.2) (.int .i64 t295)) (fun _ hk => hk.2) (.int .i64 t296)) (fun _ hk => hk.2) (.slice Ao61 t297.length co61)) (fun _ hk => hk.2) (.slice Ao62 t300.length co62)) (fun _ hk => hk.2) (.bool t303)) (fun _ hk => hk.2) (.slice Ao63 t304.length co63)) (fun _ h_ => h_.1))) hb); have n6_ := Aside0.mk (Kd.R_below (by (with_reducible repeat (first | apply Kd.R_alloc | apply Kd.R_drewN | apply Kd.R_drew)); exact (Kd.R_mono (Kd.R_far (p := ⟨gb307, 5, none⟩) (Kd.R_far (p := ⟨gb307, 4, none⟩) (Kd.R_far (p := ⟨gb307, 3, none⟩) (Kd.R_far (p := ⟨gb307, 2, none⟩) (Kd.R_far (p := ⟨gb307, 1, none⟩) (Kd.R_far (p := ⟨gb307, 0, none⟩) (Kd.R_types HO302.out BK307.out (by decide)) (fun _ hk => hk.2) (.int .i64 t295)) (fun _ hk => hk.2) (.int .i64 t296)) (fun _ hk => hk.2) (.slice Ao61 t297.length co61)) (fun _ hk => hk.2) (.slice Ao62 t300.length co62)) (fun _ hk => hk.2) (.bool t303)) (fun _ hk => hk.2) (.slice Ao63 t304.length co63)) (fun _ h_ => h_.1))) hb); have n7_ := Aside0.mk (Kd.S_below (by (with_reducible repeat (first | apply Kd.S_alloc | apply Kd.S_drewN | apply Kd.S_drew)); exact (Kd.S_mono (Kd.S_far (p := ⟨gb307, 5, none⟩) (Kd.S_far (p := ⟨gb307, 4, none⟩) (Kd.S_far (p := ⟨gb307, 3, none⟩) (Kd.S_far (p := ⟨gb307, 2, none⟩) (Kd.S_far (p := ⟨gb307, 1, none⟩) (Kd.S_far (p := ⟨gb307, 0, none⟩) (Kd.S_types HO306.out BK307.out (by decide)) (fun _ hk => hk.2) (.int .i64 t295)) (fun _ hk => hk.2) (.int .i64 t296)) (fun _ hk => hk.2) (.slice Ao61 t297.length co61)) (fun _ hk => hk.2) (.slice Ao62 t300.length co62)) (fun _ hk => hk.2) (.bool t303)) (fun _ hk => hk.2) (.slice Ao63 t304.length co63)) (fun _ h_ => h_.1))) hb); have n8_ := Aside0.mk (blk_below (g := gb269) (o := .cells #[.slice A0_0 l0_0.length c0_0, .int .i64 a0_1] 24 (0, 0)) (by (with_reducible repeat (first | refine blk_drewN ?_ _ | refine blk_drew ?_ | refine blk_alloc ?_ _)); refine blk_far ?_ NB269_307.out _; (with_reducible repeat (first | refine blk_drewN ?_ _ | refine blk_drew ?_ | refine blk_alloc ?_ _)); refine blk_far ?_ NB269_307.out _; (with_reducible repeat (first | refine blk_drewN ?_ _ | refine blk_drew ?_ | refine blk_alloc ?_ _)); refine blk_far ?_ NB269_307.out _; (with_reducible repeat (first | refine blk_drewN ?_ _ | refine blk_drew ?_ | refine blk_alloc ?_ _)); refine blk_far ?_ NB269_307.out _; (with_reducible repeat (first | refine blk_drewN ?_ _ | refine blk_drew ?_ | refine blk_alloc ?_ _)); refine blk_far ?_ NB269_307.out _; (with_reducible repeat (first | refine blk_drewN ?_ _ | refine blk_drew ?_ | refine blk_alloc ?_ _)); refine blk_far ?_ NB269_307.out _; (with_reducible repeat (first | refine blk_drewN ?_ _ | refine blk_drew ?_ | refine blk_alloc ?_ _)); exact BK269.out) hb); have n9_ := Aside0.mk (blk_below (g := gb270) (o := .cells #[.int .i64 a1_0, .int .i64 a1_1, .slice A1_2 l1_2.length c1_2, .slice A1_3 l1_3.length c1_3, .bool a1_4, .slice A1_5 l1_5.length c1_5] 56 (0, 0)) (by (with_reducible repeat (first | refine blk_drewN ?_ _ | refine blk_drew ?_ | refine blk_alloc ?_ _)); refine blk_far ?_ NB270_307.out _; (with_reducible repeat (first | refine blk_drewN ?_ _ | refine blk_drew ?_ | refine blk_alloc ?_ _)); refine blk_far ?_ NB270_307.out _; (with_reducible repeat (first | refine blk_drewN ?_ _ | refine blk_drew ?_ | refine blk_alloc ?_ _)); refine blk_far ?_ NB270_307.out _; (with_reducible repeat (first | refine blk_drewN ?_ _ | refine blk_drew ?_ | refine blk_alloc ?_ _)); refine blk_far ?_ NB270_307.out _; (with_reducible repeat (first | refine blk_drewN ?_ _ | refine blk_drew ?_ | refine blk_alloc ?_ _)); refine blk_far ?_ NB270_307.out _; (with_reducible repeat (first | refine blk_drewN ?_ _ | refine blk_drew ?_ | refine blk_alloc ?_ _)); refine blk_far ?_ NB270_307.out _; (with_reducible repeat (first | refine blk_drewN ?_ _ | refine blk_drew ?_ | refine blk_alloc ?_ _)); exact BK270.out) hb); have n10_ := Aside0.mk (blk_below (g := gb294) (o := .cells #[.slice Ao50 t290.length co50, .int .i64 t293] 31 (0, 0)) (by (with_reducible repeat (first | refine blk_drewN ?_ _ | refine blk_drew ?_ | refine blk_alloc ?_ _)); refine blk_far ?_ NB294_307.out _; (with_reducible repeat (first | refine blk_drewN ?_ _ | refine blk_drew ?_ | refine blk_alloc ?_ _)); refine blk_far ?_ NB294_307.out _; (with_reducible repeat (first | refine blk_drewN ?_ _ | refine blk_drew ?_ | refine blk_alloc ?_ _)); refine blk_far ?_ NB294_307.out _; (with_reducible repeat (first | refine blk_drewN ?_ _ | refine blk_drew ?_ | refine blk_alloc ?_ _)); refine blk_far ?_ NB294_307.out _; (with_reducible repeat (first | refine blk_drewN ?_ _ | refine blk_drew ?_ | refine blk_alloc ?_ _)); refine blk_far ?_ NB294_307.out _; (with_reducible repeat (first | refine blk_drewN ?_ _ | refine blk_drew ?_ | refine blk_alloc ?_ _)); refine blk_far ?_ NB294_307.out _; (with_reducible repeat (first | refine blk_drewN ?_ _ | refine blk_drew ?_ | refine blk_alloc ?_ _)); exact BK294.out) hb); have n11_ := Aside0.mk (blk_below (g := gb307) (o := .cells #[.int .i64 t295, .int .i64 t296, .slice Ao61 t297.length co61, .slice Ao62 t300.length co62, .bool t303, .slice Ao63 t304.length co63] 61 (0, 0)) (by (with_reducible repeat (first | refine blk_drewN ?_ _ | refine blk_drew ?_ | refine blk_alloc ?_ _)); refine blk_put (cs := #[.int .i64 t295, .int .i64 t296, .slice Ao61 t297.length co61, .slice Ao62 t300.length co62, .bool t303, .slice none 0 0]) ?_ 5 _ rfl; (with_reducible repeat (first | refine blk_drewN ?_ _ | refine blk_drew ?_ | refine blk_alloc ?_ _)); refine blk_put (cs := #[.int .i64 t295, .int .i64 t296, .slice Ao61 t297.length co61, .slice Ao62 t300.length co62, .bool false, .slice none 0 0]) ?_ 4 _ rfl; (with_reducible repeat (first | refine blk_drewN ?_ _ | refine blk_drew ?_ | refine blk_alloc ?_ _)); refine blk_put (cs := #[.int .i64 t295, .int .i64 t296, .slice Ao61 t297.length co61, .slice none 0 0, .bool false, .slice none 0 0]) ?_ 3 _ rfl; (with_reducible repeat (first | refine blk_drewN ?_ _ | refine blk_drew ?_ | refine blk_alloc ?_ _)); refine blk_put (cs := #[.int .i64 t295, .int .i64 t296, .slice none 0 0, .slice none 0 0, .bool false, .slice none 0 0]) ?_ 2 _ rfl; (with_reducible repeat (first | refine blk_drewN ?_ _ | refine blk_drew ?_ | refine blk_alloc ?_ _)); refine blk_put (cs := #[.int .i64 t295, .int .i64 0, .slice none 0 0, .slice none 0 0, .bool false, .slice none 0 0]) ?_ 1 _ rfl; (with_reducible repeat (first | refine blk_drewN ?_ _ | refine blk_drew ?_ | refine blk_alloc ?_ _)); refine blk_put (cs := #[.int .i64 0, .int .i64 0, .slice none 0 0, .slice none 0 0, .bool false, .slice none 0 0]) ?_ 0 _ rfl; (with_reducible repeat (first | refine blk_drewN ?_ _ | refine blk_drew ?_ | refine blk_alloc ?_ _)); exact BK307.out) hb); have n12_ := Aside0.mk (below_step dz27 hb); clear HO275; clear HO281; clear HO284; clear HO288; clear HO292; clear HO299; clear HO302; clear HO306; clear BK269; clear BK270; clear BK294; clear BK307; clear HB; have HO275 := n0_; have HO281 := n1_; have HO284 := n2_; have HO288 := n3_; have HO292 := n4_; have HO299 := n5_; have HO302 := n6_; have HO306 := n7_; have BK269 := n8_; have BK270 := n9_; have BK294 := n10_; have BK307 := n11_; have HB := n12_; clear n0_ n1_ n2_ n3_ n4_ n5_ n6_ n7_ n8_ n9_ n10_ n11_ n12_; (try clear hb); (try clear hb2); (try clear hk); (try clear hi)))
            have n0_ := Aside0.mk (Kd.R_drew HO275.out)
            have n1_ := Aside0.mk (Kd.R_drew HO281.out)
            have n2_ := Aside0.mk (Kd.R_drew HO284.out)
            have n3_ := Aside0.mk (Kd.S_drew HO288.out)
            have n4_ := Aside0.mk (Kd.R_drew HO292.out)
            have n5_ := Aside0.mk (Kd.R_drew HO299.out)
            have n6_ := Aside0.mk (Kd.R_drew HO302.out)
            have n7_ := Aside0.mk (Kd.S_drew HO306.out)
            have n8_ := Aside0.mk (blk_drew BK269.out)
            have n9_ := Aside0.mk (blk_drew BK270.out)
            have n10_ := Aside0.mk (blk_drew BK294.out)
            have n11_ := Aside0.mk (blk_drew BK307.out)
            have n12_ := Aside0.mk (below_drew1 HB.out)
            clear HO275
            clear HO281
            clear HO284
            clear HO288
            clear HO292
            clear HO299
            clear HO302
            clear HO306
            clear BK269
            clear BK270
            clear BK294
            clear BK307
            clear HB
            have HO275 := n0_
            have HO281 := n1_
            have HO284 := n2_
            have HO288 := n3_
            have HO292 := n4_
            have HO299 := n5_
            have HO302 := n6_
            have HO306 := n7_
            have BK269 := n8_
            have BK270 := n9_
            have BK294 := n10_
            have BK307 := n11_
            have HB := n12_
            clear n0_ n1_ n2_ n3_ n4_ n5_ n6_ n7_ n8_ n9_ n10_ n11_ n12_
            refine start_ (n := 5) (S := fun w' => w'.cell? ⟨gb294, 0, none⟩ = some (.slice Ao50 t290.length co50) ∧ w'.cell? ⟨gb294, 1, none⟩ = some (.int .i64 t293) ∧ w'.cell? ⟨gb269, 0, none⟩ = some (.slice A0_0 l0_0.length c0_0) ∧ w'.cell? ⟨gb269, 1, none⟩ = some (.int .i64 a0_1)) (ds := []) #[false, false, false, false, false] (by kernel_rfl) rfl rfl ⟨(blk_cell BK294.out 0).trans rfl, (blk_cell BK294.out 1).trans rfl, (blk_cell BK269.out 0).trans rfl, (blk_cell BK269.out 1).trans rfl⟩ (fun hHeld => ?_)
            generalize w65.drew = w66 at HO275 HO281 HO284 HO288 HO292 HO299 HO302 HO306 BK269 BK270 BK294 BK307 HB hHeld ⊢
            refine take_ (i := 0) (N := some 35) (v := ?_) (a' := ?_) #[true, false, false, false, false] rfl rfl (by kernel_rfl) (fun _ _ _ h => h) (Or.inl ⟨by rfl, ?_⟩) hHeld ?_ ?_
            rotate_left
            · rintro w' ⟨s0, s1, s2, s3⟩
              go_simp
              with_reducible rfl
            rotate_left
            · simp only [Act.put, List.setIfInBounds_toArray, List.set_cons_zero, List.set_cons_succ, i64_w, i32_w]
              rfl
            refine take_ (i := 1) (N := some 36) (v := ?_) (a' := ?_) #[true, true, false, false, false] rfl rfl (by kernel_rfl) (fun _ _ _ h => h) (Or.inl ⟨by rfl, ?_⟩) hHeld ?_ ?_
            rotate_left
            · rintro w' ⟨s0, s1, s2, s3⟩
              go_simp
              with_reducible rfl
            rotate_left
            · simp only [Act.put, List.setIfInBounds_toArray, List.set_cons_zero, List.set_cons_succ, i64_w, i32_w]
              rfl
            refine one_ (i := 2) (N := some 37) #[true, true, true, false, false] rfl rfl (by kernel_rfl) (by decide) (fun K hK => ?_)
            refine goes_ Try.func12 (by kernel_rfl) rfl #[.agg #[.slice A0_0 l0_0.length c0_0, .int .i64 a0_1]] (by rfl) rfl rfl dz2 ?_
            with_reducible refine (laws_toConfig.calls k _ _ l0_0 a0_1 t309 t312 _ ?side1 ?side2 A26.out).mono ?_
            (case side1 => repeat (first | exact (Kd.C_below HR0_0.out HB.out) | (with_reducible refine Kd.C_alloc ?_ _) | (with_reducible refine Kd.C_drewN ?_ _) | (with_reducible refine Kd.C_drew ?_)))
            (case side2 => exact HC0_0.out)
            rintro e w67 ⟨v310, rfl, ho0, hb⟩
            refine ⟨_, rfl, ?_⟩
            have n0_ := Aside0.mk (Kd.R_elder' dz17 (Kd.R_base ho0) hb)
            have n1_ := Aside0.mk (Kd.R_elder' dz20 (Kd.R_base ho0) hb)
            have n2_ := Aside0.mk (Kd.R_below dz24 hb)
            have n3_ := Aside0.mk (Kd.S_elder' dz25 (Kd.R_base ho0) hb)
            have n4_ := Aside0.mk (Kd.R_elder' dz26 (Kd.R_base ho0) hb)
            have n5_ := Aside0.mk (Kd.R_elder' dz28 (Kd.R_base ho0) hb)
            have n6_ := Aside0.mk (Kd.R_below dz34 hb)
            have n7_ := Aside0.mk (Kd.S_elder' dz35 (Kd.R_base ho0) hb)
            have n8_ := Aside0.mk (Kd.R_lower (Kd.R_new' (Kd.R_new' (Kd.R_new' (Kd.R_new' ho0 (Kd.R_lt dz17)) (Kd.R_lt dz20)) (Kd.R_lt dz26)) (Kd.R_lt dz28)) (below_size dz27))
            have n9_ := Aside0.mk (blk_below (g := gb269) (o := .cells #[.slice A0_0 l0_0.length c0_0, .int .i64 a0_1] 24 (0, 0)) dz4 hb)
            have n10_ := Aside0.mk (blk_below (g := gb270) (o := .cells #[.int .i64 a1_0, .int .i64 a1_1, .slice A1_2 l1_2.length c1_2, .slice A1_3 l1_3.length c1_3, .bool a1_4, .slice A1_5 l1_5.length c1_5] 56 (0, 0)) dz10 hb)
            have n11_ := Aside0.mk (blk_below (g := gb294) (o := .cells #[.slice Ao50 t290.length co50, .int .i64 t293] 31 (0, 0)) dz30 hb)
            have n12_ := Aside0.mk (blk_below (g := gb307) (o := .cells #[.int .i64 t295, .int .i64 t296, .slice Ao61 t297.length co61, .slice Ao62 t300.length co62, .bool t303, .slice Ao63 t304.length co63] 61 (0, 0)) dz41 hb)
            have n13_ := Aside0.mk (below_step dz27 hb)
            clear HO275
            clear HO281
            clear HO284
            clear HO288
            clear HO292
            clear HO299
            clear HO302
            clear HO306
            clear BK269
            clear BK270
            clear BK294
            clear BK307
            clear HB
            have HO275 := n0_
            have HO281 := n1_
            have HO284 := n2_
            have HO288 := n3_
            have HO292 := n4_
            have HO299 := n5_
            have HO302 := n6_
            have HO306 := n7_
            have HO311 := n8_
            have BK269 := n9_
            have BK270 := n10_
            have BK294 := n11_
            have BK307 := n12_
            have HB := n13_
            clear n0_ n1_ n2_ n3_ n4_ n5_ n6_ n7_ n8_ n9_ n10_ n11_ n12_ n13_
            (try clear hb)
            (try clear hb2)
            (try clear hk)
            (try clear hi)
            (try clear ho0)
            obtain ⟨Ao68, co68, eo68⟩ := Kd.R_slice HO311.out
            (first | subst eo68 | (injection eo68 with f1_ f2_ f3_; have f4_ := f1_.symm; have f5_ := f3_.symm; clear f1_ f2_ f3_; subst f4_; subst f5_))
            refine hK.out _ _ ⟨(blk_cell BK294.out 0).trans rfl, (blk_cell BK294.out 1).trans rfl, (blk_cell BK269.out 0).trans rfl, (blk_cell BK269.out 1).trans rfl⟩ (fun hHeld => ?_)
            clear hK K
            refine norm_ (a' := ?_) ?_ ?_
            rotate_left
            · show Act.put _ (some 37) _ = _
              simp only [Act.put, List.setIfInBounds_toArray, List.set_cons_zero, List.set_cons_succ, i64_w, i32_w]
              rfl
            refine one_ (i := 3) (N := some 38) #[true, true, true, true, false] rfl rfl (by kernel_rfl) (by decide) (fun K hK => ?_)
            refine goes_ Try.func15 (by kernel_rfl) rfl #[.agg #[.slice Ao50 t290.length co50, .int .i64 t293], .agg #[.slice Ao68 t309.length co68, .int .i64 t312]] (by rfl) rfl rfl dz2 ?_
            with_reducible refine (laws_eqConfig.calls k _ _ t290 t293 _ _ t309 t312 true _ ?side1 ?side2 ?side3 ?side4 A27.out).mono ?_
            (case side1 => repeat (first | exact (Kd.R_reads' HO292.out).2.2 | (with_reducible refine Kd.C_alloc ?_ _) | (with_reducible refine Kd.C_drewN ?_ _) | (with_reducible refine Kd.C_drew ?_)))
            (case side2 => exact (Kd.R_reads' HO292.out).2.1)
            (case side3 => repeat (first | exact (Kd.R_reads' HO311.out).2.2 | (with_reducible refine Kd.C_alloc ?_ _) | (with_reducible refine Kd.C_drewN ?_ _) | (with_reducible refine Kd.C_drew ?_)))
            (case side4 => exact (Kd.R_reads' HO311.out).2.1)
            rintro e w69 ⟨rfl, hb⟩
            refine ⟨_, rfl, ?_⟩
            have n0_ := Aside0.mk (Kd.R_below dz17 hb)
            have n1_ := Aside0.mk (Kd.R_below dz20 hb)
            have n2_ := Aside0.mk (Kd.R_below dz24 hb)
            have n3_ := Aside0.mk (Kd.S_below dz25 hb)
            have n4_ := Aside0.mk (Kd.R_below dz26 hb)
            have n5_ := Aside0.mk (Kd.R_below dz28 hb)
            have n6_ := Aside0.mk (Kd.R_below dz34 hb)
            have n7_ := Aside0.mk (Kd.S_below dz35 hb)
            have n8_ := Aside0.mk (Kd.R_below dz36 hb)
            have n9_ := Aside0.mk (blk_below (g := gb269) (o := .cells #[.slice A0_0 l0_0.length c0_0, .int .i64 a0_1] 24 (0, 0)) dz4 hb)
            have n10_ := Aside0.mk (blk_below (g := gb270) (o := .cells #[.int .i64 a1_0, .int .i64 a1_1, .slice A1_2 l1_2.length c1_2, .slice A1_3 l1_3.length c1_3, .bool a1_4, .slice A1_5 l1_5.length c1_5] 56 (0, 0)) dz10 hb)
            have n11_ := Aside0.mk (blk_below (g := gb294) (o := .cells #[.slice Ao50 t290.length co50, .int .i64 t293] 31 (0, 0)) dz30 hb)
            have n12_ := Aside0.mk (blk_below (g := gb307) (o := .cells #[.int .i64 t295, .int .i64 t296, .slice Ao61 t297.length co61, .slice Ao62 t300.length co62, .bool t303, .slice Ao63 t304.length co63] 61 (0, 0)) dz41 hb)
            have n13_ := Aside0.mk (below_step dz27 hb)
            clear HO275
            clear HO281
            clear HO284
            clear HO288
            clear HO292
            clear HO299
            clear HO302
            clear HO306
            clear HO311
            clear BK269
            clear BK270
            clear BK294
            clear BK307
            clear HB
            have HO275 := n0_
            have HO281 := n1_
            have HO284 := n2_
            have HO288 := n3_
            have HO292 := n4_
            have HO299 := n5_
            have HO302 := n6_
            have HO306 := n7_
            have HO311 := n8_
            have BK269 := n9_
            have BK270 := n10_
            have BK294 := n11_
            have BK307 := n12_
            have HB := n13_
            clear n0_ n1_ n2_ n3_ n4_ n5_ n6_ n7_ n8_ n9_ n10_ n11_ n12_ n13_
            (try clear hb)
            (try clear hb2)
            (try clear hk)
            (try clear hi)
            refine hK.out _ _ ⟨(blk_cell BK294.out 0).trans rfl, (blk_cell BK294.out 1).trans rfl, (blk_cell BK269.out 0).trans rfl, (blk_cell BK269.out 1).trans rfl⟩ (fun hHeld => ?_)
            clear hK K
            refine norm_ (a' := ?_) ?_ ?_
            rotate_left
            · show Act.put _ (some 38) _ = _
              simp only [Act.put, List.setIfInBounds_toArray, List.set_cons_zero, List.set_cons_succ, i64_w, i32_w]
              rfl
            refine pure_ (i := 4) (N := some 39) (v := ?_) (a' := ?_) #[true, true, true, true, true] rfl rfl (by kernel_rfl) (fun _ _ _ h => h) (Or.inl ⟨by rfl, ?_⟩) ?_ ?_
            rotate_left
            · intro w'
              go_simp
              with_reducible rfl
            rotate_left
            · simp only [Act.put, List.setIfInBounds_toArray, List.set_cons_zero, List.set_cons_succ, i64_w, i32_w]
              rfl
            refine done_ (by kernel_rfl) ?_
            try go_wp2
            have n0_ := Aside0.mk (Kd.R_drew HO275.out)
            have n1_ := Aside0.mk (Kd.R_drew HO281.out)
            have n2_ := Aside0.mk (Kd.R_drew HO284.out)
            have n3_ := Aside0.mk (Kd.S_drew HO288.out)
            have n4_ := Aside0.mk (Kd.R_drew HO292.out)
            have n5_ := Aside0.mk (Kd.R_drew HO299.out)
            have n6_ := Aside0.mk (Kd.R_drew HO302.out)
            have n7_ := Aside0.mk (Kd.S_drew HO306.out)
            have n8_ := Aside0.mk (Kd.R_drew HO311.out)
            have n9_ := Aside0.mk (blk_drew BK269.out)
            have n10_ := Aside0.mk (blk_drew BK270.out)
            have n11_ := Aside0.mk (blk_drew BK294.out)
            have n12_ := Aside0.mk (blk_drew BK307.out)
            have n13_ := Aside0.mk (below_drew1 HB.out)
            clear HO275
            clear HO281
            clear HO284
            clear HO288
            clear HO292
            clear HO299
            clear HO302
            clear HO306
            clear HO311
            clear BK269
            clear BK270
            clear BK294
            clear BK307
            clear HB
            have HO275 := n0_
            have HO281 := n1_
            have HO284 := n2_
            have HO288 := n3_
            have HO292 := n4_
            have HO299 := n5_
            have HO302 := n6_
            have HO306 := n7_
            have HO311 := n8_
            have BK269 := n9_
            have BK270 := n10_
            have BK294 := n11_
            have BK307 := n12_
            have HB := n13_
            clear n0_ n1_ n2_ n3_ n4_ n5_ n6_ n7_ n8_ n9_ n10_ n11_ n12_ n13_
            refine start_ (n := 5) (S := fun w' => w'.cell? ⟨gb307, 0, none⟩ = some (.int .i64 t295) ∧ w'.cell? ⟨gb307, 1, none⟩ = some (.int .i64 t296) ∧ w'.cell? ⟨gb307, 2, none⟩ = some (.slice Ao61 t297.length co61) ∧ w'.cell? ⟨gb307, 3, none⟩ = some (.slice Ao62 t300.length co62) ∧ w'.cell? ⟨gb307, 4, none⟩ = some (.bool t303) ∧ w'.cell? ⟨gb307, 5, none⟩ = some (.slice Ao63 t304.length co63) ∧ w'.cell? ⟨gb270, 0, none⟩ = some (.int .i64 a1_0) ∧ w'.cell? ⟨gb270, 1, none⟩ = some (.int .i64 a1_1) ∧ w'.cell? ⟨gb270, 2, none⟩ = some (.slice A1_2 l1_2.length c1_2) ∧ w'.cell? ⟨gb270, 3, none⟩ = some (.slice A1_3 l1_3.length c1_3) ∧ w'.cell? ⟨gb270, 4, none⟩ = some (.bool a1_4) ∧ w'.cell? ⟨gb270, 5, none⟩ = some (.slice A1_5 l1_5.length c1_5)) (ds := []) #[false, false, false, false, false] (by kernel_rfl) rfl rfl ⟨(blk_cell BK307.out 0).trans rfl, (blk_cell BK307.out 1).trans rfl, (blk_cell BK307.out 2).trans rfl, (blk_cell BK307.out 3).trans rfl, (blk_cell BK307.out 4).trans rfl, (blk_cell BK307.out 5).trans rfl, (blk_cell BK270.out 0).trans rfl, (blk_cell BK270.out 1).trans rfl, (blk_cell BK270.out 2).trans rfl, (blk_cell BK270.out 3).trans rfl, (blk_cell BK270.out 4).trans rfl, (blk_cell BK270.out 5).trans rfl⟩ (fun hHeld => ?_)
            generalize w69.drew = w70 at HO275 HO281 HO284 HO288 HO292 HO299 HO302 HO306 HO311 BK269 BK270 BK294 BK307 HB hHeld ⊢
            refine take_ (i := 0) (N := some 40) (v := ?_) (a' := ?_) #[true, false, false, false, false] rfl rfl (by kernel_rfl) (fun _ _ _ h => h) (Or.inl ⟨by rfl, ?_⟩) hHeld ?_ ?_
            rotate_left
            · rintro w' ⟨s0, s1, s2, s3, s4, s5, s6, s7, s8, s9, s10, s11⟩
              go_simp
              with_reducible rfl
            rotate_left
            · simp only [Act.put, List.setIfInBounds_toArray, List.set_cons_zero, List.set_cons_succ, i64_w, i32_w]
              rfl
            refine take_ (i := 1) (N := some 41) (v := ?_) (a' := ?_) #[true, true, false, false, false] rfl rfl (by kernel_rfl) (fun _ _ _ h => h) (Or.inl ⟨by rfl, ?_⟩) hHeld ?_ ?_
            rotate_left
            · rintro w' ⟨s0, s1, s2, s3, s4, s5, s6, s7, s8, s9, s10, s11⟩
              go_simp
              with_reducible rfl
            rotate_left
            · simp only [Act.put, List.setIfInBounds_toArray, List.set_cons_zero, List.set_cons_succ, i64_w, i32_w]
              rfl
            refine one_ (i := 2) (N := some 42) #[true, true, true, false, false] rfl rfl (by kernel_rfl) (by decide) (fun K hK => ?_)
            refine goes_ Try.func25 (by kernel_rfl) rfl #[.agg #[.int .i64 a1_0, .int .i64 a1_1, .slice A1_2 l1_2.length c1_2, .slice A1_3 l1_3.length c1_3, .bool a1_4, .slice A1_5 l1_5.length c1_5]] (by rfl) rfl rfl dz2 ?_
            with_reducible refine (laws_toMend.calls k a1_0 a1_1 _ _ l1_2 _ _ l1_3 a1_4 _ _ l1_5 t314 t315 t316 t319 t322 t323 _ ?side1 ?side2 ?side3 ?side4 ?side5 ?side6 A29.out).mono ?_
            (case side1 => repeat (first | exact (Kd.C_below HR1_2.out HB.out) | (with_reducible refine Kd.C_alloc ?_ _) | (with_reducible refine Kd.C_drewN ?_ _) | (with_reducible refine Kd.C_drew ?_)))
            (case side2 => exact HC1_2.out)
            (case side3 => repeat (first | exact (Kd.C_below HR1_3.out HB.out) | (with_reducible refine Kd.C_alloc ?_ _) | (with_reducible refine Kd.C_drewN ?_ _) | (with_reducible refine Kd.C_drew ?_)))
            (case side4 => exact HC1_3.out)
            (case side5 => repeat (first | exact (Kd.C_below HR1_5.out HB.out) | (with_reducible refine Kd.C_alloc ?_ _) | (with_reducible refine Kd.C_drewN ?_ _) | (with_reducible refine Kd.C_drew ?_)))
            (case side6 => exact HC1_5.out)
            rintro e w71 ⟨v317, v320, v324, rfl, ho0, ho1, ho2, hb⟩
            refine ⟨_, rfl, ?_⟩
            have n0_ := Aside0.mk (Kd.R_elder' dz17 (Kd.R_base ho0) hb)
            have n1_ := Aside0.mk (Kd.R_elder' dz20 (Kd.R_base ho0) hb)
            have n2_ := Aside0.mk (Kd.R_elder' dz24 (Kd.R_base ho1) hb)
            have n3_ := Aside0.mk (Kd.S_mono (Kd.S_told (Kd.S_told (Kd.S_old dz25 hb) (Kd.R_base ho0)) (Kd.S_base ho2)) (fun _ h_ => h_.1))
            have n4_ := Aside0.mk (Kd.R_elder' dz26 (Kd.R_base ho0) hb)
            have n5_ := Aside0.mk (Kd.R_elder' dz28 (Kd.R_base ho0) hb)
            have n6_ := Aside0.mk (Kd.R_elder' dz34 (Kd.R_base ho1) hb)
            have n7_ := Aside0.mk (Kd.S_mono (Kd.S_told (Kd.S_told (Kd.S_old dz35 hb) (Kd.R_base ho0)) (Kd.S_base ho2)) (fun _ h_ => h_.1))
            have n8_ := Aside0.mk (Kd.R_elder' dz36 (Kd.R_base ho0) hb)
            have n9_ := Aside0.mk (Kd.R_lower (Kd.R_new' (Kd.R_new' (Kd.R_new' (Kd.R_new' (Kd.R_new' ho0 (Kd.R_lt dz17)) (Kd.R_lt dz20)) (Kd.R_lt dz26)) (Kd.R_lt dz28)) (Kd.R_lt dz36)) (below_size dz27))
            have n10_ := Aside0.mk (Kd.R_lower (Kd.R_new' (Kd.R_new' ho1 (Kd.R_lt dz24)) (Kd.R_lt dz34)) (below_size dz27))
            have n11_ := Aside0.mk (Kd.S_lower (Kd.S_new' (Kd.S_new' (Kd.S_new' (Kd.S_new' (Kd.S_new' (Kd.S_new' (Kd.S_new' ho2 (Kd.R_lt dz17)) (Kd.R_lt dz20)) (Kd.S_lt dz25)) (Kd.R_lt dz26)) (Kd.R_lt dz28)) (Kd.S_lt dz35)) (Kd.R_lt dz36)) (below_size dz27))
            have n12_ := Aside0.mk (blk_below (g := gb269) (o := .cells #[.slice A0_0 l0_0.length c0_0, .int .i64 a0_1] 24 (0, 0)) dz4 hb)
            have n13_ := Aside0.mk (blk_below (g := gb270) (o := .cells #[.int .i64 a1_0, .int .i64 a1_1, .slice A1_2 l1_2.length c1_2, .slice A1_3 l1_3.length c1_3, .bool a1_4, .slice A1_5 l1_5.length c1_5] 56 (0, 0)) dz10 hb)
            have n14_ := Aside0.mk (blk_below (g := gb294) (o := .cells #[.slice Ao50 t290.length co50, .int .i64 t293] 31 (0, 0)) dz30 hb)
            have n15_ := Aside0.mk (blk_below (g := gb307) (o := .cells #[.int .i64 t295, .int .i64 t296, .slice Ao61 t297.length co61, .slice Ao62 t300.length co62, .bool t303, .slice Ao63 t304.length co63] 61 (0, 0)) dz41 hb)
            have n16_ := Aside0.mk (below_step dz27 hb)
            clear HO275
            clear HO281
            clear HO284
            clear HO288
            clear HO292
            clear HO299
            clear HO302
            clear HO306
            clear HO311
            clear BK269
            clear BK270
            clear BK294
            clear BK307
            clear HB
            have HO275 := n0_
            have HO281 := n1_
            have HO284 := n2_
            have HO288 := n3_
            have HO292 := n4_
            have HO299 := n5_
            have HO302 := n6_
            have HO306 := n7_
            have HO311 := n8_
            have HO318 := n9_
            have HO321 := n10_
            have HO325 := n11_
            have BK269 := n12_
            have BK270 := n13_
            have BK294 := n14_
            have BK307 := n15_
            have HB := n16_
            clear n0_ n1_ n2_ n3_ n4_ n5_ n6_ n7_ n8_ n9_ n10_ n11_ n12_ n13_ n14_ n15_ n16_
            (try clear hb)
            (try clear hb2)
            (try clear hk)
            (try clear hi)
            (try clear ho0)
            (try clear ho1)
            (try clear ho2)
            obtain ⟨Ao72, co72, eo72⟩ := Kd.R_slice HO318.out
            (first | subst eo72 | (injection eo72 with f1_ f2_ f3_; have f4_ := f1_.symm; have f5_ := f3_.symm; clear f1_ f2_ f3_; subst f4_; subst f5_))
            obtain ⟨Ao73, co73, eo73⟩ := Kd.R_slice HO321.out
            (first | subst eo73 | (injection eo73 with f1_ f2_ f3_; have f4_ := f1_.symm; have f5_ := f3_.symm; clear f1_ f2_ f3_; subst f4_; subst f5_))
            obtain ⟨Ao74, co74, eo74⟩ := Kd.S_slice HO325.out
            (first | subst eo74 | (injection eo74 with f1_ f2_ f3_; have f4_ := f1_.symm; have f5_ := f3_.symm; clear f1_ f2_ f3_; subst f4_; subst f5_))
            refine hK.out _ _ ⟨(blk_cell BK307.out 0).trans rfl, (blk_cell BK307.out 1).trans rfl, (blk_cell BK307.out 2).trans rfl, (blk_cell BK307.out 3).trans rfl, (blk_cell BK307.out 4).trans rfl, (blk_cell BK307.out 5).trans rfl, (blk_cell BK270.out 0).trans rfl, (blk_cell BK270.out 1).trans rfl, (blk_cell BK270.out 2).trans rfl, (blk_cell BK270.out 3).trans rfl, (blk_cell BK270.out 4).trans rfl, (blk_cell BK270.out 5).trans rfl⟩ (fun hHeld => ?_)
            clear hK K
            refine norm_ (a' := ?_) ?_ ?_
            rotate_left
            · show Act.put _ (some 42) _ = _
              simp only [Act.put, List.setIfInBounds_toArray, List.set_cons_zero, List.set_cons_succ, i64_w, i32_w]
              rfl
            refine one_ (i := 3) (N := some 43) #[true, true, true, true, false] rfl rfl (by kernel_rfl) (by decide) (fun K hK => ?_)
            refine goes_ Try.func27 (by kernel_rfl) rfl #[.agg #[.int .i64 t295, .int .i64 t296, .slice Ao61 t297.length co61, .slice Ao62 t300.length co62, .bool t303, .slice Ao63 t304.length co63], .agg #[.int .i64 t314, .int .i64 t315, .slice Ao72 t316.length co72, .slice Ao73 t319.length co73, .bool t322, .slice Ao74 t323.length co74]] (by rfl) rfl rfl dz2 ?_
            with_reducible refine (laws_eqMend.calls k t295 t296 _ _ t297 _ _ t300 t303 _ _ t304 t314 t315 _ _ t316 _ _ t319 t322 _ _ t323 true _ ?side1 ?side2 ?side3 ?side4 ?side5 ?side6 ?side7 ?side8 ?side9 ?side10 ?side11 ?side12 A30.out).mono ?_
            (case side1 => repeat (first | exact (Kd.R_reads' HO299.out).2.2 | (with_reducible refine Kd.C_alloc ?_ _) | (with_reducible refine Kd.C_drewN ?_ _) | (with_reducible refine Kd.C_drew ?_)))
            (case side2 => exact (Kd.R_reads' HO299.out).2.1)
            (case side3 => repeat (first | exact (Kd.R_reads' HO302.out).2.2 | (with_reducible refine Kd.C_alloc ?_ _) | (with_reducible refine Kd.C_drewN ?_ _) | (with_reducible refine Kd.C_drew ?_)))
            (case side4 => exact (Kd.R_reads' HO302.out).2.1)
            (case side5 => repeat (first | exact (Kd.S_reads' HO306.out).2.2 | (with_reducible refine Kd.C_alloc ?_ _) | (with_reducible refine Kd.C_drewN ?_ _) | (with_reducible refine Kd.C_drew ?_)))
            (case side6 => exact (Kd.S_reads' HO306.out).2.1)
            (case side7 => repeat (first | exact (Kd.R_reads' HO318.out).2.2 | (with_reducible refine Kd.C_alloc ?_ _) | (with_reducible refine Kd.C_drewN ?_ _) | (with_reducible refine Kd.C_drew ?_)))
            (case side8 => exact (Kd.R_reads' HO318.out).2.1)
            (case side9 => repeat (first | exact (Kd.R_reads' HO321.out).2.2 | (with_reducible refine Kd.C_alloc ?_ _) | (with_reducible refine Kd.C_drewN ?_ _) | (with_reducible refine Kd.C_drew ?_)))
            (case side10 => exact (Kd.R_reads' HO321.out).2.1)
            (case side11 => repeat (first | exact (Kd.S_reads' HO325.out).2.2 | (with_reducible refine Kd.C_alloc ?_ _) | (with_reducible refine Kd.C_drewN ?_ _) | (with_reducible refine Kd.C_drew ?_)))
            (case side12 => exact (Kd.S_reads' HO325.out).2.1)
            rintro e w75 ⟨rfl, hb⟩
            refine ⟨_, rfl, ?_⟩
            have n0_ := Aside0.mk (Kd.R_below dz17 hb)
            have n1_ := Aside0.mk (Kd.R_below dz20 hb)
            have n2_ := Aside0.mk (Kd.R_below dz24 hb)
            have n3_ := Aside0.mk (Kd.S_below dz25 hb)
            have n4_ := Aside0.mk (Kd.R_below dz26 hb)
            have n5_ := Aside0.mk (Kd.R_below dz28 hb)
            have n6_ := Aside0.mk (Kd.R_below dz34 hb)
            have n7_ := Aside0.mk (Kd.S_below dz35 hb)
            have n8_ := Aside0.mk (Kd.R_below dz36 hb)
            have n9_ := Aside0.mk (Kd.R_below (by (with_reducible repeat (first | apply Kd.R_alloc | apply Kd.R_drewN | apply Kd.R_drew)); exact HO318.out) hb)
            have n10_ := Aside0.mk (Kd.R_below (by (with_reducible repeat (first | apply Kd.R_alloc | apply Kd.R_drewN | apply Kd.R_drew)); exact HO321.out) hb)
            have n11_ := Aside0.mk (Kd.S_below (by (with_reducible repeat (first | apply Kd.S_alloc | apply Kd.S_drewN | apply Kd.S_drew)); exact HO325.out) hb)
            have n12_ := Aside0.mk (blk_below (g := gb269) (o := .cells #[.slice A0_0 l0_0.length c0_0, .int .i64 a0_1] 24 (0, 0)) dz4 hb)
            have n13_ := Aside0.mk (blk_below (g := gb270) (o := .cells #[.int .i64 a1_0, .int .i64 a1_1, .slice A1_2 l1_2.length c1_2, .slice A1_3 l1_3.length c1_3, .bool a1_4, .slice A1_5 l1_5.length c1_5] 56 (0, 0)) dz10 hb)
            have n14_ := Aside0.mk (blk_below (g := gb294) (o := .cells #[.slice Ao50 t290.length co50, .int .i64 t293] 31 (0, 0)) dz30 hb)
            have n15_ := Aside0.mk (blk_below (g := gb307) (o := .cells #[.int .i64 t295, .int .i64 t296, .slice Ao61 t297.length co61, .slice Ao62 t300.length co62, .bool t303, .slice Ao63 t304.length co63] 61 (0, 0)) dz41 hb)
            have n16_ := Aside0.mk (below_step dz27 hb)
            clear HO275
            clear HO281
            clear HO284
            clear HO288
            clear HO292
            clear HO299
            clear HO302
            clear HO306
            clear HO311
            clear HO318
            clear HO321
            clear HO325
            clear BK269
            clear BK270
            clear BK294
            clear BK307
            clear HB
            have HO275 := n0_
            have HO281 := n1_
            have HO284 := n2_
            have HO288 := n3_
            have HO292 := n4_
            have HO299 := n5_
            have HO302 := n6_
            have HO306 := n7_
            have HO311 := n8_
            have HO318 := n9_
            have HO321 := n10_
            have HO325 := n11_
            have BK269 := n12_
            have BK270 := n13_
            have BK294 := n14_
            have BK307 := n15_
            have HB := n16_
            clear n0_ n1_ n2_ n3_ n4_ n5_ n6_ n7_ n8_ n9_ n10_ n11_ n12_ n13_ n14_ n15_ n16_
            (try clear hb)
            (try clear hb2)
            (try clear hk)
            (try clear hi)
            refine hK.out _ _ ⟨(blk_cell BK307.out 0).trans rfl, (blk_cell BK307.out 1).trans rfl, (blk_cell BK307.out 2).trans rfl, (blk_cell BK307.out 3).trans rfl, (blk_cell BK307.out 4).trans rfl, (blk_cell BK307.out 5).trans rfl, (blk_cell BK270.out 0).trans rfl, (blk_cell BK270.out 1).trans rfl, (blk_cell BK270.out 2).trans rfl, (blk_cell BK270.out 3).trans rfl, (blk_cell BK270.out 4).trans rfl, (blk_cell BK270.out 5).trans rfl⟩ (fun hHeld => ?_)
            clear hK K
            refine norm_ (a' := ?_) ?_ ?_
            rotate_left
            · show Act.put _ (some 43) _ = _
              simp only [Act.put, List.setIfInBounds_toArray, List.set_cons_zero, List.set_cons_succ, i64_w, i32_w]
              rfl
            refine pure_ (i := 4) (N := some 44) (v := ?_) (a' := ?_) #[true, true, true, true, true] rfl rfl (by kernel_rfl) (fun _ _ _ h => h) (Or.inl ⟨by rfl, ?_⟩) ?_ ?_
            rotate_left
            · intro w'
              go_simp
              with_reducible rfl
            rotate_left
            · simp only [Act.put, List.setIfInBounds_toArray, List.set_cons_zero, List.set_cons_succ, i64_w, i32_w]
              rfl
            refine done_ (by kernel_rfl) ?_
            try go_wp2
            go_ret
            exact ⟨by first | rfl | (simp [errW_none, errW_some] <;> rfl) | (simp [*, errW_none, errW_some] <;> rfl), by repeat (first | (with_reducible first | exact HB.out | apply below_alloc | apply pw_below_drewN | apply below_drew1 | refine below_set ?_ GE269.out | refine below_set ?_ GE270.out | refine below_set ?_ GE294.out | refine below_set ?_ GE307.out) | exact HB.out)⟩
          · replace c31 := Bool.eq_false_iff.mpr c31
            subst c31
            have H1 : (none) = some r := by rw [if_neg (show ¬ (false = true) by decide)] at H; exact H
            clear H
            have H := H1
            clear H1
            exact absurd H (by simp)
        · replace c28 := Bool.eq_false_iff.mpr c28
          subst c28
          have H1 : (none) = some r := by rw [if_neg (show ¬ (false = true) by decide)] at H; exact H
          clear H
          have H := H1
          clear H1
          exact absurd H (by simp)
end Go.Proofs.Ytdkdhciogedoiab.PFnExactMendOk
