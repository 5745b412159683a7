-- Written by wip/gen/pack.py of this repo. Lean checks it.
import Derived.Test.YtlomecknojaakaaKFnExactMendReadyP0
import Derived.Test.YtlomecknojaakaaKFnExactMendReadyP1
import Derived.Test.YtlomecknojaakaaKFnExactMendReadyP5
import Derived.Test.YtlomecknojaakaaKFnExactMendReadyP6
import Derived.Test.YtlomecknojaakaaKFnExactMendReadyP11
import Derived.Test.YtlomecknojaakaaKFnExactMendReadyP12
import Derived.Test.YtlomecknojaakaaKFnExactMendReadyD
namespace Go.Proofs.Ytlomecknojaakaa.PFnExactMendReady
open Go.RowKit Go.Proofs.YtlomecknojaakaaW.PrintWords Go.Proofs.YtlomecknojaakaaW.PrintLast Go.Proofs.YtlomecknojaakaaW.PrintMore Go.Proofs.YtlomecknojaakaaW.Sq
attribute [local go_sem] max2_int min2_int max_two min_two max_three min_three max_four min_four
set_option linter.unusedVariables false
set_option linter.unusedSimpArgs false
def laws_FnExactMendReady.f (k : Nat) (l0_0 : List Int) (a0_1 : Int) (a1_0 : Int) (a1_1 : Int) (l1_2 : List Int) (l1_3 : List (S131)) (a1_4 : Bool) (l1_5 : List (List Int)) : Option (Bool) := (laws_szConfig.f l0_0 a0_1 1048576).bind fun t309 => (if t309 < 0 then (some true) else ((laws_szMend.f k a1_0 a1_1 l1_2 l1_3 a1_4 l1_5 t309).bind fun t310 => (if t310 < 0 then (some true) else ((laws_toConfig.f k l0_0 a0_1).bind fun bt311 => ((laws_toMend.f k a1_0 a1_1 l1_2 l1_3 a1_4 l1_5).bind fun bt315 => ((spec_MendReady.f k bt311.1 bt311.2 bt315.1 bt315.2.1 bt315.2.2.1 bt315.2.2.2.1 bt315.2.2.2.2.1 bt315.2.2.2.2.2).bind fun t327 => ((laws_toConfig.f k l0_0 a0_1).bind fun bt328 => ((laws_toMend.f k a1_0 a1_1 l1_2 l1_3 a1_4 l1_5).bind fun bt333 => ((impl_MendReady.f k bt328.1 bt328.2 bt333.1 bt333.2.1 bt333.2.2.1 bt333.2.2.2.1 bt333.2.2.2.2.1 bt333.2.2.2.2.2).bind fun t346 => (if (t346 != t327) = true then (none) else ((laws_toConfig.f k l0_0 a0_1).bind fun bt347 => ((laws_eqConfig.f k bt328.1 bt328.2 bt347.1 bt347.2).bind fun t351 => (if t351 = true then ((laws_toMend.f k a1_0 a1_1 l1_2 l1_3 a1_4 l1_5).bind fun bt352 => ((laws_eqMend.f k bt333.1 bt333.2.1 bt333.2.2.1 bt333.2.2.2.1 bt333.2.2.2.2.1 bt333.2.2.2.2.2 bt352.1 bt352.2.1 bt352.2.2.1 bt352.2.2.2.1 bt352.2.2.2.2.1 bt352.2.2.2.2.2).bind fun t364 => (if t364 = true then (some true) else (none)))) else (none))))))))))))))
theorem laws_FnExactMendReady.mono : ∀ a0 a1 a2 a3 a4 a5 a6 a7 k, LeO (laws_FnExactMendReady.f k a0 a1 a2 a3 a4 a5 a6 a7) (laws_FnExactMendReady.f (k + 1) a0 a1 a2 a3 a4 a5 a6 a7) := by
  intro a0 a1 a2 a3 a4 a5 a6 a7 k
  unfold laws_FnExactMendReady.f
  repeat' first
      | (with_reducible exact impl_MendReady.mono _ _ _ _ _ _ _ _ _)
      | (with_reducible exact laws_eqConfig.mono _ _ _ _ _)
      | (with_reducible exact laws_eqMend.mono _ _ _ _ _ _ _ _ _ _ _ _ _)
      | (with_reducible exact laws_szMend.mono _ _ _ _ _ _ _ _)
      | (with_reducible exact laws_toConfig.mono _ _ _)
      | (with_reducible exact laws_toMend.mono _ _ _ _ _ _ _)
      | (with_reducible exact spec_MendReady.mono _ _ _ _ _ _ _ _ _)
      | (with_reducible exact LeO.refl _)
      | (with_reducible exact LeO.none _)
      | (with_reducible refine LeO.ite ?_ ?_)
      | (with_reducible refine LeO.bind ?_ (fun _ => ?_))
      | exact impl_MendReady.mono _ _ _ _ _ _ _ _ _
      | exact laws_eqConfig.mono _ _ _ _ _
      | exact laws_eqMend.mono _ _ _ _ _ _ _ _ _ _ _ _ _
      | exact laws_szMend.mono _ _ _ _ _ _ _ _
      | exact laws_toConfig.mono _ _ _
      | exact laws_toMend.mono _ _ _ _ _ _ _
      | exact spec_MendReady.mono _ _ _ _ _ _ _ _ _
      | exact LeO.none _
      | refine LeO.ite ?_ ?_
      | refine LeO.bind ?_ (fun _ => ?_)
set_option maxHeartbeats 8000000 in
set_option maxRecDepth 100000 in
theorem laws_FnExactMendReady.calls (k : Nat) (A0_0 : Option Addr) (c0_0 : Nat) (l0_0 : List Int) (a0_1 : Int) (a1_0 : Int) (a1_1 : Int) (A1_2 : Option Addr) (c1_2 : Nat) (l1_2 : List Int) (A1_3 : Option Addr) (c1_3 : Nat) (l1_3 : List (S131)) (a1_4 : Bool) (A1_5 : Option Addr) (c1_5 : Nat) (l1_5 : List (List Int)) (r : Bool) (w : World) (hr0_0 : Kd.C (Kd.int .i64) w A0_0 l0_0.length l0_0) (hc0_0 : l0_0.length ≤ c0_0) (hr1_2 : Kd.C (Kd.int .i64) w A1_2 l1_2.length l1_2) (hc1_2 : l1_2.length ≤ c1_2) (hr1_3 : Kd.C k131 w A1_3 l1_3.length l1_3) (hc1_3 : l1_3.length ≤ c1_3) (hr1_5 : Kd.C (Kd.slice 3 (Kd.int .i64)) w A1_5 l1_5.length l1_5) (hc1_5 : l1_5.length ≤ c1_5) (h : laws_FnExactMendReady.f k l0_0 a0_1 a1_0 a1_1 l1_2 l1_3 a1_4 l1_5 = some r) :
    Calls Try.prog 3 #[.agg #[.slice A0_0 l0_0.length c0_0, .int .i64 a0_1], .agg #[.int .i64 a1_0, .int .i64 a1_1, .slice A1_2 l1_2.length c1_2, .slice A1_3 l1_3.length c1_3, .bool a1_4, .slice A1_5 l1_5.length c1_5]] w fun e w' => e = .returned (.bool r) ∧ Below w.heap.size w w' := by
  have hu24 := Try.underlying24
  have hu28 := Try.underlying28
  have hu32 := Try.underlying32
  have hu36 := Try.underlying36
  have HR0_0 := Aside0.mk hr0_0
  have HC0_0 := Aside0.mk hc0_0
  clear hr0_0 hc0_0
  have HR1_2 := Aside0.mk hr1_2
  have HC1_2 := Aside0.mk hc1_2
  clear hr1_2 hc1_2
  have HR1_3 := Aside0.mk hr1_3
  have HC1_3 := Aside0.mk hc1_3
  clear hr1_3 hc1_3
  have HR1_5 := Aside0.mk hr1_5
  have HC1_5 := Aside0.mk hc1_5
  clear hr1_5 hc1_5
  have HB := Aside0.mk (Below.refl w.heap.size w)
  have H : ((laws_szConfig.f l0_0 a0_1 1048576).bind fun t309 => (if t309 < 0 then (some true) else ((laws_szMend.f k a1_0 a1_1 l1_2 l1_3 a1_4 l1_5 t309).bind fun t310 => (if t310 < 0 then (some true) else ((laws_toConfig.f k l0_0 a0_1).bind fun bt311 => ((laws_toMend.f k a1_0 a1_1 l1_2 l1_3 a1_4 l1_5).bind fun bt315 => ((spec_MendReady.f k bt311.1 bt311.2 bt315.1 bt315.2.1 bt315.2.2.1 bt315.2.2.2.1 bt315.2.2.2.2.1 bt315.2.2.2.2.2).bind fun t327 => ((laws_toConfig.f k l0_0 a0_1).bind fun bt328 => ((laws_toMend.f k a1_0 a1_1 l1_2 l1_3 a1_4 l1_5).bind fun bt333 => ((impl_MendReady.f k bt328.1 bt328.2 bt333.1 bt333.2.1 bt333.2.2.1 bt333.2.2.2.1 bt333.2.2.2.2.1 bt333.2.2.2.2.2).bind fun t346 => (if (t346 != t327) = true then (none) else ((laws_toConfig.f k l0_0 a0_1).bind fun bt347 => ((laws_eqConfig.f k bt328.1 bt328.2 bt347.1 bt347.2).bind fun t351 => (if t351 = true then ((laws_toMend.f k a1_0 a1_1 l1_2 l1_3 a1_4 l1_5).bind fun bt352 => ((laws_eqMend.f k bt333.1 bt333.2.1 bt333.2.2.1 bt333.2.2.2.1 bt333.2.2.2.2.1 bt333.2.2.2.2.2 bt352.1 bt352.2.1 bt352.2.2.1 bt352.2.2.2.1 bt352.2.2.2.2.1 bt352.2.2.2.2.2).bind fun t364 => (if t364 = true then (some true) else (none)))) else (none))))))))))))))) = some r := h
  clear h
  replace H := Option.bind_eq_some_iff.mp H
  obtain ⟨t309, A30, H⟩ := H
  replace H : (if t309 < 0 then (some true) else ((laws_szMend.f k a1_0 a1_1 l1_2 l1_3 a1_4 l1_5 t309).bind fun t310 => (if t310 < 0 then (some true) else ((laws_toConfig.f k l0_0 a0_1).bind fun bt311 => ((laws_toMend.f k a1_0 a1_1 l1_2 l1_3 a1_4 l1_5).bind fun bt315 => ((spec_MendReady.f k bt311.1 bt311.2 bt315.1 bt315.2.1 bt315.2.2.1 bt315.2.2.2.1 bt315.2.2.2.2.1 bt315.2.2.2.2.2).bind fun t327 => ((laws_toConfig.f k l0_0 a0_1).bind fun bt328 => ((laws_toMend.f k a1_0 a1_1 l1_2 l1_3 a1_4 l1_5).bind fun bt333 => ((impl_MendReady.f k bt328.1 bt328.2 bt333.1 bt333.2.1 bt333.2.2.1 bt333.2.2.2.1 bt333.2.2.2.2.1 bt333.2.2.2.2.2).bind fun t346 => (if (t346 != t327) = true then (none) else ((laws_toConfig.f k l0_0 a0_1).bind fun bt347 => ((laws_eqConfig.f k bt328.1 bt328.2 bt347.1 bt347.2).bind fun t351 => (if t351 = true then ((laws_toMend.f k a1_0 a1_1 l1_2 l1_3 a1_4 l1_5).bind fun bt352 => ((laws_eqMend.f k bt333.1 bt333.2.1 bt333.2.2.1 bt333.2.2.2.1 bt333.2.2.2.2.1 bt333.2.2.2.2.2 bt352.1 bt352.2.1 bt352.2.2.1 bt352.2.2.2.1 bt352.2.2.2.2.1 bt352.2.2.2.2.2).bind fun t364 => (if t364 = true then (some true) else (none)))) else (none)))))))))))))) = some r := H
  have A3 := Aside0.mk A30
  clear A30
  by_cases c4 : t309 < 0
  · rw [if_pos c4] at H
    have c4b0 : decide (t309 < 0) = true := decide_eq_true c4
    clear c4
    obtain rfl := Option.some.inj H
    go_enter Try.func3, Try.ntmps3
    go_wp2_with (first | ((with_reducible refine gate_dst (N := 2) rfl ?_); refine box_event kr_ (N := 2) kr_ (cs := #[.slice A0_0 l0_0.length c0_0, .int .i64 a0_1]) (t := 24) ks_ ?_; intro gb307 hg w1 hbox hb; have n0_ := Aside0.mk (below_step dz0 hb); have n1_ := Aside0.mk (hbox); have n2_ := Aside0.mk ((by rw [hg]; exact (below_size dz0) : w.heap.size ≤ gb307)); have n3_ := Aside0.mk ((by rw [hg]; exact (below_size dz0) : w.heap.size ≤ gb307)); clear HB; have HB := n0_; have BK307 := n1_; have GW307 := n2_; have GE307 := n3_; clear n0_ n1_ n2_ n3_; clear hb hbox hg) | ((with_reducible refine gate_dst (N := 3) rfl ?_); refine box_event kr_ (N := 3) kr_ (cs := #[.int .i64 a1_0, .int .i64 a1_1, .slice A1_2 l1_2.length c1_2, .slice A1_3 l1_3.length c1_3, .bool a1_4, .slice A1_5 l1_5.length c1_5]) (t := 28) ks_ ?_; intro gb308 hg w2 hbox hb; have n0_ := (bkb_ BK307 hb); have n1_ := Aside0.mk (below_step dz16 hb); have n2_ := Aside0.mk (hbox); have n3_ := Aside0.mk ((by rw [hg]; exact (below_size dz16) : w.heap.size ≤ gb308)); have n4_ := Aside0.mk ((by rw [hg]; exact (below_size dz16) : w.heap.size ≤ gb308)); have n5_ := Aside0.mk ((by rw [hg]; exact Nat.ne_of_lt (blk_lt (g := gb307) (o := .cells #[.slice A0_0 l0_0.length c0_0, .int .i64 a0_1] 24 (0, 0)) dz12) : gb307 ≠ gb308)); have n6_ := Aside0.mk ((by rw [hg]; exact Nat.ne_of_gt (blk_lt (g := gb307) (o := .cells #[.slice A0_0 l0_0.length c0_0, .int .i64 a0_1] 24 (0, 0)) dz12) : gb308 ≠ gb307)); clear BK307; clear HB; have BK307 := n0_; have HB := n1_; have BK308 := n2_; have GW308 := n3_; have GE308 := n4_; have NB307_308 := n5_; have NB308_307 := n6_; clear n0_ n1_ n2_ n3_ n4_ n5_ n6_; clear hb hbox hg; have hnb7 := NB307_308.out; have hnc7 := NB308_307.out; have hcz8_0 : w2.cell? ⟨gb307, 0, none⟩ = some (.slice A0_0 l0_0.length c0_0) := (blk_cell BK307.out 0).trans rfl; have hcz8_1 : w2.cell? ⟨gb307, 1, none⟩ = some (.int .i64 a0_1) := (blk_cell BK307.out 1).trans rfl; have hfz8_0 := blk_frozen BK307.out 0; have hfz8_1 := blk_frozen BK307.out 1) | ((with_reducible refine gate_callee (f := 9) rfl ?_); refine goesL_ (some 12) rfl rfl Try.func9 (by kernel_rfl) rfl #[.agg #[.slice A0_0 l0_0.length c0_0, .int .i64 a0_1], .int .i64 1048576] rfl dz2 ?_; (with_reducible refine (laws_szConfig.calls _ _ l0_0 a0_1 1048576 t309 _ ?side1 ?side2 A3.out).mono ?_); (case side1 => repeat (first | exact (Kd.C_below HR0_0.out HB.out) | (with_reducible refine Kd.C_alloc ?_ _) | (with_reducible refine Kd.C_drewN ?_ _) | (with_reducible refine Kd.C_drew ?_))); (case side2 => exact HC0_0.out); rintro e w3 ⟨rfl, hb⟩; refine ⟨_, rfl, ?_⟩; have n0_ := (bkb_ BK307 hb); have n1_ := (bkb_ BK308 hb); have n2_ := Aside0.mk (below_step dz10 hb); clear BK307; clear BK308; clear HB; have BK307 := n0_; have BK308 := n1_; have HB := n2_; clear n0_ n1_ n2_; (try clear hb); (try clear hb2); (try clear hk); (try clear hi)))
    go_ret
    exact dz104
  rw [if_neg c4] at H
  have c4b0 : decide (t309 < 0) = false := decide_eq_false c4
  clear c4
  replace H := Option.bind_eq_some_iff.mp H
  obtain ⟨t310, A100, H⟩ := H
  replace H : (if t310 < 0 then (some true) else ((laws_toConfig.f k l0_0 a0_1).bind fun bt311 => ((laws_toMend.f k a1_0 a1_1 l1_2 l1_3 a1_4 l1_5).bind fun bt315 => ((spec_MendReady.f k bt311.1 bt311.2 bt315.1 bt315.2.1 bt315.2.2.1 bt315.2.2.2.1 bt315.2.2.2.2.1 bt315.2.2.2.2.2).bind fun t327 => ((laws_toConfig.f k l0_0 a0_1).bind fun bt328 => ((laws_toMend.f k a1_0 a1_1 l1_2 l1_3 a1_4 l1_5).bind fun bt333 => ((impl_MendReady.f k bt328.1 bt328.2 bt333.1 bt333.2.1 bt333.2.2.1 bt333.2.2.2.1 bt333.2.2.2.2.1 bt333.2.2.2.2.2).bind fun t346 => (if (t346 != t327) = true then (none) else ((laws_toConfig.f k l0_0 a0_1).bind fun bt347 => ((laws_eqConfig.f k bt328.1 bt328.2 bt347.1 bt347.2).bind fun t351 => (if t351 = true then ((laws_toMend.f k a1_0 a1_1 l1_2 l1_3 a1_4 l1_5).bind fun bt352 => ((laws_eqMend.f k bt333.1 bt333.2.1 bt333.2.2.1 bt333.2.2.2.1 bt333.2.2.2.2.1 bt333.2.2.2.2.2 bt352.1 bt352.2.1 bt352.2.2.1 bt352.2.2.2.1 bt352.2.2.2.2.1 bt352.2.2.2.2.2).bind fun t364 => (if t364 = true then (some true) else (none)))) else (none)))))))))))) = some r := H
  have A10 := Aside0.mk A100
  clear A100
  by_cases c11 : t310 < 0
  · rw [if_pos c11] at H
    have c11b0 : decide (t310 < 0) = true := decide_eq_true c11
    clear c11
    obtain rfl := Option.some.inj H
    go_enter Try.func3, Try.ntmps3
    go_wp2_with (first | ((with_reducible refine gate_dst (N := 2) rfl ?_); refine box_event kr_ (N := 2) kr_ (cs := #[.slice A0_0 l0_0.length c0_0, .int .i64 a0_1]) (t := 24) ks_ ?_; intro gb307 hg w1 hbox hb; have n0_ := Aside0.mk (below_step dz0 hb); have n1_ := Aside0.mk (hbox); have n2_ := Aside0.mk ((by rw [hg]; exact (below_size dz0) : w.heap.size ≤ gb307)); have n3_ := Aside0.mk ((by rw [hg]; exact (below_size dz0) : w.heap.size ≤ gb307)); clear HB; have HB := n0_; have BK307 := n1_; have GW307 := n2_; have GE307 := n3_; clear n0_ n1_ n2_ n3_; clear hb hbox hg) | ((with_reducible refine gate_dst (N := 3) rfl ?_); refine box_event kr_ (N := 3) kr_ (cs := #[.int .i64 a1_0, .int .i64 a1_1, .slice A1_2 l1_2.length c1_2, .slice A1_3 l1_3.length c1_3, .bool a1_4, .slice A1_5 l1_5.length c1_5]) (t := 28) ks_ ?_; intro gb308 hg w2 hbox hb; have n0_ := (bkb_ BK307 hb); have n1_ := Aside0.mk (below_step dz16 hb); have n2_ := Aside0.mk (hbox); have n3_ := Aside0.mk ((by rw [hg]; exact (below_size dz16) : w.heap.size ≤ gb308)); have n4_ := Aside0.mk ((by rw [hg]; exact (below_size dz16) : w.heap.size ≤ gb308)); have n5_ := Aside0.mk ((by rw [hg]; exact Nat.ne_of_lt (blk_lt (g := gb307) (o := .cells #[.slice A0_0 l0_0.length c0_0, .int .i64 a0_1] 24 (0, 0)) dz12) : gb307 ≠ gb308)); have n6_ := Aside0.mk ((by rw [hg]; exact Nat.ne_of_gt (blk_lt (g := gb307) (o := .cells #[.slice A0_0 l0_0.length c0_0, .int .i64 a0_1] 24 (0, 0)) dz12) : gb308 ≠ gb307)); clear BK307; clear HB; have BK307 := n0_; have HB := n1_; have BK308 := n2_; have GW308 := n3_; have GE308 := n4_; have NB307_308 := n5_; have NB308_307 := n6_; clear n0_ n1_ n2_ n3_ n4_ n5_ n6_; clear hb hbox hg; have hnb14 := NB307_308.out; have hnc14 := NB308_307.out; have hcz15_0 : w2.cell? ⟨gb307, 0, none⟩ = some (.slice A0_0 l0_0.length c0_0) := (blk_cell BK307.out 0).trans rfl; have hcz15_1 : w2.cell? ⟨gb307, 1, none⟩ = some (.int .i64 a0_1) := (blk_cell BK307.out 1).trans rfl; have hfz15_0 := blk_frozen BK307.out 0; have hfz15_1 := blk_frozen BK307.out 1) | ((with_reducible refine gate_callee (f := 9) rfl ?_); refine goesL_ (some 12) rfl rfl Try.func9 (by kernel_rfl) rfl #[.agg #[.slice A0_0 l0_0.length c0_0, .int .i64 a0_1], .int .i64 1048576] rfl dz2 ?_; (with_reducible refine (laws_szConfig.calls _ _ l0_0 a0_1 1048576 t309 _ ?side1 ?side2 A3.out).mono ?_); (case side1 => repeat (first | exact (Kd.C_below HR0_0.out HB.out) | (with_reducible refine Kd.C_alloc ?_ _) | (with_reducible refine Kd.C_drewN ?_ _) | (with_reducible refine Kd.C_drew ?_))); (case side2 => exact HC0_0.out); rintro e w3 ⟨rfl, hb⟩; refine ⟨_, rfl, ?_⟩; have n0_ := (bkb_ BK307 hb); have n1_ := (bkb_ BK308 hb); have n2_ := Aside0.mk (below_step dz10 hb); clear BK307; clear BK308; clear HB; have BK307 := n0_; have BK308 := n1_; have HB := n2_; clear n0_ n1_ n2_; (try clear hb); (try clear hb2); (try clear hk); (try clear hi); have hcz17_0 : w3.cell? ⟨gb308, 0, none⟩ = some (.int .i64 a1_0) := (blk_cell BK308.out 0).trans rfl; have hcz17_1 : w3.cell? ⟨gb308, 1, none⟩ = some (.int .i64 a1_1) := (blk_cell BK308.out 1).trans rfl; have hcz17_2 : w3.cell? ⟨gb308, 2, none⟩ = some (.slice A1_2 l1_2.length c1_2) := (blk_cell BK308.out 2).trans rfl; have hcz17_3 : w3.cell? ⟨gb308, 3, none⟩ = some (.slice A1_3 l1_3.length c1_3) := (blk_cell BK308.out 3).trans rfl; have hcz17_4 : w3.cell? ⟨gb308, 4, none⟩ = some (.bool a1_4) := (blk_cell BK308.out 4).trans rfl; have hcz17_5 : w3.cell? ⟨gb308, 5, none⟩ = some (.slice A1_5 l1_5.length c1_5) := (blk_cell BK308.out 5).trans rfl; have hfz17_0 := blk_frozen BK308.out 0; have hfz17_1 := blk_frozen BK308.out 1; have hfz17_2 := blk_frozen BK308.out 2; have hfz17_3 := blk_frozen BK308.out 3; have hfz17_4 := blk_frozen BK308.out 4; have hfz17_5 := blk_frozen BK308.out 5) | ((with_reducible refine gate_callee (f := 10) rfl ?_); refine goesL_ (some 17) rfl rfl Try.func10 (by kernel_rfl) rfl #[.agg #[.int .i64 a1_0, .int .i64 a1_1, .slice A1_2 l1_2.length c1_2, .slice A1_3 l1_3.length c1_3, .bool a1_4, .slice A1_5 l1_5.length c1_5], .int .i64 t309] rfl dz2 ?_; (with_reducible refine (laws_szMend.calls k a1_0 a1_1 _ _ l1_2 _ _ l1_3 a1_4 _ _ l1_5 t309 t310 _ ?side1 ?side2 ?side3 ?side4 ?side5 ?side6 A10.out).mono ?_); (case side1 => repeat (first | exact (Kd.C_below HR1_2.out HB.out) | (with_reducible refine Kd.C_alloc ?_ _) | (with_reducible refine Kd.C_drewN ?_ _) | (with_reducible refine Kd.C_drew ?_))); (case side2 => exact HC1_2.out); (case side3 => repeat (first | exact (Kd.C_below HR1_3.out HB.out) | (with_reducible refine Kd.C_alloc ?_ _) | (with_reducible refine Kd.C_drewN ?_ _) | (with_reducible refine Kd.C_drew ?_))); (case side4 => exact HC1_3.out); (case side5 => repeat (first | exact (Kd.C_below HR1_5.out HB.out) | (with_reducible refine Kd.C_alloc ?_ _) | (with_reducible refine Kd.C_drewN ?_ _) | (with_reducible refine Kd.C_drew ?_))); (case side6 => exact HC1_5.out); rintro e w4 ⟨rfl, hb⟩; refine ⟨_, rfl, ?_⟩; have n0_ := (bkb_ BK307 hb); have n1_ := (bkb_ BK308 hb); have n2_ := Aside0.mk (below_step dz10 hb); clear BK307; clear BK308; clear HB; have BK307 := n0_; have BK308 := n1_; have HB := n2_; clear n0_ n1_ n2_; (try clear hb); (try clear hb2); (try clear hk); (try clear hi)))
    go_ret
    exact dz104
  rw [if_neg c11] at H
  have c11b0 : decide (t310 < 0) = false := decide_eq_false c11
  clear c11
  replace H := Option.bind_eq_some_iff.mp H
  obtain ⟨⟨t311, t314⟩, A190, H⟩ := H
  replace H : ((laws_toMend.f k a1_0 a1_1 l1_2 l1_3 a1_4 l1_5).bind fun bt315 => ((spec_MendReady.f k t311 t314 bt315.1 bt315.2.1 bt315.2.2.1 bt315.2.2.2.1 bt315.2.2.2.2.1 bt315.2.2.2.2.2).bind fun t327 => ((laws_toConfig.f k l0_0 a0_1).bind fun bt328 => ((laws_toMend.f k a1_0 a1_1 l1_2 l1_3 a1_4 l1_5).bind fun bt333 => ((impl_MendReady.f k bt328.1 bt328.2 bt333.1 bt333.2.1 bt333.2.2.1 bt333.2.2.2.1 bt333.2.2.2.2.1 bt333.2.2.2.2.2).bind fun t346 => (if (t346 != t327) = true then (none) else ((laws_toConfig.f k l0_0 a0_1).bind fun bt347 => ((laws_eqConfig.f k bt328.1 bt328.2 bt347.1 bt347.2).bind fun t351 => (if t351 = true then ((laws_toMend.f k a1_0 a1_1 l1_2 l1_3 a1_4 l1_5).bind fun bt352 => ((laws_eqMend.f k bt333.1 bt333.2.1 bt333.2.2.1 bt333.2.2.2.1 bt333.2.2.2.2.1 bt333.2.2.2.2.2 bt352.1 bt352.2.1 bt352.2.2.1 bt352.2.2.2.1 bt352.2.2.2.2.1 bt352.2.2.2.2.2).bind fun t364 => (if t364 = true then (some true) else (none)))) else (none)))))))))) = some r := H
  have A19 := Aside0.mk A190
  clear A190
  replace H := Option.bind_eq_some_iff.mp H
  obtain ⟨⟨t315, t316, t317, t320, t323, t324⟩, A200, H⟩ := H
  replace H : ((spec_MendReady.f k t311 t314 t315 t316 t317 t320 t323 t324).bind fun t327 => ((laws_toConfig.f k l0_0 a0_1).bind fun bt328 => ((laws_toMend.f k a1_0 a1_1 l1_2 l1_3 a1_4 l1_5).bind fun bt333 => ((impl_MendReady.f k bt328.1 bt328.2 bt333.1 bt333.2.1 bt333.2.2.1 bt333.2.2.2.1 bt333.2.2.2.2.1 bt333.2.2.2.2.2).bind fun t346 => (if (t346 != t327) = true then (none) else ((laws_toConfig.f k l0_0 a0_1).bind fun bt347 => ((laws_eqConfig.f k bt328.1 bt328.2 bt347.1 bt347.2).bind fun t351 => (if t351 = true then ((laws_toMend.f k a1_0 a1_1 l1_2 l1_3 a1_4 l1_5).bind fun bt352 => ((laws_eqMend.f k bt333.1 bt333.2.1 bt333.2.2.1 bt333.2.2.2.1 bt333.2.2.2.2.1 bt333.2.2.2.2.2 bt352.1 bt352.2.1 bt352.2.2.1 bt352.2.2.2.1 bt352.2.2.2.2.1 bt352.2.2.2.2.2).bind fun t364 => (if t364 = true then (some true) else (none)))) else (none))))))))) = some r := H
  have A20 := Aside0.mk A200
  clear A200
  replace H := Option.bind_eq_some_iff.mp H
  obtain ⟨t327, A210, H⟩ := H
  replace H : ((laws_toConfig.f k l0_0 a0_1).bind fun bt328 => ((laws_toMend.f k a1_0 a1_1 l1_2 l1_3 a1_4 l1_5).bind fun bt333 => ((impl_MendReady.f k bt328.1 bt328.2 bt333.1 bt333.2.1 bt333.2.2.1 bt333.2.2.2.1 bt333.2.2.2.2.1 bt333.2.2.2.2.2).bind fun t346 => (if (t346 != t327) = true then (none) else ((laws_toConfig.f k l0_0 a0_1).bind fun bt347 => ((laws_eqConfig.f k bt328.1 bt328.2 bt347.1 bt347.2).bind fun t351 => (if t351 = true then ((laws_toMend.f k a1_0 a1_1 l1_2 l1_3 a1_4 l1_5).bind fun bt352 => ((laws_eqMend.f k bt333.1 bt333.2.1 bt333.2.2.1 bt333.2.2.2.1 bt333.2.2.2.2.1 bt333.2.2.2.2.2 bt352.1 bt352.2.1 bt352.2.2.1 bt352.2.2.2.1 bt352.2.2.2.2.1 bt352.2.2.2.2.2).bind fun t364 => (if t364 = true then (some true) else (none)))) else (none)))))))) = some r := H
  have A21 := Aside0.mk A210
  clear A210
  replace H := Option.bind_eq_some_iff.mp H
  obtain ⟨⟨t328, t331⟩, A220, H⟩ := H
  replace H : ((laws_toMend.f k a1_0 a1_1 l1_2 l1_3 a1_4 l1_5).bind fun bt333 => ((impl_MendReady.f k t328 t331 bt333.1 bt333.2.1 bt333.2.2.1 bt333.2.2.2.1 bt333.2.2.2.2.1 bt333.2.2.2.2.2).bind fun t346 => (if (t346 != t327) = true then (none) else ((laws_toConfig.f k l0_0 a0_1).bind fun bt347 => ((laws_eqConfig.f k t328 t331 bt347.1 bt347.2).bind fun t351 => (if t351 = true then ((laws_toMend.f k a1_0 a1_1 l1_2 l1_3 a1_4 l1_5).bind fun bt352 => ((laws_eqMend.f k bt333.1 bt333.2.1 bt333.2.2.1 bt333.2.2.2.1 bt333.2.2.2.2.1 bt333.2.2.2.2.2 bt352.1 bt352.2.1 bt352.2.2.1 bt352.2.2.2.1 bt352.2.2.2.2.1 bt352.2.2.2.2.2).bind fun t364 => (if t364 = true then (some true) else (none)))) else (none))))))) = some r := H
  have A22 := Aside0.mk A220
  clear A220
  replace H := Option.bind_eq_some_iff.mp H
  obtain ⟨⟨t333, t334, t335, t338, t341, t342⟩, A230, H⟩ := H
  replace H : ((impl_MendReady.f k t328 t331 t333 t334 t335 t338 t341 t342).bind fun t346 => (if (t346 != t327) = true then (none) else ((laws_toConfig.f k l0_0 a0_1).bind fun bt347 => ((laws_eqConfig.f k t328 t331 bt347.1 bt347.2).bind fun t351 => (if t351 = true then ((laws_toMend.f k a1_0 a1_1 l1_2 l1_3 a1_4 l1_5).bind fun bt352 => ((laws_eqMend.f k t333 t334 t335 t338 t341 t342 bt352.1 bt352.2.1 bt352.2.2.1 bt352.2.2.2.1 bt352.2.2.2.2.1 bt352.2.2.2.2.2).bind fun t364 => (if t364 = true then (some true) else (none)))) else (none)))))) = some r := H
  have A23 := Aside0.mk A230
  clear A230
  replace H := Option.bind_eq_some_iff.mp H
  obtain ⟨t346, A240, H⟩ := H
  replace H : (if (t346 != t327) = true then (none) else ((laws_toConfig.f k l0_0 a0_1).bind fun bt347 => ((laws_eqConfig.f k t328 t331 bt347.1 bt347.2).bind fun t351 => (if t351 = true then ((laws_toMend.f k a1_0 a1_1 l1_2 l1_3 a1_4 l1_5).bind fun bt352 => ((laws_eqMend.f k t333 t334 t335 t338 t341 t342 bt352.1 bt352.2.1 bt352.2.2.1 bt352.2.2.2.1 bt352.2.2.2.2.1 bt352.2.2.2.2.2).bind fun t364 => (if t364 = true then (some true) else (none)))) else (none))))) = some r := H
  have A24 := Aside0.mk A240
  clear A240
  by_cases c25 : (t346 != t327) = true
  · rw [if_pos c25] at H
    exact absurd H (by simp)
  rw [if_neg c25] at H
  have c25b0 : (t346 != t327) = false := by simpa using c25
  (try (have c25b1 : decide (t346 = t327) = true := by simpa using c25))
  (try (have c25b2 : (t346 == t327) = true := by simpa using c25))
  clear c25
  replace H := Option.bind_eq_some_iff.mp H
  obtain ⟨⟨t347, t350⟩, A260, H⟩ := H
  replace H : ((laws_eqConfig.f k t328 t331 t347 t350).bind fun t351 => (if t351 = true then ((laws_toMend.f k a1_0 a1_1 l1_2 l1_3 a1_4 l1_5).bind fun bt352 => ((laws_eqMend.f k t333 t334 t335 t338 t341 t342 bt352.1 bt352.2.1 bt352.2.2.1 bt352.2.2.2.1 bt352.2.2.2.2.1 bt352.2.2.2.2.2).bind fun t364 => (if t364 = true then (some true) else (none)))) else (none))) = some r := H
  have A26 := Aside0.mk A260
  clear A260
  replace H := Option.bind_eq_some_iff.mp H
  obtain ⟨t351, A270, H⟩ := H
  replace H : (if t351 = true then ((laws_toMend.f k a1_0 a1_1 l1_2 l1_3 a1_4 l1_5).bind fun bt352 => ((laws_eqMend.f k t333 t334 t335 t338 t341 t342 bt352.1 bt352.2.1 bt352.2.2.1 bt352.2.2.2.1 bt352.2.2.2.2.1 bt352.2.2.2.2.2).bind fun t364 => (if t364 = true then (some true) else (none)))) else (none)) = some r := H
  have A27 := Aside0.mk A270
  clear A270
  by_cases c28 : t351 = true
  · subst c28
    have H1 : ((laws_toMend.f k a1_0 a1_1 l1_2 l1_3 a1_4 l1_5).bind fun bt352 => ((laws_eqMend.f k t333 t334 t335 t338 t341 t342 bt352.1 bt352.2.1 bt352.2.2.1 bt352.2.2.2.1 bt352.2.2.2.2.1 bt352.2.2.2.2.2).bind fun t364 => (if t364 = true then (some true) else (none)))) = some r := by rw [if_pos rfl] at H; exact H
    clear H
    have H := H1
    clear H1
    replace H := Option.bind_eq_some_iff.mp H
    obtain ⟨⟨t352, t353, t354, t357, t360, t361⟩, A290, H⟩ := H
    replace H : ((laws_eqMend.f k t333 t334 t335 t338 t341 t342 t352 t353 t354 t357 t360 t361).bind fun t364 => (if t364 = true then (some true) else (none))) = some r := H
    have A29 := Aside0.mk A290
    clear A290
    replace H := Option.bind_eq_some_iff.mp H
    obtain ⟨t364, A300, H⟩ := H
    replace H : (if t364 = true then (some true) else (none)) = some r := H
    have A30 := Aside0.mk A300
    clear A300
    by_cases c31 : t364 = true
    · subst c31
      have H1 : (some true) = some r := by rw [if_pos rfl] at H; exact H
      clear H
      have H := H1
      clear H1
      obtain rfl := Option.some.inj H
      go_enter Try.func3, Try.ntmps3
      try go_wp2_with (first | ((with_reducible refine gate_dst (N := 2) rfl ?_); refine box_event kr_ (N := 2) kr_ (cs := #[.slice A0_0 l0_0.length c0_0, .int .i64 a0_1]) (t := 24) ks_ ?_; intro gb307 hg w1 hbox hb; have n0_ := Aside0.mk (below_step dz0 hb); have n1_ := Aside0.mk (hbox); have n2_ := Aside0.mk ((by rw [hg]; exact (below_size dz0) : w.heap.size ≤ gb307)); have n3_ := Aside0.mk ((by rw [hg]; exact (below_size dz0) : w.heap.size ≤ gb307)); clear HB; have HB := n0_; have BK307 := n1_; have GW307 := n2_; have GE307 := n3_; clear n0_ n1_ n2_ n3_; clear hb hbox hg) | ((with_reducible refine gate_dst (N := 3) rfl ?_); refine box_event kr_ (N := 3) kr_ (cs := #[.int .i64 a1_0, .int .i64 a1_1, .slice A1_2 l1_2.length c1_2, .slice A1_3 l1_3.length c1_3, .bool a1_4, .slice A1_5 l1_5.length c1_5]) (t := 28) ks_ ?_; intro gb308 hg w2 hbox hb; have n0_ := (bkb_ BK307 hb); have n1_ := Aside0.mk (below_step dz16 hb); have n2_ := Aside0.mk (hbox); have n3_ := Aside0.mk ((by rw [hg]; exact (below_size dz16) : w.heap.size ≤ gb308)); have n4_ := Aside0.mk ((by rw [hg]; exact (below_size dz16) : w.heap.size ≤ gb308)); have n5_ := Aside0.mk ((by rw [hg]; exact Nat.ne_of_lt (blk_lt (g := gb307) (o := .cells #[.slice A0_0 l0_0.length c0_0, .int .i64 a0_1] 24 (0, 0)) dz12) : gb307 ≠ gb308)); have n6_ := Aside0.mk ((by rw [hg]; exact Nat.ne_of_gt (blk_lt (g := gb307) (o := .cells #[.slice A0_0 l0_0.length c0_0, .int .i64 a0_1] 24 (0, 0)) dz12) : gb308 ≠ gb307)); clear BK307; clear HB; have BK307 := n0_; have HB := n1_; have BK308 := n2_; have GW308 := n3_; have GE308 := n4_; have NB307_308 := n5_; have NB308_307 := n6_; clear n0_ n1_ n2_ n3_ n4_ n5_ n6_; clear hb hbox hg; have hnb34 := NB307_308.out; have hnc34 := NB308_307.out; have hcz35_0 : w2.cell? ⟨gb307, 0, none⟩ = some (.slice A0_0 l0_0.length c0_0) := (blk_cell BK307.out 0).trans rfl; have hcz35_1 : w2.cell? ⟨gb307, 1, none⟩ = some (.int .i64 a0_1) := (blk_cell BK307.out 1).trans rfl; have hfz35_0 := blk_frozen BK307.out 0; have hfz35_1 := blk_frozen BK307.out 1) | ((with_reducible refine gate_callee (f := 9) rfl ?_); refine goesL_ (some 12) rfl rfl Try.func9 (by kernel_rfl) rfl #[.agg #[.slice A0_0 l0_0.length c0_0, .int .i64 a0_1], .int .i64 1048576] rfl dz2 ?_; (with_reducible refine (laws_szConfig.calls _ _ l0_0 a0_1 1048576 t309 _ ?side1 ?side2 A3.out).mono ?_); (case side1 => repeat (first | exact (Kd.C_below HR0_0.out HB.out) | (with_reducible refine Kd.C_alloc ?_ _) | (with_reducible refine Kd.C_drewN ?_ _) | (with_reducible refine Kd.C_drew ?_))); (case side2 => exact HC0_0.out); rintro e w3 ⟨rfl, hb⟩; refine ⟨_, rfl, ?_⟩; have n0_ := (bkb_ BK307 hb); have n1_ := (bkb_ BK308 hb); have n2_ := Aside0.mk (below_step dz10 hb); clear BK307; clear BK308; clear HB; have BK307 := n0_; have BK308 := n1_; have HB := n2_; clear n0_ n1_ n2_; (try clear hb); (try clear hb2); (try clear hk); (try clear hi); have hcz37_0 : w3.cell? ⟨gb308, 0, none⟩ = some (.int .i64 a1_0) := (blk_cell BK308.out 0).trans rfl; have hcz37_1 : w3.cell? ⟨gb308, 1, none⟩ = some (.int .i64 a1_1) := (blk_cell BK308.out 1).trans rfl; have hcz37_2 : w3.cell? ⟨gb308, 2, none⟩ = some (.slice A1_2 l1_2.length c1_2) := (blk_cell BK308.out 2).trans rfl; have hcz37_3 : w3.cell? ⟨gb308, 3, none⟩ = some (.slice A1_3 l1_3.length c1_3) := (blk_cell BK308.out 3).trans rfl; have hcz37_4 : w3.cell? ⟨gb308, 4, none⟩ = some (.bool a1_4) := (blk_cell BK308.out 4).trans rfl; have hcz37_5 : w3.cell? ⟨gb308, 5, none⟩ = some (.slice A1_5 l1_5.length c1_5) := (blk_cell BK308.out 5).trans rfl; have hfz37_0 := blk_frozen BK308.out 0; have hfz37_1 := blk_frozen BK308.out 1; have hfz37_2 := blk_frozen BK308.out 2; have hfz37_3 := blk_frozen BK308.out 3; have hfz37_4 := blk_frozen BK308.out 4; have hfz37_5 := blk_frozen BK308.out 5) | ((with_reducible refine gate_callee (f := 10) rfl ?_); refine goesL_ (some 17) rfl rfl Try.func10 (by kernel_rfl) rfl #[.agg #[.int .i64 a1_0, .int .i64 a1_1, .slice A1_2 l1_2.length c1_2, .slice A1_3 l1_3.length c1_3, .bool a1_4, .slice A1_5 l1_5.length c1_5], .int .i64 t309] rfl dz2 ?_; (with_reducible refine (laws_szMend.calls k a1_0 a1_1 _ _ l1_2 _ _ l1_3 a1_4 _ _ l1_5 t309 t310 _ ?side1 ?side2 ?side3 ?side4 ?side5 ?side6 A10.out).mono ?_); (case side1 => repeat (first | exact (Kd.C_below HR1_2.out HB.out) | (with_reducible refine Kd.C_alloc ?_ _) | (with_reducible refine Kd.C_drewN ?_ _) | (with_reducible refine Kd.C_drew ?_))); (case side2 => exact HC1_2.out); (case side3 => repeat (first | exact (Kd.C_below HR1_3.out HB.out) | (with_reducible refine Kd.C_alloc ?_ _) | (with_reducible refine Kd.C_drewN ?_ _) | (with_reducible refine Kd.C_drew ?_))); (case side4 => exact HC1_3.out); (case side5 => repeat (first | exact (Kd.C_below HR1_5.out HB.out) | (with_reducible refine Kd.C_alloc ?_ _) | (with_reducible refine Kd.C_drewN ?_ _) | (with_reducible refine Kd.C_drew ?_))); (case side6 => exact HC1_5.out); rintro e w4 ⟨rfl, hb⟩; refine ⟨_, rfl, ?_⟩; have n0_ := (bkb_ BK307 hb); have n1_ := (bkb_ BK308 hb); have n2_ := Aside0.mk (below_step dz10 hb); clear BK307; clear BK308; clear HB; have BK307 := n0_; have BK308 := n1_; have HB := n2_; clear n0_ n1_ n2_; (try clear hb); (try clear hb2); (try clear hk); (try clear hi)))
      have n0_ := Aside0.mk (blk_drew BK307.out)
      have n1_ := Aside0.mk (blk_drew BK308.out)
      have n2_ := Aside0.mk (below_drew1 HB.out)
      clear BK307
      clear BK308
      clear HB
      have BK307 := n0_
      have BK308 := n1_
      have HB := n2_
      clear n0_ n1_ n2_
      refine start_ (n := 6) (S := fun w' => w'.cell? ⟨gb307, 0, none⟩ = some (.slice A0_0 l0_0.length c0_0) ∧ w'.cell? ⟨gb307, 1, none⟩ = some (.int .i64 a0_1) ∧ w'.cell? ⟨gb308, 0, none⟩ = some (.int .i64 a1_0) ∧ w'.cell? ⟨gb308, 1, none⟩ = some (.int .i64 a1_1) ∧ w'.cell? ⟨gb308, 2, none⟩ = some (.slice A1_2 l1_2.length c1_2) ∧ w'.cell? ⟨gb308, 3, none⟩ = some (.slice A1_3 l1_3.length c1_3) ∧ w'.cell? ⟨gb308, 4, none⟩ = some (.bool a1_4) ∧ w'.cell? ⟨gb308, 5, none⟩ = some (.slice A1_5 l1_5.length c1_5)) (ds := []) #[false, false, false, false, false, false] (by kernel_rfl) rfl rfl ⟨(blk_cell BK307.out 0).trans rfl, (blk_cell BK307.out 1).trans rfl, (blk_cell BK308.out 0).trans rfl, (blk_cell BK308.out 1).trans rfl, (blk_cell BK308.out 2).trans rfl, (blk_cell BK308.out 3).trans rfl, (blk_cell BK308.out 4).trans rfl, (blk_cell BK308.out 5).trans rfl⟩ (fun hHeld => ?_)
      generalize w4.drew = w7 at BK307 BK308 HB hHeld ⊢
      refine take_ (i := 0) (N := some 20) (v := ?_) (a' := ?_) #[true, false, false, false, false, false] rfl rfl (by kernel_rfl) (fun _ _ _ h => h) (Or.inl ⟨by rfl, ?_⟩) hHeld ?_ ?_
      rotate_left
      · exact dz81
      rotate_left
      · exact dz70
      refine take_ (i := 2) (N := some 22) (v := ?_) (a' := ?_) #[true, false, true, false, false, false] rfl rfl (by kernel_rfl) (fun _ _ _ h => h) (Or.inl ⟨by rfl, ?_⟩) hHeld ?_ ?_
      rotate_left
      · exact dz81
      rotate_left
      · exact dz70
      refine one_ (i := 1) (N := some 21) #[true, true, true, false, false, false] rfl rfl (by kernel_rfl) (by decide) (fun K hK => ?_)
      refine goes_ Try.func12 (by kernel_rfl) rfl #[.agg #[.slice A0_0 l0_0.length c0_0, .int .i64 a0_1]] (by rfl) rfl rfl dz2 ?_
      with_reducible refine (laws_toConfig.calls k _ _ l0_0 a0_1 t311 t314 _ ?side1 ?side2 A19.out).mono ?_
      (case side1 => repeat (first | exact (Kd.C_below HR0_0.out HB.out) | (with_reducible refine Kd.C_alloc ?_ _) | (with_reducible refine Kd.C_drewN ?_ _) | (with_reducible refine Kd.C_drew ?_)))
      (case side2 => exact HC0_0.out)
      rintro e w40 ⟨v312, rfl, ho0, hb⟩
      refine ⟨_, rfl, ?_⟩
      have n0_ := Aside0.mk (Kd.R_lower ho0 (below_size dz10))
      have n1_ := (bkb_ BK307 hb)
      have n2_ := (bkb_ BK308 hb)
      have n3_ := Aside0.mk (below_step dz10 hb)
      clear BK307
      clear BK308
      clear HB
      have HO313 := n0_
      have BK307 := n1_
      have BK308 := n2_
      have HB := n3_
      clear n0_ n1_ n2_ n3_
      (try clear hb)
      (try clear hb2)
      (try clear hk)
      (try clear hi)
      (try clear ho0)
      refine hK.out _ _ ⟨(blk_cell BK307.out 0).trans rfl, (blk_cell BK307.out 1).trans rfl, (blk_cell BK308.out 0).trans rfl, (blk_cell BK308.out 1).trans rfl, (blk_cell BK308.out 2).trans rfl, (blk_cell BK308.out 3).trans rfl, (blk_cell BK308.out 4).trans rfl, (blk_cell BK308.out 5).trans rfl⟩ (fun hHeld => ?_)
      clear hK K
      refine norm_ (a' := ?_) ?_ ?_
      rotate_left
      · show Act.put _ (some 21) _ = _
        simp only [Act.put, List.setIfInBounds_toArray, List.set_cons_zero, List.set_cons_succ, i64_w, i32_w]
        rfl
      refine one_ (i := 3) (N := some 23) #[true, true, true, true, false, false] rfl rfl (by kernel_rfl) (by decide) (fun K hK => ?_)
      refine goes_ Try.func13 (by kernel_rfl) rfl #[.agg #[.int .i64 a1_0, .int .i64 a1_1, .slice A1_2 l1_2.length c1_2, .slice A1_3 l1_3.length c1_3, .bool a1_4, .slice A1_5 l1_5.length c1_5]] (by rfl) rfl rfl dz2 ?_
      with_reducible refine (laws_toMend.calls k a1_0 a1_1 _ _ l1_2 _ _ l1_3 a1_4 _ _ l1_5 t315 t316 t317 t320 t323 t324 _ ?side1 ?side2 ?side3 ?side4 ?side5 ?side6 A20.out).mono ?_
      (case side1 => repeat (first | exact (Kd.C_below HR1_2.out HB.out) | (with_reducible refine Kd.C_alloc ?_ _) | (with_reducible refine Kd.C_drewN ?_ _) | (with_reducible refine Kd.C_drew ?_)))
      (case side2 => exact HC1_2.out)
      (case side3 => repeat (first | exact (Kd.C_below HR1_3.out HB.out) | (with_reducible refine Kd.C_alloc ?_ _) | (with_reducible refine Kd.C_drewN ?_ _) | (with_reducible refine Kd.C_drew ?_)))
      (case side4 => exact HC1_3.out)
      (case side5 => repeat (first | exact (Kd.C_below HR1_5.out HB.out) | (with_reducible refine Kd.C_alloc ?_ _) | (with_reducible refine Kd.C_drewN ?_ _) | (with_reducible refine Kd.C_drew ?_)))
      (case side6 => exact HC1_5.out)
      rintro e w41 ⟨v318, v321, v325, rfl, ho0, ho1, ho2, hb⟩
      refine ⟨_, rfl, ?_⟩
      have n0_ := Aside0.mk (Kd.R_elder' dz13 (Kd.R_base ho0) hb)
      have n1_ := Aside0.mk (Kd.R_lower (Kd.R_new' ho0 (Kd.R_lt dz13)) (below_size dz10))
      have n2_ := Aside0.mk (Kd.R_lower ho1 (below_size dz10))
      have n3_ := Aside0.mk (Kd.S_lower (Kd.S_new' ho2 (Kd.R_lt dz13)) (below_size dz10))
      have n4_ := (bkb_ BK307 hb)
      have n5_ := (bkb_ BK308 hb)
      have n6_ := Aside0.mk (below_step dz10 hb)
      clear HO313
      clear BK307
      clear BK308
      clear HB
      have HO313 := n0_
      have HO319 := n1_
      have HO322 := n2_
      have HO326 := n3_
      have BK307 := n4_
      have BK308 := n5_
      have HB := n6_
      clear n0_ n1_ n2_ n3_ n4_ n5_ n6_
      (try clear hb)
      (try clear hb2)
      (try clear hk)
      (try clear hi)
      (try clear ho0)
      (try clear ho1)
      (try clear ho2)
      obtain ⟨Ao42, co42, eo42⟩ := Kd.R_slice HO313.out
      (first | subst eo42 | (injection eo42 with f1_ f2_ f3_; have f4_ := f1_.symm; have f5_ := f3_.symm; clear f1_ f2_ f3_; subst f4_; subst f5_))
      obtain ⟨Ao43, co43, eo43⟩ := Kd.R_slice HO319.out
      (first | subst eo43 | (injection eo43 with f1_ f2_ f3_; have f4_ := f1_.symm; have f5_ := f3_.symm; clear f1_ f2_ f3_; subst f4_; subst f5_))
      obtain ⟨Ao44, co44, eo44⟩ := Kd.R_slice HO322.out
      (first | subst eo44 | (injection eo44 with f1_ f2_ f3_; have f4_ := f1_.symm; have f5_ := f3_.symm; clear f1_ f2_ f3_; subst f4_; subst f5_))
      obtain ⟨Ao45, co45, eo45⟩ := Kd.S_slice HO326.out
      (first | subst eo45 | (injection eo45 with f1_ f2_ f3_; have f4_ := f1_.symm; have f5_ := f3_.symm; clear f1_ f2_ f3_; subst f4_; subst f5_))
      refine hK.out _ _ ⟨(blk_cell BK307.out 0).trans rfl, (blk_cell BK307.out 1).trans rfl, (blk_cell BK308.out 0).trans rfl, (blk_cell BK308.out 1).trans rfl, (blk_cell BK308.out 2).trans rfl, (blk_cell BK308.out 3).trans rfl, (blk_cell BK308.out 4).trans rfl, (blk_cell BK308.out 5).trans rfl⟩ (fun hHeld => ?_)
      clear hK K
      refine norm_ (a' := ?_) ?_ ?_
      rotate_left
      · show Act.put _ (some 23) _ = _
        simp only [Act.put, List.setIfInBounds_toArray, List.set_cons_zero, List.set_cons_succ, i64_w, i32_w]
        rfl
      refine one_ (i := 4) (N := some 24) #[true, true, true, true, true, false] rfl rfl (by kernel_rfl) (by decide) (fun K hK => ?_)
      refine goes_ Try.func11 (by kernel_rfl) rfl #[.agg #[.slice Ao42 t311.length co42, .int .i64 t314], .agg #[.int .i64 t315, .int .i64 t316, .slice Ao43 t317.length co43, .slice Ao44 t320.length co44, .bool t323, .slice Ao45 t324.length co45]] (by rfl) rfl rfl dz2 ?_
      with_reducible refine (spec_MendReady.calls k _ _ t311 t314 t315 t316 _ _ t317 _ _ t320 t323 _ _ t324 t327 _ ?side1 ?side2 ?side3 ?side4 ?side5 ?side6 ?side7 ?side8 A21.out).mono ?_
      (case side1 => repeat (first | exact (Kd.R_reads' HO313.out).2.2 | (with_reducible refine Kd.C_alloc ?_ _) | (with_reducible refine Kd.C_drewN ?_ _) | (with_reducible refine Kd.C_drew ?_)))
      (case side2 => exact (Kd.R_reads' HO313.out).2.1)
      (case side3 => repeat (first | exact (Kd.R_reads' HO319.out).2.2 | (with_reducible refine Kd.C_alloc ?_ _) | (with_reducible refine Kd.C_drewN ?_ _) | (with_reducible refine Kd.C_drew ?_)))
      (case side4 => exact (Kd.R_reads' HO319.out).2.1)
      (case side5 => repeat (first | exact (Kd.R_reads' HO322.out).2.2 | (with_reducible refine Kd.C_alloc ?_ _) | (with_reducible refine Kd.C_drewN ?_ _) | (with_reducible refine Kd.C_drew ?_)))
      (case side6 => exact (Kd.R_reads' HO322.out).2.1)
      (case side7 => repeat (first | exact (Kd.S_reads' HO326.out).2.2 | (with_reducible refine Kd.C_alloc ?_ _) | (with_reducible refine Kd.C_drewN ?_ _) | (with_reducible refine Kd.C_drew ?_)))
      (case side8 => exact (Kd.S_reads' HO326.out).2.1)
      rintro e w46 ⟨rfl, hb⟩
      refine ⟨_, rfl, ?_⟩
      have n0_ := (rbb_ HO313 hb)
      have n1_ := (rbb_ HO319 hb)
      have n2_ := (rbb_ HO322 hb)
      have n3_ := (sbb_ HO326 hb)
      have n4_ := (bkb_ BK307 hb)
      have n5_ := (bkb_ BK308 hb)
      have n6_ := Aside0.mk (below_step dz10 hb)
      clear HO313
      clear HO319
      clear HO322
      clear HO326
      clear BK307
      clear BK308
      clear HB
      have HO313 := n0_
      have HO319 := n1_
      have HO322 := n2_
      have HO326 := n3_
      have BK307 := n4_
      have BK308 := n5_
      have HB := n6_
      clear n0_ n1_ n2_ n3_ n4_ n5_ n6_
      (try clear hb)
      (try clear hb2)
      (try clear hk)
      (try clear hi)
      refine hK.out _ _ ⟨(blk_cell BK307.out 0).trans rfl, (blk_cell BK307.out 1).trans rfl, (blk_cell BK308.out 0).trans rfl, (blk_cell BK308.out 1).trans rfl, (blk_cell BK308.out 2).trans rfl, (blk_cell BK308.out 3).trans rfl, (blk_cell BK308.out 4).trans rfl, (blk_cell BK308.out 5).trans rfl⟩ (fun hHeld => ?_)
      clear hK K
      refine norm_ (a' := ?_) ?_ ?_
      rotate_left
      · show Act.put _ (some 24) _ = _
        simp only [Act.put, List.setIfInBounds_toArray, List.set_cons_zero, List.set_cons_succ, i64_w, i32_w]
        rfl
      refine pure_ (i := 5) (N := some 6) (v := ?_) (a' := ?_) #[true, true, true, true, true, true] rfl rfl (by kernel_rfl) (fun _ _ _ h => h) (Or.inl ⟨by rfl, ?_⟩) ?_ ?_
      rotate_left
      · exact dz69
      rotate_left
      · exact dz70
      refine done_ (by kernel_rfl) ?_
      have hcz47_0 : w46.cell? ⟨gb307, 0, none⟩ = some (.slice A0_0 l0_0.length c0_0) := (blk_cell BK307.out 0).trans rfl
      have hcz47_1 : w46.cell? ⟨gb307, 1, none⟩ = some (.int .i64 a0_1) := (blk_cell BK307.out 1).trans rfl
      have hfz47_0 := blk_frozen BK307.out 0
      have hfz47_1 := blk_frozen BK307.out 1
      try go_wp2_with (first | ((with_reducible refine gate_callee (f := 12) rfl ?_); refine goesL_ (some 26) rfl rfl Try.func12 (by kernel_rfl) rfl #[.agg #[.slice A0_0 l0_0.length c0_0, .int .i64 a0_1]] rfl dz2 ?_; (with_reducible refine (laws_toConfig.calls k _ _ l0_0 a0_1 t328 t331 _ ?side1 ?side2 A22.out).mono ?_); (case side1 => repeat (first | exact (Kd.C_below HR0_0.out HB.out) | (with_reducible refine Kd.C_alloc ?_ _) | (with_reducible refine Kd.C_drewN ?_ _) | (with_reducible refine Kd.C_drew ?_))); (case side2 => exact HC0_0.out); rintro e w48 ⟨v329, rfl, ho0, hb⟩; refine ⟨_, rfl, ?_⟩; have n0_ := Aside0.mk (Kd.R_elder' dz13 (Kd.R_base ho0) hb); have n1_ := Aside0.mk (Kd.R_elder' dz19 (Kd.R_base ho0) hb); have n2_ := (rbb_ HO322 hb); have n3_ := Aside0.mk (Kd.S_elder' dz31 (Kd.R_base ho0) hb); have n4_ := Aside0.mk (Kd.R_lower (Kd.R_new' (Kd.R_new' ho0 (Kd.R_lt dz13)) (Kd.R_lt dz19)) (below_size dz10)); have n5_ := (bkb_ BK307 hb); have n6_ := (bkb_ BK308 hb); have n7_ := Aside0.mk (below_step dz10 hb); clear HO313; clear HO319; clear HO322; clear HO326; clear BK307; clear BK308; clear HB; have HO313 := n0_; have HO319 := n1_; have HO322 := n2_; have HO326 := n3_; have HO330 := n4_; have BK307 := n5_; have BK308 := n6_; have HB := n7_; clear n0_ n1_ n2_ n3_ n4_ n5_ n6_ n7_; (try clear hb); (try clear hb2); (try clear hk); (try clear hi); (try clear ho0)) | ((with_reducible refine gate_dst (N := 7) rfl ?_); refine box_event kr_ (N := 7) kr_ (cs := #[.slice none 0 0, .int .i64 0]) (t := 32) ks_ ?_; intro gb332 hg w49 hbox hb; have n0_ := (rbb_ HO313 hb); have n1_ := (rbb_ HO319 hb); have n2_ := (rbb_ HO322 hb); have n3_ := (sbb_ HO326 hb); have n4_ := (rbb_ HO330 hb); have n5_ := (bkb_ BK307 hb); have n6_ := (bkb_ BK308 hb); have n7_ := Aside0.mk (below_step dz10 hb); have n8_ := Aside0.mk (hbox); have n9_ := Aside0.mk ((by rw [hg]; exact (below_size dz10) : w.heap.size ≤ gb332)); have n10_ := Aside0.mk ((by rw [hg]; exact (below_size dz10) : w.heap.size ≤ gb332)); have n11_ := Aside0.mk ((by rw [hg]; exact Nat.ne_of_lt (blk_lt (g := gb307) (o := .cells #[.slice A0_0 l0_0.length c0_0, .int .i64 a0_1] 24 (0, 0)) dz12) : gb307 ≠ gb332)); have n12_ := Aside0.mk ((by rw [hg]; exact Nat.ne_of_gt (blk_lt (g := gb307) (o := .cells #[.slice A0_0 l0_0.length c0_0, .int .i64 a0_1] 24 (0, 0)) dz12) : gb332 ≠ gb307)); have n13_ := Aside0.mk ((by rw [hg]; exact Nat.ne_of_lt (blk_lt (g := gb308) (o := .cells #[.int .i64 a1_0, .int .i64 a1_1, .slice A1_2 l1_2.length c1_2, .slice A1_3 l1_3.length c1_3, .bool a1_4, .slice A1_5 l1_5.length c1_5] 28 (0, 0)) dz32) : gb308 ≠ gb332)); have n14_ := Aside0.mk ((by rw [hg]; exact Nat.ne_of_gt (blk_lt (g := gb308) (o := .cells #[.int .i64 a1_0, .int .i64 a1_1, .slice A1_2 l1_2.length c1_2, .slice A1_3 l1_3.length c1_3, .bool a1_4, .slice A1_5 l1_5.length c1_5] 28 (0, 0)) dz32) : gb332 ≠ gb308)); clear HO313; clear HO319; clear HO322; clear HO326; clear HO330; clear BK307; clear BK308; clear HB; have HO313 := n0_; have HO319 := n1_; have HO322 := n2_; have HO326 := n3_; have HO330 := n4_; have BK307 := n5_; have BK308 := n6_; have HB := n7_; have BK332 := n8_; have GW332 := n9_; have GE332 := n10_; have NB307_332 := n11_; have NB332_307 := n12_; have NB308_332 := n13_; have NB332_308 := n14_; clear n0_ n1_ n2_ n3_ n4_ n5_ n6_ n7_ n8_ n9_ n10_ n11_ n12_ n13_ n14_; clear hb hbox hg; obtain ⟨Ao50, co50, eo50⟩ := Kd.R_slice HO330.out; subst eo50; have hnb51 := NB332_307.out; have hnc51 := NB307_332.out; have hnb52 := NB332_308.out; have hnc52 := NB308_332.out; have hcz53_0 : w49.cell? ⟨gb332, 0, none⟩ = some (.slice none 0 0) := (blk_cell BK332.out 0).trans rfl; have hcz53_1 : w49.cell? ⟨gb332, 1, none⟩ = some (.int .i64 0) := (blk_cell BK332.out 1).trans rfl; have hfz53_0 := blk_frozen BK332.out 0; have hfz53_1 := blk_frozen BK332.out 1; have hcz54_0 : w49.cell? ⟨gb308, 0, none⟩ = some (.int .i64 a1_0) := (blk_cell BK308.out 0).trans rfl; have hcz54_1 : w49.cell? ⟨gb308, 1, none⟩ = some (.int .i64 a1_1) := (blk_cell BK308.out 1).trans rfl; have hcz54_2 : w49.cell? ⟨gb308, 2, none⟩ = some (.slice A1_2 l1_2.length c1_2) := (blk_cell BK308.out 2).trans rfl; have hcz54_3 : w49.cell? ⟨gb308, 3, none⟩ = some (.slice A1_3 l1_3.length c1_3) := (blk_cell BK308.out 3).trans rfl; have hcz54_4 : w49.cell? ⟨gb308, 4, none⟩ = some (.bool a1_4) := (blk_cell BK308.out 4).trans rfl; have hcz54_5 : w49.cell? ⟨gb308, 5, none⟩ = some (.slice A1_5 l1_5.length c1_5) := (blk_cell BK308.out 5).trans rfl; have hfz54_0 := blk_frozen BK308.out 0; have hfz54_1 := blk_frozen BK308.out 1; have hfz54_2 := blk_frozen BK308.out 2; have hfz54_3 := blk_frozen BK308.out 3; have hfz54_4 := blk_frozen BK308.out 4; have hfz54_5 := blk_frozen BK308.out 5) | ((with_reducible refine gate_callee (f := 13) rfl ?_); refine goesL_ (some 28) rfl rfl Try.func13 (by kernel_rfl) rfl #[.agg #[.int .i64 a1_0, .int .i64 a1_1, .slice A1_2 l1_2.length c1_2, .slice A1_3 l1_3.length c1_3, .bool a1_4, .slice A1_5 l1_5.length c1_5]] rfl dz2 ?_; (with_reducible refine (laws_toMend.calls k a1_0 a1_1 _ _ l1_2 _ _ l1_3 a1_4 _ _ l1_5 t333 t334 t335 t338 t341 t342 _ ?side1 ?side2 ?side3 ?side4 ?side5 ?side6 A23.out).mono ?_); (case side1 => exact Kd.C_below HR1_2.out dz14); (case side2 => exact HC1_2.out); (case side3 => exact Kd.C_below HR1_3.out dz14); (case side4 => exact HC1_3.out); (case side5 => exact Kd.C_below HR1_5.out dz14); (case side6 => exact HC1_5.out); rintro e w55 ⟨v336, v339, v343, rfl, ho0, ho1, ho2, hb⟩; refine ⟨_, rfl, ?_⟩; have n0_ := Aside0.mk (Kd.R_elder' (by (with_reducible repeat (first | apply Kd.R_alloc | apply Kd.R_drewN | apply Kd.R_drew)); exact (Kd.R_mono (Kd.R_far (p := ⟨gb332, 1, none⟩) (Kd.R_far (p := ⟨gb332, 0, none⟩) (Kd.R_types HO313.out BK332.out (by decide)) (fun _ hk => hk.2) (.slice Ao50 t328.length co50)) (fun _ hk => hk.2) (.int .i64 t331)) (fun _ h_ => h_.1))) (Kd.R_base ho0) hb); have n1_ := Aside0.mk (Kd.R_elder' (by (with_reducible repeat (first | apply Kd.R_alloc | apply Kd.R_drewN | apply Kd.R_drew)); exact (Kd.R_mono (Kd.R_far (p := ⟨gb332, 1, none⟩) (Kd.R_far (p := ⟨gb332, 0, none⟩) (Kd.R_types HO319.out BK332.out (by decide)) (fun _ hk => hk.2) (.slice Ao50 t328.length co50)) (fun _ hk => hk.2) (.int .i64 t331)) (fun _ h_ => h_.1))) (Kd.R_base ho0) hb); have n2_ := Aside0.mk (Kd.R_elder' (by (with_reducible repeat (first | apply Kd.R_alloc | apply Kd.R_drewN | apply Kd.R_drew)); exact (Kd.R_mono (Kd.R_far (p := ⟨gb332, 1, none⟩) (Kd.R_far (p := ⟨gb332, 0, none⟩) (Kd.R_types HO322.out BK332.out (by decide)) (fun _ hk => hk.2) (.slice Ao50 t328.length co50)) (fun _ hk => hk.2) (.int .i64 t331)) (fun _ h_ => h_.1))) (Kd.R_base ho1) hb); have n3_ := Aside0.mk (Kd.S_mono (Kd.S_told (Kd.S_told (Kd.S_old (by (with_reducible repeat (first | apply Kd.S_alloc | apply Kd.S_drewN | apply Kd.S_drew)); exact (Kd.S_mono (Kd.S_far (p := ⟨gb332, 1, none⟩) (Kd.S_far (p := ⟨gb332, 0, none⟩) (Kd.S_types HO326.out BK332.out (by decide)) (fun _ hk => hk.2) (.slice Ao50 t328.length co50)) (fun _ hk => hk.2) (.int .i64 t331)) (fun _ h_ => h_.1))) hb) (Kd.R_base ho0)) (Kd.S_base ho2)) (fun _ h_ => h_.1)); have n4_ := Aside0.mk (Kd.R_elder' (by (with_reducible repeat (first | apply Kd.R_alloc | apply Kd.R_drewN | apply Kd.R_drew)); exact (Kd.R_mono (Kd.R_far (p := ⟨gb332, 1, none⟩) (Kd.R_far (p := ⟨gb332, 0, none⟩) (Kd.R_types HO330.out BK332.out (by decide)) (fun _ hk => hk.2) (.slice Ao50 t328.length co50)) (fun _ hk => hk.2) (.int .i64 t331)) (fun _ h_ => h_.1))) (Kd.R_base ho0) hb); have n5_ := Aside0.mk (Kd.R_lower (Kd.R_new' (Kd.R_new' (Kd.R_new' ho0 (Kd.R_lt (by (with_reducible repeat (first | apply Kd.R_alloc | apply Kd.R_drewN | apply Kd.R_drew)); exact (Kd.R_mono (Kd.R_far (p := ⟨gb332, 1, none⟩) (Kd.R_far (p := ⟨gb332, 0, none⟩) (Kd.R_types HO313.out BK332.out (by decide)) (fun _ hk => hk.2) (.slice Ao50 t328.length co50)) (fun _ hk => hk.2) (.int .i64 t331)) (fun _ h_ => h_.1))))) (Kd.R_lt (by (with_reducible repeat (first | apply Kd.R_alloc | apply Kd.R_drewN | apply Kd.R_drew)); exact (Kd.R_mono (Kd.R_far (p := ⟨gb332, 1, none⟩) (Kd.R_far (p := ⟨gb332, 0, none⟩) (Kd.R_types HO319.out BK332.out (by decide)) (fun _ hk => hk.2) (.slice Ao50 t328.length co50)) (fun _ hk => hk.2) (.int .i64 t331)) (fun _ h_ => h_.1))))) (Kd.R_lt (by (with_reducible repeat (first | apply Kd.R_alloc | apply Kd.R_drewN | apply Kd.R_drew)); exact (Kd.R_mono (Kd.R_far (p := ⟨gb332, 1, none⟩) (Kd.R_far (p := ⟨gb332, 0, none⟩) (Kd.R_types HO330.out BK332.out (by decide)) (fun _ hk => hk.2) (.slice Ao50 t328.length co50)) (fun _ hk => hk.2) (.int .i64 t331)) (fun _ h_ => h_.1))))) (below_size dz14)); have n6_ := Aside0.mk (Kd.R_lower (Kd.R_new' ho1 (Kd.R_lt (by (with_reducible repeat (first | apply Kd.R_alloc | apply Kd.R_drewN | apply Kd.R_drew)); exact (Kd.R_mono (Kd.R_far (p := ⟨gb332, 1, none⟩) (Kd.R_far (p := ⟨gb332, 0, none⟩) (Kd.R_types HO322.out BK332.out (by decide)) (fun _ hk => hk.2) (.slice Ao50 t328.length co50)) (fun _ hk => hk.2) (.int .i64 t331)) (fun _ h_ => h_.1))))) (below_size dz14)); have n7_ := Aside0.mk (Kd.S_lower (Kd.S_new' (Kd.S_new' (Kd.S_new' (Kd.S_new' ho2 (Kd.R_lt (by (with_reducible repeat (first | apply Kd.R_alloc | apply Kd.R_drewN | apply Kd.R_drew)); exact (Kd.R_mono (Kd.R_far (p := ⟨gb332, 1, none⟩) (Kd.R_far (p := ⟨gb332, 0, none⟩) (Kd.R_types HO313.out BK332.out (by decide)) (fun _ hk => hk.2) (.slice Ao50 t328.length co50)) (fun _ hk => hk.2) (.int .i64 t331)) (fun _ h_ => h_.1))))) (Kd.R_lt (by (with_reducible repeat (first | apply Kd.R_alloc | apply Kd.R_drewN | apply Kd.R_drew)); exact (Kd.R_mono (Kd.R_far (p := ⟨gb332, 1, none⟩) (Kd.R_far (p := ⟨gb332, 0, none⟩) (Kd.R_types HO319.out BK332.out (by decide)) (fun _ hk => hk.2) (.slice Ao50 t328.length co50)) (fun _ hk => hk.2) (.int .i64 t331)) (fun _ h_ => h_.1))))) (Kd.S_lt (by (with_reducible repeat (first | apply Kd.S_alloc | apply Kd.S_drewN | apply Kd.S_drew)); exact (Kd.S_mono (Kd.S_far (p := ⟨gb332, 1, none⟩) (Kd.S_far (p := ⟨gb332, 0, none⟩) (Kd.S_types HO326.out BK332.out (by decide)) (fun _ hk => hk.2) (.slice Ao50 t328.length co50)) (fun _ hk => hk.2) (.int .i64 t331)) (fun _ h_ => h_.1))))) (Kd.R_lt (by (with_reducible repeat (first | apply Kd.R_alloc | apply Kd.R_drewN | apply Kd.R_drew)); exact (Kd.R_mono (Kd.R_far (p := ⟨gb332, 1, none⟩) (Kd.R_far (p := ⟨gb332, 0, none⟩) (Kd.R_types HO330.out BK332.out (by decide)) (fun _ hk => hk.2) (.slice Ao50 t328.length co50)) (fun _ hk => hk.2) (.int .i64 t331)) (fun _ h_ => h_.1))))) (below_size dz14)); have n8_ := Aside0.mk (blk_below (g := gb307) (o := .cells #[.slice A0_0 l0_0.length c0_0, .int .i64 a0_1] 24 (0, 0)) (by (with_reducible repeat (first | refine blk_drewN ?_ _ | refine blk_drew ?_ | refine blk_alloc ?_ _)); refine blk_far ?_ NB307_332.out _; (with_reducible repeat (first | refine blk_drewN ?_ _ | refine blk_drew ?_ | refine blk_alloc ?_ _)); refine blk_far ?_ NB307_332.out _; (with_reducible repeat (first | refine blk_drewN ?_ _ | refine blk_drew ?_ | refine blk_alloc ?_ _)); exact BK307.out) hb); have n9_ := Aside0.mk (blk_below (g := gb308) (o := .cells #[.int .i64 a1_0, .int .i64 a1_1, .slice A1_2 l1_2.length c1_2, .slice A1_3 l1_3.length c1_3, .bool a1_4, .slice A1_5 l1_5.length c1_5] 28 (0, 0)) (by (with_reducible repeat (first | refine blk_drewN ?_ _ | refine blk_drew ?_ | refine blk_alloc ?_ _)); refine blk_far ?_ NB308_332.out _; (with_reducible repeat (first | refine blk_drewN ?_ _ | refine blk_drew ?_ | refine blk_alloc ?_ _)); refine blk_far ?_ NB308_332.out _; (with_reducible repeat (first | refine blk_drewN ?_ _ | refine blk_drew ?_ | refine blk_alloc ?_ _)); exact BK308.out) hb); have n10_ := Aside0.mk (blk_below (g := gb332) (o := .cells #[.slice Ao50 t328.length co50, .int .i64 t331] 32 (0, 0)) (by (with_reducible repeat (first | refine blk_drewN ?_ _ | refine blk_drew ?_ | refine blk_alloc ?_ _)); refine blk_put (cs := #[.slice Ao50 t328.length co50, .int .i64 0]) ?_ 1 _ rfl; (with_reducible repeat (first | refine blk_drewN ?_ _ | refine blk_drew ?_ | refine blk_alloc ?_ _)); refine blk_put (cs := #[.slice none 0 0, .int .i64 0]) ?_ 0 _ rfl; (with_reducible repeat (first | refine blk_drewN ?_ _ | refine blk_drew ?_ | refine blk_alloc ?_ _)); exact BK332.out) hb); have n11_ := Aside0.mk (below_step dz14 hb); clear HO313; clear HO319; clear HO322; clear HO326; clear HO330; clear BK307; clear BK308; clear BK332; clear HB; have HO313 := n0_; have HO319 := n1_; have HO322 := n2_; have HO326 := n3_; have HO330 := n4_; have HO337 := n5_; have HO340 := n6_; have HO344 := n7_; have BK307 := n8_; have BK308 := n9_; have BK332 := n10_; have HB := n11_; clear n0_ n1_ n2_ n3_ n4_ n5_ n6_ n7_ n8_ n9_ n10_ n11_; (try clear hb); (try clear hb2); (try clear hk); (try clear hi); (try clear ho0); (try clear ho1); (try clear ho2)) | ((with_reducible refine gate_dst (N := 8) rfl ?_); refine box_event kr_ (N := 8) kr_ (cs := #[.int .i64 0, .int .i64 0, .slice none 0 0, .slice none 0 0, .bool false, .slice none 0 0]) (t := 36) ks_ ?_; intro gb345 hg w56 hbox hb; have n0_ := (rbb_ HO313 hb); have n1_ := (rbb_ HO319 hb); have n2_ := (rbb_ HO322 hb); have n3_ := (sbb_ HO326 hb); have n4_ := (rbb_ HO330 hb); have n5_ := (rbb_ HO337 hb); have n6_ := (rbb_ HO340 hb); have n7_ := (sbb_ HO344 hb); have n8_ := (bkb_ BK307 hb); have n9_ := (bkb_ BK308 hb); have n10_ := (bkb_ BK332 hb); have n11_ := Aside0.mk (below_step dz14 hb); have n12_ := Aside0.mk (hbox); have n13_ := Aside0.mk ((by rw [hg]; exact (below_size dz14) : w.heap.size ≤ gb345)); have n14_ := Aside0.mk ((by rw [hg]; exact (below_size dz14) : w.heap.size ≤ gb345)); have n15_ := Aside0.mk ((by rw [hg]; exact Nat.ne_of_lt (blk_lt (g := gb307) (o := .cells #[.slice A0_0 l0_0.length c0_0, .int .i64 a0_1] 24 (0, 0)) dz12) : gb307 ≠ gb345)); have n16_ := Aside0.mk ((by rw [hg]; exact Nat.ne_of_gt (blk_lt (g := gb307) (o := .cells #[.slice A0_0 l0_0.length c0_0, .int .i64 a0_1] 24 (0, 0)) dz12) : gb345 ≠ gb307)); have n17_ := Aside0.mk ((by rw [hg]; exact Nat.ne_of_lt (blk_lt (g := gb308) (o := .cells #[.int .i64 a1_0, .int .i64 a1_1, .slice A1_2 l1_2.length c1_2, .slice A1_3 l1_3.length c1_3, .bool a1_4, .slice A1_5 l1_5.length c1_5] 28 (0, 0)) dz32) : gb308 ≠ gb345)); have n18_ := Aside0.mk ((by rw [hg]; exact Nat.ne_of_gt (blk_lt (g := gb308) (o := .cells #[.int .i64 a1_0, .int .i64 a1_1, .slice A1_2 l1_2.length c1_2, .slice A1_3 l1_3.length c1_3, .bool a1_4, .slice A1_5 l1_5.length c1_5] 28 (0, 0)) dz32) : gb345 ≠ gb308)); have n19_ := Aside0.mk ((by rw [hg]; exact Nat.ne_of_lt (blk_lt (g := gb332) (o := .cells #[.slice Ao50 t328.length co50, .int .i64 t331] 32 (0, 0)) dz68) : gb332 ≠ gb345)); have n20_ := Aside0.mk ((by rw [hg]; exact Nat.ne_of_gt (blk_lt (g := gb332) (o := .cells #[.slice Ao50 t328.length co50, .int .i64 t331] 32 (0, 0)) dz68) : gb345 ≠ gb332)); clear HO313; clear HO319; clear HO322; clear HO326; clear HO330; clear HO337; clear HO340; clear HO344; clear BK307; clear BK308; clear BK332; clear HB; have HO313 := n0_; have HO319 := n1_; have HO322 := n2_; have HO326 := n3_; have HO330 := n4_; have HO337 := n5_; have HO340 := n6_; have HO344 := n7_; have BK307 := n8_; have BK308 := n9_; have BK332 := n10_; have HB := n11_; have BK345 := n12_; have GW345 := n13_; have GE345 := n14_; have NB307_345 := n15_; have NB345_307 := n16_; have NB308_345 := n17_; have NB345_308 := n18_; have NB332_345 := n19_; have NB345_332 := n20_; clear n0_ n1_ n2_ n3_ n4_ n5_ n6_ n7_ n8_ n9_ n10_ n11_ n12_ n13_ n14_ n15_ n16_ n17_ n18_ n19_ n20_; clear hb hbox hg; have hnb57 := NB345_307.out; have hnc57 := NB307_345.out; have hnb58 := NB345_308.out; have hnc58 := NB308_345.out; have hnb59 := NB345_332.out; have hnc59 := NB332_345.out; have hcz60_0 : w56.cell? ⟨gb345, 0, none⟩ = some (.int .i64 0) := (blk_cell BK345.out 0).trans rfl; have hcz60_1 : w56.cell? ⟨gb345, 1, none⟩ = some (.int .i64 0) := (blk_cell BK345.out 1).trans rfl; have hcz60_2 : w56.cell? ⟨gb345, 2, none⟩ = some (.slice none 0 0) := (blk_cell BK345.out 2).trans rfl; have hcz60_3 : w56.cell? ⟨gb345, 3, none⟩ = some (.slice none 0 0) := (blk_cell BK345.out 3).trans rfl; have hcz60_4 : w56.cell? ⟨gb345, 4, none⟩ = some (.bool false) := (blk_cell BK345.out 4).trans rfl; have hcz60_5 : w56.cell? ⟨gb345, 5, none⟩ = some (.slice none 0 0) := (blk_cell BK345.out 5).trans rfl; have hfz60_0 := blk_frozen BK345.out 0; have hfz60_1 := blk_frozen BK345.out 1; have hfz60_2 := blk_frozen BK345.out 2; have hfz60_3 := blk_frozen BK345.out 3; have hfz60_4 := blk_frozen BK345.out 4; have hfz60_5 := blk_frozen BK345.out 5; obtain ⟨Ao61, co61, eo61⟩ := Kd.R_slice HO337.out; subst eo61; obtain ⟨Ao62, co62, eo62⟩ := Kd.R_slice HO340.out; subst eo62; obtain ⟨Ao63, co63, eo63⟩ := Kd.S_slice HO344.out; subst eo63; have hcz64_0 : w56.cell? ⟨gb332, 0, none⟩ = some (.slice Ao50 t328.length co50) := (blk_cell BK332.out 0).trans rfl; have hcz64_1 : w56.cell? ⟨gb332, 1, none⟩ = some (.int .i64 t331) := (blk_cell BK332.out 1).trans rfl; have hfz64_0 := blk_frozen BK332.out 0; have hfz64_1 := blk_frozen BK332.out 1) | ((with_reducible refine gate_callee (f := 14) rfl ?_); refine goesL_ (some 31) rfl rfl Try.func14 (by kernel_rfl) rfl #[.agg #[.slice Ao50 t328.length co50, .int .i64 t331], .agg #[.int .i64 t333, .int .i64 t334, .slice Ao61 t335.length co61, .slice Ao62 t338.length co62, .bool t341, .slice Ao63 t342.length co63]] rfl dz2 ?_; (with_reducible refine (impl_MendReady.calls k _ _ t328 t331 t333 t334 _ _ t335 _ _ t338 t341 _ _ t342 t346 _ ?side1 ?side2 ?side3 ?side4 ?side5 ?side6 ?side7 ?side8 A24.out).mono ?_); (case side1 => refine (Kd.R_reads' (e := 3) (base := w.heap.size) (ok := fun k_ => (((True ∧ some k_ ≠ (.slice Ao42 t311.length co42 : Value).ownBlock) ∧ some k_ ≠ (.slice Ao43 t317.length co43 : Value).ownBlock) ∧ some k_ ≠ (.slice Ao61 t335.length co61 : Value).ownBlock)) (n := t328.length) (c := co50) ?_).2.2; exact (by (with_reducible repeat (first | apply Kd.R_alloc | apply Kd.R_drewN | apply Kd.R_drew)); exact (Kd.R_mono (Kd.R_far (p := ⟨gb345, 5, none⟩) (Kd.R_far (p := ⟨gb345, 4, none⟩) (Kd.R_far (p := ⟨gb345, 3, none⟩) (Kd.R_far (p := ⟨gb345, 2, none⟩) (Kd.R_far (p := ⟨gb345, 1, none⟩) (Kd.R_far (p := ⟨gb345, 0, none⟩) (Kd.R_types HO330.out BK345.out (by decide)) (fun _ hk => hk.2) (.int .i64 t333)) (fun _ hk => hk.2) (.int .i64 t334)) (fun _ hk => hk.2) (.slice Ao61 t335.length co61)) (fun _ hk => hk.2) (.slice Ao62 t338.length co62)) (fun _ hk => hk.2) (.bool t341)) (fun _ hk => hk.2) (.slice Ao63 t342.length co63)) (fun _ h_ => h_.1)))); (case side2 => exact (Kd.R_reads' HO330.out).2.1); (case side3 => refine (Kd.R_reads' (e := 3) (base := w.heap.size) (ok := fun k_ => (((True ∧ some k_ ≠ (.slice Ao42 t311.length co42 : Value).ownBlock) ∧ some k_ ≠ (.slice Ao43 t317.length co43 : Value).ownBlock) ∧ some k_ ≠ (.slice Ao50 t328.length co50 : Value).ownBlock)) (n := t335.length) (c := co61) ?_).2.2; exact (by (with_reducible repeat (first | apply Kd.R_alloc | apply Kd.R_drewN | apply Kd.R_drew)); exact (Kd.R_mono (Kd.R_far (p := ⟨gb345, 5, none⟩) (Kd.R_far (p := ⟨gb345, 4, none⟩) (Kd.R_far (p := ⟨gb345, 3, none⟩) (Kd.R_far (p := ⟨gb345, 2, none⟩) (Kd.R_far (p := ⟨gb345, 1, none⟩) (Kd.R_far (p := ⟨gb345, 0, none⟩) (Kd.R_types HO337.out BK345.out (by decide)) (fun _ hk => hk.2) (.int .i64 t333)) (fun _ hk => hk.2) (.int .i64 t334)) (fun _ hk => hk.2) (.slice Ao61 t335.length co61)) (fun _ hk => hk.2) (.slice Ao62 t338.length co62)) (fun _ hk => hk.2) (.bool t341)) (fun _ hk => hk.2) (.slice Ao63 t342.length co63)) (fun _ h_ => h_.1)))); (case side4 => exact (Kd.R_reads' HO337.out).2.1); (case side5 => refine (Kd.R_reads' (e := 81) (base := w.heap.size) (ok := fun k_ => (True ∧ some k_ ≠ (.slice Ao44 t320.length co44 : Value).ownBlock)) (n := t338.length) (c := co62) ?_).2.2; exact (by (with_reducible repeat (first | apply Kd.R_alloc | apply Kd.R_drewN | apply Kd.R_drew)); exact (Kd.R_mono (Kd.R_far (p := ⟨gb345, 5, none⟩) (Kd.R_far (p := ⟨gb345, 4, none⟩) (Kd.R_far (p := ⟨gb345, 3, none⟩) (Kd.R_far (p := ⟨gb345, 2, none⟩) (Kd.R_far (p := ⟨gb345, 1, none⟩) (Kd.R_far (p := ⟨gb345, 0, none⟩) (Kd.R_types HO340.out BK345.out (by decide)) (fun _ hk => hk.2) (.int .i64 t333)) (fun _ hk => hk.2) (.int .i64 t334)) (fun _ hk => hk.2) (.slice Ao61 t335.length co61)) (fun _ hk => hk.2) (.slice Ao62 t338.length co62)) (fun _ hk => hk.2) (.bool t341)) (fun _ hk => hk.2) (.slice Ao63 t342.length co63)) (fun _ h_ => h_.1)))); (case side6 => exact (Kd.R_reads' HO340.out).2.1); (case side7 => refine (Kd.S_reads' (e := 22) (base := w.heap.size) (ok := fun k_ => ((((some k_ ≠ (.slice Ao61 t335.length co61 : Value).ownBlock ∧ some k_ ≠ (.slice Ao42 t311.length co42 : Value).ownBlock) ∧ some k_ ≠ (.slice Ao43 t317.length co43 : Value).ownBlock) ∧ some k_ ≠ (.slice Ao45 t324.length co45 : Value).ownBlock) ∧ some k_ ≠ (.slice Ao50 t328.length co50 : Value).ownBlock)) (n := t342.length) (c := co63) ?_).2.2; exact (by (with_reducible repeat (first | apply Kd.S_alloc | apply Kd.S_drewN | apply Kd.S_drew)); exact (Kd.S_mono (Kd.S_far (p := ⟨gb345, 5, none⟩) (Kd.S_far (p := ⟨gb345, 4, none⟩) (Kd.S_far (p := ⟨gb345, 3, none⟩) (Kd.S_far (p := ⟨gb345, 2, none⟩) (Kd.S_far (p := ⟨gb345, 1, none⟩) (Kd.S_far (p := ⟨gb345, 0, none⟩) (Kd.S_types HO344.out BK345.out (by decide)) (fun _ hk => hk.2) (.int .i64 t333)) (fun _ hk => hk.2) (.int .i64 t334)) (fun _ hk => hk.2) (.slice Ao61 t335.length co61)) (fun _ hk => hk.2) (.slice Ao62 t338.length co62)) (fun _ hk => hk.2) (.bool t341)) (fun _ hk => hk.2) (.slice Ao63 t342.length co63)) (fun _ h_ => h_.1)))); (case side8 => exact (Kd.S_reads' HO344.out).2.1); rintro e w65 ⟨rfl, hb⟩; refine ⟨_, rfl, ?_⟩; have n0_ := Aside0.mk (Kd.R_below (by (with_reducible repeat (first | apply Kd.R_alloc | apply Kd.R_drewN | apply Kd.R_drew)); exact (Kd.R_mono (Kd.R_far (p := ⟨gb345, 5, none⟩) (Kd.R_far (p := ⟨gb345, 4, none⟩) (Kd.R_far (p := ⟨gb345, 3, none⟩) (Kd.R_far (p := ⟨gb345, 2, none⟩) (Kd.R_far (p := ⟨gb345, 1, none⟩) (Kd.R_far (p := ⟨gb345, 0, none⟩) (Kd.R_types HO313.out BK345.out (by decide)) (fun _ hk => hk.2) (.int .i64 t333)) (fun _ hk => hk.2) (.int .i64 t334)) (fun _ hk => hk.2) (.slice Ao61 t335.length co61)) (fun _ hk => hk.2) (.slice Ao62 t338.length co62)) (fun _ hk => hk.2) (.bool t341)) (fun _ hk => hk.2) (.slice Ao63 t342.length co63)) (fun _ h_ => h_.1))) hb); have n1_ := Aside0.mk (Kd.R_below (by (with_reducible repeat (first | apply Kd.R_alloc | apply Kd.R_drewN | apply Kd.R_drew)); exact (Kd.R_mono (Kd.R_far (p := ⟨gb345, 5, none⟩) (Kd.R_far (p := ⟨gb345, 4, none⟩) (Kd.R_far (p := ⟨gb345, 3, none⟩) (Kd.R_far (p := ⟨gb345, 2, none⟩) (Kd.R_far (p := ⟨gb345, 1, none⟩) (Kd.R_far (p := ⟨gb345, 0, none⟩) (Kd.R_types HO319.out BK345.out (by decide)) (fun _ hk => hk.2) (.int .i64 t333)) (fun _ hk => hk.2) (.int .i64 t334)) (fun _ hk => hk.2) (.slice Ao61 t335.length co61)) (fun _ hk => hk.2) (.slice Ao62 t338.length co62)) (fun _ hk => hk.2) (.bool t341)) (fun _ hk => hk.2) (.slice Ao63 t342.length co63)) (fun _ h_ => h_.1))) hb); have n2_ := Aside0.mk (Kd.R_below (by (with_reducible repeat (first | apply Kd.R_alloc | apply Kd.R_drewN | apply Kd.R_drew)); exact (Kd.R_mono (Kd.R_far (p := ⟨gb345, 5, none⟩) (Kd.R_far (p := ⟨gb345, 4, none⟩) (Kd.R_far (p := ⟨gb345, 3, none⟩) (Kd.R_far (p := ⟨gb345, 2, none⟩) (Kd.R_far (p := ⟨gb345, 1, none⟩) (Kd.R_far (p := ⟨gb345, 0, none⟩) (Kd.R_types HO322.out BK345.out (by decide)) (fun _ hk => hk.2) (.int .i64 t333)) (fun _ hk => hk.2) (.int .i64 t334)) (fun _ hk => hk.2) (.slice Ao61 t335.length co61)) (fun _ hk => hk.2) (.slice Ao62 t338.length co62)) (fun _ hk => hk.2) (.bool t341)) (fun _ hk => hk.2) (.slice Ao63 t342.length co63)) (fun _ h_ => h_.1))) hb); have n3_ := Aside0.mk (Kd.S_below (by (with_reducible repeat (first | apply Kd.S_alloc | apply Kd.S_drewN | apply Kd.S_drew)); exact (Kd.S_mono (Kd.S_far (p := ⟨gb345, 5, none⟩) (Kd.S_far (p := ⟨gb345, 4, none⟩) (Kd.S_far (p := ⟨gb345, 3, none⟩) (Kd.S_far (p := ⟨gb345, 2, none⟩) (Kd.S_far (p := ⟨gb345, 1, none⟩) (Kd.S_far (p := ⟨gb345, 0, none⟩) (Kd.S_types HO326.out BK345.out (by decide)) (fun _ hk => hk.2) (.int .i64 t333)) (fun _ hk => hk.2) (.int .i64 t334)) (fun _ hk => hk.2) (.slice Ao61 t335.length co61)) (fun _ hk => hk.2) (.slice Ao62 t338.length co62)) (fun _ hk => hk.2) (.bool t341)) (fun _ hk => hk.2) (.slice Ao63 t342.length co63)) (fun _ h_ => h_.1))) hb); have n4_ := Aside0.mk (Kd.R_below (by (with_reducible repeat (first | apply Kd.R_alloc | apply Kd.R_drewN | apply Kd.R_drew)); exact (Kd.R_mono (Kd.R_far (p := ⟨gb345, 5, none⟩) (Kd.R_far (p := ⟨gb345, 4, none⟩) (Kd.R_far (p := ⟨gb345, 3, none⟩) (Kd.R_far (p := ⟨gb345, 2, none⟩) (Kd.R_far (p := ⟨gb345, 1, none⟩) (Kd.R_far (p := ⟨gb345, 0, none⟩) (Kd.R_types HO330.out BK345.out (by decide)) (fun _ hk => hk.2) (.int .i64 t333)) (fun _ hk => hk.2) (.int .i64 t334)) (fun _ hk => hk.2) (.slice Ao61 t335.length co61)) (fun _ hk => hk.2) (.slice Ao62 t338.length co62)) (fun _ hk => hk.2) (.bool t341)) (fun _ hk => hk.2) (.slice Ao63 t342.length co63)) (fun _ h_ => h_.1))) hb); have n5_ := Aside0.mk (Kd.R_below (by (with_reducible repeat (first | apply Kd.R_alloc | apply Kd.R_drewN | apply Kd.R_drew)); exact (Kd.R_mono (Kd.R_far (p := ⟨gb345, 5, none⟩) (Kd.R_far (p := ⟨gb345, 4, none⟩) (Kd.R_far (p := ⟨gb345, 3, none⟩) (Kd.R_far (p := ⟨gb345, 2, none⟩) (Kd.R_far (p := ⟨gb345, 1, none⟩) (Kd.R_far (p := ⟨gb345, 0, none⟩) (Kd.R_types HO337.out BK345.out (by decide)) (fun _ hk => hk.2) (.int .i64 t333)) (fun _ hk => hk.2) (.int .i64 t334)) (fun _ hk => hk.2) (.slice Ao61 t335.length co61)) (fun _ hk => hk.2) (.slice Ao62 t338.length co62)) (fun _ hk => hk.2) (.bool t341)) (fun _ hk => hk.2) (.slice Ao63 t342.length co63)) (fun _ h_ => h_.1))) hb); have n6_ := Aside0.mk (Kd.R_below (by (with_reducible repeat (first | apply Kd.R_alloc | apply Kd.R_drewN | apply Kd.R_drew)); exact (Kd.R_mono (Kd.R_far (p := ⟨gb345, 5, none⟩) (Kd.R_far (p := ⟨gb345, 4, none⟩) (Kd.R_far (p := ⟨gb345, 3, none⟩) (Kd.R_far (p := ⟨gb345, 2, none⟩) (Kd.R_far (p := ⟨gb345, 1, none⟩) (Kd.R_far (p := ⟨gb345, 0, none⟩) (Kd.R_types HO340.out BK345.out (by decide)) (fun _ hk => hk.2) (.int .i64 t333)) (fun _ hk => hk.2) (.int .i64 t334)) (fun _ hk => hk.2) (.slice Ao61 t335.length co61)) (fun _ hk => hk.2) (.slice Ao62 t338.length co62)) (fun _ hk => hk.2) (.bool t341)) (fun _ hk => hk.2) (.slice Ao63 t342.length co63)) (fun _ h_ => h_.1))) hb); have n7_ := Aside0.mk (Kd.S_below (by (with_reducible repeat (first | apply Kd.S_alloc | apply Kd.S_drewN | apply Kd.S_drew)); exact (Kd.S_mono (Kd.S_far (p := ⟨gb345, 5, none⟩) (Kd.S_far (p := ⟨gb345, 4, none⟩) (Kd.S_far (p := ⟨gb345, 3, none⟩) (Kd.S_far (p := ⟨gb345, 2, none⟩) (Kd.S_far (p := ⟨gb345, 1, none⟩) (Kd.S_far (p := ⟨gb345, 0, none⟩) (Kd.S_types HO344.out BK345.out (by decide)) (fun _ hk => hk.2) (.int .i64 t333)) (fun _ hk => hk.2) (.int .i64 t334)) (fun _ hk => hk.2) (.slice Ao61 t335.length co61)) (fun _ hk => hk.2) (.slice Ao62 t338.length co62)) (fun _ hk => hk.2) (.bool t341)) (fun _ hk => hk.2) (.slice Ao63 t342.length co63)) (fun _ h_ => h_.1))) hb); have n8_ := Aside0.mk (blk_below (g := gb307) (o := .cells #[.slice A0_0 l0_0.length c0_0, .int .i64 a0_1] 24 (0, 0)) (by (with_reducible repeat (first | refine blk_drewN ?_ _ | refine blk_drew ?_ | refine blk_alloc ?_ _)); refine blk_far ?_ NB307_345.out _; (with_reducible repeat (first | refine blk_drewN ?_ _ | refine blk_drew ?_ | refine blk_alloc ?_ _)); refine blk_far ?_ NB307_345.out _; (with_reducible repeat (first | refine blk_drewN ?_ _ | refine blk_drew ?_ | refine blk_alloc ?_ _)); refine blk_far ?_ NB307_345.out _; (with_reducible repeat (first | refine blk_drewN ?_ _ | refine blk_drew ?_ | refine blk_alloc ?_ _)); refine blk_far ?_ NB307_345.out _; (with_reducible repeat (first | refine blk_drewN ?_ _ | refine blk_drew ?_ | refine blk_alloc ?_ _)); refine blk_far ?_ NB307_345.out _; (with_reducible repeat (first | refine blk_drewN ?_ _ | refine blk_drew ?_ | refine blk_alloc ?_ _)); refine blk_far ?_ NB307_345.out _; (with_reducible repeat (first | refine blk_drewN ?_ _ | refine blk_drew ?_ | refine blk_alloc ?_ _)); exact BK307.out) hb); have n9_ := Aside0.mk (blk_below (g := gb308) (o := .cells #[.int .i64 a1_0, .int .i64 a1_1, .slice A1_2 l1_2.length c1_2, .slice A1_3 l1_3.length c1_3, .bool a1_4, .slice A1_5 l1_5.length c1_5] 28 (0, 0)) (by (with_reducible repeat (first | refine blk_drewN ?_ _ | refine blk_drew ?_ | refine blk_alloc ?_ _)); refine blk_far ?_ NB308_345.out _; (with_reducible repeat (first | refine blk_drewN ?_ _ | refine blk_drew ?_ | refine blk_alloc ?_ _)); refine blk_far ?_ NB308_345.out _; (with_reducible repeat (first | refine blk_drewN ?_ _ | refine blk_drew ?_ | refine blk_alloc ?_ _)); refine blk_far ?_ NB308_345.out _; (with_reducible repeat (first | refine blk_drewN ?_ _ | refine blk_drew ?_ | refine blk_alloc ?_ _)); refine blk_far ?_ NB308_345.out _; (with_reducible repeat (first | refine blk_drewN ?_ _ | refine blk_drew ?_ | refine blk_alloc ?_ _)); refine blk_far ?_ NB308_345.out _; (with_reducible repeat (first | refine blk_drewN ?_ _ | refine blk_drew ?_ | refine blk_alloc ?_ _)); refine blk_far ?_ NB308_345.out _; (with_reducible repeat (first | refine blk_drewN ?_ _ | refine blk_drew ?_ | refine blk_alloc ?_ _)); exact BK308.out) hb); have n10_ := Aside0.mk (blk_below (g := gb332) (o := .cells #[.slice Ao50 t328.length co50, .int .i64 t331] 32 (0, 0)) (by (with_reducible repeat (first | refine blk_drewN ?_ _ | refine blk_drew ?_ | refine blk_alloc ?_ _)); refine blk_far ?_ NB332_345.out _; (with_reducible repeat (first | refine blk_drewN ?_ _ | refine blk_drew ?_ | refine blk_alloc ?_ _)); refine blk_far ?_ NB332_345.out _; (with_reducible repeat (first | refine blk_drewN ?_ _ | refine blk_drew ?_ | refine blk_alloc ?_ _)); refine blk_far ?_ NB332_345.out _; (with_reducible repeat (first | refine blk_drewN ?_ _ | refine blk_drew ?_ | refine blk_alloc ?_ _)); refine blk_far ?_ NB332_345.out _; (with_reducible repeat (first | refine blk_drewN ?_ _ | refine blk_drew ?_ | refine blk_alloc ?_ _)); refine blk_far ?_ NB332_345.out _; (with_reducible repeat (first | refine blk_drewN ?_ _ | refine blk_drew ?_ | refine blk_alloc ?_ _)); refine blk_far ?_ NB332_345.out _; (with_reducible repeat (first | refine blk_drewN ?_ _ | refine blk_drew ?_ | refine blk_alloc ?_ _)); exact BK332.out) hb); have n11_ := Aside0.mk (blk_below (g := gb345) (o := .cells #[.int .i64 t333, .int .i64 t334, .slice Ao61 t335.length co61, .slice Ao62 t338.length co62, .bool t341, .slice Ao63 t342.length co63] 36 (0, 0)) (by (with_reducible repeat (first | refine blk_drewN ?_ _ | refine blk_drew ?_ | refine blk_alloc ?_ _)); refine blk_put (cs := #[.int .i64 t333, .int .i64 t334, .slice Ao61 t335.length co61, .slice Ao62 t338.length co62, .bool t341, .slice none 0 0]) ?_ 5 _ rfl; (with_reducible repeat (first | refine blk_drewN ?_ _ | refine blk_drew ?_ | refine blk_alloc ?_ _)); refine blk_put (cs := #[.int .i64 t333, .int .i64 t334, .slice Ao61 t335.length co61, .slice Ao62 t338.length co62, .bool false, .slice none 0 0]) ?_ 4 _ rfl; (with_reducible repeat (first | refine blk_drewN ?_ _ | refine blk_drew ?_ | refine blk_alloc ?_ _)); refine blk_put (cs := #[.int .i64 t333, .int .i64 t334, .slice Ao61 t335.length co61, .slice none 0 0, .bool false, .slice none 0 0]) ?_ 3 _ rfl; (with_reducible repeat (first | refine blk_drewN ?_ _ | refine blk_drew ?_ | refine blk_alloc ?_ _)); refine blk_put (cs := #[.int .i64 t333, .int .i64 t334, .slice none 0 0, .slice none 0 0, .bool false, .slice none 0 0]) ?_ 2 _ rfl; (with_reducible repeat (first | refine blk_drewN ?_ _ | refine blk_drew ?_ | refine blk_alloc ?_ _)); refine blk_put (cs := #[.int .i64 t333, .int .i64 0, .slice none 0 0, .slice none 0 0, .bool false, .slice none 0 0]) ?_ 1 _ rfl; (with_reducible repeat (first | refine blk_drewN ?_ _ | refine blk_drew ?_ | refine blk_alloc ?_ _)); refine blk_put (cs := #[.int .i64 0, .int .i64 0, .slice none 0 0, .slice none 0 0, .bool false, .slice none 0 0]) ?_ 0 _ rfl; (with_reducible repeat (first | refine blk_drewN ?_ _ | refine blk_drew ?_ | refine blk_alloc ?_ _)); exact BK345.out) hb); have n12_ := Aside0.mk (below_step dz17 hb); clear HO313; clear HO319; clear HO322; clear HO326; clear HO330; clear HO337; clear HO340; clear HO344; clear BK307; clear BK308; clear BK332; clear BK345; clear HB; have HO313 := n0_; have HO319 := n1_; have HO322 := n2_; have HO326 := n3_; have HO330 := n4_; have HO337 := n5_; have HO340 := n6_; have HO344 := n7_; have BK307 := n8_; have BK308 := n9_; have BK332 := n10_; have BK345 := n11_; have HB := n12_; clear n0_ n1_ n2_ n3_ n4_ n5_ n6_ n7_ n8_ n9_ n10_ n11_ n12_; (try clear hb); (try clear hb2); (try clear hk); (try clear hi)))
      have n0_ := Aside0.mk (Kd.R_drew HO313.out)
      have n1_ := Aside0.mk (Kd.R_drew HO319.out)
      have n2_ := Aside0.mk (Kd.R_drew HO322.out)
      have n3_ := Aside0.mk (Kd.S_drew HO326.out)
      have n4_ := Aside0.mk (Kd.R_drew HO330.out)
      have n5_ := Aside0.mk (Kd.R_drew HO337.out)
      have n6_ := Aside0.mk (Kd.R_drew HO340.out)
      have n7_ := Aside0.mk (Kd.S_drew HO344.out)
      have n8_ := Aside0.mk (blk_drew BK307.out)
      have n9_ := Aside0.mk (blk_drew BK308.out)
      have n10_ := Aside0.mk (blk_drew BK332.out)
      have n11_ := Aside0.mk (blk_drew BK345.out)
      have n12_ := Aside0.mk (below_drew1 HB.out)
      clear HO313
      clear HO319
      clear HO322
      clear HO326
      clear HO330
      clear HO337
      clear HO340
      clear HO344
      clear BK307
      clear BK308
      clear BK332
      clear BK345
      clear HB
      have HO313 := n0_
      have HO319 := n1_
      have HO322 := n2_
      have HO326 := n3_
      have HO330 := n4_
      have HO337 := n5_
      have HO340 := n6_
      have HO344 := n7_
      have BK307 := n8_
      have BK308 := n9_
      have BK332 := n10_
      have BK345 := n11_
      have HB := n12_
      clear n0_ n1_ n2_ n3_ n4_ n5_ n6_ n7_ n8_ n9_ n10_ n11_ n12_
      refine start_ (n := 5) (S := fun w' => w'.cell? ⟨gb332, 0, none⟩ = some (.slice Ao50 t328.length co50) ∧ w'.cell? ⟨gb332, 1, none⟩ = some (.int .i64 t331) ∧ w'.cell? ⟨gb307, 0, none⟩ = some (.slice A0_0 l0_0.length c0_0) ∧ w'.cell? ⟨gb307, 1, none⟩ = some (.int .i64 a0_1)) (ds := []) #[false, false, false, false, false] (by kernel_rfl) rfl rfl ⟨(blk_cell BK332.out 0).trans rfl, (blk_cell BK332.out 1).trans rfl, (blk_cell BK307.out 0).trans rfl, (blk_cell BK307.out 1).trans rfl⟩ (fun hHeld => ?_)
      generalize w65.drew = w66 at HO313 HO319 HO322 HO326 HO330 HO337 HO340 HO344 BK307 BK308 BK332 BK345 HB hHeld ⊢
      refine take_ (i := 0) (N := some 35) (v := ?_) (a' := ?_) #[true, false, false, false, false] rfl rfl (by kernel_rfl) (fun _ _ _ h => h) (Or.inl ⟨by rfl, ?_⟩) hHeld ?_ ?_
      rotate_left
      · rintro w' ⟨s0, s1, s2, s3⟩
        go_simp
        with_reducible rfl
      rotate_left
      · exact dz70
      refine take_ (i := 1) (N := some 36) (v := ?_) (a' := ?_) #[true, true, false, false, false] rfl rfl (by kernel_rfl) (fun _ _ _ h => h) (Or.inl ⟨by rfl, ?_⟩) hHeld ?_ ?_
      rotate_left
      · rintro w' ⟨s0, s1, s2, s3⟩
        go_simp
        with_reducible rfl
      rotate_left
      · exact dz70
      refine one_ (i := 2) (N := some 37) #[true, true, true, false, false] rfl rfl (by kernel_rfl) (by decide) (fun K hK => ?_)
      refine goes_ Try.func12 (by kernel_rfl) rfl #[.agg #[.slice A0_0 l0_0.length c0_0, .int .i64 a0_1]] (by rfl) rfl rfl dz2 ?_
      with_reducible refine (laws_toConfig.calls k _ _ l0_0 a0_1 t347 t350 _ ?side1 ?side2 A26.out).mono ?_
      (case side1 => repeat (first | exact (Kd.C_below HR0_0.out HB.out) | (with_reducible refine Kd.C_alloc ?_ _) | (with_reducible refine Kd.C_drewN ?_ _) | (with_reducible refine Kd.C_drew ?_)))
      (case side2 => exact HC0_0.out)
      rintro e w67 ⟨v348, rfl, ho0, hb⟩
      refine ⟨_, rfl, ?_⟩
      have n0_ := Aside0.mk (Kd.R_elder' dz13 (Kd.R_base ho0) hb)
      have n1_ := Aside0.mk (Kd.R_elder' dz19 (Kd.R_base ho0) hb)
      have n2_ := (rbb_ HO322 hb)
      have n3_ := Aside0.mk (Kd.S_elder' dz31 (Kd.R_base ho0) hb)
      have n4_ := Aside0.mk (Kd.R_elder' dz23 (Kd.R_base ho0) hb)
      have n5_ := Aside0.mk (Kd.R_elder' dz24 (Kd.R_base ho0) hb)
      have n6_ := (rbb_ HO340 hb)
      have n7_ := Aside0.mk (Kd.S_elder' dz50 (Kd.R_base ho0) hb)
      have n8_ := Aside0.mk (Kd.R_lower (Kd.R_new' (Kd.R_new' (Kd.R_new' (Kd.R_new' ho0 (Kd.R_lt dz13)) (Kd.R_lt dz19)) (Kd.R_lt dz23)) (Kd.R_lt dz24)) (below_size dz17))
      have n9_ := (bkb_ BK307 hb)
      have n10_ := (bkb_ BK308 hb)
      have n11_ := (bkb_ BK332 hb)
      have n12_ := (bkb_ BK345 hb)
      have n13_ := Aside0.mk (below_step dz17 hb)
      clear HO313
      clear HO319
      clear HO322
      clear HO326
      clear HO330
      clear HO337
      clear HO340
      clear HO344
      clear BK307
      clear BK308
      clear BK332
      clear BK345
      clear HB
      have HO313 := n0_
      have HO319 := n1_
      have HO322 := n2_
      have HO326 := n3_
      have HO330 := n4_
      have HO337 := n5_
      have HO340 := n6_
      have HO344 := n7_
      have HO349 := n8_
      have BK307 := n9_
      have BK308 := n10_
      have BK332 := n11_
      have BK345 := n12_
      have HB := n13_
      clear n0_ n1_ n2_ n3_ n4_ n5_ n6_ n7_ n8_ n9_ n10_ n11_ n12_ n13_
      (try clear hb)
      (try clear hb2)
      (try clear hk)
      (try clear hi)
      (try clear ho0)
      obtain ⟨Ao68, co68, eo68⟩ := Kd.R_slice HO349.out
      (first | subst eo68 | (injection eo68 with f1_ f2_ f3_; have f4_ := f1_.symm; have f5_ := f3_.symm; clear f1_ f2_ f3_; subst f4_; subst f5_))
      refine hK.out _ _ ⟨(blk_cell BK332.out 0).trans rfl, (blk_cell BK332.out 1).trans rfl, (blk_cell BK307.out 0).trans rfl, (blk_cell BK307.out 1).trans rfl⟩ (fun hHeld => ?_)
      clear hK K
      refine norm_ (a' := ?_) ?_ ?_
      rotate_left
      · show Act.put _ (some 37) _ = _
        simp only [Act.put, List.setIfInBounds_toArray, List.set_cons_zero, List.set_cons_succ, i64_w, i32_w]
        rfl
      refine one_ (i := 3) (N := some 38) #[true, true, true, true, false] rfl rfl (by kernel_rfl) (by decide) (fun K hK => ?_)
      refine goes_ Try.func15 (by kernel_rfl) rfl #[.agg #[.slice Ao50 t328.length co50, .int .i64 t331], .agg #[.slice Ao68 t347.length co68, .int .i64 t350]] (by rfl) rfl rfl dz2 ?_
      with_reducible refine (laws_eqConfig.calls k _ _ t328 t331 _ _ t347 t350 true _ ?side1 ?side2 ?side3 ?side4 A27.out).mono ?_
      (case side1 => repeat (first | exact (Kd.R_reads' HO330.out).2.2 | (with_reducible refine Kd.C_alloc ?_ _) | (with_reducible refine Kd.C_drewN ?_ _) | (with_reducible refine Kd.C_drew ?_)))
      (case side2 => exact (Kd.R_reads' HO330.out).2.1)
      (case side3 => repeat (first | exact (Kd.R_reads' HO349.out).2.2 | (with_reducible refine Kd.C_alloc ?_ _) | (with_reducible refine Kd.C_drewN ?_ _) | (with_reducible refine Kd.C_drew ?_)))
      (case side4 => exact (Kd.R_reads' HO349.out).2.1)
      rintro e w69 ⟨rfl, hb⟩
      refine ⟨_, rfl, ?_⟩
      have n0_ := (rbb_ HO313 hb)
      have n1_ := (rbb_ HO319 hb)
      have n2_ := (rbb_ HO322 hb)
      have n3_ := (sbb_ HO326 hb)
      have n4_ := (rbb_ HO330 hb)
      have n5_ := (rbb_ HO337 hb)
      have n6_ := (rbb_ HO340 hb)
      have n7_ := (sbb_ HO344 hb)
      have n8_ := (rbb_ HO349 hb)
      have n9_ := (bkb_ BK307 hb)
      have n10_ := (bkb_ BK308 hb)
      have n11_ := (bkb_ BK332 hb)
      have n12_ := (bkb_ BK345 hb)
      have n13_ := Aside0.mk (below_step dz17 hb)
      clear HO313
      clear HO319
      clear HO322
      clear HO326
      clear HO330
      clear HO337
      clear HO340
      clear HO344
      clear HO349
      clear BK307
      clear BK308
      clear BK332
      clear BK345
      clear HB
      have HO313 := n0_
      have HO319 := n1_
      have HO322 := n2_
      have HO326 := n3_
      have HO330 := n4_
      have HO337 := n5_
      have HO340 := n6_
      have HO344 := n7_
      have HO349 := n8_
      have BK307 := n9_
      have BK308 := n10_
      have BK332 := n11_
      have BK345 := n12_
      have HB := n13_
      clear n0_ n1_ n2_ n3_ n4_ n5_ n6_ n7_ n8_ n9_ n10_ n11_ n12_ n13_
      (try clear hb)
      (try clear hb2)
      (try clear hk)
      (try clear hi)
      refine hK.out _ _ ⟨(blk_cell BK332.out 0).trans rfl, (blk_cell BK332.out 1).trans rfl, (blk_cell BK307.out 0).trans rfl, (blk_cell BK307.out 1).trans rfl⟩ (fun hHeld => ?_)
      clear hK K
      refine norm_ (a' := ?_) ?_ ?_
      rotate_left
      · show Act.put _ (some 38) _ = _
        simp only [Act.put, List.setIfInBounds_toArray, List.set_cons_zero, List.set_cons_succ, i64_w, i32_w]
        rfl
      refine pure_ (i := 4) (N := some 39) (v := ?_) (a' := ?_) #[true, true, true, true, true] rfl rfl (by kernel_rfl) (fun _ _ _ h => h) (Or.inl ⟨by rfl, ?_⟩) ?_ ?_
      rotate_left
      · exact dz69
      rotate_left
      · exact dz70
      refine done_ (by kernel_rfl) ?_
      try go_wp2
      have n0_ := Aside0.mk (Kd.R_drew HO313.out)
      have n1_ := Aside0.mk (Kd.R_drew HO319.out)
      have n2_ := Aside0.mk (Kd.R_drew HO322.out)
      have n3_ := Aside0.mk (Kd.S_drew HO326.out)
      have n4_ := Aside0.mk (Kd.R_drew HO330.out)
      have n5_ := Aside0.mk (Kd.R_drew HO337.out)
      have n6_ := Aside0.mk (Kd.R_drew HO340.out)
      have n7_ := Aside0.mk (Kd.S_drew HO344.out)
      have n8_ := Aside0.mk (Kd.R_drew HO349.out)
      have n9_ := Aside0.mk (blk_drew BK307.out)
      have n10_ := Aside0.mk (blk_drew BK308.out)
      have n11_ := Aside0.mk (blk_drew BK332.out)
      have n12_ := Aside0.mk (blk_drew BK345.out)
      have n13_ := Aside0.mk (below_drew1 HB.out)
      clear HO313
      clear HO319
      clear HO322
      clear HO326
      clear HO330
      clear HO337
      clear HO340
      clear HO344
      clear HO349
      clear BK307
      clear BK308
      clear BK332
      clear BK345
      clear HB
      have HO313 := n0_
      have HO319 := n1_
      have HO322 := n2_
      have HO326 := n3_
      have HO330 := n4_
      have HO337 := n5_
      have HO340 := n6_
      have HO344 := n7_
      have HO349 := n8_
      have BK307 := n9_
      have BK308 := n10_
      have BK332 := n11_
      have BK345 := n12_
      have HB := n13_
      clear n0_ n1_ n2_ n3_ n4_ n5_ n6_ n7_ n8_ n9_ n10_ n11_ n12_ n13_
      refine start_ (n := 5) (S := fun w' => w'.cell? ⟨gb345, 0, none⟩ = some (.int .i64 t333) ∧ w'.cell? ⟨gb345, 1, none⟩ = some (.int .i64 t334) ∧ w'.cell? ⟨gb345, 2, none⟩ = some (.slice Ao61 t335.length co61) ∧ w'.cell? ⟨gb345, 3, none⟩ = some (.slice Ao62 t338.length co62) ∧ w'.cell? ⟨gb345, 4, none⟩ = some (.bool t341) ∧ w'.cell? ⟨gb345, 5, none⟩ = some (.slice Ao63 t342.length co63) ∧ w'.cell? ⟨gb308, 0, none⟩ = some (.int .i64 a1_0) ∧ w'.cell? ⟨gb308, 1, none⟩ = some (.int .i64 a1_1) ∧ w'.cell? ⟨gb308, 2, none⟩ = some (.slice A1_2 l1_2.length c1_2) ∧ w'.cell? ⟨gb308, 3, none⟩ = some (.slice A1_3 l1_3.length c1_3) ∧ w'.cell? ⟨gb308, 4, none⟩ = some (.bool a1_4) ∧ w'.cell? ⟨gb308, 5, none⟩ = some (.slice A1_5 l1_5.length c1_5)) (ds := []) #[false, false, false, false, false] (by kernel_rfl) rfl rfl ⟨(blk_cell BK345.out 0).trans rfl, (blk_cell BK345.out 1).trans rfl, (blk_cell BK345.out 2).trans rfl, (blk_cell BK345.out 3).trans rfl, (blk_cell BK345.out 4).trans rfl, (blk_cell BK345.out 5).trans rfl, (blk_cell BK308.out 0).trans rfl, (blk_cell BK308.out 1).trans rfl, (blk_cell BK308.out 2).trans rfl, (blk_cell BK308.out 3).trans rfl, (blk_cell BK308.out 4).trans rfl, (blk_cell BK308.out 5).trans rfl⟩ (fun hHeld => ?_)
      generalize w69.drew = w70 at HO313 HO319 HO322 HO326 HO330 HO337 HO340 HO344 HO349 BK307 BK308 BK332 BK345 HB hHeld ⊢
      refine take_ (i := 0) (N := some 40) (v := ?_) (a' := ?_) #[true, false, false, false, false] rfl rfl (by kernel_rfl) (fun _ _ _ h => h) (Or.inl ⟨by rfl, ?_⟩) hHeld ?_ ?_
      rotate_left
      · rintro w' ⟨s0, s1, s2, s3, s4, s5, s6, s7, s8, s9, s10, s11⟩
        go_simp
        with_reducible rfl
      rotate_left
      · exact dz70
      refine take_ (i := 1) (N := some 41) (v := ?_) (a' := ?_) #[true, true, false, false, false] rfl rfl (by kernel_rfl) (fun _ _ _ h => h) (Or.inl ⟨by rfl, ?_⟩) hHeld ?_ ?_
      rotate_left
      · rintro w' ⟨s0, s1, s2, s3, s4, s5, s6, s7, s8, s9, s10, s11⟩
        go_simp
        with_reducible rfl
      rotate_left
      · exact dz70
      refine one_ (i := 2) (N := some 42) #[true, true, true, false, false] rfl rfl (by kernel_rfl) (by decide) (fun K hK => ?_)
      refine goes_ Try.func13 (by kernel_rfl) rfl #[.agg #[.int .i64 a1_0, .int .i64 a1_1, .slice A1_2 l1_2.length c1_2, .slice A1_3 l1_3.length c1_3, .bool a1_4, .slice A1_5 l1_5.length c1_5]] (by rfl) rfl rfl dz2 ?_
      with_reducible refine (laws_toMend.calls k a1_0 a1_1 _ _ l1_2 _ _ l1_3 a1_4 _ _ l1_5 t352 t353 t354 t357 t360 t361 _ ?side1 ?side2 ?side3 ?side4 ?side5 ?side6 A29.out).mono ?_
      (case side1 => repeat (first | exact (Kd.C_below HR1_2.out HB.out) | (with_reducible refine Kd.C_alloc ?_ _) | (with_reducible refine Kd.C_drewN ?_ _) | (with_reducible refine Kd.C_drew ?_)))
      (case side2 => exact HC1_2.out)
      (case side3 => repeat (first | exact (Kd.C_below HR1_3.out HB.out) | (with_reducible refine Kd.C_alloc ?_ _) | (with_reducible refine Kd.C_drewN ?_ _) | (with_reducible refine Kd.C_drew ?_)))
      (case side4 => exact HC1_3.out)
      (case side5 => repeat (first | exact (Kd.C_below HR1_5.out HB.out) | (with_reducible refine Kd.C_alloc ?_ _) | (with_reducible refine Kd.C_drewN ?_ _) | (with_reducible refine Kd.C_drew ?_)))
      (case side6 => exact HC1_5.out)
      rintro e w71 ⟨v355, v358, v362, rfl, ho0, ho1, ho2, hb⟩
      refine ⟨_, rfl, ?_⟩
      have n0_ := Aside0.mk (Kd.R_elder' dz13 (Kd.R_base ho0) hb)
      have n1_ := Aside0.mk (Kd.R_elder' dz19 (Kd.R_base ho0) hb)
      have n2_ := Aside0.mk (Kd.R_elder' (by (with_reducible repeat (first | apply Kd.R_alloc | apply Kd.R_drewN | apply Kd.R_drew)); exact HO322.out) (Kd.R_base ho1) hb)
      have n3_ := Aside0.mk (Kd.S_mono (Kd.S_told (Kd.S_told (Kd.S_old dz31 hb) (Kd.R_base ho0)) (Kd.S_base ho2)) (fun _ h_ => h_.1))
      have n4_ := Aside0.mk (Kd.R_elder' dz23 (Kd.R_base ho0) hb)
      have n5_ := Aside0.mk (Kd.R_elder' dz24 (Kd.R_base ho0) hb)
      have n6_ := Aside0.mk (Kd.R_elder' (by (with_reducible repeat (first | apply Kd.R_alloc | apply Kd.R_drewN | apply Kd.R_drew)); exact HO340.out) (Kd.R_base ho1) hb)
      have n7_ := Aside0.mk (Kd.S_mono (Kd.S_told (Kd.S_told (Kd.S_old dz50 hb) (Kd.R_base ho0)) (Kd.S_base ho2)) (fun _ h_ => h_.1))
      have n8_ := Aside0.mk (Kd.R_elder' dz51 (Kd.R_base ho0) hb)
      have n9_ := Aside0.mk (Kd.R_lower (Kd.R_new' (Kd.R_new' (Kd.R_new' (Kd.R_new' (Kd.R_new' ho0 (Kd.R_lt dz13)) (Kd.R_lt dz19)) (Kd.R_lt dz23)) (Kd.R_lt dz24)) (Kd.R_lt dz51)) (below_size dz17))
      have n10_ := Aside0.mk (Kd.R_lower (Kd.R_new' (Kd.R_new' ho1 (Kd.R_lt (by (with_reducible repeat (first | apply Kd.R_alloc | apply Kd.R_drewN | apply Kd.R_drew)); exact HO322.out))) (Kd.R_lt (by (with_reducible repeat (first | apply Kd.R_alloc | apply Kd.R_drewN | apply Kd.R_drew)); exact HO340.out))) (below_size dz17))
      have n11_ := Aside0.mk (Kd.S_lower (Kd.S_new' (Kd.S_new' (Kd.S_new' (Kd.S_new' (Kd.S_new' (Kd.S_new' (Kd.S_new' ho2 (Kd.R_lt dz13)) (Kd.R_lt dz19)) (Kd.S_lt dz31)) (Kd.R_lt dz23)) (Kd.R_lt dz24)) (Kd.S_lt dz50)) (Kd.R_lt dz51)) (below_size dz17))
      have n12_ := (bkb_ BK307 hb)
      have n13_ := (bkb_ BK308 hb)
      have n14_ := (bkb_ BK332 hb)
      have n15_ := (bkb_ BK345 hb)
      have n16_ := Aside0.mk (below_step dz17 hb)
      clear HO313
      clear HO319
      clear HO322
      clear HO326
      clear HO330
      clear HO337
      clear HO340
      clear HO344
      clear HO349
      clear BK307
      clear BK308
      clear BK332
      clear BK345
      clear HB
      have HO313 := n0_
      have HO319 := n1_
      have HO322 := n2_
      have HO326 := n3_
      have HO330 := n4_
      have HO337 := n5_
      have HO340 := n6_
      have HO344 := n7_
      have HO349 := n8_
      have HO356 := n9_
      have HO359 := n10_
      have HO363 := n11_
      have BK307 := n12_
      have BK308 := n13_
      have BK332 := n14_
      have BK345 := n15_
      have HB := n16_
      clear n0_ n1_ n2_ n3_ n4_ n5_ n6_ n7_ n8_ n9_ n10_ n11_ n12_ n13_ n14_ n15_ n16_
      (try clear hb)
      (try clear hb2)
      (try clear hk)
      (try clear hi)
      (try clear ho0)
      (try clear ho1)
      (try clear ho2)
      obtain ⟨Ao72, co72, eo72⟩ := Kd.R_slice HO356.out
      (first | subst eo72 | (injection eo72 with f1_ f2_ f3_; have f4_ := f1_.symm; have f5_ := f3_.symm; clear f1_ f2_ f3_; subst f4_; subst f5_))
      obtain ⟨Ao73, co73, eo73⟩ := Kd.R_slice HO359.out
      (first | subst eo73 | (injection eo73 with f1_ f2_ f3_; have f4_ := f1_.symm; have f5_ := f3_.symm; clear f1_ f2_ f3_; subst f4_; subst f5_))
      obtain ⟨Ao74, co74, eo74⟩ := Kd.S_slice HO363.out
      (first | subst eo74 | (injection eo74 with f1_ f2_ f3_; have f4_ := f1_.symm; have f5_ := f3_.symm; clear f1_ f2_ f3_; subst f4_; subst f5_))
      refine hK.out _ _ ⟨(blk_cell BK345.out 0).trans rfl, (blk_cell BK345.out 1).trans rfl, (blk_cell BK345.out 2).trans rfl, (blk_cell BK345.out 3).trans rfl, (blk_cell BK345.out 4).trans rfl, (blk_cell BK345.out 5).trans rfl, (blk_cell BK308.out 0).trans rfl, (blk_cell BK308.out 1).trans rfl, (blk_cell BK308.out 2).trans rfl, (blk_cell BK308.out 3).trans rfl, (blk_cell BK308.out 4).trans rfl, (blk_cell BK308.out 5).trans rfl⟩ (fun hHeld => ?_)
      clear hK K
      refine norm_ (a' := ?_) ?_ ?_
      rotate_left
      · show Act.put _ (some 42) _ = _
        simp only [Act.put, List.setIfInBounds_toArray, List.set_cons_zero, List.set_cons_succ, i64_w, i32_w]
        rfl
      refine one_ (i := 3) (N := some 43) #[true, true, true, true, false] rfl rfl (by kernel_rfl) (by decide) (fun K hK => ?_)
      refine goes_ Try.func16 (by kernel_rfl) rfl #[.agg #[.int .i64 t333, .int .i64 t334, .slice Ao61 t335.length co61, .slice Ao62 t338.length co62, .bool t341, .slice Ao63 t342.length co63], .agg #[.int .i64 t352, .int .i64 t353, .slice Ao72 t354.length co72, .slice Ao73 t357.length co73, .bool t360, .slice Ao74 t361.length co74]] (by rfl) rfl rfl dz2 ?_
      with_reducible refine (laws_eqMend.calls k t333 t334 _ _ t335 _ _ t338 t341 _ _ t342 t352 t353 _ _ t354 _ _ t357 t360 _ _ t361 true _ ?side1 ?side2 ?side3 ?side4 ?side5 ?side6 ?side7 ?side8 ?side9 ?side10 ?side11 ?side12 A30.out).mono ?_
      (case side1 => repeat (first | exact (Kd.R_reads' HO337.out).2.2 | (with_reducible refine Kd.C_alloc ?_ _) | (with_reducible refine Kd.C_drewN ?_ _) | (with_reducible refine Kd.C_drew ?_)))
      (case side2 => exact (Kd.R_reads' HO337.out).2.1)
      (case side3 => repeat (first | exact (Kd.R_reads' HO340.out).2.2 | (with_reducible refine Kd.C_alloc ?_ _) | (with_reducible refine Kd.C_drewN ?_ _) | (with_reducible refine Kd.C_drew ?_)))
      (case side4 => exact (Kd.R_reads' HO340.out).2.1)
      (case side5 => repeat (first | exact (Kd.S_reads' HO344.out).2.2 | (with_reducible refine Kd.C_alloc ?_ _) | (with_reducible refine Kd.C_drewN ?_ _) | (with_reducible refine Kd.C_drew ?_)))
      (case side6 => exact (Kd.S_reads' HO344.out).2.1)
      (case side7 => repeat (first | exact (Kd.R_reads' HO356.out).2.2 | (with_reducible refine Kd.C_alloc ?_ _) | (with_reducible refine Kd.C_drewN ?_ _) | (with_reducible refine Kd.C_drew ?_)))
      (case side8 => exact (Kd.R_reads' HO356.out).2.1)
      (case side9 => repeat (first | exact (Kd.R_reads' HO359.out).2.2 | (with_reducible refine Kd.C_alloc ?_ _) | (with_reducible refine Kd.C_drewN ?_ _) | (with_reducible refine Kd.C_drew ?_)))
      (case side10 => exact (Kd.R_reads' HO359.out).2.1)
      (case side11 => repeat (first | exact (Kd.S_reads' HO363.out).2.2 | (with_reducible refine Kd.C_alloc ?_ _) | (with_reducible refine Kd.C_drewN ?_ _) | (with_reducible refine Kd.C_drew ?_)))
      (case side12 => exact (Kd.S_reads' HO363.out).2.1)
      rintro e w75 ⟨rfl, hb⟩
      refine ⟨_, rfl, ?_⟩
      have n0_ := (rbb_ HO313 hb)
      have n1_ := (rbb_ HO319 hb)
      have n2_ := (rbb_ HO322 hb)
      have n3_ := (sbb_ HO326 hb)
      have n4_ := (rbb_ HO330 hb)
      have n5_ := (rbb_ HO337 hb)
      have n6_ := (rbb_ HO340 hb)
      have n7_ := (sbb_ HO344 hb)
      have n8_ := (rbb_ HO349 hb)
      have n9_ := (rbb_ HO356 hb)
      have n10_ := (rbb_ HO359 hb)
      have n11_ := (sbb_ HO363 hb)
      have n12_ := (bkb_ BK307 hb)
      have n13_ := (bkb_ BK308 hb)
      have n14_ := (bkb_ BK332 hb)
      have n15_ := (bkb_ BK345 hb)
      have n16_ := Aside0.mk (below_step dz17 hb)
      clear HO313
      clear HO319
      clear HO322
      clear HO326
      clear HO330
      clear HO337
      clear HO340
      clear HO344
      clear HO349
      clear HO356
      clear HO359
      clear HO363
      clear BK307
      clear BK308
      clear BK332
      clear BK345
      clear HB
      have HO313 := n0_
      have HO319 := n1_
      have HO322 := n2_
      have HO326 := n3_
      have HO330 := n4_
      have HO337 := n5_
      have HO340 := n6_
      have HO344 := n7_
      have HO349 := n8_
      have HO356 := n9_
      have HO359 := n10_
      have HO363 := n11_
      have BK307 := n12_
      have BK308 := n13_
      have BK332 := n14_
      have BK345 := n15_
      have HB := n16_
      clear n0_ n1_ n2_ n3_ n4_ n5_ n6_ n7_ n8_ n9_ n10_ n11_ n12_ n13_ n14_ n15_ n16_
      (try clear hb)
      (try clear hb2)
      (try clear hk)
      (try clear hi)
      refine hK.out _ _ ⟨(blk_cell BK345.out 0).trans rfl, (blk_cell BK345.out 1).trans rfl, (blk_cell BK345.out 2).trans rfl, (blk_cell BK345.out 3).trans rfl, (blk_cell BK345.out 4).trans rfl, (blk_cell BK345.out 5).trans rfl, (blk_cell BK308.out 0).trans rfl, (blk_cell BK308.out 1).trans rfl, (blk_cell BK308.out 2).trans rfl, (blk_cell BK308.out 3).trans rfl, (blk_cell BK308.out 4).trans rfl, (blk_cell BK308.out 5).trans rfl⟩ (fun hHeld => ?_)
      clear hK K
      refine norm_ (a' := ?_) ?_ ?_
      rotate_left
      · show Act.put _ (some 43) _ = _
        simp only [Act.put, List.setIfInBounds_toArray, List.set_cons_zero, List.set_cons_succ, i64_w, i32_w]
        rfl
      refine pure_ (i := 4) (N := some 44) (v := ?_) (a' := ?_) #[true, true, true, true, true] rfl rfl (by kernel_rfl) (fun _ _ _ h => h) (Or.inl ⟨by rfl, ?_⟩) ?_ ?_
      rotate_left
      · exact dz69
      rotate_left
      · exact dz70
      refine done_ (by kernel_rfl) ?_
      try go_wp2
      go_ret
      exact ⟨by first | rfl | (simp [errW_none, errW_some] <;> rfl) | (simp [*, errW_none, errW_some] <;> rfl), by repeat (first | (with_reducible first | exact HB.out | apply below_alloc | apply pw_below_drewN | apply below_drew1 | refine below_set ?_ GE307.out | refine below_set ?_ GE308.out | refine below_set ?_ GE332.out | refine below_set ?_ GE345.out) | exact HB.out)⟩
    replace c31 := Bool.eq_false_iff.mpr c31
    subst c31
    have H1 : (none) = some r := by rw [if_neg (show ¬ (false = true) by decide)] at H; exact H
    clear H
    have H := H1
    clear H1
    exact absurd H (by simp)
  replace c28 := Bool.eq_false_iff.mpr c28
  subst c28
  have H1 : (none) = some r := by rw [if_neg (show ¬ (false = true) by decide)] at H; exact H
  clear H
  have H := H1
  clear H1
  exact absurd H (by simp)
end Go.Proofs.Ytlomecknojaakaa.PFnExactMendReady
