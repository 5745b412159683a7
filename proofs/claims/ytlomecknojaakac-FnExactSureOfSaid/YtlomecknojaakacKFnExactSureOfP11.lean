-- Written by wip/gen/pack.py of this repo. Lean checks it.
import Derived.Test.YtlomecknojaakacKFnExactSureOfP0
import Derived.Test.YtlomecknojaakacKFnExactSureOfP3
import Derived.Test.YtlomecknojaakacKFnExactSureOfP6
import Derived.Test.YtlomecknojaakacKFnExactSureOfP7
import Derived.Test.YtlomecknojaakacKFnExactSureOfP8
import Derived.Test.YtlomecknojaakacKFnExactSureOfP9
import Derived.Test.YtlomecknojaakacKFnExactSureOfP10
import Derived.Test.YtlomecknojaakacKFnExactSureOfD
namespace Go.Proofs.Ytlomecknojaakac.PFnExactSureOf
open Go.RowKit Go.Proofs.YtlomecknojaakacW.PrintWords Go.Proofs.YtlomecknojaakacW.PrintLast Go.Proofs.YtlomecknojaakacW.PrintMore Go.Proofs.YtlomecknojaakacW.Sq
attribute [local go_sem] max2_int min2_int max_two min_two max_three min_three max_four min_four
set_option linter.unusedVariables false
set_option linter.unusedSimpArgs false
def laws_eqWorld.f (k : Nat) (l0_0 : List Int) (a0_1 : Int) (l0_2 : List (S64)) (l0_3 : List Int) (l0_4 : List (S142)) (a0_5 : Int) (l0_6 : List (S178)) (l0_7 : List (S51)) (l0_8 : List (S32)) (l0_9 : List (S235)) (a0_10 : Bool) (l1_0 : List Int) (a1_1 : Int) (l1_2 : List (S64)) (l1_3 : List Int) (l1_4 : List (S142)) (a1_5 : Int) (l1_6 : List (S178)) (l1_7 : List (S51)) (l1_8 : List (S32)) (l1_9 : List (S235)) (a1_10 : Bool) : Option (Bool) := (laws_eqConfig.f k l0_0 a0_1 l1_0 a1_1).bind fun t433 => (if t433 = true then ((laws_eqStoreS.f k l0_2 l1_2).bind fun t434 => (if t434 = true then ((laws_eqIntS.f k l0_3 l1_3).bind fun t435 => (if t435 = true then ((laws_eqRegister.f k l0_4 a0_5 l1_4 a1_5).bind fun t436 => (if t436 = true then ((laws_eqWriterS.f k l0_6 l1_6).bind fun t437 => (if t437 = true then ((laws_eqMendS.f k l0_7 l1_7).bind fun t438 => (if t438 = true then ((laws_eqReaderS.f k l0_8 l1_8).bind fun t439 => (if t439 = true then ((laws_eqSentS.f k l0_9 l1_9).bind fun t440 => (if t440 = true then (if (a0_10 != a1_10) = true then (none) else (some true)) else (none))) else (none))) else (none))) else (none))) else (none))) else (none))) else (none))) else (none))
theorem laws_eqWorld.mono : ∀ a0 a1 a2 a3 a4 a5 a6 a7 a8 a9 a10 a11 a12 a13 a14 a15 a16 a17 a18 a19 a20 a21 k, LeO (laws_eqWorld.f k a0 a1 a2 a3 a4 a5 a6 a7 a8 a9 a10 a11 a12 a13 a14 a15 a16 a17 a18 a19 a20 a21) (laws_eqWorld.f (k + 1) a0 a1 a2 a3 a4 a5 a6 a7 a8 a9 a10 a11 a12 a13 a14 a15 a16 a17 a18 a19 a20 a21) := by
  intro a0 a1 a2 a3 a4 a5 a6 a7 a8 a9 a10 a11 a12 a13 a14 a15 a16 a17 a18 a19 a20 a21 k
  unfold laws_eqWorld.f
  repeat' first
      | (with_reducible exact laws_eqConfig.mono _ _ _ _ _)
      | (with_reducible exact laws_eqIntS.mono _ _ _)
      | (with_reducible exact laws_eqMendS.mono _ _ _)
      | (with_reducible exact laws_eqReaderS.mono _ _ _)
      | (with_reducible exact laws_eqRegister.mono _ _ _ _ _)
      | (with_reducible exact laws_eqSentS.mono _ _ _)
      | (with_reducible exact laws_eqStoreS.mono _ _ _)
      | (with_reducible exact laws_eqWriterS.mono _ _ _)
      | (with_reducible exact LeO.refl _)
      | (with_reducible exact LeO.none _)
      | (with_reducible refine LeO.ite ?_ ?_)
      | (with_reducible refine LeO.bind ?_ (fun _ => ?_))
      | exact laws_eqConfig.mono _ _ _ _ _
      | exact laws_eqIntS.mono _ _ _
      | exact laws_eqMendS.mono _ _ _
      | exact laws_eqReaderS.mono _ _ _
      | exact laws_eqRegister.mono _ _ _ _ _
      | exact laws_eqSentS.mono _ _ _
      | exact laws_eqStoreS.mono _ _ _
      | exact laws_eqWriterS.mono _ _ _
      | exact LeO.none _
      | refine LeO.ite ?_ ?_
      | refine LeO.bind ?_ (fun _ => ?_)
set_option maxHeartbeats 8000000 in
set_option maxRecDepth 100000 in
theorem laws_eqWorld.calls (k : Nat) (A0_0 : Option Addr) (c0_0 : Nat) (l0_0 : List Int) (a0_1 : Int) (A0_2 : Option Addr) (c0_2 : Nat) (l0_2 : List (S64)) (A0_3 : Option Addr) (c0_3 : Nat) (l0_3 : List Int) (A0_4 : Option Addr) (c0_4 : Nat) (l0_4 : List (S142)) (a0_5 : Int) (A0_6 : Option Addr) (c0_6 : Nat) (l0_6 : List (S178)) (A0_7 : Option Addr) (c0_7 : Nat) (l0_7 : List (S51)) (A0_8 : Option Addr) (c0_8 : Nat) (l0_8 : List (S32)) (A0_9 : Option Addr) (c0_9 : Nat) (l0_9 : List (S235)) (a0_10 : Bool) (A1_0 : Option Addr) (c1_0 : Nat) (l1_0 : List Int) (a1_1 : Int) (A1_2 : Option Addr) (c1_2 : Nat) (l1_2 : List (S64)) (A1_3 : Option Addr) (c1_3 : Nat) (l1_3 : List Int) (A1_4 : Option Addr) (c1_4 : Nat) (l1_4 : List (S142)) (a1_5 : Int) (A1_6 : Option Addr) (c1_6 : Nat) (l1_6 : List (S178)) (A1_7 : Option Addr) (c1_7 : Nat) (l1_7 : List (S51)) (A1_8 : Option Addr) (c1_8 : Nat) (l1_8 : List (S32)) (A1_9 : Option Addr) (c1_9 : Nat) (l1_9 : List (S235)) (a1_10 : Bool) (r : Bool) (w : World) (hr0_0 : Kd.C (Kd.int .i64) w A0_0 l0_0.length l0_0) (hc0_0 : l0_0.length ≤ c0_0) (hr0_2 : Kd.C k64 w A0_2 l0_2.length l0_2) (hc0_2 : l0_2.length ≤ c0_2) (hr0_3 : Kd.C (Kd.int .i64) w A0_3 l0_3.length l0_3) (hc0_3 : l0_3.length ≤ c0_3) (hr0_4 : Kd.C k142 w A0_4 l0_4.length l0_4) (hc0_4 : l0_4.length ≤ c0_4) (hr0_6 : Kd.C k178 w A0_6 l0_6.length l0_6) (hc0_6 : l0_6.length ≤ c0_6) (hr0_7 : Kd.C k51 w A0_7 l0_7.length l0_7) (hc0_7 : l0_7.length ≤ c0_7) (hr0_8 : Kd.C k32 w A0_8 l0_8.length l0_8) (hc0_8 : l0_8.length ≤ c0_8) (hr0_9 : Kd.C k235 w A0_9 l0_9.length l0_9) (hc0_9 : l0_9.length ≤ c0_9) (hr1_0 : Kd.C (Kd.int .i64) w A1_0 l1_0.length l1_0) (hc1_0 : l1_0.length ≤ c1_0) (hr1_2 : Kd.C k64 w A1_2 l1_2.length l1_2) (hc1_2 : l1_2.length ≤ c1_2) (hr1_3 : Kd.C (Kd.int .i64) w A1_3 l1_3.length l1_3) (hc1_3 : l1_3.length ≤ c1_3) (hr1_4 : Kd.C k142 w A1_4 l1_4.length l1_4) (hc1_4 : l1_4.length ≤ c1_4) (hr1_6 : Kd.C k178 w A1_6 l1_6.length l1_6) (hc1_6 : l1_6.length ≤ c1_6) (hr1_7 : Kd.C k51 w A1_7 l1_7.length l1_7) (hc1_7 : l1_7.length ≤ c1_7) (hr1_8 : Kd.C k32 w A1_8 l1_8.length l1_8) (hc1_8 : l1_8.length ≤ c1_8) (hr1_9 : Kd.C k235 w A1_9 l1_9.length l1_9) (hc1_9 : l1_9.length ≤ c1_9) (h : laws_eqWorld.f k l0_0 a0_1 l0_2 l0_3 l0_4 a0_5 l0_6 l0_7 l0_8 l0_9 a0_10 l1_0 a1_1 l1_2 l1_3 l1_4 a1_5 l1_6 l1_7 l1_8 l1_9 a1_10 = some r) :
    Calls Try.prog 48 #[.agg #[.slice A0_0 l0_0.length c0_0, .int .i64 a0_1, .slice A0_2 l0_2.length c0_2, .slice A0_3 l0_3.length c0_3, .slice A0_4 l0_4.length c0_4, .int .i64 a0_5, .slice A0_6 l0_6.length c0_6, .slice A0_7 l0_7.length c0_7, .slice A0_8 l0_8.length c0_8, .slice A0_9 l0_9.length c0_9, .bool a0_10], .agg #[.slice A1_0 l1_0.length c1_0, .int .i64 a1_1, .slice A1_2 l1_2.length c1_2, .slice A1_3 l1_3.length c1_3, .slice A1_4 l1_4.length c1_4, .int .i64 a1_5, .slice A1_6 l1_6.length c1_6, .slice A1_7 l1_7.length c1_7, .slice A1_8 l1_8.length c1_8, .slice A1_9 l1_9.length c1_9, .bool a1_10]] w fun e w' => e = .returned (.bool r) ∧ Below w.heap.size w w' := by
  have hu99 := Try.underlying99
  have hu26 := Try.underlying26
  have hu29 := Try.underlying29
  have HR0_0 := Aside0.mk hr0_0
  have HC0_0 := Aside0.mk hc0_0
  clear hr0_0 hc0_0
  have HR0_2 := Aside0.mk hr0_2
  have HC0_2 := Aside0.mk hc0_2
  clear hr0_2 hc0_2
  have HR0_3 := Aside0.mk hr0_3
  have HC0_3 := Aside0.mk hc0_3
  clear hr0_3 hc0_3
  have HR0_4 := Aside0.mk hr0_4
  have HC0_4 := Aside0.mk hc0_4
  clear hr0_4 hc0_4
  have HR0_6 := Aside0.mk hr0_6
  have HC0_6 := Aside0.mk hc0_6
  clear hr0_6 hc0_6
  have HR0_7 := Aside0.mk hr0_7
  have HC0_7 := Aside0.mk hc0_7
  clear hr0_7 hc0_7
  have HR0_8 := Aside0.mk hr0_8
  have HC0_8 := Aside0.mk hc0_8
  clear hr0_8 hc0_8
  have HR0_9 := Aside0.mk hr0_9
  have HC0_9 := Aside0.mk hc0_9
  clear hr0_9 hc0_9
  have HR1_0 := Aside0.mk hr1_0
  have HC1_0 := Aside0.mk hc1_0
  clear hr1_0 hc1_0
  have HR1_2 := Aside0.mk hr1_2
  have HC1_2 := Aside0.mk hc1_2
  clear hr1_2 hc1_2
  have HR1_3 := Aside0.mk hr1_3
  have HC1_3 := Aside0.mk hc1_3
  clear hr1_3 hc1_3
  have HR1_4 := Aside0.mk hr1_4
  have HC1_4 := Aside0.mk hc1_4
  clear hr1_4 hc1_4
  have HR1_6 := Aside0.mk hr1_6
  have HC1_6 := Aside0.mk hc1_6
  clear hr1_6 hc1_6
  have HR1_7 := Aside0.mk hr1_7
  have HC1_7 := Aside0.mk hc1_7
  clear hr1_7 hc1_7
  have HR1_8 := Aside0.mk hr1_8
  have HC1_8 := Aside0.mk hc1_8
  clear hr1_8 hc1_8
  have HR1_9 := Aside0.mk hr1_9
  have HC1_9 := Aside0.mk hc1_9
  clear hr1_9 hc1_9
  have HB := Aside0.mk (Below.refl w.heap.size w)
  have H : ((laws_eqConfig.f k l0_0 a0_1 l1_0 a1_1).bind fun t433 => (if t433 = true then ((laws_eqStoreS.f k l0_2 l1_2).bind fun t434 => (if t434 = true then ((laws_eqIntS.f k l0_3 l1_3).bind fun t435 => (if t435 = true then ((laws_eqRegister.f k l0_4 a0_5 l1_4 a1_5).bind fun t436 => (if t436 = true then ((laws_eqWriterS.f k l0_6 l1_6).bind fun t437 => (if t437 = true then ((laws_eqMendS.f k l0_7 l1_7).bind fun t438 => (if t438 = true then ((laws_eqReaderS.f k l0_8 l1_8).bind fun t439 => (if t439 = true then ((laws_eqSentS.f k l0_9 l1_9).bind fun t440 => (if t440 = true then (if (a0_10 != a1_10) = true then (none) else (some true)) else (none))) else (none))) else (none))) else (none))) else (none))) else (none))) else (none))) else (none))) = some r := h
  clear h
  replace H := Option.bind_eq_some_iff.mp H
  obtain ⟨t433, A30, H⟩ := H
  replace H : (if t433 = true then ((laws_eqStoreS.f k l0_2 l1_2).bind fun t434 => (if t434 = true then ((laws_eqIntS.f k l0_3 l1_3).bind fun t435 => (if t435 = true then ((laws_eqRegister.f k l0_4 a0_5 l1_4 a1_5).bind fun t436 => (if t436 = true then ((laws_eqWriterS.f k l0_6 l1_6).bind fun t437 => (if t437 = true then ((laws_eqMendS.f k l0_7 l1_7).bind fun t438 => (if t438 = true then ((laws_eqReaderS.f k l0_8 l1_8).bind fun t439 => (if t439 = true then ((laws_eqSentS.f k l0_9 l1_9).bind fun t440 => (if t440 = true then (if (a0_10 != a1_10) = true then (none) else (some true)) else (none))) else (none))) else (none))) else (none))) else (none))) else (none))) else (none))) else (none)) = some r := H
  have A3 := Aside0.mk A30
  clear A30
  by_cases c4 : t433 = true
  · subst c4
    have H1 : ((laws_eqStoreS.f k l0_2 l1_2).bind fun t434 => (if t434 = true then ((laws_eqIntS.f k l0_3 l1_3).bind fun t435 => (if t435 = true then ((laws_eqRegister.f k l0_4 a0_5 l1_4 a1_5).bind fun t436 => (if t436 = true then ((laws_eqWriterS.f k l0_6 l1_6).bind fun t437 => (if t437 = true then ((laws_eqMendS.f k l0_7 l1_7).bind fun t438 => (if t438 = true then ((laws_eqReaderS.f k l0_8 l1_8).bind fun t439 => (if t439 = true then ((laws_eqSentS.f k l0_9 l1_9).bind fun t440 => (if t440 = true then (if (a0_10 != a1_10) = true then (none) else (some true)) else (none))) else (none))) else (none))) else (none))) else (none))) else (none))) else (none))) = some r := by rw [if_pos rfl] at H; exact H
    clear H
    have H := H1
    clear H1
    replace H := Option.bind_eq_some_iff.mp H
    obtain ⟨t434, A50, H⟩ := H
    replace H : (if t434 = true then ((laws_eqIntS.f k l0_3 l1_3).bind fun t435 => (if t435 = true then ((laws_eqRegister.f k l0_4 a0_5 l1_4 a1_5).bind fun t436 => (if t436 = true then ((laws_eqWriterS.f k l0_6 l1_6).bind fun t437 => (if t437 = true then ((laws_eqMendS.f k l0_7 l1_7).bind fun t438 => (if t438 = true then ((laws_eqReaderS.f k l0_8 l1_8).bind fun t439 => (if t439 = true then ((laws_eqSentS.f k l0_9 l1_9).bind fun t440 => (if t440 = true then (if (a0_10 != a1_10) = true then (none) else (some true)) else (none))) else (none))) else (none))) else (none))) else (none))) else (none))) else (none)) = some r := H
    have A5 := Aside0.mk A50
    clear A50
    by_cases c6 : t434 = true
    · subst c6
      have H1 : ((laws_eqIntS.f k l0_3 l1_3).bind fun t435 => (if t435 = true then ((laws_eqRegister.f k l0_4 a0_5 l1_4 a1_5).bind fun t436 => (if t436 = true then ((laws_eqWriterS.f k l0_6 l1_6).bind fun t437 => (if t437 = true then ((laws_eqMendS.f k l0_7 l1_7).bind fun t438 => (if t438 = true then ((laws_eqReaderS.f k l0_8 l1_8).bind fun t439 => (if t439 = true then ((laws_eqSentS.f k l0_9 l1_9).bind fun t440 => (if t440 = true then (if (a0_10 != a1_10) = true then (none) else (some true)) else (none))) else (none))) else (none))) else (none))) else (none))) else (none))) = some r := by rw [if_pos rfl] at H; exact H
      clear H
      have H := H1
      clear H1
      replace H := Option.bind_eq_some_iff.mp H
      obtain ⟨t435, A70, H⟩ := H
      replace H : (if t435 = true then ((laws_eqRegister.f k l0_4 a0_5 l1_4 a1_5).bind fun t436 => (if t436 = true then ((laws_eqWriterS.f k l0_6 l1_6).bind fun t437 => (if t437 = true then ((laws_eqMendS.f k l0_7 l1_7).bind fun t438 => (if t438 = true then ((laws_eqReaderS.f k l0_8 l1_8).bind fun t439 => (if t439 = true then ((laws_eqSentS.f k l0_9 l1_9).bind fun t440 => (if t440 = true then (if (a0_10 != a1_10) = true then (none) else (some true)) else (none))) else (none))) else (none))) else (none))) else (none))) else (none)) = some r := H
      have A7 := Aside0.mk A70
      clear A70
      by_cases c8 : t435 = true
      · subst c8
        have H1 : ((laws_eqRegister.f k l0_4 a0_5 l1_4 a1_5).bind fun t436 => (if t436 = true then ((laws_eqWriterS.f k l0_6 l1_6).bind fun t437 => (if t437 = true then ((laws_eqMendS.f k l0_7 l1_7).bind fun t438 => (if t438 = true then ((laws_eqReaderS.f k l0_8 l1_8).bind fun t439 => (if t439 = true then ((laws_eqSentS.f k l0_9 l1_9).bind fun t440 => (if t440 = true then (if (a0_10 != a1_10) = true then (none) else (some true)) else (none))) else (none))) else (none))) else (none))) else (none))) = some r := by rw [if_pos rfl] at H; exact H
        clear H
        have H := H1
        clear H1
        replace H := Option.bind_eq_some_iff.mp H
        obtain ⟨t436, A90, H⟩ := H
        replace H : (if t436 = true then ((laws_eqWriterS.f k l0_6 l1_6).bind fun t437 => (if t437 = true then ((laws_eqMendS.f k l0_7 l1_7).bind fun t438 => (if t438 = true then ((laws_eqReaderS.f k l0_8 l1_8).bind fun t439 => (if t439 = true then ((laws_eqSentS.f k l0_9 l1_9).bind fun t440 => (if t440 = true then (if (a0_10 != a1_10) = true then (none) else (some true)) else (none))) else (none))) else (none))) else (none))) else (none)) = some r := H
        have A9 := Aside0.mk A90
        clear A90
        by_cases c10 : t436 = true
        · subst c10
          have H1 : ((laws_eqWriterS.f k l0_6 l1_6).bind fun t437 => (if t437 = true then ((laws_eqMendS.f k l0_7 l1_7).bind fun t438 => (if t438 = true then ((laws_eqReaderS.f k l0_8 l1_8).bind fun t439 => (if t439 = true then ((laws_eqSentS.f k l0_9 l1_9).bind fun t440 => (if t440 = true then (if (a0_10 != a1_10) = true then (none) else (some true)) else (none))) else (none))) else (none))) else (none))) = some r := by rw [if_pos rfl] at H; exact H
          clear H
          have H := H1
          clear H1
          replace H := Option.bind_eq_some_iff.mp H
          obtain ⟨t437, A110, H⟩ := H
          replace H : (if t437 = true then ((laws_eqMendS.f k l0_7 l1_7).bind fun t438 => (if t438 = true then ((laws_eqReaderS.f k l0_8 l1_8).bind fun t439 => (if t439 = true then ((laws_eqSentS.f k l0_9 l1_9).bind fun t440 => (if t440 = true then (if (a0_10 != a1_10) = true then (none) else (some true)) else (none))) else (none))) else (none))) else (none)) = some r := H
          have A11 := Aside0.mk A110
          clear A110
          by_cases c12 : t437 = true
          · subst c12
            have H1 : ((laws_eqMendS.f k l0_7 l1_7).bind fun t438 => (if t438 = true then ((laws_eqReaderS.f k l0_8 l1_8).bind fun t439 => (if t439 = true then ((laws_eqSentS.f k l0_9 l1_9).bind fun t440 => (if t440 = true then (if (a0_10 != a1_10) = true then (none) else (some true)) else (none))) else (none))) else (none))) = some r := by rw [if_pos rfl] at H; exact H
            clear H
            have H := H1
            clear H1
            replace H := Option.bind_eq_some_iff.mp H
            obtain ⟨t438, A130, H⟩ := H
            replace H : (if t438 = true then ((laws_eqReaderS.f k l0_8 l1_8).bind fun t439 => (if t439 = true then ((laws_eqSentS.f k l0_9 l1_9).bind fun t440 => (if t440 = true then (if (a0_10 != a1_10) = true then (none) else (some true)) else (none))) else (none))) else (none)) = some r := H
            have A13 := Aside0.mk A130
            clear A130
            by_cases c14 : t438 = true
            · subst c14
              have H1 : ((laws_eqReaderS.f k l0_8 l1_8).bind fun t439 => (if t439 = true then ((laws_eqSentS.f k l0_9 l1_9).bind fun t440 => (if t440 = true then (if (a0_10 != a1_10) = true then (none) else (some true)) else (none))) else (none))) = some r := by rw [if_pos rfl] at H; exact H
              clear H
              have H := H1
              clear H1
              replace H := Option.bind_eq_some_iff.mp H
              obtain ⟨t439, A150, H⟩ := H
              replace H : (if t439 = true then ((laws_eqSentS.f k l0_9 l1_9).bind fun t440 => (if t440 = true then (if (a0_10 != a1_10) = true then (none) else (some true)) else (none))) else (none)) = some r := H
              have A15 := Aside0.mk A150
              clear A150
              by_cases c16 : t439 = true
              · subst c16
                have H1 : ((laws_eqSentS.f k l0_9 l1_9).bind fun t440 => (if t440 = true then (if (a0_10 != a1_10) = true then (none) else (some true)) else (none))) = some r := by rw [if_pos rfl] at H; exact H
                clear H
                have H := H1
                clear H1
                replace H := Option.bind_eq_some_iff.mp H
                obtain ⟨t440, A170, H⟩ := H
                replace H : (if t440 = true then (if (a0_10 != a1_10) = true then (none) else (some true)) else (none)) = some r := H
                have A17 := Aside0.mk A170
                clear A170
                by_cases c18 : t440 = true
                · subst c18
                  have H1 : (if (a0_10 != a1_10) = true then (none) else (some true)) = some r := by rw [if_pos rfl] at H; exact H
                  clear H
                  have H := H1
                  clear H1
                  by_cases c19 : (a0_10 != a1_10) = true
                  · rw [if_pos c19] at H
                    exact absurd H (by simp)
                  rw [if_neg c19] at H
                  have c19b0 : (a0_10 != a1_10) = false := by simpa using c19
                  (try (have c19b1 : decide (a0_10 = a1_10) = true := by simpa using c19))
                  (try (have c19b2 : (a0_10 == a1_10) = true := by simpa using c19))
                  clear c19
                  obtain rfl := Option.some.inj H
                  go_enter Try.func48, Try.ntmps48
                  go_wp2_with (first | ((with_reducible refine gate_dst (N := 2) rfl ?_); refine box_event kr_ (N := 2) kr_ (cs := #[.slice A0_0 l0_0.length c0_0, .int .i64 a0_1, .slice A0_2 l0_2.length c0_2, .slice A0_3 l0_3.length c0_3, .slice A0_4 l0_4.length c0_4, .int .i64 a0_5, .slice A0_6 l0_6.length c0_6, .slice A0_7 l0_7.length c0_7, .slice A0_8 l0_8.length c0_8, .slice A0_9 l0_9.length c0_9, .bool a0_10]) (t := 99) ks_ ?_; intro gb431 hg w1 hbox hb; have n0_ := Aside0.mk (below_step dz0 hb); have n1_ := Aside0.mk (hbox); have n2_ : Aside0 (w.heap.size ≤ gb431) := szl_ hg dz0; have n3_ : Aside0 (w.heap.size ≤ gb431) := szl_ hg dz0; clear HB; have HB := n0_; have BK431 := n1_; have GW431 := n2_; have GE431 := n3_; clear n0_ n1_ n2_ n3_; clear hb hbox hg) | ((with_reducible refine gate_dst (N := 3) rfl ?_); refine box_event kr_ (N := 3) kr_ (cs := #[.slice A1_0 l1_0.length c1_0, .int .i64 a1_1, .slice A1_2 l1_2.length c1_2, .slice A1_3 l1_3.length c1_3, .slice A1_4 l1_4.length c1_4, .int .i64 a1_5, .slice A1_6 l1_6.length c1_6, .slice A1_7 l1_7.length c1_7, .slice A1_8 l1_8.length c1_8, .slice A1_9 l1_9.length c1_9, .bool a1_10]) (t := 99) ks_ ?_; intro gb432 hg w2 hbox hb; have n0_ := (bkb_ BK431 hb); have n1_ := Aside0.mk (below_step dz69 hb); have n2_ := Aside0.mk (hbox); have n3_ : Aside0 (w.heap.size ≤ gb432) := szl_ hg dz69; have n4_ : Aside0 (w.heap.size ≤ gb432) := szl_ hg dz69; have n5_ := (nbl_ hg BK431); have n6_ := (nbr_ hg BK431); clear BK431; clear HB; have BK431 := n0_; have HB := n1_; have BK432 := n2_; have GW432 := n3_; have GE432 := n4_; have NB431_432 := n5_; have NB432_431 := n6_; clear n0_ n1_ n2_ n3_ n4_ n5_ n6_; clear hb hbox hg; have hnb22 := NB431_432.out; have hnc22 := NB432_431.out; obtain ⟨hcz23_0, hcz23_1, hcz23_2, hcz23_3, hcz23_4, hcz23_5, hcz23_6, hcz23_7, hcz23_8, hcz23_9, hcz23_10, hfz23_0, hfz23_1, hfz23_2, hfz23_3, hfz23_4, hfz23_5, hfz23_6, hfz23_7, hfz23_8, hfz23_9, hfz23_10⟩ := cz11_ BK431; obtain ⟨hcz24_0, hcz24_1, hcz24_2, hcz24_3, hcz24_4, hcz24_5, hcz24_6, hcz24_7, hcz24_8, hcz24_9, hcz24_10, hfz24_0, hfz24_1, hfz24_2, hfz24_3, hfz24_4, hfz24_5, hfz24_6, hfz24_7, hfz24_8, hfz24_9, hfz24_10⟩ := cz11_ BK432) | ((with_reducible refine gate_callee (f := 22) rfl ?_); refine goesL_ (some 9) rfl rfl Try.func22 (by kernel_rfl) rfl #[.agg #[.slice A0_0 l0_0.length c0_0, .int .i64 a0_1], .agg #[.slice A1_0 l1_0.length c1_0, .int .i64 a1_1]] rfl dz2 ?_; (with_reducible refine (laws_eqConfig.calls k _ _ l0_0 a0_1 _ _ l1_0 a1_1 true _ ?side1 ?side2 ?side3 ?side4 A3.out).mono ?_); (case side1 => exact dz83); (case side2 => exact HC0_0.out); (case side3 => exact dz103); (case side4 => exact HC1_0.out); rintro e w3 ⟨rfl, hb⟩; refine ⟨_, rfl, ?_⟩; have n0_ := (bkb_ BK431 hb); have n1_ := (bkb_ BK432 hb); have n2_ := Aside0.mk (below_step dz11 hb); clear BK431; clear BK432; clear HB; have BK431 := n0_; have BK432 := n1_; have HB := n2_; clear n0_ n1_ n2_; (try clear hb); (try clear hb2); (try clear hk); (try clear hi); obtain ⟨hcz26_0, hcz26_1, hcz26_2, hcz26_3, hcz26_4, hcz26_5, hcz26_6, hcz26_7, hcz26_8, hcz26_9, hcz26_10, hfz26_0, hfz26_1, hfz26_2, hfz26_3, hfz26_4, hfz26_5, hfz26_6, hfz26_7, hfz26_8, hfz26_9, hfz26_10⟩ := cz11_ BK431; obtain ⟨hcz27_0, hcz27_1, hcz27_2, hcz27_3, hcz27_4, hcz27_5, hcz27_6, hcz27_7, hcz27_8, hcz27_9, hcz27_10, hfz27_0, hfz27_1, hfz27_2, hfz27_3, hfz27_4, hfz27_5, hfz27_6, hfz27_7, hfz27_8, hfz27_9, hfz27_10⟩ := cz11_ BK432) | ((with_reducible refine gate_callee (f := 32) rfl ?_); refine goesL_ (some 15) rfl rfl Try.func32 (by kernel_rfl) rfl #[.slice A0_2 l0_2.length c0_2, .slice A1_2 l1_2.length c1_2] rfl dz2 ?_; (with_reducible refine (laws_eqStoreS.calls k _ _ l0_2 _ _ l1_2 true _ ?side1 ?side2 ?side3 ?side4 A5.out).mono ?_); (case side1 => exact dz90); (case side2 => exact HC0_2.out); (case side3 => exact dz107); (case side4 => exact HC1_2.out); rintro e w4 ⟨rfl, hb⟩; refine ⟨_, rfl, ?_⟩; have n0_ := (bkb_ BK431 hb); have n1_ := (bkb_ BK432 hb); have n2_ := Aside0.mk (below_step dz11 hb); clear BK431; clear BK432; clear HB; have BK431 := n0_; have BK432 := n1_; have HB := n2_; clear n0_ n1_ n2_; (try clear hb); (try clear hb2); (try clear hk); (try clear hi); obtain ⟨hcz29_0, hcz29_1, hcz29_2, hcz29_3, hcz29_4, hcz29_5, hcz29_6, hcz29_7, hcz29_8, hcz29_9, hcz29_10, hfz29_0, hfz29_1, hfz29_2, hfz29_3, hfz29_4, hfz29_5, hfz29_6, hfz29_7, hfz29_8, hfz29_9, hfz29_10⟩ := cz11_ BK431; obtain ⟨hcz30_0, hcz30_1, hcz30_2, hcz30_3, hcz30_4, hcz30_5, hcz30_6, hcz30_7, hcz30_8, hcz30_9, hcz30_10, hfz30_0, hfz30_1, hfz30_2, hfz30_3, hfz30_4, hfz30_5, hfz30_6, hfz30_7, hfz30_8, hfz30_9, hfz30_10⟩ := cz11_ BK432) | ((with_reducible refine gate_callee (f := 33) rfl ?_); refine goesL_ (some 21) rfl rfl Try.func33 (by kernel_rfl) rfl #[.slice A0_3 l0_3.length c0_3, .slice A1_3 l1_3.length c1_3] rfl dz2 ?_; (with_reducible refine (laws_eqIntS.calls k _ _ l0_3 _ _ l1_3 true _ ?side1 ?side2 ?side3 ?side4 A7.out).mono ?_); (case side1 => exact dz97); (case side2 => exact HC0_3.out); (case side3 => repeat (first | exact (Kd.C_below HR1_3.out HB.out) | (with_reducible refine Kd.C_alloc ?_ _) | (with_reducible refine Kd.C_drewN ?_ _) | (with_reducible refine Kd.C_drew ?_))); (case side4 => exact HC1_3.out); rintro e w' ⟨rfl, ⟨nd, rfl⟩⟩; refine ⟨_, rfl, ?_⟩) | ((with_reducible refine gate_callee (f := 56) rfl ?_); refine goesL_ (some 27) rfl rfl Try.func56 (by kernel_rfl) rfl #[.agg #[.slice A0_4 l0_4.length c0_4, .int .i64 a0_5], .agg #[.slice A1_4 l1_4.length c1_4, .int .i64 a1_5]] rfl dz2 ?_; (with_reducible refine (laws_eqRegister.calls k _ _ l0_4 a0_5 _ _ l1_4 a1_5 true _ ?side1 ?side2 ?side3 ?side4 A9.out).mono ?_); (case side1 => repeat (first | exact (Kd.C_below HR0_4.out dz11) | (with_reducible refine Kd.C_alloc ?_ _) | (with_reducible refine Kd.C_drewN ?_ _) | (with_reducible refine Kd.C_drew ?_))); (case side2 => exact HC0_4.out); (case side3 => repeat (first | exact (Kd.C_below HR1_4.out dz11) | (with_reducible refine Kd.C_alloc ?_ _) | (with_reducible refine Kd.C_drewN ?_ _) | (with_reducible refine Kd.C_drew ?_))); (case side4 => exact HC1_4.out); rintro e w5 ⟨rfl, hb⟩; refine ⟨_, rfl, ?_⟩; have n0_ := (bkb_ BK431 hb); have n1_ := (bkb_ BK432 hb); have n2_ := Aside0.mk (below_step dz11 hb); clear BK431; clear BK432; clear HB; have BK431 := n0_; have BK432 := n1_; have HB := n2_; clear n0_ n1_ n2_; (try clear hb); (try clear hb2); (try clear hk); (try clear hi); obtain ⟨hcz32_0, hcz32_1, hcz32_2, hcz32_3, hcz32_4, hcz32_5, hcz32_6, hcz32_7, hcz32_8, hcz32_9, hcz32_10, hfz32_0, hfz32_1, hfz32_2, hfz32_3, hfz32_4, hfz32_5, hfz32_6, hfz32_7, hfz32_8, hfz32_9, hfz32_10⟩ := cz11_ BK431; obtain ⟨hcz33_0, hcz33_1, hcz33_2, hcz33_3, hcz33_4, hcz33_5, hcz33_6, hcz33_7, hcz33_8, hcz33_9, hcz33_10, hfz33_0, hfz33_1, hfz33_2, hfz33_3, hfz33_4, hfz33_5, hfz33_6, hfz33_7, hfz33_8, hfz33_9, hfz33_10⟩ := cz11_ BK432) | ((with_reducible refine gate_callee (f := 136) rfl ?_); refine goesL_ (some 33) rfl rfl Try.func136 (by kernel_rfl) rfl #[.slice A0_6 l0_6.length c0_6, .slice A1_6 l1_6.length c1_6] rfl dz2 ?_; (with_reducible refine (laws_eqWriterS.calls k _ _ l0_6 _ _ l1_6 true _ ?side1 ?side2 ?side3 ?side4 A11.out).mono ?_); (case side1 => exact dz99); (case side2 => exact HC0_6.out); (case side3 => repeat (first | exact (Kd.C_below HR1_6.out HB.out) | (with_reducible refine Kd.C_alloc ?_ _) | (with_reducible refine Kd.C_drewN ?_ _) | (with_reducible refine Kd.C_drew ?_))); (case side4 => exact HC1_6.out); rintro e w6 ⟨rfl, hb⟩; refine ⟨_, rfl, ?_⟩; have n0_ := (bkb_ BK431 hb); have n1_ := (bkb_ BK432 hb); have n2_ := Aside0.mk (below_step dz11 hb); clear BK431; clear BK432; clear HB; have BK431 := n0_; have BK432 := n1_; have HB := n2_; clear n0_ n1_ n2_; (try clear hb); (try clear hb2); (try clear hk); (try clear hi); obtain ⟨hcz35_0, hcz35_1, hcz35_2, hcz35_3, hcz35_4, hcz35_5, hcz35_6, hcz35_7, hcz35_8, hcz35_9, hcz35_10, hfz35_0, hfz35_1, hfz35_2, hfz35_3, hfz35_4, hfz35_5, hfz35_6, hfz35_7, hfz35_8, hfz35_9, hfz35_10⟩ := cz11_ BK431; obtain ⟨hcz36_0, hcz36_1, hcz36_2, hcz36_3, hcz36_4, hcz36_5, hcz36_6, hcz36_7, hcz36_8, hcz36_9, hcz36_10, hfz36_0, hfz36_1, hfz36_2, hfz36_3, hfz36_4, hfz36_5, hfz36_6, hfz36_7, hfz36_8, hfz36_9, hfz36_10⟩ := cz11_ BK432) | ((with_reducible refine gate_callee (f := 137) rfl ?_); refine goesL_ (some 39) rfl rfl Try.func137 (by kernel_rfl) rfl #[.slice A0_7 l0_7.length c0_7, .slice A1_7 l1_7.length c1_7] rfl dz2 ?_; (with_reducible refine (laws_eqMendS.calls k _ _ l0_7 _ _ l1_7 true _ ?side1 ?side2 ?side3 ?side4 A13.out).mono ?_); (case side1 => exact dz100); (case side2 => exact HC0_7.out); (case side3 => repeat (first | exact (Kd.C_below HR1_7.out HB.out) | (with_reducible refine Kd.C_alloc ?_ _) | (with_reducible refine Kd.C_drewN ?_ _) | (with_reducible refine Kd.C_drew ?_))); (case side4 => exact HC1_7.out); rintro e w7 ⟨rfl, hb⟩; refine ⟨_, rfl, ?_⟩; have n0_ := (bkb_ BK431 hb); have n1_ := (bkb_ BK432 hb); have n2_ := Aside0.mk (below_step dz11 hb); clear BK431; clear BK432; clear HB; have BK431 := n0_; have BK432 := n1_; have HB := n2_; clear n0_ n1_ n2_; (try clear hb); (try clear hb2); (try clear hk); (try clear hi); obtain ⟨hcz38_0, hcz38_1, hcz38_2, hcz38_3, hcz38_4, hcz38_5, hcz38_6, hcz38_7, hcz38_8, hcz38_9, hcz38_10, hfz38_0, hfz38_1, hfz38_2, hfz38_3, hfz38_4, hfz38_5, hfz38_6, hfz38_7, hfz38_8, hfz38_9, hfz38_10⟩ := cz11_ BK431; obtain ⟨hcz39_0, hcz39_1, hcz39_2, hcz39_3, hcz39_4, hcz39_5, hcz39_6, hcz39_7, hcz39_8, hcz39_9, hcz39_10, hfz39_0, hfz39_1, hfz39_2, hfz39_3, hfz39_4, hfz39_5, hfz39_6, hfz39_7, hfz39_8, hfz39_9, hfz39_10⟩ := cz11_ BK432) | ((with_reducible refine gate_callee (f := 138) rfl ?_); refine goesL_ (some 45) rfl rfl Try.func138 (by kernel_rfl) rfl #[.slice A0_8 l0_8.length c0_8, .slice A1_8 l1_8.length c1_8] rfl dz2 ?_; (with_reducible refine (laws_eqReaderS.calls k _ _ l0_8 _ _ l1_8 true _ ?side1 ?side2 ?side3 ?side4 A15.out).mono ?_); (case side1 => exact dz101); (case side2 => exact HC0_8.out); (case side3 => repeat (first | exact (Kd.C_below HR1_8.out HB.out) | (with_reducible refine Kd.C_alloc ?_ _) | (with_reducible refine Kd.C_drewN ?_ _) | (with_reducible refine Kd.C_drew ?_))); (case side4 => exact HC1_8.out); rintro e w8 ⟨rfl, hb⟩; refine ⟨_, rfl, ?_⟩; have n0_ := (bkb_ BK431 hb); have n1_ := (bkb_ BK432 hb); have n2_ := Aside0.mk (below_step dz11 hb); clear BK431; clear BK432; clear HB; have BK431 := n0_; have BK432 := n1_; have HB := n2_; clear n0_ n1_ n2_; (try clear hb); (try clear hb2); (try clear hk); (try clear hi); obtain ⟨hcz41_0, hcz41_1, hcz41_2, hcz41_3, hcz41_4, hcz41_5, hcz41_6, hcz41_7, hcz41_8, hcz41_9, hcz41_10, hfz41_0, hfz41_1, hfz41_2, hfz41_3, hfz41_4, hfz41_5, hfz41_6, hfz41_7, hfz41_8, hfz41_9, hfz41_10⟩ := cz11_ BK431; obtain ⟨hcz42_0, hcz42_1, hcz42_2, hcz42_3, hcz42_4, hcz42_5, hcz42_6, hcz42_7, hcz42_8, hcz42_9, hcz42_10, hfz42_0, hfz42_1, hfz42_2, hfz42_3, hfz42_4, hfz42_5, hfz42_6, hfz42_7, hfz42_8, hfz42_9, hfz42_10⟩ := cz11_ BK432) | ((with_reducible refine gate_callee (f := 139) rfl ?_); refine goesL_ (some 51) rfl rfl Try.func139 (by kernel_rfl) rfl #[.slice A0_9 l0_9.length c0_9, .slice A1_9 l1_9.length c1_9] rfl dz2 ?_; (with_reducible refine (laws_eqSentS.calls k _ _ l0_9 _ _ l1_9 true _ ?side1 ?side2 ?side3 ?side4 A17.out).mono ?_); (case side1 => exact dz102); (case side2 => exact HC0_9.out); (case side3 => repeat (first | exact (Kd.C_below HR1_9.out HB.out) | (with_reducible refine Kd.C_alloc ?_ _) | (with_reducible refine Kd.C_drewN ?_ _) | (with_reducible refine Kd.C_drew ?_))); (case side4 => exact HC1_9.out); rintro e w9 ⟨rfl, hb⟩; refine ⟨_, rfl, ?_⟩; have n0_ := (bkb_ BK431 hb); have n1_ := (bkb_ BK432 hb); have n2_ := Aside0.mk (below_step dz11 hb); clear BK431; clear BK432; clear HB; have BK431 := n0_; have BK432 := n1_; have HB := n2_; clear n0_ n1_ n2_; (try clear hb); (try clear hb2); (try clear hk); (try clear hi); obtain ⟨hcz44_0, hcz44_1, hcz44_2, hcz44_3, hcz44_4, hcz44_5, hcz44_6, hcz44_7, hcz44_8, hcz44_9, hcz44_10, hfz44_0, hfz44_1, hfz44_2, hfz44_3, hfz44_4, hfz44_5, hfz44_6, hfz44_7, hfz44_8, hfz44_9, hfz44_10⟩ := cz11_ BK431; obtain ⟨hcz45_0, hcz45_1, hcz45_2, hcz45_3, hcz45_4, hcz45_5, hcz45_6, hcz45_7, hcz45_8, hcz45_9, hcz45_10, hfz45_0, hfz45_1, hfz45_2, hfz45_3, hfz45_4, hfz45_5, hfz45_6, hfz45_7, hfz45_8, hfz45_9, hfz45_10⟩ := cz11_ BK432))
                  go_ret
                  exact ⟨by first | rfl | (simp [errW_none, errW_some] <;> rfl) | (simp [*, errW_none, errW_some] <;> rfl), by repeat (first | (with_reducible first | exact HB.out | apply below_alloc | apply pw_below_drewN | apply below_drew1 | refine below_set ?_ GE431.out | refine below_set ?_ GE432.out) | exact HB.out)⟩
                replace c18 := Bool.eq_false_iff.mpr c18
                subst c18
                have H1 : (none) = some r := by rw [if_neg (show ¬ (false = true) by decide)] at H; exact H
                clear H
                have H := H1
                clear H1
                exact absurd H (by simp)
              replace c16 := Bool.eq_false_iff.mpr c16
              subst c16
              have H1 : (none) = some r := by rw [if_neg (show ¬ (false = true) by decide)] at H; exact H
              clear H
              have H := H1
              clear H1
              exact absurd H (by simp)
            replace c14 := Bool.eq_false_iff.mpr c14
            subst c14
            have H1 : (none) = some r := by rw [if_neg (show ¬ (false = true) by decide)] at H; exact H
            clear H
            have H := H1
            clear H1
            exact absurd H (by simp)
          replace c12 := Bool.eq_false_iff.mpr c12
          subst c12
          have H1 : (none) = some r := by rw [if_neg (show ¬ (false = true) by decide)] at H; exact H
          clear H
          have H := H1
          clear H1
          exact absurd H (by simp)
        replace c10 := Bool.eq_false_iff.mpr c10
        subst c10
        have H1 : (none) = some r := by rw [if_neg (show ¬ (false = true) by decide)] at H; exact H
        clear H
        have H := H1
        clear H1
        exact absurd H (by simp)
      replace c8 := Bool.eq_false_iff.mpr c8
      subst c8
      have H1 : (none) = some r := by rw [if_neg (show ¬ (false = true) by decide)] at H; exact H
      clear H
      have H := H1
      clear H1
      exact absurd H (by simp)
    replace c6 := Bool.eq_false_iff.mpr c6
    subst c6
    have H1 : (none) = some r := by rw [if_neg (show ¬ (false = true) by decide)] at H; exact H
    clear H
    have H := H1
    clear H1
    exact absurd H (by simp)
  replace c4 := Bool.eq_false_iff.mpr c4
  subst c4
  have H1 : (none) = some r := by rw [if_neg (show ¬ (false = true) by decide)] at H; exact H
  clear H
  have H := H1
  clear H1
  exact absurd H (by simp)
def laws_FnExactSureOf.f (k : Nat) (l0_0 : List Int) (a0_1 : Int) (l0_2 : List (S160)) (l0_3 : List Int) (l0_4 : List (S240)) (a0_5 : Int) (l0_6 : List (S228)) (l0_7 : List (S46)) (l0_8 : List (S105)) (l0_9 : List (S231)) (a0_10 : Bool) (a1 : Int) : Option (Bool) := (laws_szWorld.f k l0_0 a0_1 l0_2 l0_3 l0_4 a0_5 l0_6 l0_7 l0_8 l0_9 a0_10 1048576).bind fun t442 => (if t442 < 0 then (some true) else ((laws_toWorld.f k l0_0 a0_1 l0_2 l0_3 l0_4 a0_5 l0_6 l0_7 l0_8 l0_9 a0_10).bind fun bt443 => ((spec_SureOf.f k bt443.1 bt443.2.1 bt443.2.2.1 bt443.2.2.2.1 bt443.2.2.2.2.1 bt443.2.2.2.2.2.1 bt443.2.2.2.2.2.2.1 bt443.2.2.2.2.2.2.2.1 bt443.2.2.2.2.2.2.2.2.1 bt443.2.2.2.2.2.2.2.2.2.1 bt443.2.2.2.2.2.2.2.2.2.2 a1).bind fun t470 => ((laws_toWorld.f k l0_0 a0_1 l0_2 l0_3 l0_4 a0_5 l0_6 l0_7 l0_8 l0_9 a0_10).bind fun bt471 => ((impl_SureOf.f k bt471.1 bt471.2.1 bt471.2.2.1 bt471.2.2.2.1 bt471.2.2.2.2.1 bt471.2.2.2.2.2.1 bt471.2.2.2.2.2.2.1 bt471.2.2.2.2.2.2.2.1 bt471.2.2.2.2.2.2.2.2.1 bt471.2.2.2.2.2.2.2.2.2.1 bt471.2.2.2.2.2.2.2.2.2.2 a1).bind fun t499 => (if t499 = t470 then ((laws_toWorld.f k l0_0 a0_1 l0_2 l0_3 l0_4 a0_5 l0_6 l0_7 l0_8 l0_9 a0_10).bind fun bt500 => ((laws_eqWorld.f k bt471.1 bt471.2.1 bt471.2.2.1 bt471.2.2.2.1 bt471.2.2.2.2.1 bt471.2.2.2.2.2.1 bt471.2.2.2.2.2.2.1 bt471.2.2.2.2.2.2.2.1 bt471.2.2.2.2.2.2.2.2.1 bt471.2.2.2.2.2.2.2.2.2.1 bt471.2.2.2.2.2.2.2.2.2.2 bt500.1 bt500.2.1 bt500.2.2.1 bt500.2.2.2.1 bt500.2.2.2.2.1 bt500.2.2.2.2.2.1 bt500.2.2.2.2.2.2.1 bt500.2.2.2.2.2.2.2.1 bt500.2.2.2.2.2.2.2.2.1 bt500.2.2.2.2.2.2.2.2.2.1 bt500.2.2.2.2.2.2.2.2.2.2).bind fun t527 => (if t527 = true then (some true) else (none)))) else (none)))))))
theorem laws_FnExactSureOf.mono : ∀ a0 a1 a2 a3 a4 a5 a6 a7 a8 a9 a10 a11 k, LeO (laws_FnExactSureOf.f k a0 a1 a2 a3 a4 a5 a6 a7 a8 a9 a10 a11) (laws_FnExactSureOf.f (k + 1) a0 a1 a2 a3 a4 a5 a6 a7 a8 a9 a10 a11) := by
  intro a0 a1 a2 a3 a4 a5 a6 a7 a8 a9 a10 a11 k
  unfold laws_FnExactSureOf.f
  repeat' first
      | (with_reducible exact impl_SureOf.mono _ _ _ _ _ _ _ _ _ _ _ _ _)
      | (with_reducible exact laws_eqWorld.mono _ _ _ _ _ _ _ _ _ _ _ _ _ _ _ _ _ _ _ _ _ _ _)
      | (with_reducible exact laws_szWorld.mono _ _ _ _ _ _ _ _ _ _ _ _ _)
      | (with_reducible exact laws_toWorld.mono _ _ _ _ _ _ _ _ _ _ _ _)
      | (with_reducible exact spec_SureOf.mono _ _ _ _ _ _ _ _ _ _ _ _ _)
      | (with_reducible exact LeO.refl _)
      | (with_reducible exact LeO.none _)
      | (with_reducible refine LeO.ite ?_ ?_)
      | (with_reducible refine LeO.bind ?_ (fun _ => ?_))
      | exact impl_SureOf.mono _ _ _ _ _ _ _ _ _ _ _ _ _
      | exact laws_eqWorld.mono _ _ _ _ _ _ _ _ _ _ _ _ _ _ _ _ _ _ _ _ _ _ _
      | exact laws_szWorld.mono _ _ _ _ _ _ _ _ _ _ _ _ _
      | exact laws_toWorld.mono _ _ _ _ _ _ _ _ _ _ _ _
      | exact spec_SureOf.mono _ _ _ _ _ _ _ _ _ _ _ _ _
      | exact LeO.none _
      | refine LeO.ite ?_ ?_
      | refine LeO.bind ?_ (fun _ => ?_)
set_option maxHeartbeats 8000000 in
set_option maxRecDepth 100000 in
theorem laws_FnExactSureOf.calls (k : Nat) (A0_0 : Option Addr) (c0_0 : Nat) (l0_0 : List Int) (a0_1 : Int) (A0_2 : Option Addr) (c0_2 : Nat) (l0_2 : List (S160)) (A0_3 : Option Addr) (c0_3 : Nat) (l0_3 : List Int) (A0_4 : Option Addr) (c0_4 : Nat) (l0_4 : List (S240)) (a0_5 : Int) (A0_6 : Option Addr) (c0_6 : Nat) (l0_6 : List (S228)) (A0_7 : Option Addr) (c0_7 : Nat) (l0_7 : List (S46)) (A0_8 : Option Addr) (c0_8 : Nat) (l0_8 : List (S105)) (A0_9 : Option Addr) (c0_9 : Nat) (l0_9 : List (S231)) (a0_10 : Bool) (a1 : Int) (r : Bool) (w : World) (hr0_0 : Kd.C (Kd.int .i64) w A0_0 l0_0.length l0_0) (hc0_0 : l0_0.length ≤ c0_0) (hr0_2 : Kd.C k160 w A0_2 l0_2.length l0_2) (hc0_2 : l0_2.length ≤ c0_2) (hr0_3 : Kd.C (Kd.int .i64) w A0_3 l0_3.length l0_3) (hc0_3 : l0_3.length ≤ c0_3) (hr0_4 : Kd.C k240 w A0_4 l0_4.length l0_4) (hc0_4 : l0_4.length ≤ c0_4) (hr0_6 : Kd.C k228 w A0_6 l0_6.length l0_6) (hc0_6 : l0_6.length ≤ c0_6) (hr0_7 : Kd.C k46 w A0_7 l0_7.length l0_7) (hc0_7 : l0_7.length ≤ c0_7) (hr0_8 : Kd.C k105 w A0_8 l0_8.length l0_8) (hc0_8 : l0_8.length ≤ c0_8) (hr0_9 : Kd.C k231 w A0_9 l0_9.length l0_9) (hc0_9 : l0_9.length ≤ c0_9) (h : laws_FnExactSureOf.f k l0_0 a0_1 l0_2 l0_3 l0_4 a0_5 l0_6 l0_7 l0_8 l0_9 a0_10 a1 = some r) :
    Calls Try.prog 7 #[.agg #[.slice A0_0 l0_0.length c0_0, .int .i64 a0_1, .slice A0_2 l0_2.length c0_2, .slice A0_3 l0_3.length c0_3, .slice A0_4 l0_4.length c0_4, .int .i64 a0_5, .slice A0_6 l0_6.length c0_6, .slice A0_7 l0_7.length c0_7, .slice A0_8 l0_8.length c0_8, .slice A0_9 l0_9.length c0_9, .bool a0_10], .int .i64 a1] w fun e w' => e = .returned (.bool r) ∧ Below w.heap.size w w' := by
  have hu91 := Try.underlying91
  have hu99 := Try.underlying99
  have HR0_0 := Aside0.mk hr0_0
  have HC0_0 := Aside0.mk hc0_0
  clear hr0_0 hc0_0
  have HR0_2 := Aside0.mk hr0_2
  have HC0_2 := Aside0.mk hc0_2
  clear hr0_2 hc0_2
  have HR0_3 := Aside0.mk hr0_3
  have HC0_3 := Aside0.mk hc0_3
  clear hr0_3 hc0_3
  have HR0_4 := Aside0.mk hr0_4
  have HC0_4 := Aside0.mk hc0_4
  clear hr0_4 hc0_4
  have HR0_6 := Aside0.mk hr0_6
  have HC0_6 := Aside0.mk hc0_6
  clear hr0_6 hc0_6
  have HR0_7 := Aside0.mk hr0_7
  have HC0_7 := Aside0.mk hc0_7
  clear hr0_7 hc0_7
  have HR0_8 := Aside0.mk hr0_8
  have HC0_8 := Aside0.mk hc0_8
  clear hr0_8 hc0_8
  have HR0_9 := Aside0.mk hr0_9
  have HC0_9 := Aside0.mk hc0_9
  clear hr0_9 hc0_9
  have HB := Aside0.mk (Below.refl w.heap.size w)
  have H : ((laws_szWorld.f k l0_0 a0_1 l0_2 l0_3 l0_4 a0_5 l0_6 l0_7 l0_8 l0_9 a0_10 1048576).bind fun t442 => (if t442 < 0 then (some true) else ((laws_toWorld.f k l0_0 a0_1 l0_2 l0_3 l0_4 a0_5 l0_6 l0_7 l0_8 l0_9 a0_10).bind fun bt443 => ((spec_SureOf.f k bt443.1 bt443.2.1 bt443.2.2.1 bt443.2.2.2.1 bt443.2.2.2.2.1 bt443.2.2.2.2.2.1 bt443.2.2.2.2.2.2.1 bt443.2.2.2.2.2.2.2.1 bt443.2.2.2.2.2.2.2.2.1 bt443.2.2.2.2.2.2.2.2.2.1 bt443.2.2.2.2.2.2.2.2.2.2 a1).bind fun t470 => ((laws_toWorld.f k l0_0 a0_1 l0_2 l0_3 l0_4 a0_5 l0_6 l0_7 l0_8 l0_9 a0_10).bind fun bt471 => ((impl_SureOf.f k bt471.1 bt471.2.1 bt471.2.2.1 bt471.2.2.2.1 bt471.2.2.2.2.1 bt471.2.2.2.2.2.1 bt471.2.2.2.2.2.2.1 bt471.2.2.2.2.2.2.2.1 bt471.2.2.2.2.2.2.2.2.1 bt471.2.2.2.2.2.2.2.2.2.1 bt471.2.2.2.2.2.2.2.2.2.2 a1).bind fun t499 => (if t499 = t470 then ((laws_toWorld.f k l0_0 a0_1 l0_2 l0_3 l0_4 a0_5 l0_6 l0_7 l0_8 l0_9 a0_10).bind fun bt500 => ((laws_eqWorld.f k bt471.1 bt471.2.1 bt471.2.2.1 bt471.2.2.2.1 bt471.2.2.2.2.1 bt471.2.2.2.2.2.1 bt471.2.2.2.2.2.2.1 bt471.2.2.2.2.2.2.2.1 bt471.2.2.2.2.2.2.2.2.1 bt471.2.2.2.2.2.2.2.2.2.1 bt471.2.2.2.2.2.2.2.2.2.2 bt500.1 bt500.2.1 bt500.2.2.1 bt500.2.2.2.1 bt500.2.2.2.2.1 bt500.2.2.2.2.2.1 bt500.2.2.2.2.2.2.1 bt500.2.2.2.2.2.2.2.1 bt500.2.2.2.2.2.2.2.2.1 bt500.2.2.2.2.2.2.2.2.2.1 bt500.2.2.2.2.2.2.2.2.2.2).bind fun t527 => (if t527 = true then (some true) else (none)))) else (none)))))))) = some r := h
  clear h
  replace H := Option.bind_eq_some_iff.mp H
  obtain ⟨t442, A30, H⟩ := H
  replace H : (if t442 < 0 then (some true) else ((laws_toWorld.f k l0_0 a0_1 l0_2 l0_3 l0_4 a0_5 l0_6 l0_7 l0_8 l0_9 a0_10).bind fun bt443 => ((spec_SureOf.f k bt443.1 bt443.2.1 bt443.2.2.1 bt443.2.2.2.1 bt443.2.2.2.2.1 bt443.2.2.2.2.2.1 bt443.2.2.2.2.2.2.1 bt443.2.2.2.2.2.2.2.1 bt443.2.2.2.2.2.2.2.2.1 bt443.2.2.2.2.2.2.2.2.2.1 bt443.2.2.2.2.2.2.2.2.2.2 a1).bind fun t470 => ((laws_toWorld.f k l0_0 a0_1 l0_2 l0_3 l0_4 a0_5 l0_6 l0_7 l0_8 l0_9 a0_10).bind fun bt471 => ((impl_SureOf.f k bt471.1 bt471.2.1 bt471.2.2.1 bt471.2.2.2.1 bt471.2.2.2.2.1 bt471.2.2.2.2.2.1 bt471.2.2.2.2.2.2.1 bt471.2.2.2.2.2.2.2.1 bt471.2.2.2.2.2.2.2.2.1 bt471.2.2.2.2.2.2.2.2.2.1 bt471.2.2.2.2.2.2.2.2.2.2 a1).bind fun t499 => (if t499 = t470 then ((laws_toWorld.f k l0_0 a0_1 l0_2 l0_3 l0_4 a0_5 l0_6 l0_7 l0_8 l0_9 a0_10).bind fun bt500 => ((laws_eqWorld.f k bt471.1 bt471.2.1 bt471.2.2.1 bt471.2.2.2.1 bt471.2.2.2.2.1 bt471.2.2.2.2.2.1 bt471.2.2.2.2.2.2.1 bt471.2.2.2.2.2.2.2.1 bt471.2.2.2.2.2.2.2.2.1 bt471.2.2.2.2.2.2.2.2.2.1 bt471.2.2.2.2.2.2.2.2.2.2 bt500.1 bt500.2.1 bt500.2.2.1 bt500.2.2.2.1 bt500.2.2.2.2.1 bt500.2.2.2.2.2.1 bt500.2.2.2.2.2.2.1 bt500.2.2.2.2.2.2.2.1 bt500.2.2.2.2.2.2.2.2.1 bt500.2.2.2.2.2.2.2.2.2.1 bt500.2.2.2.2.2.2.2.2.2.2).bind fun t527 => (if t527 = true then (some true) else (none)))) else (none))))))) = some r := H
  have A3 := Aside0.mk A30
  clear A30
  by_cases c4 : t442 < 0
  · rw [if_pos c4] at H
    have c4b0 : decide (t442 < 0) = true := decide_eq_true c4
    clear c4
    obtain rfl := Option.some.inj H
    go_enter Try.func7, Try.ntmps7
    go_wp2_with (first | ((with_reducible refine gate_dst (N := 2) rfl ?_); refine box_event kr_ (N := 2) kr_ (cs := #[.slice A0_0 l0_0.length c0_0, .int .i64 a0_1, .slice A0_2 l0_2.length c0_2, .slice A0_3 l0_3.length c0_3, .slice A0_4 l0_4.length c0_4, .int .i64 a0_5, .slice A0_6 l0_6.length c0_6, .slice A0_7 l0_7.length c0_7, .slice A0_8 l0_8.length c0_8, .slice A0_9 l0_9.length c0_9, .bool a0_10]) (t := 91) ks_ ?_; intro gb441 hg w1 hbox hb; have n0_ := Aside0.mk (below_step dz0 hb); have n1_ := Aside0.mk (hbox); have n2_ : Aside0 (w.heap.size ≤ gb441) := szl_ hg dz0; have n3_ : Aside0 (w.heap.size ≤ gb441) := szl_ hg dz0; clear HB; have HB := n0_; have BK441 := n1_; have GW441 := n2_; have GE441 := n3_; clear n0_ n1_ n2_ n3_; clear hb hbox hg; obtain ⟨hcz6_0, hcz6_1, hcz6_2, hcz6_3, hcz6_4, hcz6_5, hcz6_6, hcz6_7, hcz6_8, hcz6_9, hcz6_10, hfz6_0, hfz6_1, hfz6_2, hfz6_3, hfz6_4, hfz6_5, hfz6_6, hfz6_7, hfz6_8, hfz6_9, hfz6_10⟩ := cz11_ BK441) | ((with_reducible refine gate_callee (f := 44) rfl ?_); refine goesL_ (some 11) rfl rfl Try.func44 (by kernel_rfl) rfl #[.agg #[.slice A0_0 l0_0.length c0_0, .int .i64 a0_1, .slice A0_2 l0_2.length c0_2, .slice A0_3 l0_3.length c0_3, .slice A0_4 l0_4.length c0_4, .int .i64 a0_5, .slice A0_6 l0_6.length c0_6, .slice A0_7 l0_7.length c0_7, .slice A0_8 l0_8.length c0_8, .slice A0_9 l0_9.length c0_9, .bool a0_10], .int .i64 1048576] rfl dz2 ?_; (with_reducible refine (laws_szWorld.calls k _ _ l0_0 a0_1 _ _ l0_2 _ _ l0_3 _ _ l0_4 a0_5 _ _ l0_6 _ _ l0_7 _ _ l0_8 _ _ l0_9 a0_10 1048576 t442 _ ?side1 ?side2 ?side3 ?side4 ?side5 ?side6 ?side7 ?side8 ?side9 ?side10 ?side11 ?side12 ?side13 ?side14 ?side15 ?side16 A3.out).mono ?_); (case side1 => exact dz83); (case side2 => exact HC0_0.out); (case side3 => exact dz90); (case side4 => exact HC0_2.out); (case side5 => exact dz97); (case side6 => exact HC0_3.out); (case side7 => exact dz108); (case side8 => exact HC0_4.out); (case side9 => exact dz99); (case side10 => exact HC0_6.out); (case side11 => exact dz100); (case side12 => exact HC0_7.out); (case side13 => exact dz101); (case side14 => exact HC0_8.out); (case side15 => exact dz102); (case side16 => exact HC0_9.out); rintro e w2 ⟨rfl, hb⟩; refine ⟨_, rfl, ?_⟩; have n0_ := (bkb_ BK441 hb); have n1_ := Aside0.mk (below_step dz5 hb); clear BK441; clear HB; have BK441 := n0_; have HB := n1_; clear n0_ n1_; (try clear hb); (try clear hb2); (try clear hk); (try clear hi)))
    go_ret
    exact ⟨by first | rfl | (simp [errW_none, errW_some] <;> rfl) | (simp [*, errW_none, errW_some] <;> rfl), by repeat (first | (with_reducible first | exact HB.out | apply below_alloc | apply pw_below_drewN | apply below_drew1 | refine below_set ?_ GE441.out) | exact HB.out)⟩
  rw [if_neg c4] at H
  have c4b0 : decide (t442 < 0) = false := decide_eq_false c4
  clear c4
  replace H := Option.bind_eq_some_iff.mp H
  obtain ⟨⟨t443, t446, t447, t450, t453, t456, t457, t460, t463, t466, t469⟩, A80, H⟩ := H
  replace H : ((spec_SureOf.f k t443 t446 t447 t450 t453 t456 t457 t460 t463 t466 t469 a1).bind fun t470 => ((laws_toWorld.f k l0_0 a0_1 l0_2 l0_3 l0_4 a0_5 l0_6 l0_7 l0_8 l0_9 a0_10).bind fun bt471 => ((impl_SureOf.f k bt471.1 bt471.2.1 bt471.2.2.1 bt471.2.2.2.1 bt471.2.2.2.2.1 bt471.2.2.2.2.2.1 bt471.2.2.2.2.2.2.1 bt471.2.2.2.2.2.2.2.1 bt471.2.2.2.2.2.2.2.2.1 bt471.2.2.2.2.2.2.2.2.2.1 bt471.2.2.2.2.2.2.2.2.2.2 a1).bind fun t499 => (if t499 = t470 then ((laws_toWorld.f k l0_0 a0_1 l0_2 l0_3 l0_4 a0_5 l0_6 l0_7 l0_8 l0_9 a0_10).bind fun bt500 => ((laws_eqWorld.f k bt471.1 bt471.2.1 bt471.2.2.1 bt471.2.2.2.1 bt471.2.2.2.2.1 bt471.2.2.2.2.2.1 bt471.2.2.2.2.2.2.1 bt471.2.2.2.2.2.2.2.1 bt471.2.2.2.2.2.2.2.2.1 bt471.2.2.2.2.2.2.2.2.2.1 bt471.2.2.2.2.2.2.2.2.2.2 bt500.1 bt500.2.1 bt500.2.2.1 bt500.2.2.2.1 bt500.2.2.2.2.1 bt500.2.2.2.2.2.1 bt500.2.2.2.2.2.2.1 bt500.2.2.2.2.2.2.2.1 bt500.2.2.2.2.2.2.2.2.1 bt500.2.2.2.2.2.2.2.2.2.1 bt500.2.2.2.2.2.2.2.2.2.2).bind fun t527 => (if t527 = true then (some true) else (none)))) else (none))))) = some r := H
  have A8 := Aside0.mk A80
  clear A80
  replace H := Option.bind_eq_some_iff.mp H
  obtain ⟨t470, A90, H⟩ := H
  replace H : ((laws_toWorld.f k l0_0 a0_1 l0_2 l0_3 l0_4 a0_5 l0_6 l0_7 l0_8 l0_9 a0_10).bind fun bt471 => ((impl_SureOf.f k bt471.1 bt471.2.1 bt471.2.2.1 bt471.2.2.2.1 bt471.2.2.2.2.1 bt471.2.2.2.2.2.1 bt471.2.2.2.2.2.2.1 bt471.2.2.2.2.2.2.2.1 bt471.2.2.2.2.2.2.2.2.1 bt471.2.2.2.2.2.2.2.2.2.1 bt471.2.2.2.2.2.2.2.2.2.2 a1).bind fun t499 => (if t499 = t470 then ((laws_toWorld.f k l0_0 a0_1 l0_2 l0_3 l0_4 a0_5 l0_6 l0_7 l0_8 l0_9 a0_10).bind fun bt500 => ((laws_eqWorld.f k bt471.1 bt471.2.1 bt471.2.2.1 bt471.2.2.2.1 bt471.2.2.2.2.1 bt471.2.2.2.2.2.1 bt471.2.2.2.2.2.2.1 bt471.2.2.2.2.2.2.2.1 bt471.2.2.2.2.2.2.2.2.1 bt471.2.2.2.2.2.2.2.2.2.1 bt471.2.2.2.2.2.2.2.2.2.2 bt500.1 bt500.2.1 bt500.2.2.1 bt500.2.2.2.1 bt500.2.2.2.2.1 bt500.2.2.2.2.2.1 bt500.2.2.2.2.2.2.1 bt500.2.2.2.2.2.2.2.1 bt500.2.2.2.2.2.2.2.2.1 bt500.2.2.2.2.2.2.2.2.2.1 bt500.2.2.2.2.2.2.2.2.2.2).bind fun t527 => (if t527 = true then (some true) else (none)))) else (none)))) = some r := H
  have A9 := Aside0.mk A90
  clear A90
  replace H := Option.bind_eq_some_iff.mp H
  obtain ⟨⟨t471, t474, t475, t478, t481, t484, t485, t488, t491, t494, t497⟩, A100, H⟩ := H
  replace H : ((impl_SureOf.f k t471 t474 t475 t478 t481 t484 t485 t488 t491 t494 t497 a1).bind fun t499 => (if t499 = t470 then ((laws_toWorld.f k l0_0 a0_1 l0_2 l0_3 l0_4 a0_5 l0_6 l0_7 l0_8 l0_9 a0_10).bind fun bt500 => ((laws_eqWorld.f k t471 t474 t475 t478 t481 t484 t485 t488 t491 t494 t497 bt500.1 bt500.2.1 bt500.2.2.1 bt500.2.2.2.1 bt500.2.2.2.2.1 bt500.2.2.2.2.2.1 bt500.2.2.2.2.2.2.1 bt500.2.2.2.2.2.2.2.1 bt500.2.2.2.2.2.2.2.2.1 bt500.2.2.2.2.2.2.2.2.2.1 bt500.2.2.2.2.2.2.2.2.2.2).bind fun t527 => (if t527 = true then (some true) else (none)))) else (none))) = some r := H
  have A10 := Aside0.mk A100
  clear A100
  replace H := Option.bind_eq_some_iff.mp H
  obtain ⟨t499, A110, H⟩ := H
  replace H : (if t499 = t470 then ((laws_toWorld.f k l0_0 a0_1 l0_2 l0_3 l0_4 a0_5 l0_6 l0_7 l0_8 l0_9 a0_10).bind fun bt500 => ((laws_eqWorld.f k t471 t474 t475 t478 t481 t484 t485 t488 t491 t494 t497 bt500.1 bt500.2.1 bt500.2.2.1 bt500.2.2.2.1 bt500.2.2.2.2.1 bt500.2.2.2.2.2.1 bt500.2.2.2.2.2.2.1 bt500.2.2.2.2.2.2.2.1 bt500.2.2.2.2.2.2.2.2.1 bt500.2.2.2.2.2.2.2.2.2.1 bt500.2.2.2.2.2.2.2.2.2.2).bind fun t527 => (if t527 = true then (some true) else (none)))) else (none)) = some r := H
  have A11 := Aside0.mk A110
  clear A110
  by_cases c12 : t499 = t470
  · rw [if_pos c12] at H
    have c12b0 : (t499 == t470) = true := beq_iff_eq.mpr c12
    have c12b1 : (t499 != t470) = false := bne_eq_false_iff_eq.mpr c12
    clear c12
    replace H := Option.bind_eq_some_iff.mp H
    obtain ⟨⟨t500, t503, t504, t507, t510, t513, t514, t517, t520, t523, t526⟩, A130, H⟩ := H
    replace H : ((laws_eqWorld.f k t471 t474 t475 t478 t481 t484 t485 t488 t491 t494 t497 t500 t503 t504 t507 t510 t513 t514 t517 t520 t523 t526).bind fun t527 => (if t527 = true then (some true) else (none))) = some r := H
    have A13 := Aside0.mk A130
    clear A130
    replace H := Option.bind_eq_some_iff.mp H
    obtain ⟨t527, A140, H⟩ := H
    replace H : (if t527 = true then (some true) else (none)) = some r := H
    have A14 := Aside0.mk A140
    clear A140
    by_cases c15 : t527 = true
    · subst c15
      have H1 : (some true) = some r := by rw [if_pos rfl] at H; exact H
      clear H
      have H := H1
      clear H1
      obtain rfl := Option.some.inj H
      go_enter Try.func7, Try.ntmps7
      try go_wp2_with (first | ((with_reducible refine gate_dst (N := 2) rfl ?_); refine box_event kr_ (N := 2) kr_ (cs := #[.slice A0_0 l0_0.length c0_0, .int .i64 a0_1, .slice A0_2 l0_2.length c0_2, .slice A0_3 l0_3.length c0_3, .slice A0_4 l0_4.length c0_4, .int .i64 a0_5, .slice A0_6 l0_6.length c0_6, .slice A0_7 l0_7.length c0_7, .slice A0_8 l0_8.length c0_8, .slice A0_9 l0_9.length c0_9, .bool a0_10]) (t := 91) ks_ ?_; intro gb441 hg w1 hbox hb; have n0_ := Aside0.mk (below_step dz0 hb); have n1_ := Aside0.mk (hbox); have n2_ : Aside0 (w.heap.size ≤ gb441) := szl_ hg dz0; have n3_ : Aside0 (w.heap.size ≤ gb441) := szl_ hg dz0; clear HB; have HB := n0_; have BK441 := n1_; have GW441 := n2_; have GE441 := n3_; clear n0_ n1_ n2_ n3_; clear hb hbox hg; obtain ⟨hcz17_0, hcz17_1, hcz17_2, hcz17_3, hcz17_4, hcz17_5, hcz17_6, hcz17_7, hcz17_8, hcz17_9, hcz17_10, hfz17_0, hfz17_1, hfz17_2, hfz17_3, hfz17_4, hfz17_5, hfz17_6, hfz17_7, hfz17_8, hfz17_9, hfz17_10⟩ := cz11_ BK441) | ((with_reducible refine gate_callee (f := 44) rfl ?_); refine goesL_ (some 11) rfl rfl Try.func44 (by kernel_rfl) rfl #[.agg #[.slice A0_0 l0_0.length c0_0, .int .i64 a0_1, .slice A0_2 l0_2.length c0_2, .slice A0_3 l0_3.length c0_3, .slice A0_4 l0_4.length c0_4, .int .i64 a0_5, .slice A0_6 l0_6.length c0_6, .slice A0_7 l0_7.length c0_7, .slice A0_8 l0_8.length c0_8, .slice A0_9 l0_9.length c0_9, .bool a0_10], .int .i64 1048576] rfl dz2 ?_; (with_reducible refine (laws_szWorld.calls k _ _ l0_0 a0_1 _ _ l0_2 _ _ l0_3 _ _ l0_4 a0_5 _ _ l0_6 _ _ l0_7 _ _ l0_8 _ _ l0_9 a0_10 1048576 t442 _ ?side1 ?side2 ?side3 ?side4 ?side5 ?side6 ?side7 ?side8 ?side9 ?side10 ?side11 ?side12 ?side13 ?side14 ?side15 ?side16 A3.out).mono ?_); (case side1 => exact dz83); (case side2 => exact HC0_0.out); (case side3 => exact dz90); (case side4 => exact HC0_2.out); (case side5 => exact dz97); (case side6 => exact HC0_3.out); (case side7 => exact dz108); (case side8 => exact HC0_4.out); (case side9 => exact dz99); (case side10 => exact HC0_6.out); (case side11 => exact dz100); (case side12 => exact HC0_7.out); (case side13 => exact dz101); (case side14 => exact HC0_8.out); (case side15 => exact dz102); (case side16 => exact HC0_9.out); rintro e w2 ⟨rfl, hb⟩; refine ⟨_, rfl, ?_⟩; have n0_ := (bkb_ BK441 hb); have n1_ := Aside0.mk (below_step dz5 hb); clear BK441; clear HB; have BK441 := n0_; have HB := n1_; clear n0_ n1_; (try clear hb); (try clear hb2); (try clear hk); (try clear hi); obtain ⟨hcz19_0, hcz19_1, hcz19_2, hcz19_3, hcz19_4, hcz19_5, hcz19_6, hcz19_7, hcz19_8, hcz19_9, hcz19_10, hfz19_0, hfz19_1, hfz19_2, hfz19_3, hfz19_4, hfz19_5, hfz19_6, hfz19_7, hfz19_8, hfz19_9, hfz19_10⟩ := cz11_ BK441) | ((with_reducible refine gate_callee (f := 46) rfl ?_); refine goesL_ (some 15) rfl rfl Try.func46 (by kernel_rfl) rfl #[.agg #[.slice A0_0 l0_0.length c0_0, .int .i64 a0_1, .slice A0_2 l0_2.length c0_2, .slice A0_3 l0_3.length c0_3, .slice A0_4 l0_4.length c0_4, .int .i64 a0_5, .slice A0_6 l0_6.length c0_6, .slice A0_7 l0_7.length c0_7, .slice A0_8 l0_8.length c0_8, .slice A0_9 l0_9.length c0_9, .bool a0_10]] rfl dz2 ?_; (with_reducible refine (laws_toWorld.calls k _ _ l0_0 a0_1 _ _ l0_2 _ _ l0_3 _ _ l0_4 a0_5 _ _ l0_6 _ _ l0_7 _ _ l0_8 _ _ l0_9 a0_10 t443 t446 t447 t450 t453 t456 t457 t460 t463 t466 t469 _ ?side1 ?side2 ?side3 ?side4 ?side5 ?side6 ?side7 ?side8 ?side9 ?side10 ?side11 ?side12 ?side13 ?side14 ?side15 ?side16 A8.out).mono ?_); (case side1 => exact dz83); (case side2 => exact HC0_0.out); (case side3 => exact dz90); (case side4 => exact HC0_2.out); (case side5 => exact dz97); (case side6 => exact HC0_3.out); (case side7 => exact dz108); (case side8 => exact HC0_4.out); (case side9 => exact dz99); (case side10 => exact HC0_6.out); (case side11 => exact dz100); (case side12 => exact HC0_7.out); (case side13 => exact dz101); (case side14 => exact HC0_8.out); (case side15 => exact dz102); (case side16 => exact HC0_9.out); rintro e w3 ⟨v444, v448, v451, v454, v458, v461, v464, v467, rfl, ho0, ho1, ho2, ho3, ho4, ho5, ho6, ho7, hb⟩; refine ⟨_, rfl, ?_⟩; have n0_ := Aside0.mk (Kd.R_lower ho0 (below_size dz5)); have n1_ := Aside0.mk (Kd.S_lower ho1 (below_size dz5)); have n2_ := Aside0.mk (Kd.R_lower ho2 (below_size dz5)); have n3_ := Aside0.mk (Kd.S_lower ho3 (below_size dz5)); have n4_ := Aside0.mk (Kd.R_lower ho4 (below_size dz5)); have n5_ := Aside0.mk (Kd.R_lower ho5 (below_size dz5)); have n6_ := Aside0.mk (Kd.S_lower ho6 (below_size dz5)); have n7_ := Aside0.mk (Kd.R_lower ho7 (below_size dz5)); have n8_ := (bkb_ BK441 hb); have n9_ := Aside0.mk (below_step dz5 hb); clear BK441; clear HB; have HO445 := n0_; have HO449 := n1_; have HO452 := n2_; have HO455 := n3_; have HO459 := n4_; have HO462 := n5_; have HO465 := n6_; have HO468 := n7_; have BK441 := n8_; have HB := n9_; clear n0_ n1_ n2_ n3_ n4_ n5_ n6_ n7_ n8_ n9_; (try clear hb); (try clear hb2); (try clear hk); (try clear hi); (try clear ho0); (try clear ho1); (try clear ho2); (try clear ho3); (try clear ho4); (try clear ho5); (try clear ho6); (try clear ho7); obtain ⟨Ao21, co21, eo21⟩ := Kd.R_slice HO445.out; subst eo21; obtain ⟨Ao22, co22, eo22⟩ := Kd.S_slice HO449.out; subst eo22; obtain ⟨Ao23, co23, eo23⟩ := Kd.R_slice HO452.out; subst eo23; obtain ⟨Ao24, co24, eo24⟩ := Kd.S_slice HO455.out; subst eo24; obtain ⟨Ao25, co25, eo25⟩ := Kd.R_slice HO459.out; subst eo25; obtain ⟨Ao26, co26, eo26⟩ := Kd.R_slice HO462.out; subst eo26; obtain ⟨Ao27, co27, eo27⟩ := Kd.S_slice HO465.out; subst eo27; obtain ⟨Ao28, co28, eo28⟩ := Kd.R_slice HO468.out; subst eo28) | ((with_reducible refine gate_callee (f := 45) rfl ?_); refine goesL_ (some 17) rfl rfl Try.func45 (by kernel_rfl) rfl #[.agg #[.slice Ao21 t443.length co21, .int .i64 t446, .slice Ao22 t447.length co22, .slice Ao23 t450.length co23, .slice Ao24 t453.length co24, .int .i64 t456, .slice Ao25 t457.length co25, .slice Ao26 t460.length co26, .slice Ao27 t463.length co27, .slice Ao28 t466.length co28, .bool t469], .int .i64 a1] rfl dz2 ?_; (with_reducible refine (spec_SureOf.calls k _ _ t443 t446 _ _ t447 _ _ t450 _ _ t453 t456 _ _ t457 _ _ t460 _ _ t463 _ _ t466 t469 a1 t470 _ ?side1 ?side2 ?side3 ?side4 ?side5 ?side6 ?side7 ?side8 ?side9 ?side10 ?side11 ?side12 ?side13 ?side14 ?side15 ?side16 A9.out).mono ?_); (case side1 => repeat (first | exact (Kd.R_reads' HO445.out).2.2 | (with_reducible refine Kd.C_alloc ?_ _) | (with_reducible refine Kd.C_drewN ?_ _) | (with_reducible refine Kd.C_drew ?_))); (case side2 => exact (Kd.R_reads' HO445.out).2.1); (case side3 => repeat (first | exact (Kd.S_reads' HO449.out).2.2 | (with_reducible refine Kd.C_alloc ?_ _) | (with_reducible refine Kd.C_drewN ?_ _) | (with_reducible refine Kd.C_drew ?_))); (case side4 => exact (Kd.S_reads' HO449.out).2.1); (case side5 => repeat (first | exact (Kd.R_reads' HO452.out).2.2 | (with_reducible refine Kd.C_alloc ?_ _) | (with_reducible refine Kd.C_drewN ?_ _) | (with_reducible refine Kd.C_drew ?_))); (case side6 => exact (Kd.R_reads' HO452.out).2.1); (case side7 => repeat (first | exact (Kd.S_reads' HO455.out).2.2 | (with_reducible refine Kd.C_alloc ?_ _) | (with_reducible refine Kd.C_drewN ?_ _) | (with_reducible refine Kd.C_drew ?_))); (case side8 => exact (Kd.S_reads' HO455.out).2.1); (case side9 => repeat (first | exact (Kd.R_reads' HO459.out).2.2 | (with_reducible refine Kd.C_alloc ?_ _) | (with_reducible refine Kd.C_drewN ?_ _) | (with_reducible refine Kd.C_drew ?_))); (case side10 => exact (Kd.R_reads' HO459.out).2.1); (case side11 => repeat (first | exact (Kd.R_reads' HO462.out).2.2 | (with_reducible refine Kd.C_alloc ?_ _) | (with_reducible refine Kd.C_drewN ?_ _) | (with_reducible refine Kd.C_drew ?_))); (case side12 => exact (Kd.R_reads' HO462.out).2.1); (case side13 => repeat (first | exact (Kd.S_reads' HO465.out).2.2 | (with_reducible refine Kd.C_alloc ?_ _) | (with_reducible refine Kd.C_drewN ?_ _) | (with_reducible refine Kd.C_drew ?_))); (case side14 => exact (Kd.S_reads' HO465.out).2.1); (case side15 => repeat (first | exact (Kd.R_reads' HO468.out).2.2 | (with_reducible refine Kd.C_alloc ?_ _) | (with_reducible refine Kd.C_drewN ?_ _) | (with_reducible refine Kd.C_drew ?_))); (case side16 => exact (Kd.R_reads' HO468.out).2.1); rintro e w4 ⟨rfl, hb⟩; refine ⟨_, rfl, ?_⟩; have n0_ := (rbb_ HO445 hb); have n1_ := (sbb_ HO449 hb); have n2_ := (rbb_ HO452 hb); have n3_ := (sbb_ HO455 hb); have n4_ := (rbb_ HO459 hb); have n5_ := (rbb_ HO462 hb); have n6_ := (sbb_ HO465 hb); have n7_ := (rbb_ HO468 hb); have n8_ := (bkb_ BK441 hb); have n9_ := Aside0.mk (below_step dz5 hb); clear HO445; clear HO449; clear HO452; clear HO455; clear HO459; clear HO462; clear HO465; clear HO468; clear BK441; clear HB; have HO445 := n0_; have HO449 := n1_; have HO452 := n2_; have HO455 := n3_; have HO459 := n4_; have HO462 := n5_; have HO465 := n6_; have HO468 := n7_; have BK441 := n8_; have HB := n9_; clear n0_ n1_ n2_ n3_ n4_ n5_ n6_ n7_ n8_ n9_; (try clear hb); (try clear hb2); (try clear hk); (try clear hi); obtain ⟨hcz30_0, hcz30_1, hcz30_2, hcz30_3, hcz30_4, hcz30_5, hcz30_6, hcz30_7, hcz30_8, hcz30_9, hcz30_10, hfz30_0, hfz30_1, hfz30_2, hfz30_3, hfz30_4, hfz30_5, hfz30_6, hfz30_7, hfz30_8, hfz30_9, hfz30_10⟩ := cz11_ BK441) | ((with_reducible refine gate_callee (f := 46) rfl ?_); refine goesL_ (some 19) rfl rfl Try.func46 (by kernel_rfl) rfl #[.agg #[.slice A0_0 l0_0.length c0_0, .int .i64 a0_1, .slice A0_2 l0_2.length c0_2, .slice A0_3 l0_3.length c0_3, .slice A0_4 l0_4.length c0_4, .int .i64 a0_5, .slice A0_6 l0_6.length c0_6, .slice A0_7 l0_7.length c0_7, .slice A0_8 l0_8.length c0_8, .slice A0_9 l0_9.length c0_9, .bool a0_10]] rfl dz2 ?_; (with_reducible refine (laws_toWorld.calls k _ _ l0_0 a0_1 _ _ l0_2 _ _ l0_3 _ _ l0_4 a0_5 _ _ l0_6 _ _ l0_7 _ _ l0_8 _ _ l0_9 a0_10 t471 t474 t475 t478 t481 t484 t485 t488 t491 t494 t497 _ ?side1 ?side2 ?side3 ?side4 ?side5 ?side6 ?side7 ?side8 ?side9 ?side10 ?side11 ?side12 ?side13 ?side14 ?side15 ?side16 A10.out).mono ?_); (case side1 => exact dz83); (case side2 => exact HC0_0.out); (case side3 => exact dz90); (case side4 => exact HC0_2.out); (case side5 => exact dz97); (case side6 => exact HC0_3.out); (case side7 => exact dz108); (case side8 => exact HC0_4.out); (case side9 => exact dz99); (case side10 => exact HC0_6.out); (case side11 => exact dz100); (case side12 => exact HC0_7.out); (case side13 => exact dz101); (case side14 => exact HC0_8.out); (case side15 => exact dz102); (case side16 => exact HC0_9.out); rintro e w6 ⟨v472, v476, v479, v482, v486, v489, v492, v495, rfl, ho0, ho1, ho2, ho3, ho4, ho5, ho6, ho7, hb⟩; refine ⟨_, rfl, ?_⟩; have n0_ := Aside0.mk (Kd.R_mono (Kd.R_told (Kd.R_told (Kd.R_old dz7 hb) (Kd.R_base ho0)) (Kd.R_base ho2)) (fun _ h_ => h_.1)); have n1_ := Aside0.mk (Kd.S_elder' dz24 (Kd.S_base ho1) hb); have n2_ := Aside0.mk (Kd.R_mono (Kd.R_told (Kd.R_told (Kd.R_old dz8 hb) (Kd.R_base ho0)) (Kd.R_base ho2)) (fun _ h_ => h_.1)); have n3_ := Aside0.mk (Kd.S_mono (Kd.S_told (Kd.S_told (Kd.S_told (Kd.S_old dz25 hb) (Kd.R_base ho0)) (Kd.R_base ho2)) (Kd.S_base ho3)) (fun _ h_ => h_.1)); have n4_ := Aside0.mk (Kd.R_mono (Kd.R_told (Kd.R_told (Kd.R_told (Kd.R_old dz26 hb) (Kd.R_base ho0)) (Kd.R_base ho2)) (Kd.R_base ho4)) (fun _ h_ => h_.1)); have n5_ := Aside0.mk (Kd.R_mono (Kd.R_told (Kd.R_told (Kd.R_told (Kd.R_old dz27 hb) (Kd.R_base ho0)) (Kd.R_base ho2)) (Kd.R_base ho5)) (fun _ h_ => h_.1)); have n6_ := Aside0.mk (Kd.S_elder' dz28 (Kd.S_base ho6) hb); have n7_ := Aside0.mk (Kd.R_elder' dz29 (Kd.R_base ho7) hb); have n8_ := Aside0.mk (Kd.R_lower (Kd.R_new' (Kd.R_new' ho0 (Kd.R_lt dz7)) (Kd.R_lt dz8)) (below_size dz5)); have n9_ := Aside0.mk (Kd.S_lower (Kd.S_new' ho1 (Kd.S_lt dz24)) (below_size dz5)); have n10_ := Aside0.mk (Kd.R_lower (Kd.R_new' (Kd.R_new' ho2 (Kd.R_lt dz7)) (Kd.R_lt dz8)) (below_size dz5)); have n11_ := Aside0.mk (Kd.S_lower (Kd.S_new' (Kd.S_new' (Kd.S_new' ho3 (Kd.R_lt dz7)) (Kd.R_lt dz8)) (Kd.S_lt dz25)) (below_size dz5)); have n12_ := Aside0.mk (Kd.R_lower (Kd.R_new' (Kd.R_new' (Kd.R_new' ho4 (Kd.R_lt dz7)) (Kd.R_lt dz8)) (Kd.R_lt dz26)) (below_size dz5)); have n13_ := Aside0.mk (Kd.R_lower (Kd.R_new' (Kd.R_new' (Kd.R_new' ho5 (Kd.R_lt dz7)) (Kd.R_lt dz8)) (Kd.R_lt dz27)) (below_size dz5)); have n14_ := Aside0.mk (Kd.S_lower (Kd.S_new' ho6 (Kd.S_lt dz28)) (below_size dz5)); have n15_ := Aside0.mk (Kd.R_lower (Kd.R_new' ho7 (Kd.R_lt dz29)) (below_size dz5)); have n16_ := (bkb_ BK441 hb); have n17_ := Aside0.mk (below_step dz5 hb); clear HO445; clear HO449; clear HO452; clear HO455; clear HO459; clear HO462; clear HO465; clear HO468; clear BK441; clear HB; have HO445 := n0_; have HO449 := n1_; have HO452 := n2_; have HO455 := n3_; have HO459 := n4_; have HO462 := n5_; have HO465 := n6_; have HO468 := n7_; have HO473 := n8_; have HO477 := n9_; have HO480 := n10_; have HO483 := n11_; have HO487 := n12_; have HO490 := n13_; have HO493 := n14_; have HO496 := n15_; have BK441 := n16_; have HB := n17_; clear n0_ n1_ n2_ n3_ n4_ n5_ n6_ n7_ n8_ n9_ n10_ n11_ n12_ n13_ n14_ n15_ n16_ n17_; (try clear hb); (try clear hb2); (try clear hk); (try clear hi); (try clear ho0); (try clear ho1); (try clear ho2); (try clear ho3); (try clear ho4); (try clear ho5); (try clear ho6); (try clear ho7)) | ((with_reducible refine gate_dst (N := 7) rfl ?_); refine box_event kr_ (N := 7) kr_ (cs := #[.slice none 0 0, .int .i64 0, .slice none 0 0, .slice none 0 0, .slice none 0 0, .int .i64 0, .slice none 0 0, .slice none 0 0, .slice none 0 0, .slice none 0 0, .bool false]) (t := 99) ks_ ?_; intro gb498 hg w8 hbox hb; have n0_ := (rbb_ HO445 hb); have n1_ := (sbb_ HO449 hb); have n2_ := (rbb_ HO452 hb); have n3_ := (sbb_ HO455 hb); have n4_ := (rbb_ HO459 hb); have n5_ := (rbb_ HO462 hb); have n6_ := (sbb_ HO465 hb); have n7_ := (rbb_ HO468 hb); have n8_ := (rbb_ HO473 hb); have n9_ := (sbb_ HO477 hb); have n10_ := (rbb_ HO480 hb); have n11_ := (sbb_ HO483 hb); have n12_ := (rbb_ HO487 hb); have n13_ := (rbb_ HO490 hb); have n14_ := (sbb_ HO493 hb); have n15_ := (rbb_ HO496 hb); have n16_ := (bkb_ BK441 hb); have n17_ := Aside0.mk (below_step dz5 hb); have n18_ := Aside0.mk (hbox); have n19_ : Aside0 (w.heap.size ≤ gb498) := szl_ hg dz5; have n20_ : Aside0 (w.heap.size ≤ gb498) := szl_ hg dz5; have n21_ := (nbl_ hg BK441); have n22_ := (nbr_ hg BK441); clear HO445; clear HO449; clear HO452; clear HO455; clear HO459; clear HO462; clear HO465; clear HO468; clear HO473; clear HO477; clear HO480; clear HO483; clear HO487; clear HO490; clear HO493; clear HO496; clear BK441; clear HB; have HO445 := n0_; have HO449 := n1_; have HO452 := n2_; have HO455 := n3_; have HO459 := n4_; have HO462 := n5_; have HO465 := n6_; have HO468 := n7_; have HO473 := n8_; have HO477 := n9_; have HO480 := n10_; have HO483 := n11_; have HO487 := n12_; have HO490 := n13_; have HO493 := n14_; have HO496 := n15_; have BK441 := n16_; have HB := n17_; have BK498 := n18_; have GW498 := n19_; have GE498 := n20_; have NB441_498 := n21_; have NB498_441 := n22_; clear n0_ n1_ n2_ n3_ n4_ n5_ n6_ n7_ n8_ n9_ n10_ n11_ n12_ n13_ n14_ n15_ n16_ n17_ n18_ n19_ n20_ n21_ n22_; clear hb hbox hg; obtain ⟨Ao33, co33, eo33⟩ := Kd.R_slice HO473.out; subst eo33; have hnb34 := NB498_441.out; have hnc34 := NB441_498.out; obtain ⟨hcz35_0, hcz35_1, hcz35_2, hcz35_3, hcz35_4, hcz35_5, hcz35_6, hcz35_7, hcz35_8, hcz35_9, hcz35_10, hfz35_0, hfz35_1, hfz35_2, hfz35_3, hfz35_4, hfz35_5, hfz35_6, hfz35_7, hfz35_8, hfz35_9, hfz35_10⟩ := cz11_ BK498; obtain ⟨Ao36, co36, eo36⟩ := Kd.S_slice HO477.out; subst eo36; obtain ⟨Ao37, co37, eo37⟩ := Kd.R_slice HO480.out; subst eo37; obtain ⟨Ao38, co38, eo38⟩ := Kd.S_slice HO483.out; subst eo38; obtain ⟨Ao39, co39, eo39⟩ := Kd.R_slice HO487.out; subst eo39; obtain ⟨Ao40, co40, eo40⟩ := Kd.R_slice HO490.out; subst eo40; obtain ⟨Ao41, co41, eo41⟩ := Kd.S_slice HO493.out; subst eo41; obtain ⟨Ao42, co42, eo42⟩ := Kd.R_slice HO496.out; subst eo42) | ((with_reducible refine gate_callee (f := 47) rfl ?_); refine goesL_ (some 22) rfl rfl Try.func47 (by kernel_rfl) rfl #[.agg #[.slice Ao33 t471.length co33, .int .i64 t474, .slice Ao36 t475.length co36, .slice Ao37 t478.length co37, .slice Ao38 t481.length co38, .int .i64 t484, .slice Ao39 t485.length co39, .slice Ao40 t488.length co40, .slice Ao41 t491.length co41, .slice Ao42 t494.length co42, .bool t497], .int .i64 a1] rfl dz2 ?_; (with_reducible refine (impl_SureOf.calls k _ _ t471 t474 _ _ t475 _ _ t478 _ _ t481 t484 _ _ t485 _ _ t488 _ _ t491 _ _ t494 t497 a1 t499 _ ?side1 ?side2 ?side3 ?side4 ?side5 ?side6 ?side7 ?side8 ?side9 ?side10 ?side11 ?side12 ?side13 ?side14 ?side15 ?side16 A11.out).mono ?_); (case side1 => refine (Kd.R_reads' (e := 3) (base := w.heap.size) (ok := fun k_ => ((some k_ ≠ (.slice Ao37 t478.length co37 : Value).ownBlock ∧ some k_ ≠ (.slice Ao21 t443.length co21 : Value).ownBlock) ∧ some k_ ≠ (.slice Ao23 t450.length co23 : Value).ownBlock)) (n := t471.length) (c := co33) ?_).2.2; exact (by (with_reducible repeat (first | apply Kd.R_alloc | apply Kd.R_drewN | apply Kd.R_drew)); exact (Kd.R_mono (Kd.R_far (p := ⟨gb498, 10, none⟩) (Kd.R_far (p := ⟨gb498, 9, none⟩) (Kd.R_far (p := ⟨gb498, 8, none⟩) (Kd.R_far (p := ⟨gb498, 7, none⟩) (Kd.R_far (p := ⟨gb498, 6, none⟩) (Kd.R_far (p := ⟨gb498, 5, none⟩) (Kd.R_far (p := ⟨gb498, 4, none⟩) (Kd.R_far (p := ⟨gb498, 3, none⟩) (Kd.R_far (p := ⟨gb498, 2, none⟩) (Kd.R_far (p := ⟨gb498, 1, none⟩) (Kd.R_far (p := ⟨gb498, 0, none⟩) (Kd.R_types HO473.out BK498.out (by decide)) (fun _ hk => hk.2) (.slice Ao33 t471.length co33)) (fun _ hk => hk.2) (.int .i64 t474)) (fun _ hk => hk.2) (.slice Ao36 t475.length co36)) (fun _ hk => hk.2) (.slice Ao37 t478.length co37)) (fun _ hk => hk.2) (.slice Ao38 t481.length co38)) (fun _ hk => hk.2) (.int .i64 t484)) (fun _ hk => hk.2) (.slice Ao39 t485.length co39)) (fun _ hk => hk.2) (.slice Ao40 t488.length co40)) (fun _ hk => hk.2) (.slice Ao41 t491.length co41)) (fun _ hk => hk.2) (.slice Ao42 t494.length co42)) (fun _ hk => hk.2) (.bool t497)) (fun _ h_ => h_.1)))); (case side2 => exact (Kd.R_reads' HO473.out).2.1); (case side3 => refine (Kd.S_reads' (e := 64) (base := w.heap.size) (ok := fun k_ => (True ∧ some k_ ≠ (.slice Ao22 t447.length co22 : Value).ownBlock)) (n := t475.length) (c := co36) ?_).2.2; exact (by (with_reducible repeat (first | apply Kd.S_alloc | apply Kd.S_drewN | apply Kd.S_drew)); exact (Kd.S_mono (Kd.S_far (p := ⟨gb498, 10, none⟩) (Kd.S_far (p := ⟨gb498, 9, none⟩) (Kd.S_far (p := ⟨gb498, 8, none⟩) (Kd.S_far (p := ⟨gb498, 7, none⟩) (Kd.S_far (p := ⟨gb498, 6, none⟩) (Kd.S_far (p := ⟨gb498, 5, none⟩) (Kd.S_far (p := ⟨gb498, 4, none⟩) (Kd.S_far (p := ⟨gb498, 3, none⟩) (Kd.S_far (p := ⟨gb498, 2, none⟩) (Kd.S_far (p := ⟨gb498, 1, none⟩) (Kd.S_far (p := ⟨gb498, 0, none⟩) (Kd.S_types HO477.out BK498.out (by decide)) (fun _ hk => hk.2) (.slice Ao33 t471.length co33)) (fun _ hk => hk.2) (.int .i64 t474)) (fun _ hk => hk.2) (.slice Ao36 t475.length co36)) (fun _ hk => hk.2) (.slice Ao37 t478.length co37)) (fun _ hk => hk.2) (.slice Ao38 t481.length co38)) (fun _ hk => hk.2) (.int .i64 t484)) (fun _ hk => hk.2) (.slice Ao39 t485.length co39)) (fun _ hk => hk.2) (.slice Ao40 t488.length co40)) (fun _ hk => hk.2) (.slice Ao41 t491.length co41)) (fun _ hk => hk.2) (.slice Ao42 t494.length co42)) (fun _ hk => hk.2) (.bool t497)) (fun _ h_ => h_.1)))); (case side4 => exact (Kd.S_reads' HO477.out).2.1); (case side5 => refine (Kd.R_reads' (e := 3) (base := w.heap.size) (ok := fun k_ => ((some k_ ≠ (.slice Ao33 t471.length co33 : Value).ownBlock ∧ some k_ ≠ (.slice Ao21 t443.length co21 : Value).ownBlock) ∧ some k_ ≠ (.slice Ao23 t450.length co23 : Value).ownBlock)) (n := t478.length) (c := co37) ?_).2.2; exact (by (with_reducible repeat (first | apply Kd.R_alloc | apply Kd.R_drewN | apply Kd.R_drew)); exact (Kd.R_mono (Kd.R_far (p := ⟨gb498, 10, none⟩) (Kd.R_far (p := ⟨gb498, 9, none⟩) (Kd.R_far (p := ⟨gb498, 8, none⟩) (Kd.R_far (p := ⟨gb498, 7, none⟩) (Kd.R_far (p := ⟨gb498, 6, none⟩) (Kd.R_far (p := ⟨gb498, 5, none⟩) (Kd.R_far (p := ⟨gb498, 4, none⟩) (Kd.R_far (p := ⟨gb498, 3, none⟩) (Kd.R_far (p := ⟨gb498, 2, none⟩) (Kd.R_far (p := ⟨gb498, 1, none⟩) (Kd.R_far (p := ⟨gb498, 0, none⟩) (Kd.R_types HO480.out BK498.out (by decide)) (fun _ hk => hk.2) (.slice Ao33 t471.length co33)) (fun _ hk => hk.2) (.int .i64 t474)) (fun _ hk => hk.2) (.slice Ao36 t475.length co36)) (fun _ hk => hk.2) (.slice Ao37 t478.length co37)) (fun _ hk => hk.2) (.slice Ao38 t481.length co38)) (fun _ hk => hk.2) (.int .i64 t484)) (fun _ hk => hk.2) (.slice Ao39 t485.length co39)) (fun _ hk => hk.2) (.slice Ao40 t488.length co40)) (fun _ hk => hk.2) (.slice Ao41 t491.length co41)) (fun _ hk => hk.2) (.slice Ao42 t494.length co42)) (fun _ hk => hk.2) (.bool t497)) (fun _ h_ => h_.1)))); (case side6 => exact (Kd.R_reads' HO480.out).2.1); (case side7 => refine (Kd.S_reads' (e := 142) (base := w.heap.size) (ok := fun k_ => ((((some k_ ≠ (.slice Ao33 t471.length co33 : Value).ownBlock ∧ some k_ ≠ (.slice Ao37 t478.length co37 : Value).ownBlock) ∧ some k_ ≠ (.slice Ao21 t443.length co21 : Value).ownBlock) ∧ some k_ ≠ (.slice Ao23 t450.length co23 : Value).ownBlock) ∧ some k_ ≠ (.slice Ao24 t453.length co24 : Value).ownBlock)) (n := t481.length) (c := co38) ?_).2.2; exact (by (with_reducible repeat (first | apply Kd.S_alloc | apply Kd.S_drewN | apply Kd.S_drew)); exact (Kd.S_mono (Kd.S_far (p := ⟨gb498, 10, none⟩) (Kd.S_far (p := ⟨gb498, 9, none⟩) (Kd.S_far (p := ⟨gb498, 8, none⟩) (Kd.S_far (p := ⟨gb498, 7, none⟩) (Kd.S_far (p := ⟨gb498, 6, none⟩) (Kd.S_far (p := ⟨gb498, 5, none⟩) (Kd.S_far (p := ⟨gb498, 4, none⟩) (Kd.S_far (p := ⟨gb498, 3, none⟩) (Kd.S_far (p := ⟨gb498, 2, none⟩) (Kd.S_far (p := ⟨gb498, 1, none⟩) (Kd.S_far (p := ⟨gb498, 0, none⟩) (Kd.S_types HO483.out BK498.out (by decide)) (fun _ hk => hk.2) (.slice Ao33 t471.length co33)) (fun _ hk => hk.2) (.int .i64 t474)) (fun _ hk => hk.2) (.slice Ao36 t475.length co36)) (fun _ hk => hk.2) (.slice Ao37 t478.length co37)) (fun _ hk => hk.2) (.slice Ao38 t481.length co38)) (fun _ hk => hk.2) (.int .i64 t484)) (fun _ hk => hk.2) (.slice Ao39 t485.length co39)) (fun _ hk => hk.2) (.slice Ao40 t488.length co40)) (fun _ hk => hk.2) (.slice Ao41 t491.length co41)) (fun _ hk => hk.2) (.slice Ao42 t494.length co42)) (fun _ hk => hk.2) (.bool t497)) (fun _ h_ => h_.1)))); (case side8 => exact (Kd.S_reads' HO483.out).2.1); (case side9 => refine (Kd.R_reads' (e := 178) (base := w.heap.size) (ok := fun k_ => ((((some k_ ≠ (.slice Ao33 t471.length co33 : Value).ownBlock ∧ some k_ ≠ (.slice Ao37 t478.length co37 : Value).ownBlock) ∧ some k_ ≠ (.slice Ao21 t443.length co21 : Value).ownBlock) ∧ some k_ ≠ (.slice Ao23 t450.length co23 : Value).ownBlock) ∧ some k_ ≠ (.slice Ao25 t457.length co25 : Value).ownBlock)) (n := t485.length) (c := co39) ?_).2.2; exact (by (with_reducible repeat (first | apply Kd.R_alloc | apply Kd.R_drewN | apply Kd.R_drew)); exact (Kd.R_mono (Kd.R_far (p := ⟨gb498, 10, none⟩) (Kd.R_far (p := ⟨gb498, 9, none⟩) (Kd.R_far (p := ⟨gb498, 8, none⟩) (Kd.R_far (p := ⟨gb498, 7, none⟩) (Kd.R_far (p := ⟨gb498, 6, none⟩) (Kd.R_far (p := ⟨gb498, 5, none⟩) (Kd.R_far (p := ⟨gb498, 4, none⟩) (Kd.R_far (p := ⟨gb498, 3, none⟩) (Kd.R_far (p := ⟨gb498, 2, none⟩) (Kd.R_far (p := ⟨gb498, 1, none⟩) (Kd.R_far (p := ⟨gb498, 0, none⟩) (Kd.R_types HO487.out BK498.out (by decide)) (fun _ hk => hk.2) (.slice Ao33 t471.length co33)) (fun _ hk => hk.2) (.int .i64 t474)) (fun _ hk => hk.2) (.slice Ao36 t475.length co36)) (fun _ hk => hk.2) (.slice Ao37 t478.length co37)) (fun _ hk => hk.2) (.slice Ao38 t481.length co38)) (fun _ hk => hk.2) (.int .i64 t484)) (fun _ hk => hk.2) (.slice Ao39 t485.length co39)) (fun _ hk => hk.2) (.slice Ao40 t488.length co40)) (fun _ hk => hk.2) (.slice Ao41 t491.length co41)) (fun _ hk => hk.2) (.slice Ao42 t494.length co42)) (fun _ hk => hk.2) (.bool t497)) (fun _ h_ => h_.1)))); (case side10 => exact (Kd.R_reads' HO487.out).2.1); (case side11 => refine (Kd.R_reads' (e := 51) (base := w.heap.size) (ok := fun k_ => ((((some k_ ≠ (.slice Ao33 t471.length co33 : Value).ownBlock ∧ some k_ ≠ (.slice Ao37 t478.length co37 : Value).ownBlock) ∧ some k_ ≠ (.slice Ao21 t443.length co21 : Value).ownBlock) ∧ some k_ ≠ (.slice Ao23 t450.length co23 : Value).ownBlock) ∧ some k_ ≠ (.slice Ao26 t460.length co26 : Value).ownBlock)) (n := t488.length) (c := co40) ?_).2.2; exact (by (with_reducible repeat (first | apply Kd.R_alloc | apply Kd.R_drewN | apply Kd.R_drew)); exact (Kd.R_mono (Kd.R_far (p := ⟨gb498, 10, none⟩) (Kd.R_far (p := ⟨gb498, 9, none⟩) (Kd.R_far (p := ⟨gb498, 8, none⟩) (Kd.R_far (p := ⟨gb498, 7, none⟩) (Kd.R_far (p := ⟨gb498, 6, none⟩) (Kd.R_far (p := ⟨gb498, 5, none⟩) (Kd.R_far (p := ⟨gb498, 4, none⟩) (Kd.R_far (p := ⟨gb498, 3, none⟩) (Kd.R_far (p := ⟨gb498, 2, none⟩) (Kd.R_far (p := ⟨gb498, 1, none⟩) (Kd.R_far (p := ⟨gb498, 0, none⟩) (Kd.R_types HO490.out BK498.out (by decide)) (fun _ hk => hk.2) (.slice Ao33 t471.length co33)) (fun _ hk => hk.2) (.int .i64 t474)) (fun _ hk => hk.2) (.slice Ao36 t475.length co36)) (fun _ hk => hk.2) (.slice Ao37 t478.length co37)) (fun _ hk => hk.2) (.slice Ao38 t481.length co38)) (fun _ hk => hk.2) (.int .i64 t484)) (fun _ hk => hk.2) (.slice Ao39 t485.length co39)) (fun _ hk => hk.2) (.slice Ao40 t488.length co40)) (fun _ hk => hk.2) (.slice Ao41 t491.length co41)) (fun _ hk => hk.2) (.slice Ao42 t494.length co42)) (fun _ hk => hk.2) (.bool t497)) (fun _ h_ => h_.1)))); (case side12 => exact (Kd.R_reads' HO490.out).2.1); (case side13 => refine (Kd.S_reads' (e := 32) (base := w.heap.size) (ok := fun k_ => (True ∧ some k_ ≠ (.slice Ao27 t463.length co27 : Value).ownBlock)) (n := t491.length) (c := co41) ?_).2.2; exact (by (with_reducible repeat (first | apply Kd.S_alloc | apply Kd.S_drewN | apply Kd.S_drew)); exact (Kd.S_mono (Kd.S_far (p := ⟨gb498, 10, none⟩) (Kd.S_far (p := ⟨gb498, 9, none⟩) (Kd.S_far (p := ⟨gb498, 8, none⟩) (Kd.S_far (p := ⟨gb498, 7, none⟩) (Kd.S_far (p := ⟨gb498, 6, none⟩) (Kd.S_far (p := ⟨gb498, 5, none⟩) (Kd.S_far (p := ⟨gb498, 4, none⟩) (Kd.S_far (p := ⟨gb498, 3, none⟩) (Kd.S_far (p := ⟨gb498, 2, none⟩) (Kd.S_far (p := ⟨gb498, 1, none⟩) (Kd.S_far (p := ⟨gb498, 0, none⟩) (Kd.S_types HO493.out BK498.out (by decide)) (fun _ hk => hk.2) (.slice Ao33 t471.length co33)) (fun _ hk => hk.2) (.int .i64 t474)) (fun _ hk => hk.2) (.slice Ao36 t475.length co36)) (fun _ hk => hk.2) (.slice Ao37 t478.length co37)) (fun _ hk => hk.2) (.slice Ao38 t481.length co38)) (fun _ hk => hk.2) (.int .i64 t484)) (fun _ hk => hk.2) (.slice Ao39 t485.length co39)) (fun _ hk => hk.2) (.slice Ao40 t488.length co40)) (fun _ hk => hk.2) (.slice Ao41 t491.length co41)) (fun _ hk => hk.2) (.slice Ao42 t494.length co42)) (fun _ hk => hk.2) (.bool t497)) (fun _ h_ => h_.1)))); (case side14 => exact (Kd.S_reads' HO493.out).2.1); (case side15 => refine (Kd.R_reads' (e := 235) (base := w.heap.size) (ok := fun k_ => (True ∧ some k_ ≠ (.slice Ao28 t466.length co28 : Value).ownBlock)) (n := t494.length) (c := co42) ?_).2.2; exact (by (with_reducible repeat (first | apply Kd.R_alloc | apply Kd.R_drewN | apply Kd.R_drew)); exact (Kd.R_mono (Kd.R_far (p := ⟨gb498, 10, none⟩) (Kd.R_far (p := ⟨gb498, 9, none⟩) (Kd.R_far (p := ⟨gb498, 8, none⟩) (Kd.R_far (p := ⟨gb498, 7, none⟩) (Kd.R_far (p := ⟨gb498, 6, none⟩) (Kd.R_far (p := ⟨gb498, 5, none⟩) (Kd.R_far (p := ⟨gb498, 4, none⟩) (Kd.R_far (p := ⟨gb498, 3, none⟩) (Kd.R_far (p := ⟨gb498, 2, none⟩) (Kd.R_far (p := ⟨gb498, 1, none⟩) (Kd.R_far (p := ⟨gb498, 0, none⟩) (Kd.R_types HO496.out BK498.out (by decide)) (fun _ hk => hk.2) (.slice Ao33 t471.length co33)) (fun _ hk => hk.2) (.int .i64 t474)) (fun _ hk => hk.2) (.slice Ao36 t475.length co36)) (fun _ hk => hk.2) (.slice Ao37 t478.length co37)) (fun _ hk => hk.2) (.slice Ao38 t481.length co38)) (fun _ hk => hk.2) (.int .i64 t484)) (fun _ hk => hk.2) (.slice Ao39 t485.length co39)) (fun _ hk => hk.2) (.slice Ao40 t488.length co40)) (fun _ hk => hk.2) (.slice Ao41 t491.length co41)) (fun _ hk => hk.2) (.slice Ao42 t494.length co42)) (fun _ hk => hk.2) (.bool t497)) (fun _ h_ => h_.1)))); (case side16 => exact (Kd.R_reads' HO496.out).2.1); rintro e w9 ⟨rfl, hb⟩; refine ⟨_, rfl, ?_⟩; have n0_ := Aside0.mk (Kd.R_below (by (with_reducible repeat (first | apply Kd.R_alloc | apply Kd.R_drewN | apply Kd.R_drew)); exact (Kd.R_mono (Kd.R_far (p := ⟨gb498, 10, none⟩) (Kd.R_far (p := ⟨gb498, 9, none⟩) (Kd.R_far (p := ⟨gb498, 8, none⟩) (Kd.R_far (p := ⟨gb498, 7, none⟩) (Kd.R_far (p := ⟨gb498, 6, none⟩) (Kd.R_far (p := ⟨gb498, 5, none⟩) (Kd.R_far (p := ⟨gb498, 4, none⟩) (Kd.R_far (p := ⟨gb498, 3, none⟩) (Kd.R_far (p := ⟨gb498, 2, none⟩) (Kd.R_far (p := ⟨gb498, 1, none⟩) (Kd.R_far (p := ⟨gb498, 0, none⟩) (Kd.R_types HO445.out BK498.out (by decide)) (fun _ hk => hk.2) (.slice Ao33 t471.length co33)) (fun _ hk => hk.2) (.int .i64 t474)) (fun _ hk => hk.2) (.slice Ao36 t475.length co36)) (fun _ hk => hk.2) (.slice Ao37 t478.length co37)) (fun _ hk => hk.2) (.slice Ao38 t481.length co38)) (fun _ hk => hk.2) (.int .i64 t484)) (fun _ hk => hk.2) (.slice Ao39 t485.length co39)) (fun _ hk => hk.2) (.slice Ao40 t488.length co40)) (fun _ hk => hk.2) (.slice Ao41 t491.length co41)) (fun _ hk => hk.2) (.slice Ao42 t494.length co42)) (fun _ hk => hk.2) (.bool t497)) (fun _ h_ => h_.1))) hb); have n1_ := Aside0.mk (Kd.S_below (by (with_reducible repeat (first | apply Kd.S_alloc | apply Kd.S_drewN | apply Kd.S_drew)); exact (Kd.S_mono (Kd.S_far (p := ⟨gb498, 10, none⟩) (Kd.S_far (p := ⟨gb498, 9, none⟩) (Kd.S_far (p := ⟨gb498, 8, none⟩) (Kd.S_far (p := ⟨gb498, 7, none⟩) (Kd.S_far (p := ⟨gb498, 6, none⟩) (Kd.S_far (p := ⟨gb498, 5, none⟩) (Kd.S_far (p := ⟨gb498, 4, none⟩) (Kd.S_far (p := ⟨gb498, 3, none⟩) (Kd.S_far (p := ⟨gb498, 2, none⟩) (Kd.S_far (p := ⟨gb498, 1, none⟩) (Kd.S_far (p := ⟨gb498, 0, none⟩) (Kd.S_types HO449.out BK498.out (by decide)) (fun _ hk => hk.2) (.slice Ao33 t471.length co33)) (fun _ hk => hk.2) (.int .i64 t474)) (fun _ hk => hk.2) (.slice Ao36 t475.length co36)) (fun _ hk => hk.2) (.slice Ao37 t478.length co37)) (fun _ hk => hk.2) (.slice Ao38 t481.length co38)) (fun _ hk => hk.2) (.int .i64 t484)) (fun _ hk => hk.2) (.slice Ao39 t485.length co39)) (fun _ hk => hk.2) (.slice Ao40 t488.length co40)) (fun _ hk => hk.2) (.slice Ao41 t491.length co41)) (fun _ hk => hk.2) (.slice Ao42 t494.length co42)) (fun _ hk => hk.2) (.bool t497)) (fun _ h_ => h_.1))) hb); have n2_ := Aside0.mk (Kd.R_below (by (with_reducible repeat (first | apply Kd.R_alloc | apply Kd.R_drewN | apply Kd.R_drew)); exact (Kd.R_mono (Kd.R_far (p := ⟨gb498, 10, none⟩) (Kd.R_far (p := ⟨gb498, 9, none⟩) (Kd.R_far (p := ⟨gb498, 8, none⟩) (Kd.R_far (p := ⟨gb498, 7, none⟩) (Kd.R_far (p := ⟨gb498, 6, none⟩) (Kd.R_far (p := ⟨gb498, 5, none⟩) (Kd.R_far (p := ⟨gb498, 4, none⟩) (Kd.R_far (p := ⟨gb498, 3, none⟩) (Kd.R_far (p := ⟨gb498, 2, none⟩) (Kd.R_far (p := ⟨gb498, 1, none⟩) (Kd.R_far (p := ⟨gb498, 0, none⟩) (Kd.R_types HO452.out BK498.out (by decide)) (fun _ hk => hk.2) (.slice Ao33 t471.length co33)) (fun _ hk => hk.2) (.int .i64 t474)) (fun _ hk => hk.2) (.slice Ao36 t475.length co36)) (fun _ hk => hk.2) (.slice Ao37 t478.length co37)) (fun _ hk => hk.2) (.slice Ao38 t481.length co38)) (fun _ hk => hk.2) (.int .i64 t484)) (fun _ hk => hk.2) (.slice Ao39 t485.length co39)) (fun _ hk => hk.2) (.slice Ao40 t488.length co40)) (fun _ hk => hk.2) (.slice Ao41 t491.length co41)) (fun _ hk => hk.2) (.slice Ao42 t494.length co42)) (fun _ hk => hk.2) (.bool t497)) (fun _ h_ => h_.1))) hb); have n3_ := Aside0.mk (Kd.S_below (by (with_reducible repeat (first | apply Kd.S_alloc | apply Kd.S_drewN | apply Kd.S_drew)); exact (Kd.S_mono (Kd.S_far (p := ⟨gb498, 10, none⟩) (Kd.S_far (p := ⟨gb498, 9, none⟩) (Kd.S_far (p := ⟨gb498, 8, none⟩) (Kd.S_far (p := ⟨gb498, 7, none⟩) (Kd.S_far (p := ⟨gb498, 6, none⟩) (Kd.S_far (p := ⟨gb498, 5, none⟩) (Kd.S_far (p := ⟨gb498, 4, none⟩) (Kd.S_far (p := ⟨gb498, 3, none⟩) (Kd.S_far (p := ⟨gb498, 2, none⟩) (Kd.S_far (p := ⟨gb498, 1, none⟩) (Kd.S_far (p := ⟨gb498, 0, none⟩) (Kd.S_types HO455.out BK498.out (by decide)) (fun _ hk => hk.2) (.slice Ao33 t471.length co33)) (fun _ hk => hk.2) (.int .i64 t474)) (fun _ hk => hk.2) (.slice Ao36 t475.length co36)) (fun _ hk => hk.2) (.slice Ao37 t478.length co37)) (fun _ hk => hk.2) (.slice Ao38 t481.length co38)) (fun _ hk => hk.2) (.int .i64 t484)) (fun _ hk => hk.2) (.slice Ao39 t485.length co39)) (fun _ hk => hk.2) (.slice Ao40 t488.length co40)) (fun _ hk => hk.2) (.slice Ao41 t491.length co41)) (fun _ hk => hk.2) (.slice Ao42 t494.length co42)) (fun _ hk => hk.2) (.bool t497)) (fun _ h_ => h_.1))) hb); have n4_ := Aside0.mk (Kd.R_below (by (with_reducible repeat (first | apply Kd.R_alloc | apply Kd.R_drewN | apply Kd.R_drew)); exact (Kd.R_mono (Kd.R_far (p := ⟨gb498, 10, none⟩) (Kd.R_far (p := ⟨gb498, 9, none⟩) (Kd.R_far (p := ⟨gb498, 8, none⟩) (Kd.R_far (p := ⟨gb498, 7, none⟩) (Kd.R_far (p := ⟨gb498, 6, none⟩) (Kd.R_far (p := ⟨gb498, 5, none⟩) (Kd.R_far (p := ⟨gb498, 4, none⟩) (Kd.R_far (p := ⟨gb498, 3, none⟩) (Kd.R_far (p := ⟨gb498, 2, none⟩) (Kd.R_far (p := ⟨gb498, 1, none⟩) (Kd.R_far (p := ⟨gb498, 0, none⟩) (Kd.R_types HO459.out BK498.out (by decide)) (fun _ hk => hk.2) (.slice Ao33 t471.length co33)) (fun _ hk => hk.2) (.int .i64 t474)) (fun _ hk => hk.2) (.slice Ao36 t475.length co36)) (fun _ hk => hk.2) (.slice Ao37 t478.length co37)) (fun _ hk => hk.2) (.slice Ao38 t481.length co38)) (fun _ hk => hk.2) (.int .i64 t484)) (fun _ hk => hk.2) (.slice Ao39 t485.length co39)) (fun _ hk => hk.2) (.slice Ao40 t488.length co40)) (fun _ hk => hk.2) (.slice Ao41 t491.length co41)) (fun _ hk => hk.2) (.slice Ao42 t494.length co42)) (fun _ hk => hk.2) (.bool t497)) (fun _ h_ => h_.1))) hb); have n5_ := Aside0.mk (Kd.R_below (by (with_reducible repeat (first | apply Kd.R_alloc | apply Kd.R_drewN | apply Kd.R_drew)); exact (Kd.R_mono (Kd.R_far (p := ⟨gb498, 10, none⟩) (Kd.R_far (p := ⟨gb498, 9, none⟩) (Kd.R_far (p := ⟨gb498, 8, none⟩) (Kd.R_far (p := ⟨gb498, 7, none⟩) (Kd.R_far (p := ⟨gb498, 6, none⟩) (Kd.R_far (p := ⟨gb498, 5, none⟩) (Kd.R_far (p := ⟨gb498, 4, none⟩) (Kd.R_far (p := ⟨gb498, 3, none⟩) (Kd.R_far (p := ⟨gb498, 2, none⟩) (Kd.R_far (p := ⟨gb498, 1, none⟩) (Kd.R_far (p := ⟨gb498, 0, none⟩) (Kd.R_types HO462.out BK498.out (by decide)) (fun _ hk => hk.2) (.slice Ao33 t471.length co33)) (fun _ hk => hk.2) (.int .i64 t474)) (fun _ hk => hk.2) (.slice Ao36 t475.length co36)) (fun _ hk => hk.2) (.slice Ao37 t478.length co37)) (fun _ hk => hk.2) (.slice Ao38 t481.length co38)) (fun _ hk => hk.2) (.int .i64 t484)) (fun _ hk => hk.2) (.slice Ao39 t485.length co39)) (fun _ hk => hk.2) (.slice Ao40 t488.length co40)) (fun _ hk => hk.2) (.slice Ao41 t491.length co41)) (fun _ hk => hk.2) (.slice Ao42 t494.length co42)) (fun _ hk => hk.2) (.bool t497)) (fun _ h_ => h_.1))) hb); have n6_ := Aside0.mk (Kd.S_below (by (with_reducible repeat (first | apply Kd.S_alloc | apply Kd.S_drewN | apply Kd.S_drew)); exact (Kd.S_mono (Kd.S_far (p := ⟨gb498, 10, none⟩) (Kd.S_far (p := ⟨gb498, 9, none⟩) (Kd.S_far (p := ⟨gb498, 8, none⟩) (Kd.S_far (p := ⟨gb498, 7, none⟩) (Kd.S_far (p := ⟨gb498, 6, none⟩) (Kd.S_far (p := ⟨gb498, 5, none⟩) (Kd.S_far (p := ⟨gb498, 4, none⟩) (Kd.S_far (p := ⟨gb498, 3, none⟩) (Kd.S_far (p := ⟨gb498, 2, none⟩) (Kd.S_far (p := ⟨gb498, 1, none⟩) (Kd.S_far (p := ⟨gb498, 0, none⟩) (Kd.S_types HO465.out BK498.out (by decide)) (fun _ hk => hk.2) (.slice Ao33 t471.length co33)) (fun _ hk => hk.2) (.int .i64 t474)) (fun _ hk => hk.2) (.slice Ao36 t475.length co36)) (fun _ hk => hk.2) (.slice Ao37 t478.length co37)) (fun _ hk => hk.2) (.slice Ao38 t481.length co38)) (fun _ hk => hk.2) (.int .i64 t484)) (fun _ hk => hk.2) (.slice Ao39 t485.length co39)) (fun _ hk => hk.2) (.slice Ao40 t488.length co40)) (fun _ hk => hk.2) (.slice Ao41 t491.length co41)) (fun _ hk => hk.2) (.slice Ao42 t494.length co42)) (fun _ hk => hk.2) (.bool t497)) (fun _ h_ => h_.1))) hb); have n7_ := Aside0.mk (Kd.R_below (by (with_reducible repeat (first | apply Kd.R_alloc | apply Kd.R_drewN | apply Kd.R_drew)); exact (Kd.R_mono (Kd.R_far (p := ⟨gb498, 10, none⟩) (Kd.R_far (p := ⟨gb498, 9, none⟩) (Kd.R_far (p := ⟨gb498, 8, none⟩) (Kd.R_far (p := ⟨gb498, 7, none⟩) (Kd.R_far (p := ⟨gb498, 6, none⟩) (Kd.R_far (p := ⟨gb498, 5, none⟩) (Kd.R_far (p := ⟨gb498, 4, none⟩) (Kd.R_far (p := ⟨gb498, 3, none⟩) (Kd.R_far (p := ⟨gb498, 2, none⟩) (Kd.R_far (p := ⟨gb498, 1, none⟩) (Kd.R_far (p := ⟨gb498, 0, none⟩) (Kd.R_types HO468.out BK498.out (by decide)) (fun _ hk => hk.2) (.slice Ao33 t471.length co33)) (fun _ hk => hk.2) (.int .i64 t474)) (fun _ hk => hk.2) (.slice Ao36 t475.length co36)) (fun _ hk => hk.2) (.slice Ao37 t478.length co37)) (fun _ hk => hk.2) (.slice Ao38 t481.length co38)) (fun _ hk => hk.2) (.int .i64 t484)) (fun _ hk => hk.2) (.slice Ao39 t485.length co39)) (fun _ hk => hk.2) (.slice Ao40 t488.length co40)) (fun _ hk => hk.2) (.slice Ao41 t491.length co41)) (fun _ hk => hk.2) (.slice Ao42 t494.length co42)) (fun _ hk => hk.2) (.bool t497)) (fun _ h_ => h_.1))) hb); have n8_ := Aside0.mk (Kd.R_below (by (with_reducible repeat (first | apply Kd.R_alloc | apply Kd.R_drewN | apply Kd.R_drew)); exact (Kd.R_mono (Kd.R_far (p := ⟨gb498, 10, none⟩) (Kd.R_far (p := ⟨gb498, 9, none⟩) (Kd.R_far (p := ⟨gb498, 8, none⟩) (Kd.R_far (p := ⟨gb498, 7, none⟩) (Kd.R_far (p := ⟨gb498, 6, none⟩) (Kd.R_far (p := ⟨gb498, 5, none⟩) (Kd.R_far (p := ⟨gb498, 4, none⟩) (Kd.R_far (p := ⟨gb498, 3, none⟩) (Kd.R_far (p := ⟨gb498, 2, none⟩) (Kd.R_far (p := ⟨gb498, 1, none⟩) (Kd.R_far (p := ⟨gb498, 0, none⟩) (Kd.R_types HO473.out BK498.out (by decide)) (fun _ hk => hk.2) (.slice Ao33 t471.length co33)) (fun _ hk => hk.2) (.int .i64 t474)) (fun _ hk => hk.2) (.slice Ao36 t475.length co36)) (fun _ hk => hk.2) (.slice Ao37 t478.length co37)) (fun _ hk => hk.2) (.slice Ao38 t481.length co38)) (fun _ hk => hk.2) (.int .i64 t484)) (fun _ hk => hk.2) (.slice Ao39 t485.length co39)) (fun _ hk => hk.2) (.slice Ao40 t488.length co40)) (fun _ hk => hk.2) (.slice Ao41 t491.length co41)) (fun _ hk => hk.2) (.slice Ao42 t494.length co42)) (fun _ hk => hk.2) (.bool t497)) (fun _ h_ => h_.1))) hb); have n9_ := Aside0.mk (Kd.S_below (by (with_reducible repeat (first | apply Kd.S_alloc | apply Kd.S_drewN | apply Kd.S_drew)); exact (Kd.S_mono (Kd.S_far (p := ⟨gb498, 10, none⟩) (Kd.S_far (p := ⟨gb498, 9, none⟩) (Kd.S_far (p := ⟨gb498, 8, none⟩) (Kd.S_far (p := ⟨gb498, 7, none⟩) (Kd.S_far (p := ⟨gb498, 6, none⟩) (Kd.S_far (p := ⟨gb498, 5, none⟩) (Kd.S_far (p := ⟨gb498, 4, none⟩) (Kd.S_far (p := ⟨gb498, 3, none⟩) (Kd.S_far (p := ⟨gb498, 2, none⟩) (Kd.S_far (p := ⟨gb498, 1, none⟩) (Kd.S_far (p := ⟨gb498, 0, none⟩) (Kd.S_types HO477.out BK498.out (by decide)) (fun _ hk => hk.2) (.slice Ao33 t471.length co33)) (fun _ hk => hk.2) (.int .i64 t474)) (fun _ hk => hk.2) (.slice Ao36 t475.length co36)) (fun _ hk => hk.2) (.slice Ao37 t478.length co37)) (fun _ hk => hk.2) (.slice Ao38 t481.length co38)) (fun _ hk => hk.2) (.int .i64 t484)) (fun _ hk => hk.2) (.slice Ao39 t485.length co39)) (fun _ hk => hk.2) (.slice Ao40 t488.length co40)) (fun _ hk => hk.2) (.slice Ao41 t491.length co41)) (fun _ hk => hk.2) (.slice Ao42 t494.length co42)) (fun _ hk => hk.2) (.bool t497)) (fun _ h_ => h_.1))) hb); have n10_ := Aside0.mk (Kd.R_below (by (with_reducible repeat (first | apply Kd.R_alloc | apply Kd.R_drewN | apply Kd.R_drew)); exact (Kd.R_mono (Kd.R_far (p := ⟨gb498, 10, none⟩) (Kd.R_far (p := ⟨gb498, 9, none⟩) (Kd.R_far (p := ⟨gb498, 8, none⟩) (Kd.R_far (p := ⟨gb498, 7, none⟩) (Kd.R_far (p := ⟨gb498, 6, none⟩) (Kd.R_far (p := ⟨gb498, 5, none⟩) (Kd.R_far (p := ⟨gb498, 4, none⟩) (Kd.R_far (p := ⟨gb498, 3, none⟩) (Kd.R_far (p := ⟨gb498, 2, none⟩) (Kd.R_far (p := ⟨gb498, 1, none⟩) (Kd.R_far (p := ⟨gb498, 0, none⟩) (Kd.R_types HO480.out BK498.out (by decide)) (fun _ hk => hk.2) (.slice Ao33 t471.length co33)) (fun _ hk => hk.2) (.int .i64 t474)) (fun _ hk => hk.2) (.slice Ao36 t475.length co36)) (fun _ hk => hk.2) (.slice Ao37 t478.length co37)) (fun _ hk => hk.2) (.slice Ao38 t481.length co38)) (fun _ hk => hk.2) (.int .i64 t484)) (fun _ hk => hk.2) (.slice Ao39 t485.length co39)) (fun _ hk => hk.2) (.slice Ao40 t488.length co40)) (fun _ hk => hk.2) (.slice Ao41 t491.length co41)) (fun _ hk => hk.2) (.slice Ao42 t494.length co42)) (fun _ hk => hk.2) (.bool t497)) (fun _ h_ => h_.1))) hb); have n11_ := Aside0.mk (Kd.S_below (by (with_reducible repeat (first | apply Kd.S_alloc | apply Kd.S_drewN | apply Kd.S_drew)); exact (Kd.S_mono (Kd.S_far (p := ⟨gb498, 10, none⟩) (Kd.S_far (p := ⟨gb498, 9, none⟩) (Kd.S_far (p := ⟨gb498, 8, none⟩) (Kd.S_far (p := ⟨gb498, 7, none⟩) (Kd.S_far (p := ⟨gb498, 6, none⟩) (Kd.S_far (p := ⟨gb498, 5, none⟩) (Kd.S_far (p := ⟨gb498, 4, none⟩) (Kd.S_far (p := ⟨gb498, 3, none⟩) (Kd.S_far (p := ⟨gb498, 2, none⟩) (Kd.S_far (p := ⟨gb498, 1, none⟩) (Kd.S_far (p := ⟨gb498, 0, none⟩) (Kd.S_types HO483.out BK498.out (by decide)) (fun _ hk => hk.2) (.slice Ao33 t471.length co33)) (fun _ hk => hk.2) (.int .i64 t474)) (fun _ hk => hk.2) (.slice Ao36 t475.length co36)) (fun _ hk => hk.2) (.slice Ao37 t478.length co37)) (fun _ hk => hk.2) (.slice Ao38 t481.length co38)) (fun _ hk => hk.2) (.int .i64 t484)) (fun _ hk => hk.2) (.slice Ao39 t485.length co39)) (fun _ hk => hk.2) (.slice Ao40 t488.length co40)) (fun _ hk => hk.2) (.slice Ao41 t491.length co41)) (fun _ hk => hk.2) (.slice Ao42 t494.length co42)) (fun _ hk => hk.2) (.bool t497)) (fun _ h_ => h_.1))) hb); have n12_ := Aside0.mk (Kd.R_below (by (with_reducible repeat (first | apply Kd.R_alloc | apply Kd.R_drewN | apply Kd.R_drew)); exact (Kd.R_mono (Kd.R_far (p := ⟨gb498, 10, none⟩) (Kd.R_far (p := ⟨gb498, 9, none⟩) (Kd.R_far (p := ⟨gb498, 8, none⟩) (Kd.R_far (p := ⟨gb498, 7, none⟩) (Kd.R_far (p := ⟨gb498, 6, none⟩) (Kd.R_far (p := ⟨gb498, 5, none⟩) (Kd.R_far (p := ⟨gb498, 4, none⟩) (Kd.R_far (p := ⟨gb498, 3, none⟩) (Kd.R_far (p := ⟨gb498, 2, none⟩) (Kd.R_far (p := ⟨gb498, 1, none⟩) (Kd.R_far (p := ⟨gb498, 0, none⟩) (Kd.R_types HO487.out BK498.out (by decide)) (fun _ hk => hk.2) (.slice Ao33 t471.length co33)) (fun _ hk => hk.2) (.int .i64 t474)) (fun _ hk => hk.2) (.slice Ao36 t475.length co36)) (fun _ hk => hk.2) (.slice Ao37 t478.length co37)) (fun _ hk => hk.2) (.slice Ao38 t481.length co38)) (fun _ hk => hk.2) (.int .i64 t484)) (fun _ hk => hk.2) (.slice Ao39 t485.length co39)) (fun _ hk => hk.2) (.slice Ao40 t488.length co40)) (fun _ hk => hk.2) (.slice Ao41 t491.length co41)) (fun _ hk => hk.2) (.slice Ao42 t494.length co42)) (fun _ hk => hk.2) (.bool t497)) (fun _ h_ => h_.1))) hb); have n13_ := Aside0.mk (Kd.R_below (by (with_reducible repeat (first | apply Kd.R_alloc | apply Kd.R_drewN | apply Kd.R_drew)); exact (Kd.R_mono (Kd.R_far (p := ⟨gb498, 10, none⟩) (Kd.R_far (p := ⟨gb498, 9, none⟩) (Kd.R_far (p := ⟨gb498, 8, none⟩) (Kd.R_far (p := ⟨gb498, 7, none⟩) (Kd.R_far (p := ⟨gb498, 6, none⟩) (Kd.R_far (p := ⟨gb498, 5, none⟩) (Kd.R_far (p := ⟨gb498, 4, none⟩) (Kd.R_far (p := ⟨gb498, 3, none⟩) (Kd.R_far (p := ⟨gb498, 2, none⟩) (Kd.R_far (p := ⟨gb498, 1, none⟩) (Kd.R_far (p := ⟨gb498, 0, none⟩) (Kd.R_types HO490.out BK498.out (by decide)) (fun _ hk => hk.2) (.slice Ao33 t471.length co33)) (fun _ hk => hk.2) (.int .i64 t474)) (fun _ hk => hk.2) (.slice Ao36 t475.length co36)) (fun _ hk => hk.2) (.slice Ao37 t478.length co37)) (fun _ hk => hk.2) (.slice Ao38 t481.length co38)) (fun _ hk => hk.2) (.int .i64 t484)) (fun _ hk => hk.2) (.slice Ao39 t485.length co39)) (fun _ hk => hk.2) (.slice Ao40 t488.length co40)) (fun _ hk => hk.2) (.slice Ao41 t491.length co41)) (fun _ hk => hk.2) (.slice Ao42 t494.length co42)) (fun _ hk => hk.2) (.bool t497)) (fun _ h_ => h_.1))) hb); have n14_ := Aside0.mk (Kd.S_below (by (with_reducible repeat (first | apply Kd.S_alloc | apply Kd.S_drewN | apply Kd.S_drew)); exact (Kd.S_mono (Kd.S_far (p := ⟨gb498, 10, none⟩) (Kd.S_far (p := ⟨gb498, 9, none⟩) (Kd.S_far (p := ⟨gb498, 8, none⟩) (Kd.S_far (p := ⟨gb498, 7, none⟩) (Kd.S_far (p := ⟨gb498, 6, none⟩) (Kd.S_far (p := ⟨gb498, 5, none⟩) (Kd.S_far (p := ⟨gb498, 4, none⟩) (Kd.S_far (p := ⟨gb498, 3, none⟩) (Kd.S_far (p := ⟨gb498, 2, none⟩) (Kd.S_far (p := ⟨gb498, 1, none⟩) (Kd.S_far (p := ⟨gb498, 0, none⟩) (Kd.S_types HO493.out BK498.out (by decide)) (fun _ hk => hk.2) (.slice Ao33 t471.length co33)) (fun _ hk => hk.2) (.int .i64 t474)) (fun _ hk => hk.2) (.slice Ao36 t475.length co36)) (fun _ hk => hk.2) (.slice Ao37 t478.length co37)) (fun _ hk => hk.2) (.slice Ao38 t481.length co38)) (fun _ hk => hk.2) (.int .i64 t484)) (fun _ hk => hk.2) (.slice Ao39 t485.length co39)) (fun _ hk => hk.2) (.slice Ao40 t488.length co40)) (fun _ hk => hk.2) (.slice Ao41 t491.length co41)) (fun _ hk => hk.2) (.slice Ao42 t494.length co42)) (fun _ hk => hk.2) (.bool t497)) (fun _ h_ => h_.1))) hb); have n15_ := Aside0.mk (Kd.R_below (by (with_reducible repeat (first | apply Kd.R_alloc | apply Kd.R_drewN | apply Kd.R_drew)); exact (Kd.R_mono (Kd.R_far (p := ⟨gb498, 10, none⟩) (Kd.R_far (p := ⟨gb498, 9, none⟩) (Kd.R_far (p := ⟨gb498, 8, none⟩) (Kd.R_far (p := ⟨gb498, 7, none⟩) (Kd.R_far (p := ⟨gb498, 6, none⟩) (Kd.R_far (p := ⟨gb498, 5, none⟩) (Kd.R_far (p := ⟨gb498, 4, none⟩) (Kd.R_far (p := ⟨gb498, 3, none⟩) (Kd.R_far (p := ⟨gb498, 2, none⟩) (Kd.R_far (p := ⟨gb498, 1, none⟩) (Kd.R_far (p := ⟨gb498, 0, none⟩) (Kd.R_types HO496.out BK498.out (by decide)) (fun _ hk => hk.2) (.slice Ao33 t471.length co33)) (fun _ hk => hk.2) (.int .i64 t474)) (fun _ hk => hk.2) (.slice Ao36 t475.length co36)) (fun _ hk => hk.2) (.slice Ao37 t478.length co37)) (fun _ hk => hk.2) (.slice Ao38 t481.length co38)) (fun _ hk => hk.2) (.int .i64 t484)) (fun _ hk => hk.2) (.slice Ao39 t485.length co39)) (fun _ hk => hk.2) (.slice Ao40 t488.length co40)) (fun _ hk => hk.2) (.slice Ao41 t491.length co41)) (fun _ hk => hk.2) (.slice Ao42 t494.length co42)) (fun _ hk => hk.2) (.bool t497)) (fun _ h_ => h_.1))) hb); have n16_ := Aside0.mk (blk_below (g := gb441) (o := .cells #[.slice A0_0 l0_0.length c0_0, .int .i64 a0_1, .slice A0_2 l0_2.length c0_2, .slice A0_3 l0_3.length c0_3, .slice A0_4 l0_4.length c0_4, .int .i64 a0_5, .slice A0_6 l0_6.length c0_6, .slice A0_7 l0_7.length c0_7, .slice A0_8 l0_8.length c0_8, .slice A0_9 l0_9.length c0_9, .bool a0_10] 91 (0, 0)) (by (with_reducible repeat (first | refine blk_drewN ?_ _ | refine blk_drew ?_ | refine blk_alloc ?_ _)); refine blk_far ?_ NB441_498.out _; (with_reducible repeat (first | refine blk_drewN ?_ _ | refine blk_drew ?_ | refine blk_alloc ?_ _)); refine blk_far ?_ NB441_498.out _; (with_reducible repeat (first | refine blk_drewN ?_ _ | refine blk_drew ?_ | refine blk_alloc ?_ _)); refine blk_far ?_ NB441_498.out _; (with_reducible repeat (first | refine blk_drewN ?_ _ | refine blk_drew ?_ | refine blk_alloc ?_ _)); refine blk_far ?_ NB441_498.out _; (with_reducible repeat (first | refine blk_drewN ?_ _ | refine blk_drew ?_ | refine blk_alloc ?_ _)); refine blk_far ?_ NB441_498.out _; (with_reducible repeat (first | refine blk_drewN ?_ _ | refine blk_drew ?_ | refine blk_alloc ?_ _)); refine blk_far ?_ NB441_498.out _; (with_reducible repeat (first | refine blk_drewN ?_ _ | refine blk_drew ?_ | refine blk_alloc ?_ _)); refine blk_far ?_ NB441_498.out _; (with_reducible repeat (first | refine blk_drewN ?_ _ | refine blk_drew ?_ | refine blk_alloc ?_ _)); refine blk_far ?_ NB441_498.out _; (with_reducible repeat (first | refine blk_drewN ?_ _ | refine blk_drew ?_ | refine blk_alloc ?_ _)); refine blk_far ?_ NB441_498.out _; (with_reducible repeat (first | refine blk_drewN ?_ _ | refine blk_drew ?_ | refine blk_alloc ?_ _)); refine blk_far ?_ NB441_498.out _; (with_reducible repeat (first | refine blk_drewN ?_ _ | refine blk_drew ?_ | refine blk_alloc ?_ _)); refine blk_far ?_ NB441_498.out _; (with_reducible repeat (first | refine blk_drewN ?_ _ | refine blk_drew ?_ | refine blk_alloc ?_ _)); exact BK441.out) hb); have n17_ := Aside0.mk (blk_below (g := gb498) (o := .cells #[.slice Ao33 t471.length co33, .int .i64 t474, .slice Ao36 t475.length co36, .slice Ao37 t478.length co37, .slice Ao38 t481.length co38, .int .i64 t484, .slice Ao39 t485.length co39, .slice Ao40 t488.length co40, .slice Ao41 t491.length co41, .slice Ao42 t494.length co42, .bool t497] 99 (0, 0)) (by (with_reducible repeat (first | refine blk_drewN ?_ _ | refine blk_drew ?_ | refine blk_alloc ?_ _)); refine blk_put (cs := #[.slice Ao33 t471.length co33, .int .i64 t474, .slice Ao36 t475.length co36, .slice Ao37 t478.length co37, .slice Ao38 t481.length co38, .int .i64 t484, .slice Ao39 t485.length co39, .slice Ao40 t488.length co40, .slice Ao41 t491.length co41, .slice Ao42 t494.length co42, .bool false]) ?_ 10 _ rfl; (with_reducible repeat (first | refine blk_drewN ?_ _ | refine blk_drew ?_ | refine blk_alloc ?_ _)); refine blk_put (cs := #[.slice Ao33 t471.length co33, .int .i64 t474, .slice Ao36 t475.length co36, .slice Ao37 t478.length co37, .slice Ao38 t481.length co38, .int .i64 t484, .slice Ao39 t485.length co39, .slice Ao40 t488.length co40, .slice Ao41 t491.length co41, .slice none 0 0, .bool false]) ?_ 9 _ rfl; (with_reducible repeat (first | refine blk_drewN ?_ _ | refine blk_drew ?_ | refine blk_alloc ?_ _)); refine blk_put (cs := #[.slice Ao33 t471.length co33, .int .i64 t474, .slice Ao36 t475.length co36, .slice Ao37 t478.length co37, .slice Ao38 t481.length co38, .int .i64 t484, .slice Ao39 t485.length co39, .slice Ao40 t488.length co40, .slice none 0 0, .slice none 0 0, .bool false]) ?_ 8 _ rfl; (with_reducible repeat (first | refine blk_drewN ?_ _ | refine blk_drew ?_ | refine blk_alloc ?_ _)); refine blk_put (cs := #[.slice Ao33 t471.length co33, .int .i64 t474, .slice Ao36 t475.length co36, .slice Ao37 t478.length co37, .slice Ao38 t481.length co38, .int .i64 t484, .slice Ao39 t485.length co39, .slice none 0 0, .slice none 0 0, .slice none 0 0, .bool false]) ?_ 7 _ rfl; (with_reducible repeat (first | refine blk_drewN ?_ _ | refine blk_drew ?_ | refine blk_alloc ?_ _)); refine blk_put (cs := #[.slice Ao33 t471.length co33, .int .i64 t474, .slice Ao36 t475.length co36, .slice Ao37 t478.length co37, .slice Ao38 t481.length co38, .int .i64 t484, .slice none 0 0, .slice none 0 0, .slice none 0 0, .slice none 0 0, .bool false]) ?_ 6 _ rfl; (with_reducible repeat (first | refine blk_drewN ?_ _ | refine blk_drew ?_ | refine blk_alloc ?_ _)); refine blk_put (cs := #[.slice Ao33 t471.length co33, .int .i64 t474, .slice Ao36 t475.length co36, .slice Ao37 t478.length co37, .slice Ao38 t481.length co38, .int .i64 0, .slice none 0 0, .slice none 0 0, .slice none 0 0, .slice none 0 0, .bool false]) ?_ 5 _ rfl; (with_reducible repeat (first | refine blk_drewN ?_ _ | refine blk_drew ?_ | refine blk_alloc ?_ _)); refine blk_put (cs := #[.slice Ao33 t471.length co33, .int .i64 t474, .slice Ao36 t475.length co36, .slice Ao37 t478.length co37, .slice none 0 0, .int .i64 0, .slice none 0 0, .slice none 0 0, .slice none 0 0, .slice none 0 0, .bool false]) ?_ 4 _ rfl; (with_reducible repeat (first | refine blk_drewN ?_ _ | refine blk_drew ?_ | refine blk_alloc ?_ _)); refine blk_put (cs := #[.slice Ao33 t471.length co33, .int .i64 t474, .slice Ao36 t475.length co36, .slice none 0 0, .slice none 0 0, .int .i64 0, .slice none 0 0, .slice none 0 0, .slice none 0 0, .slice none 0 0, .bool false]) ?_ 3 _ rfl; (with_reducible repeat (first | refine blk_drewN ?_ _ | refine blk_drew ?_ | refine blk_alloc ?_ _)); refine blk_put (cs := #[.slice Ao33 t471.length co33, .int .i64 t474, .slice none 0 0, .slice none 0 0, .slice none 0 0, .int .i64 0, .slice none 0 0, .slice none 0 0, .slice none 0 0, .slice none 0 0, .bool false]) ?_ 2 _ rfl; (with_reducible repeat (first | refine blk_drewN ?_ _ | refine blk_drew ?_ | refine blk_alloc ?_ _)); refine blk_put (cs := #[.slice Ao33 t471.length co33, .int .i64 0, .slice none 0 0, .slice none 0 0, .slice none 0 0, .int .i64 0, .slice none 0 0, .slice none 0 0, .slice none 0 0, .slice none 0 0, .bool false]) ?_ 1 _ rfl; (with_reducible repeat (first | refine blk_drewN ?_ _ | refine blk_drew ?_ | refine blk_alloc ?_ _)); refine blk_put (cs := #[.slice none 0 0, .int .i64 0, .slice none 0 0, .slice none 0 0, .slice none 0 0, .int .i64 0, .slice none 0 0, .slice none 0 0, .slice none 0 0, .slice none 0 0, .bool false]) ?_ 0 _ rfl; (with_reducible repeat (first | refine blk_drewN ?_ _ | refine blk_drew ?_ | refine blk_alloc ?_ _)); exact BK498.out) hb); have n18_ := Aside0.mk (below_step dz9 hb); clear HO445; clear HO449; clear HO452; clear HO455; clear HO459; clear HO462; clear HO465; clear HO468; clear HO473; clear HO477; clear HO480; clear HO483; clear HO487; clear HO490; clear HO493; clear HO496; clear BK441; clear BK498; clear HB; have HO445 := n0_; have HO449 := n1_; have HO452 := n2_; have HO455 := n3_; have HO459 := n4_; have HO462 := n5_; have HO465 := n6_; have HO468 := n7_; have HO473 := n8_; have HO477 := n9_; have HO480 := n10_; have HO483 := n11_; have HO487 := n12_; have HO490 := n13_; have HO493 := n14_; have HO496 := n15_; have BK441 := n16_; have BK498 := n17_; have HB := n18_; clear n0_ n1_ n2_ n3_ n4_ n5_ n6_ n7_ n8_ n9_ n10_ n11_ n12_ n13_ n14_ n15_ n16_ n17_ n18_; (try clear hb); (try clear hb2); (try clear hk); (try clear hi)))
      have n0_ := Aside0.mk (Kd.R_drew HO445.out)
      have n1_ := Aside0.mk (Kd.S_drew HO449.out)
      have n2_ := Aside0.mk (Kd.R_drew HO452.out)
      have n3_ := Aside0.mk (Kd.S_drew HO455.out)
      have n4_ := Aside0.mk (Kd.R_drew HO459.out)
      have n5_ := Aside0.mk (Kd.R_drew HO462.out)
      have n6_ := Aside0.mk (Kd.S_drew HO465.out)
      have n7_ := Aside0.mk (Kd.R_drew HO468.out)
      have n8_ := Aside0.mk (Kd.R_drew HO473.out)
      have n9_ := Aside0.mk (Kd.S_drew HO477.out)
      have n10_ := Aside0.mk (Kd.R_drew HO480.out)
      have n11_ := Aside0.mk (Kd.S_drew HO483.out)
      have n12_ := Aside0.mk (Kd.R_drew HO487.out)
      have n13_ := Aside0.mk (Kd.R_drew HO490.out)
      have n14_ := Aside0.mk (Kd.S_drew HO493.out)
      have n15_ := Aside0.mk (Kd.R_drew HO496.out)
      have n16_ := Aside0.mk (blk_drew BK441.out)
      have n17_ := Aside0.mk (blk_drew BK498.out)
      have n18_ := Aside0.mk (below_drew1 HB.out)
      clear HO445
      clear HO449
      clear HO452
      clear HO455
      clear HO459
      clear HO462
      clear HO465
      clear HO468
      clear HO473
      clear HO477
      clear HO480
      clear HO483
      clear HO487
      clear HO490
      clear HO493
      clear HO496
      clear BK441
      clear BK498
      clear HB
      have HO445 := n0_
      have HO449 := n1_
      have HO452 := n2_
      have HO455 := n3_
      have HO459 := n4_
      have HO462 := n5_
      have HO465 := n6_
      have HO468 := n7_
      have HO473 := n8_
      have HO477 := n9_
      have HO480 := n10_
      have HO483 := n11_
      have HO487 := n12_
      have HO490 := n13_
      have HO493 := n14_
      have HO496 := n15_
      have BK441 := n16_
      have BK498 := n17_
      have HB := n18_
      clear n0_ n1_ n2_ n3_ n4_ n5_ n6_ n7_ n8_ n9_ n10_ n11_ n12_ n13_ n14_ n15_ n16_ n17_ n18_
      refine start_ (n := 5) (S := fun w' => w'.cell? ⟨gb498, 0, none⟩ = some (.slice Ao33 t471.length co33) ∧ w'.cell? ⟨gb498, 1, none⟩ = some (.int .i64 t474) ∧ w'.cell? ⟨gb498, 2, none⟩ = some (.slice Ao36 t475.length co36) ∧ w'.cell? ⟨gb498, 3, none⟩ = some (.slice Ao37 t478.length co37) ∧ w'.cell? ⟨gb498, 4, none⟩ = some (.slice Ao38 t481.length co38) ∧ w'.cell? ⟨gb498, 5, none⟩ = some (.int .i64 t484) ∧ w'.cell? ⟨gb498, 6, none⟩ = some (.slice Ao39 t485.length co39) ∧ w'.cell? ⟨gb498, 7, none⟩ = some (.slice Ao40 t488.length co40) ∧ w'.cell? ⟨gb498, 8, none⟩ = some (.slice Ao41 t491.length co41) ∧ w'.cell? ⟨gb498, 9, none⟩ = some (.slice Ao42 t494.length co42) ∧ w'.cell? ⟨gb498, 10, none⟩ = some (.bool t497) ∧ w'.cell? ⟨gb441, 0, none⟩ = some (.slice A0_0 l0_0.length c0_0) ∧ w'.cell? ⟨gb441, 1, none⟩ = some (.int .i64 a0_1) ∧ w'.cell? ⟨gb441, 2, none⟩ = some (.slice A0_2 l0_2.length c0_2) ∧ w'.cell? ⟨gb441, 3, none⟩ = some (.slice A0_3 l0_3.length c0_3) ∧ w'.cell? ⟨gb441, 4, none⟩ = some (.slice A0_4 l0_4.length c0_4) ∧ w'.cell? ⟨gb441, 5, none⟩ = some (.int .i64 a0_5) ∧ w'.cell? ⟨gb441, 6, none⟩ = some (.slice A0_6 l0_6.length c0_6) ∧ w'.cell? ⟨gb441, 7, none⟩ = some (.slice A0_7 l0_7.length c0_7) ∧ w'.cell? ⟨gb441, 8, none⟩ = some (.slice A0_8 l0_8.length c0_8) ∧ w'.cell? ⟨gb441, 9, none⟩ = some (.slice A0_9 l0_9.length c0_9) ∧ w'.cell? ⟨gb441, 10, none⟩ = some (.bool a0_10)) (ds := []) #[false, false, false, false, false] (by kernel_rfl) rfl rfl ⟨(blk_cell BK498.out 0).trans rfl, (blk_cell BK498.out 1).trans rfl, (blk_cell BK498.out 2).trans rfl, (blk_cell BK498.out 3).trans rfl, (blk_cell BK498.out 4).trans rfl, (blk_cell BK498.out 5).trans rfl, (blk_cell BK498.out 6).trans rfl, (blk_cell BK498.out 7).trans rfl, (blk_cell BK498.out 8).trans rfl, (blk_cell BK498.out 9).trans rfl, (blk_cell BK498.out 10).trans rfl, (blk_cell BK441.out 0).trans rfl, (blk_cell BK441.out 1).trans rfl, (blk_cell BK441.out 2).trans rfl, (blk_cell BK441.out 3).trans rfl, (blk_cell BK441.out 4).trans rfl, (blk_cell BK441.out 5).trans rfl, (blk_cell BK441.out 6).trans rfl, (blk_cell BK441.out 7).trans rfl, (blk_cell BK441.out 8).trans rfl, (blk_cell BK441.out 9).trans rfl, (blk_cell BK441.out 10).trans rfl⟩ (fun hHeld => ?_)
      generalize w9.drew = w10 at HO445 HO449 HO452 HO455 HO459 HO462 HO465 HO468 HO473 HO477 HO480 HO483 HO487 HO490 HO493 HO496 BK441 BK498 HB hHeld ⊢
      refine take_ (i := 0) (N := some 26) (v := ?_) (a' := ?_) #[true, false, false, false, false] rfl rfl (by kernel_rfl) (fun _ _ _ h => h) (Or.inl ⟨by rfl, ?_⟩) hHeld ?_ ?_
      rotate_left
      · rintro w' ⟨s0, s1, s2, s3, s4, s5, s6, s7, s8, s9, s10, s11, s12, s13, s14, s15, s16, s17, s18, s19, s20, s21⟩
        go_simp
        with_reducible rfl
      rotate_left
      · exact dz110
      refine take_ (i := 1) (N := some 27) (v := ?_) (a' := ?_) #[true, true, false, false, false] rfl rfl (by kernel_rfl) (fun _ _ _ h => h) (Or.inl ⟨by rfl, ?_⟩) hHeld ?_ ?_
      rotate_left
      · rintro w' ⟨s0, s1, s2, s3, s4, s5, s6, s7, s8, s9, s10, s11, s12, s13, s14, s15, s16, s17, s18, s19, s20, s21⟩
        go_simp
        with_reducible rfl
      rotate_left
      · exact dz110
      refine one_ (i := 2) (N := some 28) #[true, true, true, false, false] rfl rfl (by kernel_rfl) (by decide) (fun K hK => ?_)
      refine goes_ Try.func46 (by kernel_rfl) rfl #[.agg #[.slice A0_0 l0_0.length c0_0, .int .i64 a0_1, .slice A0_2 l0_2.length c0_2, .slice A0_3 l0_3.length c0_3, .slice A0_4 l0_4.length c0_4, .int .i64 a0_5, .slice A0_6 l0_6.length c0_6, .slice A0_7 l0_7.length c0_7, .slice A0_8 l0_8.length c0_8, .slice A0_9 l0_9.length c0_9, .bool a0_10]] (by rfl) rfl rfl dz2 ?_
      with_reducible refine (laws_toWorld.calls k _ _ l0_0 a0_1 _ _ l0_2 _ _ l0_3 _ _ l0_4 a0_5 _ _ l0_6 _ _ l0_7 _ _ l0_8 _ _ l0_9 a0_10 t500 t503 t504 t507 t510 t513 t514 t517 t520 t523 t526 _ ?side1 ?side2 ?side3 ?side4 ?side5 ?side6 ?side7 ?side8 ?side9 ?side10 ?side11 ?side12 ?side13 ?side14 ?side15 ?side16 A13.out).mono ?_
      (case side1 => exact dz83)
      (case side2 => exact HC0_0.out)
      (case side3 => exact dz90)
      (case side4 => exact HC0_2.out)
      (case side5 => exact dz97)
      (case side6 => exact HC0_3.out)
      (case side7 => exact dz108)
      (case side8 => exact HC0_4.out)
      (case side9 => exact dz99)
      (case side10 => exact HC0_6.out)
      (case side11 => exact dz100)
      (case side12 => exact HC0_7.out)
      (case side13 => exact dz101)
      (case side14 => exact HC0_8.out)
      (case side15 => exact dz102)
      (case side16 => exact HC0_9.out)
      rintro e w45 ⟨v501, v505, v508, v511, v515, v518, v521, v524, rfl, ho0, ho1, ho2, ho3, ho4, ho5, ho6, ho7, hb⟩
      refine ⟨_, rfl, ?_⟩
      have n0_ := Aside0.mk (Kd.R_mono (Kd.R_told (Kd.R_told (Kd.R_old dz7 hb) (Kd.R_base ho0)) (Kd.R_base ho2)) (fun _ h_ => h_.1))
      have n1_ := Aside0.mk (Kd.S_elder' dz24 (Kd.S_base ho1) hb)
      have n2_ := Aside0.mk (Kd.R_mono (Kd.R_told (Kd.R_told (Kd.R_old dz8 hb) (Kd.R_base ho0)) (Kd.R_base ho2)) (fun _ h_ => h_.1))
      have n3_ := Aside0.mk (Kd.S_mono (Kd.S_told (Kd.S_told (Kd.S_told (Kd.S_old dz25 hb) (Kd.R_base ho0)) (Kd.R_base ho2)) (Kd.S_base ho3)) (fun _ h_ => h_.1))
      have n4_ := Aside0.mk (Kd.R_mono (Kd.R_told (Kd.R_told (Kd.R_told (Kd.R_old dz26 hb) (Kd.R_base ho0)) (Kd.R_base ho2)) (Kd.R_base ho4)) (fun _ h_ => h_.1))
      have n5_ := Aside0.mk (Kd.R_mono (Kd.R_told (Kd.R_told (Kd.R_told (Kd.R_old dz27 hb) (Kd.R_base ho0)) (Kd.R_base ho2)) (Kd.R_base ho5)) (fun _ h_ => h_.1))
      have n6_ := Aside0.mk (Kd.S_elder' dz28 (Kd.S_base ho6) hb)
      have n7_ := Aside0.mk (Kd.R_elder' dz29 (Kd.R_base ho7) hb)
      have n8_ := Aside0.mk (Kd.R_mono (Kd.R_told (Kd.R_told (Kd.R_old dz15 hb) (Kd.R_base ho0)) (Kd.R_base ho2)) (fun _ h_ => h_.1))
      have n9_ := Aside0.mk (Kd.S_elder' (by (with_reducible repeat (first | apply Kd.S_alloc | apply Kd.S_drewN | apply Kd.S_drew)); exact HO477.out) (Kd.S_base ho1) hb)
      have n10_ := Aside0.mk (Kd.R_mono (Kd.R_told (Kd.R_told (Kd.R_old dz16 hb) (Kd.R_base ho0)) (Kd.R_base ho2)) (fun _ h_ => h_.1))
      have n11_ := Aside0.mk (Kd.S_mono (Kd.S_told (Kd.S_told (Kd.S_told (Kd.S_old (by (with_reducible repeat (first | apply Kd.S_alloc | apply Kd.S_drewN | apply Kd.S_drew)); exact HO483.out) hb) (Kd.R_base ho0)) (Kd.R_base ho2)) (Kd.S_base ho3)) (fun _ h_ => h_.1))
      have n12_ := Aside0.mk (Kd.R_mono (Kd.R_told (Kd.R_told (Kd.R_told (Kd.R_old (by (with_reducible repeat (first | apply Kd.R_alloc | apply Kd.R_drewN | apply Kd.R_drew)); exact HO487.out) hb) (Kd.R_base ho0)) (Kd.R_base ho2)) (Kd.R_base ho4)) (fun _ h_ => h_.1))
      have n13_ := Aside0.mk (Kd.R_mono (Kd.R_told (Kd.R_told (Kd.R_told (Kd.R_old (by (with_reducible repeat (first | apply Kd.R_alloc | apply Kd.R_drewN | apply Kd.R_drew)); exact HO490.out) hb) (Kd.R_base ho0)) (Kd.R_base ho2)) (Kd.R_base ho5)) (fun _ h_ => h_.1))
      have n14_ := Aside0.mk (Kd.S_elder' (by (with_reducible repeat (first | apply Kd.S_alloc | apply Kd.S_drewN | apply Kd.S_drew)); exact HO493.out) (Kd.S_base ho6) hb)
      have n15_ := Aside0.mk (Kd.R_elder' (by (with_reducible repeat (first | apply Kd.R_alloc | apply Kd.R_drewN | apply Kd.R_drew)); exact HO496.out) (Kd.R_base ho7) hb)
      have n16_ := Aside0.mk (Kd.R_lower (Kd.R_new' (Kd.R_new' (Kd.R_new' (Kd.R_new' ho0 (Kd.R_lt dz7)) (Kd.R_lt dz8)) (Kd.R_lt dz15)) (Kd.R_lt dz16)) (below_size dz9))
      have n17_ := Aside0.mk (Kd.S_lower (Kd.S_new' (Kd.S_new' ho1 (Kd.S_lt dz24)) (Kd.S_lt (by (with_reducible repeat (first | apply Kd.S_alloc | apply Kd.S_drewN | apply Kd.S_drew)); exact HO477.out))) (below_size dz9))
      have n18_ := Aside0.mk (Kd.R_lower (Kd.R_new' (Kd.R_new' (Kd.R_new' (Kd.R_new' ho2 (Kd.R_lt dz7)) (Kd.R_lt dz8)) (Kd.R_lt dz15)) (Kd.R_lt dz16)) (below_size dz9))
      have n19_ := Aside0.mk (Kd.S_lower (Kd.S_new' (Kd.S_new' (Kd.S_new' (Kd.S_new' (Kd.S_new' (Kd.S_new' ho3 (Kd.R_lt dz7)) (Kd.R_lt dz8)) (Kd.S_lt dz25)) (Kd.R_lt dz15)) (Kd.R_lt dz16)) (Kd.S_lt (by (with_reducible repeat (first | apply Kd.S_alloc | apply Kd.S_drewN | apply Kd.S_drew)); exact HO483.out))) (below_size dz9))
      have n20_ := Aside0.mk (Kd.R_lower (Kd.R_new' (Kd.R_new' (Kd.R_new' (Kd.R_new' (Kd.R_new' (Kd.R_new' ho4 (Kd.R_lt dz7)) (Kd.R_lt dz8)) (Kd.R_lt dz26)) (Kd.R_lt dz15)) (Kd.R_lt dz16)) (Kd.R_lt (by (with_reducible repeat (first | apply Kd.R_alloc | apply Kd.R_drewN | apply Kd.R_drew)); exact HO487.out))) (below_size dz9))
      have n21_ := Aside0.mk (Kd.R_lower (Kd.R_new' (Kd.R_new' (Kd.R_new' (Kd.R_new' (Kd.R_new' (Kd.R_new' ho5 (Kd.R_lt dz7)) (Kd.R_lt dz8)) (Kd.R_lt dz27)) (Kd.R_lt dz15)) (Kd.R_lt dz16)) (Kd.R_lt (by (with_reducible repeat (first | apply Kd.R_alloc | apply Kd.R_drewN | apply Kd.R_drew)); exact HO490.out))) (below_size dz9))
      have n22_ := Aside0.mk (Kd.S_lower (Kd.S_new' (Kd.S_new' ho6 (Kd.S_lt dz28)) (Kd.S_lt (by (with_reducible repeat (first | apply Kd.S_alloc | apply Kd.S_drewN | apply Kd.S_drew)); exact HO493.out))) (below_size dz9))
      have n23_ := Aside0.mk (Kd.R_lower (Kd.R_new' (Kd.R_new' ho7 (Kd.R_lt dz29)) (Kd.R_lt (by (with_reducible repeat (first | apply Kd.R_alloc | apply Kd.R_drewN | apply Kd.R_drew)); exact HO496.out))) (below_size dz9))
      have n24_ := (bkb_ BK441 hb)
      have n25_ := (bkb_ BK498 hb)
      have n26_ := Aside0.mk (below_step dz9 hb)
      clear HO445
      clear HO449
      clear HO452
      clear HO455
      clear HO459
      clear HO462
      clear HO465
      clear HO468
      clear HO473
      clear HO477
      clear HO480
      clear HO483
      clear HO487
      clear HO490
      clear HO493
      clear HO496
      clear BK441
      clear BK498
      clear HB
      have HO445 := n0_
      have HO449 := n1_
      have HO452 := n2_
      have HO455 := n3_
      have HO459 := n4_
      have HO462 := n5_
      have HO465 := n6_
      have HO468 := n7_
      have HO473 := n8_
      have HO477 := n9_
      have HO480 := n10_
      have HO483 := n11_
      have HO487 := n12_
      have HO490 := n13_
      have HO493 := n14_
      have HO496 := n15_
      have HO502 := n16_
      have HO506 := n17_
      have HO509 := n18_
      have HO512 := n19_
      have HO516 := n20_
      have HO519 := n21_
      have HO522 := n22_
      have HO525 := n23_
      have BK441 := n24_
      have BK498 := n25_
      have HB := n26_
      clear n0_ n1_ n2_ n3_ n4_ n5_ n6_ n7_ n8_ n9_ n10_ n11_ n12_ n13_ n14_ n15_ n16_ n17_ n18_ n19_ n20_ n21_ n22_ n23_ n24_ n25_ n26_
      (try clear hb)
      (try clear hb2)
      (try clear hk)
      (try clear hi)
      (try clear ho0)
      (try clear ho1)
      (try clear ho2)
      (try clear ho3)
      (try clear ho4)
      (try clear ho5)
      (try clear ho6)
      (try clear ho7)
      obtain ⟨Ao46, co46, eo46⟩ := Kd.R_slice HO502.out
      (first | subst eo46 | (injection eo46 with f1_ f2_ f3_; have f4_ := f1_.symm; have f5_ := f3_.symm; clear f1_ f2_ f3_; subst f4_; subst f5_))
      obtain ⟨Ao47, co47, eo47⟩ := Kd.S_slice HO506.out
      (first | subst eo47 | (injection eo47 with f1_ f2_ f3_; have f4_ := f1_.symm; have f5_ := f3_.symm; clear f1_ f2_ f3_; subst f4_; subst f5_))
      obtain ⟨Ao48, co48, eo48⟩ := Kd.R_slice HO509.out
      (first | subst eo48 | (injection eo48 with f1_ f2_ f3_; have f4_ := f1_.symm; have f5_ := f3_.symm; clear f1_ f2_ f3_; subst f4_; subst f5_))
      obtain ⟨Ao49, co49, eo49⟩ := Kd.S_slice HO512.out
      (first | subst eo49 | (injection eo49 with f1_ f2_ f3_; have f4_ := f1_.symm; have f5_ := f3_.symm; clear f1_ f2_ f3_; subst f4_; subst f5_))
      obtain ⟨Ao50, co50, eo50⟩ := Kd.R_slice HO516.out
      (first | subst eo50 | (injection eo50 with f1_ f2_ f3_; have f4_ := f1_.symm; have f5_ := f3_.symm; clear f1_ f2_ f3_; subst f4_; subst f5_))
      obtain ⟨Ao51, co51, eo51⟩ := Kd.R_slice HO519.out
      (first | subst eo51 | (injection eo51 with f1_ f2_ f3_; have f4_ := f1_.symm; have f5_ := f3_.symm; clear f1_ f2_ f3_; subst f4_; subst f5_))
      obtain ⟨Ao52, co52, eo52⟩ := Kd.S_slice HO522.out
      (first | subst eo52 | (injection eo52 with f1_ f2_ f3_; have f4_ := f1_.symm; have f5_ := f3_.symm; clear f1_ f2_ f3_; subst f4_; subst f5_))
      obtain ⟨Ao53, co53, eo53⟩ := Kd.R_slice HO525.out
      (first | subst eo53 | (injection eo53 with f1_ f2_ f3_; have f4_ := f1_.symm; have f5_ := f3_.symm; clear f1_ f2_ f3_; subst f4_; subst f5_))
      refine hK.out _ _ ⟨(blk_cell BK498.out 0).trans rfl, (blk_cell BK498.out 1).trans rfl, (blk_cell BK498.out 2).trans rfl, (blk_cell BK498.out 3).trans rfl, (blk_cell BK498.out 4).trans rfl, (blk_cell BK498.out 5).trans rfl, (blk_cell BK498.out 6).trans rfl, (blk_cell BK498.out 7).trans rfl, (blk_cell BK498.out 8).trans rfl, (blk_cell BK498.out 9).trans rfl, (blk_cell BK498.out 10).trans rfl, (blk_cell BK441.out 0).trans rfl, (blk_cell BK441.out 1).trans rfl, (blk_cell BK441.out 2).trans rfl, (blk_cell BK441.out 3).trans rfl, (blk_cell BK441.out 4).trans rfl, (blk_cell BK441.out 5).trans rfl, (blk_cell BK441.out 6).trans rfl, (blk_cell BK441.out 7).trans rfl, (blk_cell BK441.out 8).trans rfl, (blk_cell BK441.out 9).trans rfl, (blk_cell BK441.out 10).trans rfl⟩ (fun hHeld => ?_)
      clear hK K
      refine norm_ (a' := ?_) ?_ ?_
      rotate_left
      · show Act.put _ (some 28) _ = _
        simp only [Act.put, List.setIfInBounds_toArray, List.set_cons_zero, List.set_cons_succ, i64_w, i32_w]
        rfl
      refine one_ (i := 3) (N := some 29) #[true, true, true, true, false] rfl rfl (by kernel_rfl) (by decide) (fun K hK => ?_)
      refine goes_ Try.func48 (by kernel_rfl) rfl #[.agg #[.slice Ao33 t471.length co33, .int .i64 t474, .slice Ao36 t475.length co36, .slice Ao37 t478.length co37, .slice Ao38 t481.length co38, .int .i64 t484, .slice Ao39 t485.length co39, .slice Ao40 t488.length co40, .slice Ao41 t491.length co41, .slice Ao42 t494.length co42, .bool t497], .agg #[.slice Ao46 t500.length co46, .int .i64 t503, .slice Ao47 t504.length co47, .slice Ao48 t507.length co48, .slice Ao49 t510.length co49, .int .i64 t513, .slice Ao50 t514.length co50, .slice Ao51 t517.length co51, .slice Ao52 t520.length co52, .slice Ao53 t523.length co53, .bool t526]] (by rfl) rfl rfl dz2 ?_
      with_reducible refine (laws_eqWorld.calls k _ _ t471 t474 _ _ t475 _ _ t478 _ _ t481 t484 _ _ t485 _ _ t488 _ _ t491 _ _ t494 t497 _ _ t500 t503 _ _ t504 _ _ t507 _ _ t510 t513 _ _ t514 _ _ t517 _ _ t520 _ _ t523 t526 true _ ?side1 ?side2 ?side3 ?side4 ?side5 ?side6 ?side7 ?side8 ?side9 ?side10 ?side11 ?side12 ?side13 ?side14 ?side15 ?side16 ?side17 ?side18 ?side19 ?side20 ?side21 ?side22 ?side23 ?side24 ?side25 ?side26 ?side27 ?side28 ?side29 ?side30 ?side31 ?side32 A14.out).mono ?_
      (case side1 => repeat (first | exact (Kd.R_reads' HO473.out).2.2 | (with_reducible refine Kd.C_alloc ?_ _) | (with_reducible refine Kd.C_drewN ?_ _) | (with_reducible refine Kd.C_drew ?_)))
      (case side2 => exact (Kd.R_reads' HO473.out).2.1)
      (case side3 => repeat (first | exact (Kd.S_reads' HO477.out).2.2 | (with_reducible refine Kd.C_alloc ?_ _) | (with_reducible refine Kd.C_drewN ?_ _) | (with_reducible refine Kd.C_drew ?_)))
      (case side4 => exact (Kd.S_reads' HO477.out).2.1)
      (case side5 => repeat (first | exact (Kd.R_reads' HO480.out).2.2 | (with_reducible refine Kd.C_alloc ?_ _) | (with_reducible refine Kd.C_drewN ?_ _) | (with_reducible refine Kd.C_drew ?_)))
      (case side6 => exact (Kd.R_reads' HO480.out).2.1)
      (case side7 => repeat (first | exact (Kd.S_reads' HO483.out).2.2 | (with_reducible refine Kd.C_alloc ?_ _) | (with_reducible refine Kd.C_drewN ?_ _) | (with_reducible refine Kd.C_drew ?_)))
      (case side8 => exact (Kd.S_reads' HO483.out).2.1)
      (case side9 => repeat (first | exact (Kd.R_reads' HO487.out).2.2 | (with_reducible refine Kd.C_alloc ?_ _) | (with_reducible refine Kd.C_drewN ?_ _) | (with_reducible refine Kd.C_drew ?_)))
      (case side10 => exact (Kd.R_reads' HO487.out).2.1)
      (case side11 => repeat (first | exact (Kd.R_reads' HO490.out).2.2 | (with_reducible refine Kd.C_alloc ?_ _) | (with_reducible refine Kd.C_drewN ?_ _) | (with_reducible refine Kd.C_drew ?_)))
      (case side12 => exact (Kd.R_reads' HO490.out).2.1)
      (case side13 => repeat (first | exact (Kd.S_reads' HO493.out).2.2 | (with_reducible refine Kd.C_alloc ?_ _) | (with_reducible refine Kd.C_drewN ?_ _) | (with_reducible refine Kd.C_drew ?_)))
      (case side14 => exact (Kd.S_reads' HO493.out).2.1)
      (case side15 => repeat (first | exact (Kd.R_reads' HO496.out).2.2 | (with_reducible refine Kd.C_alloc ?_ _) | (with_reducible refine Kd.C_drewN ?_ _) | (with_reducible refine Kd.C_drew ?_)))
      (case side16 => exact (Kd.R_reads' HO496.out).2.1)
      (case side17 => repeat (first | exact (Kd.R_reads' HO502.out).2.2 | (with_reducible refine Kd.C_alloc ?_ _) | (with_reducible refine Kd.C_drewN ?_ _) | (with_reducible refine Kd.C_drew ?_)))
      (case side18 => exact (Kd.R_reads' HO502.out).2.1)
      (case side19 => repeat (first | exact (Kd.S_reads' HO506.out).2.2 | (with_reducible refine Kd.C_alloc ?_ _) | (with_reducible refine Kd.C_drewN ?_ _) | (with_reducible refine Kd.C_drew ?_)))
      (case side20 => exact (Kd.S_reads' HO506.out).2.1)
      (case side21 => repeat (first | exact (Kd.R_reads' HO509.out).2.2 | (with_reducible refine Kd.C_alloc ?_ _) | (with_reducible refine Kd.C_drewN ?_ _) | (with_reducible refine Kd.C_drew ?_)))
      (case side22 => exact (Kd.R_reads' HO509.out).2.1)
      (case side23 => repeat (first | exact (Kd.S_reads' HO512.out).2.2 | (with_reducible refine Kd.C_alloc ?_ _) | (with_reducible refine Kd.C_drewN ?_ _) | (with_reducible refine Kd.C_drew ?_)))
      (case side24 => exact (Kd.S_reads' HO512.out).2.1)
      (case side25 => repeat (first | exact (Kd.R_reads' HO516.out).2.2 | (with_reducible refine Kd.C_alloc ?_ _) | (with_reducible refine Kd.C_drewN ?_ _) | (with_reducible refine Kd.C_drew ?_)))
      (case side26 => exact (Kd.R_reads' HO516.out).2.1)
      (case side27 => repeat (first | exact (Kd.R_reads' HO519.out).2.2 | (with_reducible refine Kd.C_alloc ?_ _) | (with_reducible refine Kd.C_drewN ?_ _) | (with_reducible refine Kd.C_drew ?_)))
      (case side28 => exact (Kd.R_reads' HO519.out).2.1)
      (case side29 => repeat (first | exact (Kd.S_reads' HO522.out).2.2 | (with_reducible refine Kd.C_alloc ?_ _) | (with_reducible refine Kd.C_drewN ?_ _) | (with_reducible refine Kd.C_drew ?_)))
      (case side30 => exact (Kd.S_reads' HO522.out).2.1)
      (case side31 => repeat (first | exact (Kd.R_reads' HO525.out).2.2 | (with_reducible refine Kd.C_alloc ?_ _) | (with_reducible refine Kd.C_drewN ?_ _) | (with_reducible refine Kd.C_drew ?_)))
      (case side32 => exact (Kd.R_reads' HO525.out).2.1)
      rintro e w54 ⟨rfl, hb⟩
      refine ⟨_, rfl, ?_⟩
      have n0_ := (rbb_ HO445 hb)
      have n1_ := (sbb_ HO449 hb)
      have n2_ := (rbb_ HO452 hb)
      have n3_ := (sbb_ HO455 hb)
      have n4_ := (rbb_ HO459 hb)
      have n5_ := (rbb_ HO462 hb)
      have n6_ := (sbb_ HO465 hb)
      have n7_ := (rbb_ HO468 hb)
      have n8_ := (rbb_ HO473 hb)
      have n9_ := (sbb_ HO477 hb)
      have n10_ := (rbb_ HO480 hb)
      have n11_ := (sbb_ HO483 hb)
      have n12_ := (rbb_ HO487 hb)
      have n13_ := (rbb_ HO490 hb)
      have n14_ := (sbb_ HO493 hb)
      have n15_ := (rbb_ HO496 hb)
      have n16_ := (rbb_ HO502 hb)
      have n17_ := (sbb_ HO506 hb)
      have n18_ := (rbb_ HO509 hb)
      have n19_ := (sbb_ HO512 hb)
      have n20_ := (rbb_ HO516 hb)
      have n21_ := (rbb_ HO519 hb)
      have n22_ := (sbb_ HO522 hb)
      have n23_ := (rbb_ HO525 hb)
      have n24_ := (bkb_ BK441 hb)
      have n25_ := (bkb_ BK498 hb)
      have n26_ := Aside0.mk (below_step dz9 hb)
      clear HO445
      clear HO449
      clear HO452
      clear HO455
      clear HO459
      clear HO462
      clear HO465
      clear HO468
      clear HO473
      clear HO477
      clear HO480
      clear HO483
      clear HO487
      clear HO490
      clear HO493
      clear HO496
      clear HO502
      clear HO506
      clear HO509
      clear HO512
      clear HO516
      clear HO519
      clear HO522
      clear HO525
      clear BK441
      clear BK498
      clear HB
      have HO445 := n0_
      have HO449 := n1_
      have HO452 := n2_
      have HO455 := n3_
      have HO459 := n4_
      have HO462 := n5_
      have HO465 := n6_
      have HO468 := n7_
      have HO473 := n8_
      have HO477 := n9_
      have HO480 := n10_
      have HO483 := n11_
      have HO487 := n12_
      have HO490 := n13_
      have HO493 := n14_
      have HO496 := n15_
      have HO502 := n16_
      have HO506 := n17_
      have HO509 := n18_
      have HO512 := n19_
      have HO516 := n20_
      have HO519 := n21_
      have HO522 := n22_
      have HO525 := n23_
      have BK441 := n24_
      have BK498 := n25_
      have HB := n26_
      clear n0_ n1_ n2_ n3_ n4_ n5_ n6_ n7_ n8_ n9_ n10_ n11_ n12_ n13_ n14_ n15_ n16_ n17_ n18_ n19_ n20_ n21_ n22_ n23_ n24_ n25_ n26_
      (try clear hb)
      (try clear hb2)
      (try clear hk)
      (try clear hi)
      refine hK.out _ _ ⟨(blk_cell BK498.out 0).trans rfl, (blk_cell BK498.out 1).trans rfl, (blk_cell BK498.out 2).trans rfl, (blk_cell BK498.out 3).trans rfl, (blk_cell BK498.out 4).trans rfl, (blk_cell BK498.out 5).trans rfl, (blk_cell BK498.out 6).trans rfl, (blk_cell BK498.out 7).trans rfl, (blk_cell BK498.out 8).trans rfl, (blk_cell BK498.out 9).trans rfl, (blk_cell BK498.out 10).trans rfl, (blk_cell BK441.out 0).trans rfl, (blk_cell BK441.out 1).trans rfl, (blk_cell BK441.out 2).trans rfl, (blk_cell BK441.out 3).trans rfl, (blk_cell BK441.out 4).trans rfl, (blk_cell BK441.out 5).trans rfl, (blk_cell BK441.out 6).trans rfl, (blk_cell BK441.out 7).trans rfl, (blk_cell BK441.out 8).trans rfl, (blk_cell BK441.out 9).trans rfl, (blk_cell BK441.out 10).trans rfl⟩ (fun hHeld => ?_)
      clear hK K
      refine norm_ (a' := ?_) ?_ ?_
      rotate_left
      · show Act.put _ (some 29) _ = _
        simp only [Act.put, List.setIfInBounds_toArray, List.set_cons_zero, List.set_cons_succ, i64_w, i32_w]
        rfl
      refine pure_ (i := 4) (N := some 30) (v := ?_) (a' := ?_) #[true, true, true, true, true] rfl rfl (by kernel_rfl) (fun _ _ _ h => h) (Or.inl ⟨by rfl, ?_⟩) ?_ ?_
      rotate_left
      · exact dz109
      rotate_left
      · exact dz110
      refine done_ (by kernel_rfl) ?_
      try go_wp2
      go_ret
      exact ⟨by first | rfl | (simp [errW_none, errW_some] <;> rfl) | (simp [*, errW_none, errW_some] <;> rfl), by repeat (first | (with_reducible first | exact HB.out | apply below_alloc | apply pw_below_drewN | apply below_drew1 | refine below_set ?_ GE441.out | refine below_set ?_ GE498.out) | exact HB.out)⟩
    replace c15 := Bool.eq_false_iff.mpr c15
    subst c15
    have H1 : (none) = some r := by rw [if_neg (show ¬ (false = true) by decide)] at H; exact H
    clear H
    have H := H1
    clear H1
    exact absurd H (by simp)
  rw [if_neg c12] at H
  exact absurd H (by simp)
end Go.Proofs.Ytlomecknojaakac.PFnExactSureOf
