-- Written by wip/gen/pack.py of this repo. Lean checks it.
import Derived.Test.YtdkdhciogedoiabKFnAddedP0
import Derived.Test.YtdkdhciogedoiabKFnAddedP1
import Derived.Test.YtdkdhciogedoiabKFnAddedP2
import Derived.Test.YtdkdhciogedoiabKFnAddedP5
import Derived.Test.YtdkdhciogedoiabKFnAddedP9
import Derived.Test.YtdkdhciogedoiabKFnAddedD
namespace Go.Proofs.Ytdkdhciogedoiab.PFnAdded
open Go.RowKit Go.Proofs.YtdkdhciogedoiabW.PrintWords Go.Proofs.YtdkdhciogedoiabW.PrintLast Go.Proofs.YtdkdhciogedoiabW.PrintMore Go.Proofs.YtdkdhciogedoiabW.Sq
attribute [local go_sem] max2_int min2_int max_two min_two max_three min_three max_four min_four
set_option linter.unusedVariables false
set_option linter.unusedSimpArgs false
def spec_DrawWriterAdd.f (k : Nat) (l0 : List Int) : Option (List Int × Int × Int × (List (S50)) × ByteArray) := (spec_l1New.f k l0).bind fun bt359 => ((spec_l4Draw.f k bt359.1 bt359.2.1 bt359.2.2).bind fun bt363 => ((spec_l8Draw.f k bt359.1 bt363.2.2.1 bt363.2.2.2 bt363.1 bt363.2.1).bind fun bt370 => ((spec_l1Pick.f bt359.1 bt370.2.2.1 bt370.2.2.2 (([(⟨#[]⟩ : ByteArray), (⟨#[97]⟩ : ByteArray), (⟨#[98, 99]⟩ : ByteArray)] : List ByteArray))).bind fun bt380 => ((spec_l1Once.f bt359.1 bt380.2.1 bt380.2.2 12).bind fun bt383 => (if bt383.1 = true then ((spec_l1Below.f bt359.1 bt383.2.1 bt383.2.2 2).bind fun bt386 => (if 0 ≤ (wrap64 (40 + bt386.1)) then (if (wrap64 (40 + bt386.1) : Int).toNat ≤ 281474976710656 then (some (bt363.1, bt363.2.1, bt370.1, bt370.2.1, strOfNums (List.replicate (wrap64 (40 + bt386.1) : Int).toNat 0))) else (none)) else (none))) else (some (bt363.1, bt363.2.1, bt370.1, bt370.2.1, bt380.1)))))))
set_option maxHeartbeats 8000000 in
set_option maxRecDepth 100000 in
theorem spec_DrawWriterAdd.calls (k : Nat) (A0 : Option Addr) (c0 : Nat) (l0 : List Int) (r1 : List Int) (r2 : Int) (r3 : Int) (r4 : List (S50)) (r5 : ByteArray) (w : World) (hr0 : Kd.C (Kd.int .u8) w A0 l0.length l0) (hc0 : l0.length ≤ c0) (h : spec_DrawWriterAdd.f k l0 = some (r1, r2, r3, r4, r5)) :
  Calls Try.prog 18 #[.slice A0 l0.length c0] w fun e w' => ∃ v0_ v3_ : Value, e = .returned (.tuple #[.agg #[v0_, .int .i64 r2], .agg #[.int .i64 r3, v3_], .string r5]) ∧ Kd.R (Kd.int .i64) 3 w' w.heap.size (fun k_ => (w.heap.size ≤ k_)) v0_ r1 ∧ Kd.N k50 50 w' w.heap.size (fun k_ => (w.heap.size ≤ k_) ∧ some k_ ≠ (v0_ : Value).ownBlock) v3_ r4 ∧ Below w.heap.size w w' := by
 have hu31 := Try.underlying31
 have hu44 := Try.underlying44
 have HR0 := Aside0.mk hr0
 have HC0 := Aside0.mk hc0
 clear hr0 hc0
 have HB := Aside0.mk (Below.refl w.heap.size w)
 have H : ((spec_l1New.f k l0).bind fun bt359 => ((spec_l4Draw.f k bt359.1 bt359.2.1 bt359.2.2).bind fun bt363 => ((spec_l8Draw.f k bt359.1 bt363.2.2.1 bt363.2.2.2 bt363.1 bt363.2.1).bind fun bt370 => ((spec_l1Pick.f bt359.1 bt370.2.2.1 bt370.2.2.2 (([(⟨#[]⟩ : ByteArray), (⟨#[97]⟩ : ByteArray), (⟨#[98, 99]⟩ : ByteArray)] : List ByteArray))).bind fun bt380 => ((spec_l1Once.f bt359.1 bt380.2.1 bt380.2.2 12).bind fun bt383 => (if bt383.1 = true then ((spec_l1Below.f bt359.1 bt383.2.1 bt383.2.2 2).bind fun bt386 => (if 0 ≤ (wrap64 (40 + bt386.1)) then (if (wrap64 (40 + bt386.1) : Int).toNat ≤ 281474976710656 then (some (bt363.1, bt363.2.1, bt370.1, bt370.2.1, strOfNums (List.replicate (wrap64 (40 + bt386.1) : Int).toNat 0))) else (none)) else (none))) else (some (bt363.1, bt363.2.1, bt370.1, bt370.2.1, bt380.1)))))))) = some (r1, r2, r3, r4, r5) := h
 clear h
 replace H := Option.bind_eq_some_iff.mp H
 obtain ⟨⟨t359, t360, t361⟩, A20, H⟩ := H
 replace H : ((spec_l4Draw.f k t359 t360 t361).bind fun bt363 => ((spec_l8Draw.f k t359 bt363.2.2.1 bt363.2.2.2 bt363.1 bt363.2.1).bind fun bt370 => ((spec_l1Pick.f t359 bt370.2.2.1 bt370.2.2.2 (([(⟨#[]⟩ : ByteArray), (⟨#[97]⟩ : ByteArray), (⟨#[98, 99]⟩ : ByteArray)] : List ByteArray))).bind fun bt380 => ((spec_l1Once.f t359 bt380.2.1 bt380.2.2 12).bind fun bt383 => (if bt383.1 = true then ((spec_l1Below.f t359 bt383.2.1 bt383.2.2 2).bind fun bt386 => (if 0 ≤ (wrap64 (40 + bt386.1)) then (if (wrap64 (40 + bt386.1) : Int).toNat ≤ 281474976710656 then (some (bt363.1, bt363.2.1, bt370.1, bt370.2.1, strOfNums (List.replicate (wrap64 (40 + bt386.1) : Int).toNat 0))) else (none)) else (none))) else (some (bt363.1, bt363.2.1, bt370.1, bt370.2.1, bt380.1))))))) = some (r1, r2, r3, r4, r5) := H
 have A2 := Aside0.mk A20
 clear A20
 replace H := Option.bind_eq_some_iff.mp H
 obtain ⟨⟨t363, t366, t367, t368⟩, A30, H⟩ := H
 replace H : ((spec_l8Draw.f k t359 t367 t368 t363 t366).bind fun bt370 => ((spec_l1Pick.f t359 bt370.2.2.1 bt370.2.2.2 (([(⟨#[]⟩ : ByteArray), (⟨#[97]⟩ : ByteArray), (⟨#[98, 99]⟩ : ByteArray)] : List ByteArray))).bind fun bt380 => ((spec_l1Once.f t359 bt380.2.1 bt380.2.2 12).bind fun bt383 => (if bt383.1 = true then ((spec_l1Below.f t359 bt383.2.1 bt383.2.2 2).bind fun bt386 => (if 0 ≤ (wrap64 (40 + bt386.1)) then (if (wrap64 (40 + bt386.1) : Int).toNat ≤ 281474976710656 then (some (t363, t366, bt370.1, bt370.2.1, strOfNums (List.replicate (wrap64 (40 + bt386.1) : Int).toNat 0))) else (none)) else (none))) else (some (t363, t366, bt370.1, bt370.2.1, bt380.1)))))) = some (r1, r2, r3, r4, r5) := H
 have A3 := Aside0.mk A30
 clear A30
 replace H := Option.bind_eq_some_iff.mp H
 obtain ⟨⟨t370, t371, t374, t375⟩, A40, H⟩ := H
 replace H : ((spec_l1Pick.f t359 t374 t375 (([(⟨#[]⟩ : ByteArray), (⟨#[97]⟩ : ByteArray), (⟨#[98, 99]⟩ : ByteArray)] : List ByteArray))).bind fun bt380 => ((spec_l1Once.f t359 bt380.2.1 bt380.2.2 12).bind fun bt383 => (if bt383.1 = true then ((spec_l1Below.f t359 bt383.2.1 bt383.2.2 2).bind fun bt386 => (if 0 ≤ (wrap64 (40 + bt386.1)) then (if (wrap64 (40 + bt386.1) : Int).toNat ≤ 281474976710656 then (some (t363, t366, t370, t371, strOfNums (List.replicate (wrap64 (40 + bt386.1) : Int).toNat 0))) else (none)) else (none))) else (some (t363, t366, t370, t371, bt380.1))))) = some (r1, r2, r3, r4, r5) := H
 have A4 := Aside0.mk A40
 clear A40
 obtain ⟨y377, hy377⟩ : ∃ y_ : List ByteArray, y_ = (([(⟨#[]⟩ : ByteArray), (⟨#[97]⟩ : ByteArray), (⟨#[98, 99]⟩ : ByteArray)] : List ByteArray)) := ⟨_, rfl⟩
 replace H : ((spec_l1Pick.f t359 t374 t375 y377).bind fun bt380 => ((spec_l1Once.f t359 bt380.2.1 bt380.2.2 12).bind fun bt383 => (if bt383.1 = true then ((spec_l1Below.f t359 bt383.2.1 bt383.2.2 2).bind fun bt386 => (if 0 ≤ (wrap64 (40 + bt386.1)) then (if (wrap64 (40 + bt386.1) : Int).toNat ≤ 281474976710656 then (some (t363, t366, t370, t371, strOfNums (List.replicate (wrap64 (40 + bt386.1) : Int).toNat 0))) else (none)) else (none))) else (some (t363, t366, t370, t371, bt380.1))))) = some (r1, r2, r3, r4, r5) := by first | (rw [hy377]; with_reducible exact H) | (have H2_ := (Option.bind_some _ _).symm.trans H; rw [hy377]; with_reducible exact H2_) | (have H2_ := (Option.bind_some _ _).symm.trans H; with_reducible exact H2_) | with_reducible exact H | (rw [hy377]; exact H) | exact H
 have Ny377 := Aside0.mk hy377
 clear hy377
 replace H := Option.bind_eq_some_iff.mp H
 obtain ⟨⟨t380, t381, t382⟩, A50, H⟩ := H
 replace H : ((spec_l1Once.f t359 t381 t382 12).bind fun bt383 => (if bt383.1 = true then ((spec_l1Below.f t359 bt383.2.1 bt383.2.2 2).bind fun bt386 => (if 0 ≤ (wrap64 (40 + bt386.1)) then (if (wrap64 (40 + bt386.1) : Int).toNat ≤ 281474976710656 then (some (t363, t366, t370, t371, strOfNums (List.replicate (wrap64 (40 + bt386.1) : Int).toNat 0))) else (none)) else (none))) else (some (t363, t366, t370, t371, t380)))) = some (r1, r2, r3, r4, r5) := H
 have A5 := Aside0.mk A50
 clear A50
 replace H := Option.bind_eq_some_iff.mp H
 obtain ⟨⟨t383, t384, t385⟩, A60, H⟩ := H
 replace H : (if t383 = true then ((spec_l1Below.f t359 t384 t385 2).bind fun bt386 => (if 0 ≤ (wrap64 (40 + bt386.1)) then (if (wrap64 (40 + bt386.1) : Int).toNat ≤ 281474976710656 then (some (t363, t366, t370, t371, strOfNums (List.replicate (wrap64 (40 + bt386.1) : Int).toNat 0))) else (none)) else (none))) else (some (t363, t366, t370, t371, t380))) = some (r1, r2, r3, r4, r5) := H
 have A6 := Aside0.mk A60
 clear A60
 by_cases c7 : t383 = true
 ·subst c7
  have H1 : ((spec_l1Below.f t359 t384 t385 2).bind fun bt386 => (if 0 ≤ (wrap64 (40 + bt386.1)) then (if (wrap64 (40 + bt386.1) : Int).toNat ≤ 281474976710656 then (some (t363, t366, t370, t371, strOfNums (List.replicate (wrap64 (40 + bt386.1) : Int).toNat 0))) else (none)) else (none))) = some (r1, r2, r3, r4, r5) := by rw [if_pos rfl] at H; exact H
  clear H
  have H := H1
  clear H1
  replace H := Option.bind_eq_some_iff.mp H
  obtain ⟨⟨t386, t387, t388⟩, A80, H⟩ := H
  replace H : (if 0 ≤ (wrap64 (40 + t386)) then (if (wrap64 (40 + t386) : Int).toNat ≤ 281474976710656 then (some (t363, t366, t370, t371, strOfNums (List.replicate (wrap64 (40 + t386) : Int).toNat 0))) else (none)) else (none)) = some (r1, r2, r3, r4, r5) := H
  have A8 := Aside0.mk A80
  clear A80
  obtain ⟨ji9, hji9⟩ : ∃ j_ : Int, (wrap64 (40 + t386)) = j_ := ⟨_, rfl⟩
  replace H : (if 0 ≤ (ji9) then (if (ji9 : Int).toNat ≤ 281474976710656 then (some (t363, t366, t370, t371, strOfNums (List.replicate (ji9 : Int).toNat 0))) else (none)) else (none)) = some (r1, r2, r3, r4, r5) := by first | (rw [hji9] at H; exact H) | (simp only [hji9] at H ⊢; exact H)
  (try rw [hji9] at A2)
  (try rw [hji9] at A3)
  (try rw [hji9] at A4)
  (try rw [hji9] at A5)
  (try rw [hji9] at A6)
  (try rw [hji9] at A8)
  have hji9w : (IntKind.i64.wrap (40 + t386)) = ji9 := (i64_w _).trans hji9
  by_cases c10 : 0 ≤ (ji9)
  ·rw [if_pos c10] at H
   have c10b0 := eq_true c10
   have c10b1 : decide (0 ≤ (ji9)) = true := decide_eq_true c10
   clear c10
   by_cases c11 : (ji9 : Int).toNat ≤ 281474976710656
   ·rw [if_pos c11] at H
    have c11b0 := eq_true c11
    have c11b1 : decide ((ji9 : Int).toNat ≤ 281474976710656) = true := decide_eq_true c11
    clear c11
    obtain ⟨y389, hy389⟩ : ∃ y_ : List Int, y_ = (List.replicate (ji9 : Int).toNat 0) := ⟨_, rfl⟩
    replace H : (some (t363, t366, t370, t371, strOfNums y389)) = some (r1, r2, r3, r4, r5) := by first | (rw [hy389]; with_reducible exact H) | (have H2_ := (Option.bind_some _ _).symm.trans H; rw [hy389]; with_reducible exact H2_) | (have H2_ := (Option.bind_some _ _).symm.trans H; with_reducible exact H2_) | with_reducible exact H | (rw [hy389]; exact H) | exact H
    have Ny389 := Aside0.mk hy389
    clear hy389
    simp only [Option.some.injEq, Prod.mk.injEq] at H
    obtain ⟨rfl, rfl, rfl, rfl, rfl⟩ := H
    go_enter Try.func18, Try.ntmps18
    try go_wp2_with (first | ((with_reducible refine gate_dst (N := 2) rfl ?_); refine box_event kr_ (N := 2) kr_ (cs := #[.slice none 0 0, .int .i64 0]) (t := 31) ks_ ?_; intro gb357 hg w1 hbox hb; have BK357 := Aside0.mk (hbox); have GW357 : Aside0 (w.heap.size ≤ gb357) := szl_ hg dz2; have GE357 : Aside0 (w.heap.size ≤ gb357) := szl_ hg dz2; replace HB := Aside0.mk (below_step dz2 hb); clear hb hbox hg) | ((with_reducible refine gate_dst (N := 3) rfl ?_); refine box_event kr_ (N := 3) kr_ (cs := #[.int .i64 0, .slice none 0 0]) (t := 44) ks_ ?_; intro gb358 hg w2 hbox hb; have BK358 := Aside0.mk (hbox); have GW358 : Aside0 (w.heap.size ≤ gb358) := szl_ hg dz62; have GE358 : Aside0 (w.heap.size ≤ gb358) := szl_ hg dz62; replace HB := Aside0.mk (below_step dz62 hb); have NB357_358 := (nbl_ hg BK357); have NB358_357 := (nbr_ hg BK357); replace BK357 := (bkb_ BK357 hb); clear hb hbox hg) | ((with_reducible refine gate_callee (f := 62) rfl ?_); refine goesL_ (some 10) rfl rfl Try.func62 (by kernel_rfl) rfl #[.slice A0 l0.length c0] rfl dz1 ?_; (with_reducible refine (spec_l1New.calls k _ _ l0 t359 t360 t361 w _ ?side1 ?side2 ?side3 A2.out).mono ?_); (case side1 => exact dz477); (case side2 => exact HR0.out); (case side3 => exact HC0.out); rintro e w3 ⟨g362, rfl, hi, hb, hb2⟩; refine ⟨_, rfl, ?_⟩; replace HB := Aside0.mk (hb); have HI362 := Aside0.mk (hi); have NB362_357 := Aside0.mk (IsS150.ne_blk hi (blk_below (g := gb357) (o := .cells #[.slice none 0 0, .int .i64 0] 31 (0, 0)) dz23 hb2) (by decide)); have NB357_362 := Aside0.mk (Ne.symm (IsS150.ne_blk hi (blk_below (g := gb357) (o := .cells #[.slice none 0 0, .int .i64 0] 31 (0, 0)) dz23 hb2) (by decide))); replace BK357 := Aside0.mk (blk_below (g := gb357) (o := .cells #[.slice none 0 0, .int .i64 0] 31 (0, 0)) dz23 hb2); have NB362_358 := Aside0.mk (IsS150.ne_blk hi (blk_below (g := gb358) (o := .cells #[.int .i64 0, .slice none 0 0] 44 (0, 0)) dz24 hb2) (by decide)); have NB358_362 := Aside0.mk (Ne.symm (IsS150.ne_blk hi (blk_below (g := gb358) (o := .cells #[.int .i64 0, .slice none 0 0] 44 (0, 0)) dz24 hb2) (by decide))); replace BK358 := Aside0.mk (blk_below (g := gb358) (o := .cells #[.int .i64 0, .slice none 0 0] 44 (0, 0)) dz24 hb2); (try clear hb); (try clear hb2); (try clear hk); (try clear hi)) | ((with_reducible refine gate_callee (f := 63) rfl ?_); refine goesL_ (some 12) rfl rfl Try.func63 (by kernel_rfl) rfl #[.pointer (some ⟨g362, 0, none⟩)] rfl dz1 ?_; (with_reducible refine (spec_l4Draw.calls k g362 t359 t360 t361 t363 t366 t367 t368 w _ ?side1 ?side2 A3.out).mono ?_); (case side1 => exact dz478); (case side2 => exact dz479); rintro e w4 ⟨v364, rfl, ho0, hi, hb, hk⟩; refine ⟨_, rfl, ?_⟩; replace BK357 := Aside0.mk (KeepBut.blk hk (g' := gb357) (o := .cells #[.slice none 0 0, .int .i64 0] 31 (0, 0)) dz23 NB357_362.out (by simp)); replace BK358 := Aside0.mk (KeepBut.blk hk (g' := gb358) (o := .cells #[.int .i64 0, .slice none 0 0] 44 (0, 0)) dz24 NB358_362.out (by simp)); have HO365 := Aside0.mk (Kd.R_lower (Kd.R_newM (M := fun k_ => (w.heap.size ≤ k_)) ho0 (below_size dz34) (fun k_ h_ => h_)) (below_size dz34)); replace HB := Aside0.mk (hb); replace HI362 := Aside0.mk (hi); (try clear hb); (try clear hb2); (try clear hk); (try clear hi); (try clear ho0)) | ((with_reducible refine gate_dst (N := 6) rfl ?_); refine box_event kr_ (N := 6) kr_ (cs := #[.slice none 0 0, .int .i64 0]) (t := 31) ks_ ?_; intro gb369 hg w5 hbox hb; replace HO365 := (rbb_ HO365 hb); have BK369 := Aside0.mk (hbox); have GW369 : Aside0 (w.heap.size ≤ gb369) := szl_ hg dz34; have GE369 : Aside0 (w.heap.size ≤ gb369) := szl_ hg dz34; replace HB := Aside0.mk (below_step dz34 hb); have NB357_369 := (nbl_ hg BK357); have NB369_357 := (nbr_ hg BK357); replace BK357 := (bkb_ BK357 hb); have NB358_369 := (nbl_ hg BK358); have NB369_358 := (nbr_ hg BK358); replace BK358 := (bkb_ BK358 hb); have NB362_369 := Aside0.mk ((by rw [hg]; exact Nat.ne_of_lt (IsS150.lt (show IsS150 w _ g362 t359 t367 t368 from by repeat (first | (with_reducible first | exact HI362.out | apply IsS150.alloc | apply IsS150.drewN | apply IsS150.drew | apply IsS150.set_1 | apply IsS150.set_2 | refine IsS150.far ?_ NB362_357.out _ | refine IsS150.far ?_ NB362_358.out _) | exact HI362.out))) : g362 ≠ gb369)); have NB369_362 := Aside0.mk ((by rw [hg]; exact Nat.ne_of_gt (IsS150.lt (show IsS150 w _ g362 t359 t367 t368 from by repeat (first | (with_reducible first | exact HI362.out | apply IsS150.alloc | apply IsS150.drewN | apply IsS150.drew | apply IsS150.set_1 | apply IsS150.set_2 | refine IsS150.far ?_ NB362_357.out _ | refine IsS150.far ?_ NB362_358.out _) | exact HI362.out))) : gb369 ≠ g362)); replace HI362 := Aside0.mk (IsS150.below dz155 hb); clear hb hbox hg; obtain ⟨Ao17, co17, eo17⟩ := Kd.R_slice HO365.out; subst eo17; have hnb18 := NB369_357.out; have hnc18 := NB357_369.out; have hnb19 := NB369_358.out; have hnc19 := NB358_369.out; have hnb20 := NB369_362.out; have hnc20 := NB362_369.out; obtain ⟨hcz21_0, hcz21_1, hfz21_0, hfz21_1⟩ := cz2_ BK369) | ((with_reducible refine gate_callee (f := 64) rfl ?_); refine goesL_ (some 15) rfl rfl Try.func64 (by kernel_rfl) rfl #[.pointer (some ⟨g362, 0, none⟩), .agg #[.slice Ao17 t363.length co17, .int .i64 t366]] rfl dz1 ?_; (with_reducible refine (spec_l8Draw.calls k g362 t359 t367 t368 _ _ t363 t366 t370 t371 t374 t375 w _ ?side1 ?side2 ?side3 ?side4 ?side5 A4.out).mono ?_); (case side1 => exact dz480); (case side2 => exact dz481); (case side3 => refine (Kd.R_reads' (e := 3) (base := w.heap.size) (ok := fun k_ => ((w.heap.size ≤ k_) ∧ True)) (n := t363.length) (c := co17) ?_).2.2; exact (by (with_reducible repeat (first | apply Kd.R_alloc | apply Kd.R_drewN | apply Kd.R_drew)); exact (Kd.R_mono (Kd.R_far (p := ⟨gb369, 1, none⟩) (Kd.R_far (p := ⟨gb369, 0, none⟩) (Kd.R_types HO365.out BK369.out (by decide)) (fun _ hk => hk.2) (.slice Ao17 t363.length co17)) (fun _ hk => hk.2) (.int .i64 t366)) (fun _ h_ => h_.1)))); (case side4 => exact (Kd.R_reads' HO365.out).2.1); (case side5 => exact far_slice (IsS150.own_ne HI362.out HO365.out (by decide))); rintro e w6 ⟨v372, rfl, ho0, hi, hb, hk⟩; refine ⟨_, rfl, ?_⟩; have HO373 := Aside0.mk (Kd.N_lower (Kd.N_mono (ok' := fun k_ => (w.heap.size ≤ k_) ∧ some k_ ≠ (.slice Ao17 t363.length co17 : Value).ownBlock ∧ k_ ≠ gb357 ∧ k_ ≠ gb358 ∧ k_ ≠ gb369 ∧ k_ ≠ g362) ho0 (fun k_ hk_ => ⟨(Nat.le_trans (below_size dz35) hk_), (Kd.fresh' (Kd.R_lt (by (with_reducible repeat (first | apply Kd.R_alloc | apply Kd.R_drewN | apply Kd.R_drew)); exact (Kd.R_mono (Kd.R_far (p := ⟨gb369, 1, none⟩) (Kd.R_far (p := ⟨gb369, 0, none⟩) (Kd.R_types HO365.out BK369.out (by decide)) (fun _ hk => hk.2) (.slice Ao17 t363.length co17)) (fun _ hk => hk.2) (.int .i64 t366)) (fun _ h_ => h_.1)))) k_ hk_), (Kd.freshB (g := gb357) (o := .cells #[.slice none 0 0, .int .i64 0] 31 (0, 0)) dz93 k_ hk_), (Kd.freshB (g := gb358) (o := .cells #[.int .i64 0, .slice none 0 0] 44 (0, 0)) dz94 k_ hk_), (Kd.freshB (g := gb369) (o := .cells #[.slice Ao17 t363.length co17, .int .i64 t366] 31 (0, 0)) dz156 k_ hk_), (IsS150.fresh dz95 k_ hk_)⟩)) (below_size dz35)); replace BK357 := Aside0.mk (KeepBut.blk hk (g' := gb357) (o := .cells #[.slice none 0 0, .int .i64 0] 31 (0, 0)) dz93 NB357_362.out (by simp)); replace BK358 := Aside0.mk (KeepBut.blk hk (g' := gb358) (o := .cells #[.int .i64 0, .slice none 0 0] 44 (0, 0)) dz94 NB358_362.out (by simp)); replace HO365 := Aside0.mk (Kd.R_mono (Kd.R_keep (IsS150.apart (show IsS150 w _ g362 t359 t367 t368 from by repeat (first | (with_reducible first | exact HI362.out | apply IsS150.alloc | apply IsS150.drewN | apply IsS150.drew | apply IsS150.set_1 | apply IsS150.set_2 | refine IsS150.far ?_ NB362_357.out _ | refine IsS150.far ?_ NB362_358.out _ | refine IsS150.far ?_ NB362_369.out _) | exact HI362.out)) (by (with_reducible repeat (first | apply Kd.R_alloc | apply Kd.R_drewN | apply Kd.R_drew)); exact (Kd.R_mono (Kd.R_far (p := ⟨gb369, 1, none⟩) (Kd.R_far (p := ⟨gb369, 0, none⟩) (Kd.R_types HO365.out BK369.out (by decide)) (fun _ hk => hk.2) (.slice Ao17 t363.length co17)) (fun _ hk => hk.2) (.int .i64 t366)) (fun _ h_ => h_.1))) (by decide)) hk (fun _ h => h.2)) (fun _ h => h.1)); replace BK369 := Aside0.mk (KeepBut.blk hk (g' := gb369) (o := .cells #[.slice Ao17 t363.length co17, .int .i64 t366] 31 (0, 0)) dz156 NB369_362.out (by simp)); replace HB := Aside0.mk (hb); replace HI362 := Aside0.mk (hi); (try clear hb); (try clear hb2); (try clear hk); (try clear hi); (try clear ho0)) | ((with_reducible refine gate_dst (N := 7) rfl ?_); refine box_event kr_ (N := 7) kr_ (cs := #[.int .i64 0, .slice none 0 0]) (t := 44) ks_ ?_; intro gb376 hg w7 hbox hb; replace HO365 := (rbb_ HO365 hb); replace HO373 := Aside0.mk (Kd.N_below (Kd.N_elderB dz44 gb376 (Nat.le_of_eq hg.symm)) hb); have BK376 := Aside0.mk (hbox); have GW376 : Aside0 (w.heap.size ≤ gb376) := szl_ hg dz35; have GE376 : Aside0 (w.heap.size ≤ gb376) := szl_ hg dz35; replace HB := Aside0.mk (below_step dz35 hb); have NB357_376 := (nbl_ hg BK357); have NB376_357 := (nbr_ hg BK357); replace BK357 := (bkb_ BK357 hb); have NB358_376 := (nbl_ hg BK358); have NB376_358 := (nbr_ hg BK358); replace BK358 := (bkb_ BK358 hb); have NB369_376 := (nbl_ hg BK369); have NB376_369 := (nbr_ hg BK369); replace BK369 := (bkb_ BK369 hb); have NB362_376 := Aside0.mk ((by rw [hg]; exact Nat.ne_of_lt (IsS150.lt (show IsS150 w _ g362 t359 t374 t375 from by repeat (first | (with_reducible first | exact HI362.out | apply IsS150.alloc | apply IsS150.drewN | apply IsS150.drew | apply IsS150.set_1 | apply IsS150.set_2 | refine IsS150.far ?_ NB362_357.out _ | refine IsS150.far ?_ NB362_358.out _ | refine IsS150.far ?_ NB362_369.out _) | exact HI362.out))) : g362 ≠ gb376)); have NB376_362 := Aside0.mk ((by rw [hg]; exact Nat.ne_of_gt (IsS150.lt (show IsS150 w _ g362 t359 t374 t375 from by repeat (first | (with_reducible first | exact HI362.out | apply IsS150.alloc | apply IsS150.drewN | apply IsS150.drew | apply IsS150.set_1 | apply IsS150.set_2 | refine IsS150.far ?_ NB362_357.out _ | refine IsS150.far ?_ NB362_358.out _ | refine IsS150.far ?_ NB362_369.out _) | exact HI362.out))) : gb376 ≠ g362)); replace HI362 := Aside0.mk (IsS150.below dz95 hb); clear hb hbox hg; have hnb24 := NB376_357.out; have hnc24 := NB357_376.out; have hnb25 := NB376_358.out; have hnc25 := NB358_376.out; have hnb26 := NB376_369.out; have hnc26 := NB369_376.out; have hnb27 := NB376_362.out; have hnc27 := NB362_376.out; obtain ⟨hcz28_0, hcz28_1, hfz28_0, hfz28_1⟩ := cz2_ BK376; obtain ⟨Ao29, co29, eo29⟩ := Kd.N_slice HO373.out; subst eo29) | ((with_reducible refine gate_dst (N := 17) rfl ?_); refine Kd.R_lit Kd.string _ 9 ?hg (N := 17) ?hd (xs := ([(⟨#[]⟩ : ByteArray), (⟨#[97]⟩ : ByteArray), (⟨#[98, 99]⟩ : ByteArray)] : List ByteArray)) (inner := [.string (⟨#[]⟩ : ByteArray), .string (⟨#[97]⟩ : ByteArray), .string (⟨#[98, 99]⟩ : ByteArray)]) (ok := fun _ => True) (okp := fun _ => True) ?hr ?hp (fun _ hk => hk) trivial (Below.refl _ _) (Nat.le_refl _) (by simp) ?_; (case hd => rfl); (case hg => rfl); (case hr => first | (go_simp; done) | (go_simp; rfl)); (case hp => exact dz468); intro v378 w8 ho31 hb hg_ hnew_; clear hg_ hnew_; (first | rw [← Ny377.out] at ho31 | (simp only [Int.reduceToNat] at ho31; rw [← Ny377.out] at ho31)); replace HO365 := Aside0.mk (Kd.R_below (by (with_reducible repeat (first | apply Kd.R_alloc | apply Kd.R_drewN | apply Kd.R_drew)); exact (Kd.R_mono (Kd.R_far (p := ⟨gb376, 1, none⟩) (Kd.R_far (p := ⟨gb376, 0, none⟩) (Kd.R_types HO365.out BK376.out (by decide)) (fun _ hk => hk.2) (.int .i64 t370)) (fun _ hk => hk.2) (.slice Ao29 t371.length co29)) (fun _ h_ => h_.1))) hb); replace HO373 := Aside0.mk (Kd.N_elder' (by (with_reducible repeat (first | apply Kd.N_alloc | apply Kd.N_drewN | apply Kd.N_drew)); exact (Kd.N_mono (Kd.N_far (p := ⟨gb376, 1, none⟩) (Kd.N_far (p := ⟨gb376, 0, none⟩) (Kd.N_mono HO373.out (fun k_ hk => (⟨hk, hk.2⟩ : _ ∧ k_ ≠ gb376))) (fun _ hk => hk.2) (.int .i64 t370)) (fun _ hk => hk.2) (.slice Ao29 t371.length co29)) (fun _ h_ => h_.1))) (Kd.R_base ho31) hb); have HO379 := Aside0.mk (Kd.R_lower (Kd.R_newM (M := fun k_ => (w.heap.size ≤ k_)) ho31 (below_size dz40) (fun k_ h_ => h_)) (below_size dz40)); replace BK357 := Aside0.mk (blk_below (g := gb357) (o := .cells #[.slice none 0 0, .int .i64 0] 31 (0, 0)) dz157 hb); replace BK358 := Aside0.mk (blk_below (g := gb358) (o := .cells #[.int .i64 0, .slice none 0 0] 44 (0, 0)) dz158 hb); replace BK369 := Aside0.mk (blk_below (g := gb369) (o := .cells #[.slice Ao17 t363.length co17, .int .i64 t366] 31 (0, 0)) dz159 hb); replace BK376 := Aside0.mk (blk_below (g := gb376) (o := .cells #[.int .i64 t370, .slice Ao29 t371.length co29] 44 (0, 0)) dz160 hb); replace HB := Aside0.mk (below_step dz40 hb); replace HI362 := Aside0.mk (IsS150.below (show IsS150 w ((w7.setCell ⟨gb376, 0, none⟩ (.int .i64 t370)).setCell ⟨gb376, 1, none⟩ (.slice Ao29 t371.length co29)) g362 t359 t374 t375 from by repeat (first | (with_reducible first | exact HI362.out | apply IsS150.alloc | apply IsS150.drewN | apply IsS150.drew | apply IsS150.set_1 | apply IsS150.set_2 | refine IsS150.far ?_ NB362_357.out _ | refine IsS150.far ?_ NB362_358.out _ | refine IsS150.far ?_ NB362_369.out _ | refine IsS150.far ?_ NB362_376.out _) | exact HI362.out)) hb); clear hb ho31; obtain ⟨Ao32, co32, eo32⟩ := Kd.R_slice HO379.out; subst eo32) | ((with_reducible refine gate_callee (f := 65) rfl ?_); refine goesL_ (some 18) rfl rfl Try.func65 (by kernel_rfl) rfl #[.pointer (some ⟨g362, 0, none⟩), .slice Ao32 y377.length co32] rfl dz1 ?_; (with_reducible refine (spec_l1Pick.calls g362 t359 t374 t375 _ _ y377 t380 t381 t382 w _ ?side1 ?side2 ?side3 ?side4 ?side5 A5.out).mono ?_); (case side1 => exact dz482); (case side2 => exact dz483); (case side3 => repeat (first | exact (Kd.R_reads' HO379.out).2.2 | (with_reducible refine Kd.C_alloc ?_ _) | (with_reducible refine Kd.C_drewN ?_ _) | (with_reducible refine Kd.C_drew ?_))); (case side4 => exact (Kd.R_reads' HO379.out).2.1); (case side5 => exact far_slice (IsS150.own_ne HI362.out HO379.out (by decide))); rintro e w9 ⟨rfl, hi, hb, hk⟩; refine ⟨_, rfl, ?_⟩; replace BK357 := Aside0.mk (KeepBut.blk hk (g' := gb357) (o := .cells #[.slice none 0 0, .int .i64 0] 31 (0, 0)) dz23 NB357_362.out (by simp)); replace BK358 := Aside0.mk (KeepBut.blk hk (g' := gb358) (o := .cells #[.int .i64 0, .slice none 0 0] 44 (0, 0)) dz24 NB358_362.out (by simp)); replace HO365 := Aside0.mk (Kd.R_mono (Kd.R_keep (IsS150.apart (show IsS150 w _ g362 t359 t374 t375 from by repeat (first | (with_reducible first | exact HI362.out | apply IsS150.alloc | apply IsS150.drewN | apply IsS150.drew | apply IsS150.set_1 | apply IsS150.set_2 | refine IsS150.far ?_ NB362_357.out _ | refine IsS150.far ?_ NB362_358.out _ | refine IsS150.far ?_ NB362_369.out _ | refine IsS150.far ?_ NB362_376.out _) | exact HI362.out)) dz73 (by decide)) hk (fun _ h => h.2)) (fun _ h => h.1)); replace BK369 := Aside0.mk (KeepBut.blk hk (g' := gb369) (o := .cells #[.slice Ao17 t363.length co17, .int .i64 t366] 31 (0, 0)) dz74 NB369_362.out (by simp)); replace HO373 := Aside0.mk (Kd.N_mono (Kd.N_keep (Kd.N_mono (ok := fun k_ => (((((w.heap.size ≤ k_)) ∧ (some k_ ≠ (.slice Ao17 t363.length co17 : Value).ownBlock ∧ (k_ ≠ gb357 ∧ (k_ ≠ gb358 ∧ (k_ ≠ gb369 ∧ k_ ≠ g362))))) ∧ k_ ≠ gb376) ∧ some k_ ≠ (.slice Ao32 y377.length co32 : Value).ownBlock)) dz44 (fun k_ hk_ => (⟨hk_, hk_.1.1.2.2.2.2.2⟩ : _ ∧ k_ ≠ g362))) hk (fun _ h => h.2)) (fun _ h => h.1)); replace BK376 := Aside0.mk (KeepBut.blk hk (g' := gb376) (o := .cells #[.int .i64 t370, .slice Ao29 t371.length co29] 44 (0, 0)) dz75 NB376_362.out (by simp)); replace HO379 := Aside0.mk (Kd.R_mono (Kd.R_keep (IsS150.apart (show IsS150 w _ g362 t359 t374 t375 from by repeat (first | (with_reducible first | exact HI362.out | apply IsS150.alloc | apply IsS150.drewN | apply IsS150.drew | apply IsS150.set_1 | apply IsS150.set_2 | refine IsS150.far ?_ NB362_357.out _ | refine IsS150.far ?_ NB362_358.out _ | refine IsS150.far ?_ NB362_369.out _ | refine IsS150.far ?_ NB362_376.out _) | exact HI362.out)) dz76 (by decide)) hk (fun _ h => h.2)) (fun _ h => h.1)); replace HB := Aside0.mk (hb); replace HI362 := Aside0.mk (hi); (try clear hb); (try clear hb2); (try clear hk); (try clear hi)) | ((with_reducible refine gate_callee (f := 66) rfl ?_); refine goesL_ (some 20) rfl rfl Try.func66 (by kernel_rfl) rfl #[.pointer (some ⟨g362, 0, none⟩), .int .i64 12] rfl dz1 ?_; (with_reducible refine (spec_l1Once.calls g362 t359 t381 t382 12 true t384 t385 w _ ?side1 ?side2 A6.out).mono ?_); (case side1 => exact dz482); (case side2 => exact dz483); rintro e w10 ⟨rfl, hi, hb, hk⟩; refine ⟨_, rfl, ?_⟩; replace BK357 := Aside0.mk (KeepBut.blk hk (g' := gb357) (o := .cells #[.slice none 0 0, .int .i64 0] 31 (0, 0)) dz23 NB357_362.out (by simp)); replace BK358 := Aside0.mk (KeepBut.blk hk (g' := gb358) (o := .cells #[.int .i64 0, .slice none 0 0] 44 (0, 0)) dz24 NB358_362.out (by simp)); replace HO365 := Aside0.mk (Kd.R_mono (Kd.R_keep (IsS150.apart (show IsS150 w _ g362 t359 t381 t382 from by repeat (first | (with_reducible first | exact HI362.out | apply IsS150.alloc | apply IsS150.drewN | apply IsS150.drew | apply IsS150.set_1 | apply IsS150.set_2 | refine IsS150.far ?_ NB362_357.out _ | refine IsS150.far ?_ NB362_358.out _ | refine IsS150.far ?_ NB362_369.out _ | refine IsS150.far ?_ NB362_376.out _) | exact HI362.out)) dz73 (by decide)) hk (fun _ h => h.2)) (fun _ h => h.1)); replace BK369 := Aside0.mk (KeepBut.blk hk (g' := gb369) (o := .cells #[.slice Ao17 t363.length co17, .int .i64 t366] 31 (0, 0)) dz74 NB369_362.out (by simp)); replace HO373 := Aside0.mk (Kd.N_mono (Kd.N_keep (Kd.N_mono (ok := fun k_ => (((((w.heap.size ≤ k_)) ∧ (some k_ ≠ (.slice Ao17 t363.length co17 : Value).ownBlock ∧ (k_ ≠ gb357 ∧ (k_ ≠ gb358 ∧ (k_ ≠ gb369 ∧ k_ ≠ g362))))) ∧ k_ ≠ gb376) ∧ some k_ ≠ (.slice Ao32 y377.length co32 : Value).ownBlock)) dz44 (fun k_ hk_ => (⟨hk_, hk_.1.1.2.2.2.2.2⟩ : _ ∧ k_ ≠ g362))) hk (fun _ h => h.2)) (fun _ h => h.1)); replace BK376 := Aside0.mk (KeepBut.blk hk (g' := gb376) (o := .cells #[.int .i64 t370, .slice Ao29 t371.length co29] 44 (0, 0)) dz75 NB376_362.out (by simp)); replace HO379 := Aside0.mk (Kd.R_mono (Kd.R_keep (IsS150.apart (show IsS150 w _ g362 t359 t381 t382 from by repeat (first | (with_reducible first | exact HI362.out | apply IsS150.alloc | apply IsS150.drewN | apply IsS150.drew | apply IsS150.set_1 | apply IsS150.set_2 | refine IsS150.far ?_ NB362_357.out _ | refine IsS150.far ?_ NB362_358.out _ | refine IsS150.far ?_ NB362_369.out _ | refine IsS150.far ?_ NB362_376.out _) | exact HI362.out)) dz76 (by decide)) hk (fun _ h => h.2)) (fun _ h => h.1)); replace HB := Aside0.mk (hb); replace HI362 := Aside0.mk (hi); (try clear hb); (try clear hb2); (try clear hk); (try clear hi)) | ((with_reducible refine gate_callee (f := 67) rfl ?_); refine goesL_ (some 22) rfl rfl Try.func67 (by kernel_rfl) rfl #[.pointer (some ⟨g362, 0, none⟩), .int .i64 2] rfl dz1 ?_; (with_reducible refine (spec_l1Below.calls g362 t359 t384 t385 2 t386 t387 t388 w _ ?side1 ?side2 A8.out).mono ?_); (case side1 => exact dz482); (case side2 => exact dz483); rintro e w11 ⟨rfl, hi, hb, hk⟩; refine ⟨_, rfl, ?_⟩; replace BK357 := Aside0.mk (KeepBut.blk hk (g' := gb357) (o := .cells #[.slice none 0 0, .int .i64 0] 31 (0, 0)) dz23 NB357_362.out (by simp)); replace BK358 := Aside0.mk (KeepBut.blk hk (g' := gb358) (o := .cells #[.int .i64 0, .slice none 0 0] 44 (0, 0)) dz24 NB358_362.out (by simp)); replace HO365 := Aside0.mk (Kd.R_mono (Kd.R_keep (IsS150.apart (show IsS150 w _ g362 t359 t384 t385 from by repeat (first | (with_reducible first | exact HI362.out | apply IsS150.alloc | apply IsS150.drewN | apply IsS150.drew | apply IsS150.set_1 | apply IsS150.set_2 | refine IsS150.far ?_ NB362_357.out _ | refine IsS150.far ?_ NB362_358.out _ | refine IsS150.far ?_ NB362_369.out _ | refine IsS150.far ?_ NB362_376.out _) | exact HI362.out)) dz73 (by decide)) hk (fun _ h => h.2)) (fun _ h => h.1)); replace BK369 := Aside0.mk (KeepBut.blk hk (g' := gb369) (o := .cells #[.slice Ao17 t363.length co17, .int .i64 t366] 31 (0, 0)) dz74 NB369_362.out (by simp)); replace HO373 := Aside0.mk (Kd.N_mono (Kd.N_keep (Kd.N_mono (ok := fun k_ => (((((w.heap.size ≤ k_)) ∧ (some k_ ≠ (.slice Ao17 t363.length co17 : Value).ownBlock ∧ (k_ ≠ gb357 ∧ (k_ ≠ gb358 ∧ (k_ ≠ gb369 ∧ k_ ≠ g362))))) ∧ k_ ≠ gb376) ∧ some k_ ≠ (.slice Ao32 y377.length co32 : Value).ownBlock)) dz44 (fun k_ hk_ => (⟨hk_, hk_.1.1.2.2.2.2.2⟩ : _ ∧ k_ ≠ g362))) hk (fun _ h => h.2)) (fun _ h => h.1)); replace BK376 := Aside0.mk (KeepBut.blk hk (g' := gb376) (o := .cells #[.int .i64 t370, .slice Ao29 t371.length co29] 44 (0, 0)) dz75 NB376_362.out (by simp)); replace HO379 := Aside0.mk (Kd.R_mono (Kd.R_keep (IsS150.apart (show IsS150 w _ g362 t359 t384 t385 from by repeat (first | (with_reducible first | exact HI362.out | apply IsS150.alloc | apply IsS150.drewN | apply IsS150.drew | apply IsS150.set_1 | apply IsS150.set_2 | refine IsS150.far ?_ NB362_357.out _ | refine IsS150.far ?_ NB362_358.out _ | refine IsS150.far ?_ NB362_369.out _ | refine IsS150.far ?_ NB362_376.out _) | exact HI362.out)) dz76 (by decide)) hk (fun _ h => h.2)) (fun _ h => h.1)); replace HB := Aside0.mk (hb); replace HI362 := Aside0.mk (hi); (try clear hb); (try clear hb2); (try clear hk); (try clear hi)) | ((with_reducible refine gate_dst (N := 24) rfl ?_); refine Kd.R_make (Kd.int .u8) _ 5 rfl (N := 24) rfl 40 _ _ rfl ji9 rfl rfl Try.underlying40 (.int .u8 0) 1 info5 rfl (by decide) (by omega) 0 (ok := fun _ => True) (okp := fun _ => True) rfl (fun _ hk => hk) trivial (of_decide_eq_true dz0) (Nat.le_trans (Nat.mul_le_mul_right _ (of_decide_eq_true dz0 : ji9.toNat ≤ 281474976710656)) (by omega)) (Below.refl _ _) (Nat.le_refl _) ?_; intro v390 w12 ho37 hb hg_ hnew_; clear hg_ hnew_; (first | rw [← Ny389.out] at ho37 | (simp only [Int.reduceToNat] at ho37; rw [← Ny389.out] at ho37)); replace HO365 := (rbb_ HO365 hb); replace HO373 := Aside0.mk (Kd.N_elder' dz44 (Kd.R_base ho37) hb); replace HO379 := (rbb_ HO379 hb); have HO391 := Aside0.mk (Kd.R_lower (Kd.R_newM (M := fun k_ => (w.heap.size ≤ k_)) ho37 (below_size dz40) (fun k_ h_ => h_)) (below_size dz40)); replace BK357 := (bkb_ BK357 hb); replace BK358 := (bkb_ BK358 hb); replace BK369 := (bkb_ BK369 hb); replace BK376 := (bkb_ BK376 hb); replace HB := Aside0.mk (below_step dz40 hb); replace HI362 := Aside0.mk (IsS150.below (by repeat (first | (with_reducible first | exact HI362.out | apply IsS150.alloc | apply IsS150.drewN | apply IsS150.drew | apply IsS150.set_1 | apply IsS150.set_2 | refine IsS150.far ?_ NB362_357.out _ | refine IsS150.far ?_ NB362_358.out _ | refine IsS150.far ?_ NB362_369.out _ | refine IsS150.far ?_ NB362_376.out _) | exact HI362.out)) hb); clear hb ho37; have hcv38 := own_string (P := Try.prog) Try.underlying40 Try.underlying5 Try.underlying9 (Kd.own_of_R HO391.out)))
    replace HO365 := Aside0.mk (Kd.R_drew HO365.out)
    replace HO373 := Aside0.mk (Kd.N_drew HO373.out)
    replace HO379 := Aside0.mk (Kd.R_drew HO379.out)
    replace HO391 := Aside0.mk (Kd.R_drew HO391.out)
    replace BK357 := Aside0.mk (blk_drew BK357.out)
    replace BK358 := Aside0.mk (blk_drew BK358.out)
    replace BK369 := Aside0.mk (blk_drew BK369.out)
    replace BK376 := Aside0.mk (blk_drew BK376.out)
    replace HI362 := Aside0.mk (IsS150.drew HI362.out)
    replace HB := Aside0.mk (below_drew1 HB.out)
    refine start_ (n := 6) (S := fun w' => w'.cell? ⟨gb369, 0, none⟩ = some (.slice Ao17 t363.length co17) ∧ w'.cell? ⟨gb369, 1, none⟩ = some (.int .i64 t366) ∧ w'.cell? ⟨gb376, 0, none⟩ = some (.int .i64 t370) ∧ w'.cell? ⟨gb376, 1, none⟩ = some (.slice Ao29 t371.length co29)) (ds := []) (fl_ 0 6) (by kernel_rfl) rfl rfl ⟨(blk_cell BK369.out 0).trans rfl, (blk_cell BK369.out 1).trans rfl, (blk_cell BK376.out 0).trans rfl, (blk_cell BK376.out 1).trans rfl⟩ (fun hHeld => ?_)
    generalize w12.drew = w39 at HO365 HO373 HO379 HO391 BK357 BK358 BK369 BK376 HI362 HB hHeld ⊢
    refine pure_ (i := 2) (N := some 28) (v := ?_) (a' := ?_) #[false, false, true, false, false, false] rfl rfl (by kernel_rfl) (fun _ _ _ h => h) (Or.inl ⟨by rfl, ?_⟩) ?_ ?_
    rotate_left
    ·exact dz489
    rotate_left
    ·exact dz490
    refine take_ (i := 0) (N := some 26) (v := ?_) (a' := ?_) #[true, false, true, false, false, false] rfl rfl (by kernel_rfl) (fun _ _ _ h => h) (Or.inl ⟨by rfl, ?_⟩) hHeld ?_ ?_
    rotate_left
    ·exact dz497
    rotate_left
    ·exact dz490
    refine take_ (i := 1) (N := some 27) (v := ?_) (a' := ?_) (fl_ 3 3) rfl rfl (by kernel_rfl) (fun _ _ _ h => h) (Or.inl ⟨by rfl, ?_⟩) hHeld ?_ ?_
    rotate_left
    ·exact dz497
    rotate_left
    ·exact dz490
    refine one_ (i := 3) (N := none) (fl_ 4 2) rfl rfl (by kernel_rfl) (by decide) (fun K hK => ?_)
    have hs40 : w39.cell? ⟨gb357, 0, none⟩ = some (.slice none 0 0) := (blk_cell BK357.out 0).trans rfl
    have hfs40 := blk_frozen BK357.out 0
    have hns40_1 := NB358_357.out
    have hns40_2 := NB369_357.out
    have hns40_3 := NB376_357.out
    have hms40_1 := NB357_358.out
    have hms40_2 := NB357_369.out
    have hms40_3 := NB357_376.out
    have hs41 : w39.cell? ⟨gb357, 1, none⟩ = some (.int .i64 0) := (blk_cell BK357.out 1).trans rfl
    have hfs41 := blk_frozen BK357.out 1
    have hns41_1 := NB358_357.out
    have hns41_2 := NB369_357.out
    have hns41_3 := NB376_357.out
    have hms41_1 := NB357_358.out
    have hms41_2 := NB357_369.out
    have hms41_3 := NB357_376.out
    refine skip_ (w1 := ?_) (by rfl) rfl ?_ ?_
    rotate_left
    ·go_simp
     rfl
    refine hK.out _ _ ⟨((cell_far (p := ⟨gb357, _, none⟩) NB369_357.out _).trans (((cell_far (p := ⟨gb357, _, none⟩) NB369_357.out _).trans (hHeld.1)))), ((cell_far (p := ⟨gb357, _, none⟩) NB369_357.out _).trans (((cell_far (p := ⟨gb357, _, none⟩) NB369_357.out _).trans (hHeld.2.1)))), ((cell_far (p := ⟨gb357, _, none⟩) NB376_357.out _).trans (((cell_far (p := ⟨gb357, _, none⟩) NB376_357.out _).trans (hHeld.2.2.1)))), ((cell_far (p := ⟨gb357, _, none⟩) NB376_357.out _).trans (((cell_far (p := ⟨gb357, _, none⟩) NB376_357.out _).trans (hHeld.2.2.2))))⟩ (fun hHeld => ?_)
    clear hK K
    refine one_ (i := 4) (N := none) (fl_ 5 1) rfl rfl (by kernel_rfl) (by decide) (fun K hK => ?_)
    have hs42 : w39.cell? ⟨gb358, 0, none⟩ = some (.int .i64 0) := (blk_cell BK358.out 0).trans rfl
    have hfs42 := blk_frozen BK358.out 0
    have hns42_0 := NB357_358.out
    have hns42_2 := NB369_358.out
    have hns42_3 := NB376_358.out
    have hms42_0 := NB358_357.out
    have hms42_2 := NB358_369.out
    have hms42_3 := NB358_376.out
    have hs43 : w39.cell? ⟨gb358, 1, none⟩ = some (.slice none 0 0) := (blk_cell BK358.out 1).trans rfl
    have hfs43 := blk_frozen BK358.out 1
    have hns43_0 := NB357_358.out
    have hns43_2 := NB369_358.out
    have hns43_3 := NB376_358.out
    have hms43_0 := NB358_357.out
    have hms43_2 := NB358_369.out
    have hms43_3 := NB358_376.out
    refine skip_ (w1 := ?_) (by rfl) rfl ?_ ?_
    rotate_left
    ·go_simp
     rfl
    refine hK.out _ _ ⟨((cell_far (p := ⟨gb358, _, none⟩) NB369_358.out _).trans (((cell_far (p := ⟨gb358, _, none⟩) NB369_358.out _).trans (hHeld.1)))), ((cell_far (p := ⟨gb358, _, none⟩) NB369_358.out _).trans (((cell_far (p := ⟨gb358, _, none⟩) NB369_358.out _).trans (hHeld.2.1)))), ((cell_far (p := ⟨gb358, _, none⟩) NB376_358.out _).trans (((cell_far (p := ⟨gb358, _, none⟩) NB376_358.out _).trans (hHeld.2.2.1)))), ((cell_far (p := ⟨gb358, _, none⟩) NB376_358.out _).trans (((cell_far (p := ⟨gb358, _, none⟩) NB376_358.out _).trans (hHeld.2.2.2))))⟩ (fun hHeld => ?_)
    clear hK K
    refine pure_ (i := 5) (N := some 4) (v := ?_) (a' := ?_) (fl_ 6 0) rfl rfl (by kernel_rfl) (fun _ _ _ h => h) (Or.inl ⟨by rfl, ?_⟩) ?_ ?_
    rotate_left
    ·exact dz489
    rotate_left
    ·exact dz490
    refine done_ (by kernel_rfl) ?_
    try go_wp2
    refine bodyPost_ret (results_list (rs := [.cell 2 31, .cell 3 44, .tmp 4]) rfl (by simp) (.cell gb357 31 #[.slice Ao17 t363.length co17, .int .i64 t366] (0, 0) _ rfl (by (with_reducible repeat (first | refine blk_drewN ?_ _ | refine blk_drew ?_ | refine blk_alloc ?_ _)); refine blk_far ?_ NB357_358.out _; (with_reducible repeat (first | refine blk_drewN ?_ _ | refine blk_drew ?_ | refine blk_alloc ?_ _)); refine blk_far ?_ NB357_358.out _; (with_reducible repeat (first | refine blk_drewN ?_ _ | refine blk_drew ?_ | refine blk_alloc ?_ _)); refine blk_put (cs := #[.slice Ao17 t363.length co17, .int .i64 0]) ?_ 1 _ rfl; (with_reducible repeat (first | refine blk_drewN ?_ _ | refine blk_drew ?_ | refine blk_alloc ?_ _)); refine blk_put (cs := #[.slice none 0 0, .int .i64 0]) ?_ 0 _ rfl; (with_reducible repeat (first | refine blk_drewN ?_ _ | refine blk_drew ?_ | refine blk_alloc ?_ _)); exact BK357.out) Try.underlying31 rfl (by kernel_rfl) (.cell gb358 44 #[.int .i64 t370, .slice Ao29 t371.length co29] (0, 0) _ rfl dz161 Try.underlying44 rfl (by kernel_rfl) (.tmp .nil)))) rfl ?_
    exact ⟨_, _, by first | rfl | (simp [errW_none, errW_some] <;> rfl) | (simp only [← hji9]; first | rfl | (simp [errW_none, errW_some] <;> rfl)) | (simp [*, errW_none, errW_some] <;> rfl), by (with_reducible repeat (first | apply Kd.R_alloc | apply Kd.R_drewN | apply Kd.R_drew)); exact Kd.R_mono (Kd.R_far (p := ⟨gb358, 1, none⟩) (Kd.R_far (p := ⟨gb358, 0, none⟩) (Kd.R_far (p := ⟨gb357, 1, none⟩) (Kd.R_far (p := ⟨gb357, 0, none⟩) (Kd.R_types (Kd.R_types HO365.out BK357.out (by decide)) BK358.out (by decide)) (fun _ hk => hk.1.2) (.slice Ao17 t363.length co17)) (fun _ hk => hk.1.2) (.int .i64 t366)) (fun _ hk => hk.2) (.int .i64 t370)) (fun _ hk => hk.2) (.slice Ao29 t371.length co29)) (fun _ hk => hk.1.1.1), by (with_reducible repeat (first | apply Kd.N_alloc | apply Kd.N_drewN | apply Kd.N_drew)); exact Kd.N_mono (Kd.N_far (p := ⟨gb358, 1, none⟩) (Kd.N_far (p := ⟨gb358, 0, none⟩) (Kd.N_far (p := ⟨gb357, 1, none⟩) (Kd.N_far (p := ⟨gb357, 0, none⟩) (Kd.N_mono (Kd.N_mono HO373.out (fun k_ hk => (⟨hk, hk.1.1.1.2.2.1⟩ : _ ∧ k_ ≠ gb357))) (fun k_ hk => (⟨hk, hk.1.1.1.1.2.2.2.1⟩ : _ ∧ k_ ≠ gb358))) (fun _ hk => hk.1.2) (.slice Ao17 t363.length co17)) (fun _ hk => hk.1.2) (.int .i64 t366)) (fun _ hk => hk.2) (.int .i64 t370)) (fun _ hk => hk.2) (.slice Ao29 t371.length co29)) (fun _ hk => ⟨hk.1.1.1.1.1.1, hk.1.1.1.1.1.2.1⟩), by repeat (first | (with_reducible first | exact HB.out | apply below_alloc | apply pw_below_drewN | apply below_drew1 | refine below_set ?_ (IsS150.ge HI362.out) | refine below_set ?_ GE357.out | refine below_set ?_ GE358.out | refine below_set ?_ GE369.out | refine below_set ?_ GE376.out) | exact HB.out)⟩
   rw [if_neg c11] at H
   exact absurd H (by simp)
  rw [if_neg c10] at H
  exact absurd H (by simp)
 replace c7 := Bool.eq_false_iff.mpr c7
 subst c7
 have H1 : (some (t363, t366, t370, t371, t380)) = some (r1, r2, r3, r4, r5) := by rw [if_neg (show ¬ (false = true) by decide)] at H; exact H
 clear H
 have H := H1
 clear H1
 simp only [Option.some.injEq, Prod.mk.injEq] at H
 obtain ⟨rfl, rfl, rfl, rfl, rfl⟩ := H
 go_enter Try.func18, Try.ntmps18
 try go_wp2_with (first | ((with_reducible refine gate_dst (N := 2) rfl ?_); refine box_event kr_ (N := 2) kr_ (cs := #[.slice none 0 0, .int .i64 0]) (t := 31) ks_ ?_; intro gb357 hg w1 hbox hb; have BK357 := Aside0.mk (hbox); have GW357 : Aside0 (w.heap.size ≤ gb357) := szl_ hg dz2; have GE357 : Aside0 (w.heap.size ≤ gb357) := szl_ hg dz2; replace HB := Aside0.mk (below_step dz2 hb); clear hb hbox hg) | ((with_reducible refine gate_dst (N := 3) rfl ?_); refine box_event kr_ (N := 3) kr_ (cs := #[.int .i64 0, .slice none 0 0]) (t := 44) ks_ ?_; intro gb358 hg w2 hbox hb; have BK358 := Aside0.mk (hbox); have GW358 : Aside0 (w.heap.size ≤ gb358) := szl_ hg dz62; have GE358 : Aside0 (w.heap.size ≤ gb358) := szl_ hg dz62; replace HB := Aside0.mk (below_step dz62 hb); have NB357_358 := (nbl_ hg BK357); have NB358_357 := (nbr_ hg BK357); replace BK357 := (bkb_ BK357 hb); clear hb hbox hg) | ((with_reducible refine gate_callee (f := 62) rfl ?_); refine goesL_ (some 10) rfl rfl Try.func62 (by kernel_rfl) rfl #[.slice A0 l0.length c0] rfl dz1 ?_; (with_reducible refine (spec_l1New.calls k _ _ l0 t359 t360 t361 w _ ?side1 ?side2 ?side3 A2.out).mono ?_); (case side1 => exact dz477); (case side2 => exact HR0.out); (case side3 => exact HC0.out); rintro e w3 ⟨g362, rfl, hi, hb, hb2⟩; refine ⟨_, rfl, ?_⟩; replace HB := Aside0.mk (hb); have HI362 := Aside0.mk (hi); have NB362_357 := Aside0.mk (IsS150.ne_blk hi (blk_below (g := gb357) (o := .cells #[.slice none 0 0, .int .i64 0] 31 (0, 0)) dz23 hb2) (by decide)); have NB357_362 := Aside0.mk (Ne.symm (IsS150.ne_blk hi (blk_below (g := gb357) (o := .cells #[.slice none 0 0, .int .i64 0] 31 (0, 0)) dz23 hb2) (by decide))); replace BK357 := Aside0.mk (blk_below (g := gb357) (o := .cells #[.slice none 0 0, .int .i64 0] 31 (0, 0)) dz23 hb2); have NB362_358 := Aside0.mk (IsS150.ne_blk hi (blk_below (g := gb358) (o := .cells #[.int .i64 0, .slice none 0 0] 44 (0, 0)) dz24 hb2) (by decide)); have NB358_362 := Aside0.mk (Ne.symm (IsS150.ne_blk hi (blk_below (g := gb358) (o := .cells #[.int .i64 0, .slice none 0 0] 44 (0, 0)) dz24 hb2) (by decide))); replace BK358 := Aside0.mk (blk_below (g := gb358) (o := .cells #[.int .i64 0, .slice none 0 0] 44 (0, 0)) dz24 hb2); (try clear hb); (try clear hb2); (try clear hk); (try clear hi)) | ((with_reducible refine gate_callee (f := 63) rfl ?_); refine goesL_ (some 12) rfl rfl Try.func63 (by kernel_rfl) rfl #[.pointer (some ⟨g362, 0, none⟩)] rfl dz1 ?_; (with_reducible refine (spec_l4Draw.calls k g362 t359 t360 t361 t363 t366 t367 t368 w _ ?side1 ?side2 A3.out).mono ?_); (case side1 => exact dz478); (case side2 => exact dz479); rintro e w4 ⟨v364, rfl, ho0, hi, hb, hk⟩; refine ⟨_, rfl, ?_⟩; replace BK357 := Aside0.mk (KeepBut.blk hk (g' := gb357) (o := .cells #[.slice none 0 0, .int .i64 0] 31 (0, 0)) dz23 NB357_362.out (by simp)); replace BK358 := Aside0.mk (KeepBut.blk hk (g' := gb358) (o := .cells #[.int .i64 0, .slice none 0 0] 44 (0, 0)) dz24 NB358_362.out (by simp)); have HO365 := Aside0.mk (Kd.R_lower (Kd.R_newM (M := fun k_ => (w.heap.size ≤ k_)) ho0 (below_size dz34) (fun k_ h_ => h_)) (below_size dz34)); replace HB := Aside0.mk (hb); replace HI362 := Aside0.mk (hi); (try clear hb); (try clear hb2); (try clear hk); (try clear hi); (try clear ho0)) | ((with_reducible refine gate_dst (N := 6) rfl ?_); refine box_event kr_ (N := 6) kr_ (cs := #[.slice none 0 0, .int .i64 0]) (t := 31) ks_ ?_; intro gb369 hg w5 hbox hb; replace HO365 := (rbb_ HO365 hb); have BK369 := Aside0.mk (hbox); have GW369 : Aside0 (w.heap.size ≤ gb369) := szl_ hg dz34; have GE369 : Aside0 (w.heap.size ≤ gb369) := szl_ hg dz34; replace HB := Aside0.mk (below_step dz34 hb); have NB357_369 := (nbl_ hg BK357); have NB369_357 := (nbr_ hg BK357); replace BK357 := (bkb_ BK357 hb); have NB358_369 := (nbl_ hg BK358); have NB369_358 := (nbr_ hg BK358); replace BK358 := (bkb_ BK358 hb); have NB362_369 := Aside0.mk ((by rw [hg]; exact Nat.ne_of_lt (IsS150.lt (show IsS150 w _ g362 t359 t367 t368 from by repeat (first | (with_reducible first | exact HI362.out | apply IsS150.alloc | apply IsS150.drewN | apply IsS150.drew | apply IsS150.set_1 | apply IsS150.set_2 | refine IsS150.far ?_ NB362_357.out _ | refine IsS150.far ?_ NB362_358.out _) | exact HI362.out))) : g362 ≠ gb369)); have NB369_362 := Aside0.mk ((by rw [hg]; exact Nat.ne_of_gt (IsS150.lt (show IsS150 w _ g362 t359 t367 t368 from by repeat (first | (with_reducible first | exact HI362.out | apply IsS150.alloc | apply IsS150.drewN | apply IsS150.drew | apply IsS150.set_1 | apply IsS150.set_2 | refine IsS150.far ?_ NB362_357.out _ | refine IsS150.far ?_ NB362_358.out _) | exact HI362.out))) : gb369 ≠ g362)); replace HI362 := Aside0.mk (IsS150.below dz155 hb); clear hb hbox hg; obtain ⟨Ao49, co49, eo49⟩ := Kd.R_slice HO365.out; subst eo49; have hnb50 := NB369_357.out; have hnc50 := NB357_369.out; have hnb51 := NB369_358.out; have hnc51 := NB358_369.out; have hnb52 := NB369_362.out; have hnc52 := NB362_369.out; obtain ⟨hcz53_0, hcz53_1, hfz53_0, hfz53_1⟩ := cz2_ BK369) | ((with_reducible refine gate_callee (f := 64) rfl ?_); refine goesL_ (some 15) rfl rfl Try.func64 (by kernel_rfl) rfl #[.pointer (some ⟨g362, 0, none⟩), .agg #[.slice Ao49 t363.length co49, .int .i64 t366]] rfl dz1 ?_; (with_reducible refine (spec_l8Draw.calls k g362 t359 t367 t368 _ _ t363 t366 t370 t371 t374 t375 w _ ?side1 ?side2 ?side3 ?side4 ?side5 A4.out).mono ?_); (case side1 => exact dz480); (case side2 => exact dz481); (case side3 => refine (Kd.R_reads' (e := 3) (base := w.heap.size) (ok := fun k_ => ((w.heap.size ≤ k_) ∧ True)) (n := t363.length) (c := co49) ?_).2.2; exact (by (with_reducible repeat (first | apply Kd.R_alloc | apply Kd.R_drewN | apply Kd.R_drew)); exact (Kd.R_mono (Kd.R_far (p := ⟨gb369, 1, none⟩) (Kd.R_far (p := ⟨gb369, 0, none⟩) (Kd.R_types HO365.out BK369.out (by decide)) (fun _ hk => hk.2) (.slice Ao49 t363.length co49)) (fun _ hk => hk.2) (.int .i64 t366)) (fun _ h_ => h_.1)))); (case side4 => exact (Kd.R_reads' HO365.out).2.1); (case side5 => exact far_slice (IsS150.own_ne HI362.out HO365.out (by decide))); rintro e w6 ⟨v372, rfl, ho0, hi, hb, hk⟩; refine ⟨_, rfl, ?_⟩; have HO373 := Aside0.mk (Kd.N_lower (Kd.N_mono (ok' := fun k_ => (w.heap.size ≤ k_) ∧ some k_ ≠ (.slice Ao49 t363.length co49 : Value).ownBlock ∧ k_ ≠ gb357 ∧ k_ ≠ gb358 ∧ k_ ≠ gb369 ∧ k_ ≠ g362) ho0 (fun k_ hk_ => ⟨(Nat.le_trans (below_size dz35) hk_), (Kd.fresh' (Kd.R_lt (by (with_reducible repeat (first | apply Kd.R_alloc | apply Kd.R_drewN | apply Kd.R_drew)); exact (Kd.R_mono (Kd.R_far (p := ⟨gb369, 1, none⟩) (Kd.R_far (p := ⟨gb369, 0, none⟩) (Kd.R_types HO365.out BK369.out (by decide)) (fun _ hk => hk.2) (.slice Ao49 t363.length co49)) (fun _ hk => hk.2) (.int .i64 t366)) (fun _ h_ => h_.1)))) k_ hk_), (Kd.freshB (g := gb357) (o := .cells #[.slice none 0 0, .int .i64 0] 31 (0, 0)) dz93 k_ hk_), (Kd.freshB (g := gb358) (o := .cells #[.int .i64 0, .slice none 0 0] 44 (0, 0)) dz94 k_ hk_), (Kd.freshB (g := gb369) (o := .cells #[.slice Ao49 t363.length co49, .int .i64 t366] 31 (0, 0)) dz162 k_ hk_), (IsS150.fresh dz95 k_ hk_)⟩)) (below_size dz35)); replace BK357 := Aside0.mk (KeepBut.blk hk (g' := gb357) (o := .cells #[.slice none 0 0, .int .i64 0] 31 (0, 0)) dz93 NB357_362.out (by simp)); replace BK358 := Aside0.mk (KeepBut.blk hk (g' := gb358) (o := .cells #[.int .i64 0, .slice none 0 0] 44 (0, 0)) dz94 NB358_362.out (by simp)); replace HO365 := Aside0.mk (Kd.R_mono (Kd.R_keep (IsS150.apart (show IsS150 w _ g362 t359 t367 t368 from by repeat (first | (with_reducible first | exact HI362.out | apply IsS150.alloc | apply IsS150.drewN | apply IsS150.drew | apply IsS150.set_1 | apply IsS150.set_2 | refine IsS150.far ?_ NB362_357.out _ | refine IsS150.far ?_ NB362_358.out _ | refine IsS150.far ?_ NB362_369.out _) | exact HI362.out)) (by (with_reducible repeat (first | apply Kd.R_alloc | apply Kd.R_drewN | apply Kd.R_drew)); exact (Kd.R_mono (Kd.R_far (p := ⟨gb369, 1, none⟩) (Kd.R_far (p := ⟨gb369, 0, none⟩) (Kd.R_types HO365.out BK369.out (by decide)) (fun _ hk => hk.2) (.slice Ao49 t363.length co49)) (fun _ hk => hk.2) (.int .i64 t366)) (fun _ h_ => h_.1))) (by decide)) hk (fun _ h => h.2)) (fun _ h => h.1)); replace BK369 := Aside0.mk (KeepBut.blk hk (g' := gb369) (o := .cells #[.slice Ao49 t363.length co49, .int .i64 t366] 31 (0, 0)) dz162 NB369_362.out (by simp)); replace HB := Aside0.mk (hb); replace HI362 := Aside0.mk (hi); (try clear hb); (try clear hb2); (try clear hk); (try clear hi); (try clear ho0)) | ((with_reducible refine gate_dst (N := 7) rfl ?_); refine box_event kr_ (N := 7) kr_ (cs := #[.int .i64 0, .slice none 0 0]) (t := 44) ks_ ?_; intro gb376 hg w7 hbox hb; replace HO365 := (rbb_ HO365 hb); replace HO373 := Aside0.mk (Kd.N_below (Kd.N_elderB dz44 gb376 (Nat.le_of_eq hg.symm)) hb); have BK376 := Aside0.mk (hbox); have GW376 : Aside0 (w.heap.size ≤ gb376) := szl_ hg dz35; have GE376 : Aside0 (w.heap.size ≤ gb376) := szl_ hg dz35; replace HB := Aside0.mk (below_step dz35 hb); have NB357_376 := (nbl_ hg BK357); have NB376_357 := (nbr_ hg BK357); replace BK357 := (bkb_ BK357 hb); have NB358_376 := (nbl_ hg BK358); have NB376_358 := (nbr_ hg BK358); replace BK358 := (bkb_ BK358 hb); have NB369_376 := (nbl_ hg BK369); have NB376_369 := (nbr_ hg BK369); replace BK369 := (bkb_ BK369 hb); have NB362_376 := Aside0.mk ((by rw [hg]; exact Nat.ne_of_lt (IsS150.lt (show IsS150 w _ g362 t359 t374 t375 from by repeat (first | (with_reducible first | exact HI362.out | apply IsS150.alloc | apply IsS150.drewN | apply IsS150.drew | apply IsS150.set_1 | apply IsS150.set_2 | refine IsS150.far ?_ NB362_357.out _ | refine IsS150.far ?_ NB362_358.out _ | refine IsS150.far ?_ NB362_369.out _) | exact HI362.out))) : g362 ≠ gb376)); have NB376_362 := Aside0.mk ((by rw [hg]; exact Nat.ne_of_gt (IsS150.lt (show IsS150 w _ g362 t359 t374 t375 from by repeat (first | (with_reducible first | exact HI362.out | apply IsS150.alloc | apply IsS150.drewN | apply IsS150.drew | apply IsS150.set_1 | apply IsS150.set_2 | refine IsS150.far ?_ NB362_357.out _ | refine IsS150.far ?_ NB362_358.out _ | refine IsS150.far ?_ NB362_369.out _) | exact HI362.out))) : gb376 ≠ g362)); replace HI362 := Aside0.mk (IsS150.below dz95 hb); clear hb hbox hg; have hnb56 := NB376_357.out; have hnc56 := NB357_376.out; have hnb57 := NB376_358.out; have hnc57 := NB358_376.out; have hnb58 := NB376_369.out; have hnc58 := NB369_376.out; have hnb59 := NB376_362.out; have hnc59 := NB362_376.out; obtain ⟨hcz60_0, hcz60_1, hfz60_0, hfz60_1⟩ := cz2_ BK376; obtain ⟨Ao61, co61, eo61⟩ := Kd.N_slice HO373.out; subst eo61) | ((with_reducible refine gate_dst (N := 17) rfl ?_); refine Kd.R_lit Kd.string _ 9 ?hg (N := 17) ?hd (xs := ([(⟨#[]⟩ : ByteArray), (⟨#[97]⟩ : ByteArray), (⟨#[98, 99]⟩ : ByteArray)] : List ByteArray)) (inner := [.string (⟨#[]⟩ : ByteArray), .string (⟨#[97]⟩ : ByteArray), .string (⟨#[98, 99]⟩ : ByteArray)]) (ok := fun _ => True) (okp := fun _ => True) ?hr ?hp (fun _ hk => hk) trivial (Below.refl _ _) (Nat.le_refl _) (by simp) ?_; (case hd => rfl); (case hg => rfl); (case hr => first | (go_simp; done) | (go_simp; rfl)); (case hp => exact dz468); intro v378 w8 ho63 hb hg_ hnew_; clear hg_ hnew_; (first | rw [← Ny377.out] at ho63 | (simp only [Int.reduceToNat] at ho63; rw [← Ny377.out] at ho63)); replace HO365 := Aside0.mk (Kd.R_below (by (with_reducible repeat (first | apply Kd.R_alloc | apply Kd.R_drewN | apply Kd.R_drew)); exact (Kd.R_mono (Kd.R_far (p := ⟨gb376, 1, none⟩) (Kd.R_far (p := ⟨gb376, 0, none⟩) (Kd.R_types HO365.out BK376.out (by decide)) (fun _ hk => hk.2) (.int .i64 t370)) (fun _ hk => hk.2) (.slice Ao61 t371.length co61)) (fun _ h_ => h_.1))) hb); replace HO373 := Aside0.mk (Kd.N_elder' (by (with_reducible repeat (first | apply Kd.N_alloc | apply Kd.N_drewN | apply Kd.N_drew)); exact (Kd.N_mono (Kd.N_far (p := ⟨gb376, 1, none⟩) (Kd.N_far (p := ⟨gb376, 0, none⟩) (Kd.N_mono HO373.out (fun k_ hk => (⟨hk, hk.2⟩ : _ ∧ k_ ≠ gb376))) (fun _ hk => hk.2) (.int .i64 t370)) (fun _ hk => hk.2) (.slice Ao61 t371.length co61)) (fun _ h_ => h_.1))) (Kd.R_base ho63) hb); have HO379 := Aside0.mk (Kd.R_lower (Kd.R_newM (M := fun k_ => (w.heap.size ≤ k_)) ho63 (below_size dz40) (fun k_ h_ => h_)) (below_size dz40)); replace BK357 := Aside0.mk (blk_below (g := gb357) (o := .cells #[.slice none 0 0, .int .i64 0] 31 (0, 0)) dz157 hb); replace BK358 := Aside0.mk (blk_below (g := gb358) (o := .cells #[.int .i64 0, .slice none 0 0] 44 (0, 0)) dz158 hb); replace BK369 := Aside0.mk (blk_below (g := gb369) (o := .cells #[.slice Ao49 t363.length co49, .int .i64 t366] 31 (0, 0)) dz159 hb); replace BK376 := Aside0.mk (blk_below (g := gb376) (o := .cells #[.int .i64 t370, .slice Ao61 t371.length co61] 44 (0, 0)) dz160 hb); replace HB := Aside0.mk (below_step dz40 hb); replace HI362 := Aside0.mk (IsS150.below (show IsS150 w ((w7.setCell ⟨gb376, 0, none⟩ (.int .i64 t370)).setCell ⟨gb376, 1, none⟩ (.slice Ao61 t371.length co61)) g362 t359 t374 t375 from by repeat (first | (with_reducible first | exact HI362.out | apply IsS150.alloc | apply IsS150.drewN | apply IsS150.drew | apply IsS150.set_1 | apply IsS150.set_2 | refine IsS150.far ?_ NB362_357.out _ | refine IsS150.far ?_ NB362_358.out _ | refine IsS150.far ?_ NB362_369.out _ | refine IsS150.far ?_ NB362_376.out _) | exact HI362.out)) hb); clear hb ho63; obtain ⟨Ao64, co64, eo64⟩ := Kd.R_slice HO379.out; subst eo64) | ((with_reducible refine gate_callee (f := 65) rfl ?_); refine goesL_ (some 18) rfl rfl Try.func65 (by kernel_rfl) rfl #[.pointer (some ⟨g362, 0, none⟩), .slice Ao64 y377.length co64] rfl dz1 ?_; (with_reducible refine (spec_l1Pick.calls g362 t359 t374 t375 _ _ y377 t380 t381 t382 w _ ?side1 ?side2 ?side3 ?side4 ?side5 A5.out).mono ?_); (case side1 => exact dz482); (case side2 => exact dz483); (case side3 => repeat (first | exact (Kd.R_reads' HO379.out).2.2 | (with_reducible refine Kd.C_alloc ?_ _) | (with_reducible refine Kd.C_drewN ?_ _) | (with_reducible refine Kd.C_drew ?_))); (case side4 => exact (Kd.R_reads' HO379.out).2.1); (case side5 => exact far_slice (IsS150.own_ne HI362.out HO379.out (by decide))); rintro e w9 ⟨rfl, hi, hb, hk⟩; refine ⟨_, rfl, ?_⟩; replace BK357 := Aside0.mk (KeepBut.blk hk (g' := gb357) (o := .cells #[.slice none 0 0, .int .i64 0] 31 (0, 0)) dz23 NB357_362.out (by simp)); replace BK358 := Aside0.mk (KeepBut.blk hk (g' := gb358) (o := .cells #[.int .i64 0, .slice none 0 0] 44 (0, 0)) dz24 NB358_362.out (by simp)); replace HO365 := Aside0.mk (Kd.R_mono (Kd.R_keep (IsS150.apart (show IsS150 w _ g362 t359 t374 t375 from by repeat (first | (with_reducible first | exact HI362.out | apply IsS150.alloc | apply IsS150.drewN | apply IsS150.drew | apply IsS150.set_1 | apply IsS150.set_2 | refine IsS150.far ?_ NB362_357.out _ | refine IsS150.far ?_ NB362_358.out _ | refine IsS150.far ?_ NB362_369.out _ | refine IsS150.far ?_ NB362_376.out _) | exact HI362.out)) dz73 (by decide)) hk (fun _ h => h.2)) (fun _ h => h.1)); replace BK369 := Aside0.mk (KeepBut.blk hk (g' := gb369) (o := .cells #[.slice Ao49 t363.length co49, .int .i64 t366] 31 (0, 0)) dz74 NB369_362.out (by simp)); replace HO373 := Aside0.mk (Kd.N_mono (Kd.N_keep (Kd.N_mono (ok := fun k_ => (((((w.heap.size ≤ k_)) ∧ (some k_ ≠ (.slice Ao49 t363.length co49 : Value).ownBlock ∧ (k_ ≠ gb357 ∧ (k_ ≠ gb358 ∧ (k_ ≠ gb369 ∧ k_ ≠ g362))))) ∧ k_ ≠ gb376) ∧ some k_ ≠ (.slice Ao64 y377.length co64 : Value).ownBlock)) dz44 (fun k_ hk_ => (⟨hk_, hk_.1.1.2.2.2.2.2⟩ : _ ∧ k_ ≠ g362))) hk (fun _ h => h.2)) (fun _ h => h.1)); replace BK376 := Aside0.mk (KeepBut.blk hk (g' := gb376) (o := .cells #[.int .i64 t370, .slice Ao61 t371.length co61] 44 (0, 0)) dz75 NB376_362.out (by simp)); replace HO379 := Aside0.mk (Kd.R_mono (Kd.R_keep (IsS150.apart (show IsS150 w _ g362 t359 t374 t375 from by repeat (first | (with_reducible first | exact HI362.out | apply IsS150.alloc | apply IsS150.drewN | apply IsS150.drew | apply IsS150.set_1 | apply IsS150.set_2 | refine IsS150.far ?_ NB362_357.out _ | refine IsS150.far ?_ NB362_358.out _ | refine IsS150.far ?_ NB362_369.out _ | refine IsS150.far ?_ NB362_376.out _) | exact HI362.out)) dz76 (by decide)) hk (fun _ h => h.2)) (fun _ h => h.1)); replace HB := Aside0.mk (hb); replace HI362 := Aside0.mk (hi); (try clear hb); (try clear hb2); (try clear hk); (try clear hi)) | ((with_reducible refine gate_callee (f := 66) rfl ?_); refine goesL_ (some 20) rfl rfl Try.func66 (by kernel_rfl) rfl #[.pointer (some ⟨g362, 0, none⟩), .int .i64 12] rfl dz1 ?_; (with_reducible refine (spec_l1Once.calls g362 t359 t381 t382 12 false t384 t385 w _ ?side1 ?side2 A6.out).mono ?_); (case side1 => exact dz482); (case side2 => exact dz483); rintro e w10 ⟨rfl, hi, hb, hk⟩; refine ⟨_, rfl, ?_⟩; replace BK357 := Aside0.mk (KeepBut.blk hk (g' := gb357) (o := .cells #[.slice none 0 0, .int .i64 0] 31 (0, 0)) dz23 NB357_362.out (by simp)); replace BK358 := Aside0.mk (KeepBut.blk hk (g' := gb358) (o := .cells #[.int .i64 0, .slice none 0 0] 44 (0, 0)) dz24 NB358_362.out (by simp)); replace HO365 := Aside0.mk (Kd.R_mono (Kd.R_keep (IsS150.apart (show IsS150 w _ g362 t359 t381 t382 from by repeat (first | (with_reducible first | exact HI362.out | apply IsS150.alloc | apply IsS150.drewN | apply IsS150.drew | apply IsS150.set_1 | apply IsS150.set_2 | refine IsS150.far ?_ NB362_357.out _ | refine IsS150.far ?_ NB362_358.out _ | refine IsS150.far ?_ NB362_369.out _ | refine IsS150.far ?_ NB362_376.out _) | exact HI362.out)) dz73 (by decide)) hk (fun _ h => h.2)) (fun _ h => h.1)); replace BK369 := Aside0.mk (KeepBut.blk hk (g' := gb369) (o := .cells #[.slice Ao49 t363.length co49, .int .i64 t366] 31 (0, 0)) dz74 NB369_362.out (by simp)); replace HO373 := Aside0.mk (Kd.N_mono (Kd.N_keep (Kd.N_mono (ok := fun k_ => (((((w.heap.size ≤ k_)) ∧ (some k_ ≠ (.slice Ao49 t363.length co49 : Value).ownBlock ∧ (k_ ≠ gb357 ∧ (k_ ≠ gb358 ∧ (k_ ≠ gb369 ∧ k_ ≠ g362))))) ∧ k_ ≠ gb376) ∧ some k_ ≠ (.slice Ao64 y377.length co64 : Value).ownBlock)) dz44 (fun k_ hk_ => (⟨hk_, hk_.1.1.2.2.2.2.2⟩ : _ ∧ k_ ≠ g362))) hk (fun _ h => h.2)) (fun _ h => h.1)); replace BK376 := Aside0.mk (KeepBut.blk hk (g' := gb376) (o := .cells #[.int .i64 t370, .slice Ao61 t371.length co61] 44 (0, 0)) dz75 NB376_362.out (by simp)); replace HO379 := Aside0.mk (Kd.R_mono (Kd.R_keep (IsS150.apart (show IsS150 w _ g362 t359 t381 t382 from by repeat (first | (with_reducible first | exact HI362.out | apply IsS150.alloc | apply IsS150.drewN | apply IsS150.drew | apply IsS150.set_1 | apply IsS150.set_2 | refine IsS150.far ?_ NB362_357.out _ | refine IsS150.far ?_ NB362_358.out _ | refine IsS150.far ?_ NB362_369.out _ | refine IsS150.far ?_ NB362_376.out _) | exact HI362.out)) dz76 (by decide)) hk (fun _ h => h.2)) (fun _ h => h.1)); replace HB := Aside0.mk (hb); replace HI362 := Aside0.mk (hi); (try clear hb); (try clear hb2); (try clear hk); (try clear hi)))
 replace HO365 := Aside0.mk (Kd.R_drew HO365.out)
 replace HO373 := Aside0.mk (Kd.N_drew HO373.out)
 replace HO379 := Aside0.mk (Kd.R_drew HO379.out)
 replace BK357 := Aside0.mk (blk_drew BK357.out)
 replace BK358 := Aside0.mk (blk_drew BK358.out)
 replace BK369 := Aside0.mk (blk_drew BK369.out)
 replace BK376 := Aside0.mk (blk_drew BK376.out)
 replace HI362 := Aside0.mk (IsS150.drew HI362.out)
 replace HB := Aside0.mk (below_drew1 HB.out)
 refine start_ (n := 6) (S := fun w' => w'.cell? ⟨gb369, 0, none⟩ = some (.slice Ao49 t363.length co49) ∧ w'.cell? ⟨gb369, 1, none⟩ = some (.int .i64 t366) ∧ w'.cell? ⟨gb376, 0, none⟩ = some (.int .i64 t370) ∧ w'.cell? ⟨gb376, 1, none⟩ = some (.slice Ao61 t371.length co61)) (ds := []) (fl_ 0 6) (by kernel_rfl) rfl rfl ⟨(blk_cell BK369.out 0).trans rfl, (blk_cell BK369.out 1).trans rfl, (blk_cell BK376.out 0).trans rfl, (blk_cell BK376.out 1).trans rfl⟩ (fun hHeld => ?_)
 generalize w10.drew = w67 at HO365 HO373 HO379 BK357 BK358 BK369 BK376 HI362 HB hHeld ⊢
 refine pure_ (i := 2) (N := some 28) (v := ?_) (a' := ?_) #[false, false, true, false, false, false] rfl rfl (by kernel_rfl) (fun _ _ _ h => h) (Or.inl ⟨by rfl, ?_⟩) ?_ ?_
 rotate_left
 ·exact dz489
 rotate_left
 ·exact dz490
 refine take_ (i := 0) (N := some 26) (v := ?_) (a' := ?_) #[true, false, true, false, false, false] rfl rfl (by kernel_rfl) (fun _ _ _ h => h) (Or.inl ⟨by rfl, ?_⟩) hHeld ?_ ?_
 rotate_left
 ·exact dz497
 rotate_left
 ·exact dz490
 refine take_ (i := 1) (N := some 27) (v := ?_) (a' := ?_) (fl_ 3 3) rfl rfl (by kernel_rfl) (fun _ _ _ h => h) (Or.inl ⟨by rfl, ?_⟩) hHeld ?_ ?_
 rotate_left
 ·exact dz497
 rotate_left
 ·exact dz490
 refine one_ (i := 3) (N := none) (fl_ 4 2) rfl rfl (by kernel_rfl) (by decide) (fun K hK => ?_)
 have hs68 : w67.cell? ⟨gb357, 0, none⟩ = some (.slice none 0 0) := (blk_cell BK357.out 0).trans rfl
 have hfs68 := blk_frozen BK357.out 0
 have hns68_1 := NB358_357.out
 have hns68_2 := NB369_357.out
 have hns68_3 := NB376_357.out
 have hms68_1 := NB357_358.out
 have hms68_2 := NB357_369.out
 have hms68_3 := NB357_376.out
 have hs69 : w67.cell? ⟨gb357, 1, none⟩ = some (.int .i64 0) := (blk_cell BK357.out 1).trans rfl
 have hfs69 := blk_frozen BK357.out 1
 have hns69_1 := NB358_357.out
 have hns69_2 := NB369_357.out
 have hns69_3 := NB376_357.out
 have hms69_1 := NB357_358.out
 have hms69_2 := NB357_369.out
 have hms69_3 := NB357_376.out
 refine skip_ (w1 := ?_) (by rfl) rfl ?_ ?_
 rotate_left
 ·go_simp
  rfl
 refine hK.out _ _ ⟨((cell_far (p := ⟨gb357, _, none⟩) NB369_357.out _).trans (((cell_far (p := ⟨gb357, _, none⟩) NB369_357.out _).trans (hHeld.1)))), ((cell_far (p := ⟨gb357, _, none⟩) NB369_357.out _).trans (((cell_far (p := ⟨gb357, _, none⟩) NB369_357.out _).trans (hHeld.2.1)))), ((cell_far (p := ⟨gb357, _, none⟩) NB376_357.out _).trans (((cell_far (p := ⟨gb357, _, none⟩) NB376_357.out _).trans (hHeld.2.2.1)))), ((cell_far (p := ⟨gb357, _, none⟩) NB376_357.out _).trans (((cell_far (p := ⟨gb357, _, none⟩) NB376_357.out _).trans (hHeld.2.2.2))))⟩ (fun hHeld => ?_)
 clear hK K
 refine one_ (i := 4) (N := none) (fl_ 5 1) rfl rfl (by kernel_rfl) (by decide) (fun K hK => ?_)
 have hs70 : w67.cell? ⟨gb358, 0, none⟩ = some (.int .i64 0) := (blk_cell BK358.out 0).trans rfl
 have hfs70 := blk_frozen BK358.out 0
 have hns70_0 := NB357_358.out
 have hns70_2 := NB369_358.out
 have hns70_3 := NB376_358.out
 have hms70_0 := NB358_357.out
 have hms70_2 := NB358_369.out
 have hms70_3 := NB358_376.out
 have hs71 : w67.cell? ⟨gb358, 1, none⟩ = some (.slice none 0 0) := (blk_cell BK358.out 1).trans rfl
 have hfs71 := blk_frozen BK358.out 1
 have hns71_0 := NB357_358.out
 have hns71_2 := NB369_358.out
 have hns71_3 := NB376_358.out
 have hms71_0 := NB358_357.out
 have hms71_2 := NB358_369.out
 have hms71_3 := NB358_376.out
 refine skip_ (w1 := ?_) (by rfl) rfl ?_ ?_
 rotate_left
 ·go_simp
  rfl
 refine hK.out _ _ ⟨((cell_far (p := ⟨gb358, _, none⟩) NB369_358.out _).trans (((cell_far (p := ⟨gb358, _, none⟩) NB369_358.out _).trans (hHeld.1)))), ((cell_far (p := ⟨gb358, _, none⟩) NB369_358.out _).trans (((cell_far (p := ⟨gb358, _, none⟩) NB369_358.out _).trans (hHeld.2.1)))), ((cell_far (p := ⟨gb358, _, none⟩) NB376_358.out _).trans (((cell_far (p := ⟨gb358, _, none⟩) NB376_358.out _).trans (hHeld.2.2.1)))), ((cell_far (p := ⟨gb358, _, none⟩) NB376_358.out _).trans (((cell_far (p := ⟨gb358, _, none⟩) NB376_358.out _).trans (hHeld.2.2.2))))⟩ (fun hHeld => ?_)
 clear hK K
 refine pure_ (i := 5) (N := some 4) (v := ?_) (a' := ?_) (fl_ 6 0) rfl rfl (by kernel_rfl) (fun _ _ _ h => h) (Or.inl ⟨by rfl, ?_⟩) ?_ ?_
 rotate_left
 ·exact dz489
 rotate_left
 ·exact dz490
 refine done_ (by kernel_rfl) ?_
 try go_wp2
 refine bodyPost_ret (results_list (rs := [.cell 2 31, .cell 3 44, .tmp 4]) rfl (by simp) (.cell gb357 31 #[.slice Ao49 t363.length co49, .int .i64 t366] (0, 0) _ rfl (by (with_reducible repeat (first | refine blk_drewN ?_ _ | refine blk_drew ?_ | refine blk_alloc ?_ _)); refine blk_far ?_ NB357_358.out _; (with_reducible repeat (first | refine blk_drewN ?_ _ | refine blk_drew ?_ | refine blk_alloc ?_ _)); refine blk_far ?_ NB357_358.out _; (with_reducible repeat (first | refine blk_drewN ?_ _ | refine blk_drew ?_ | refine blk_alloc ?_ _)); refine blk_put (cs := #[.slice Ao49 t363.length co49, .int .i64 0]) ?_ 1 _ rfl; (with_reducible repeat (first | refine blk_drewN ?_ _ | refine blk_drew ?_ | refine blk_alloc ?_ _)); refine blk_put (cs := #[.slice none 0 0, .int .i64 0]) ?_ 0 _ rfl; (with_reducible repeat (first | refine blk_drewN ?_ _ | refine blk_drew ?_ | refine blk_alloc ?_ _)); exact BK357.out) Try.underlying31 rfl (by kernel_rfl) (.cell gb358 44 #[.int .i64 t370, .slice Ao61 t371.length co61] (0, 0) _ rfl dz161 Try.underlying44 rfl (by kernel_rfl) (.tmp .nil)))) rfl ?_
 exact ⟨_, _, by first | rfl | (simp [errW_none, errW_some] <;> rfl) | (simp [*, errW_none, errW_some] <;> rfl), by (with_reducible repeat (first | apply Kd.R_alloc | apply Kd.R_drewN | apply Kd.R_drew)); exact Kd.R_mono (Kd.R_far (p := ⟨gb358, 1, none⟩) (Kd.R_far (p := ⟨gb358, 0, none⟩) (Kd.R_far (p := ⟨gb357, 1, none⟩) (Kd.R_far (p := ⟨gb357, 0, none⟩) (Kd.R_types (Kd.R_types HO365.out BK357.out (by decide)) BK358.out (by decide)) (fun _ hk => hk.1.2) (.slice Ao49 t363.length co49)) (fun _ hk => hk.1.2) (.int .i64 t366)) (fun _ hk => hk.2) (.int .i64 t370)) (fun _ hk => hk.2) (.slice Ao61 t371.length co61)) (fun _ hk => hk.1.1.1), by (with_reducible repeat (first | apply Kd.N_alloc | apply Kd.N_drewN | apply Kd.N_drew)); exact Kd.N_mono (Kd.N_far (p := ⟨gb358, 1, none⟩) (Kd.N_far (p := ⟨gb358, 0, none⟩) (Kd.N_far (p := ⟨gb357, 1, none⟩) (Kd.N_far (p := ⟨gb357, 0, none⟩) (Kd.N_mono (Kd.N_mono HO373.out (fun k_ hk => (⟨hk, hk.1.1.2.2.1⟩ : _ ∧ k_ ≠ gb357))) (fun k_ hk => (⟨hk, hk.1.1.1.2.2.2.1⟩ : _ ∧ k_ ≠ gb358))) (fun _ hk => hk.1.2) (.slice Ao49 t363.length co49)) (fun _ hk => hk.1.2) (.int .i64 t366)) (fun _ hk => hk.2) (.int .i64 t370)) (fun _ hk => hk.2) (.slice Ao61 t371.length co61)) (fun _ hk => ⟨hk.1.1.1.1.1, hk.1.1.1.1.2.1⟩), by repeat (first | (with_reducible first | exact HB.out | apply below_alloc | apply pw_below_drewN | apply below_drew1 | refine below_set ?_ (IsS150.ge HI362.out) | refine below_set ?_ GE357.out | refine below_set ?_ GE358.out | refine below_set ?_ GE369.out | refine below_set ?_ GE376.out) | exact HB.out)⟩
def impl_within.f (a0 : Int) (a1 : Int) (a2 : Int) : Option (Bool) := if a0 ≥ a1 then (some (decide (a0 ≤ a2))) else (some false)
set_option maxHeartbeats 8000000 in
set_option maxRecDepth 100000 in
theorem impl_within.calls (a0 : Int) (a1 : Int) (a2 : Int) (r : Bool) (w : World) (h : impl_within.f a0 a1 a2 = some r) :
  Calls Try.prog 58 #[.int .i64 a0, .int .i64 a1, .int .i64 a2] w fun e w' => e = .returned (.bool r) ∧ Drawn0 w w' := by
 have H : (if a0 ≥ a1 then (some (decide (a0 ≤ a2))) else (some false)) = some r := h
 clear h
 by_cases c4 : a0 ≥ a1
 ·rw [if_pos c4] at H
  have c4b0 : decide (a1 ≤ a0) = true := decide_eq_true c4
  clear c4
  obtain rfl := Option.some.inj H
  go_enter Try.func58, Try.ntmps58
  go_wp2
  go_ret
  exact dz503
 rw [if_neg c4] at H
 have c4b0 : decide (a1 ≤ a0) = false := decide_eq_false c4
 clear c4
 obtain rfl := Option.some.inj H
 go_enter Try.func58, Try.ntmps58
 go_wp2
 go_ret
 exact dz503
def impl_ConfigOk.l0 : Nat → List Int → Int → Int → List Int → Int → Option (Bool)
 | 0, _, _, _, _, _ => none
 | k + 1, x6, x7, x8, x393000, x393001 => if x8 < x7 then (if 0 ≤ x8 then (if x8 < (x6.length : Int) then ((impl_within.f (rd x6 x8) 0 7).bind fun t394 => (if t394 = true then (impl_ConfigOk.l0 k x6 x7 (wrap64 (x8 + 1)) x393000 x393001) else (some false))) else (none)) else (none)) else ((impl_within.f (x393000.length : Int) 1 8).bind fun t395 => (if t395 = true then ((impl_within.f x393001 1 4).bind fun t396 => (some t396)) else (some false)))
def impl_ConfigOk.f (k : Nat) (l0_0 : List Int) (a0_1 : Int) : Option (Bool) := impl_ConfigOk.l0 k l0_0 (l0_0.length : Int) 0 l0_0 a0_1
set_option maxHeartbeats 8000000 in
set_option maxRecDepth 100000 in
theorem impl_ConfigOk.calls (k : Nat) (A0_0 : Option Addr) (c0_0 : Nat) (l0_0 : List Int) (a0_1 : Int) (r : Bool) (w : World) (hr0_0 : Kd.C (Kd.int .i64) w A0_0 l0_0.length l0_0) (hc0_0 : l0_0.length ≤ c0_0) (h : impl_ConfigOk.f k l0_0 a0_1 = some r) :
  Calls Try.prog 60 #[.agg #[.slice A0_0 l0_0.length c0_0, .int .i64 a0_1]] w fun e w' => e = .returned (.bool r) ∧ Below w.heap.size w w' := by
 have hu31 := Try.underlying31
 have HR0_0 := Aside0.mk hr0_0
 have HC0_0 := Aside0.mk hc0_0
 clear hr0_0 hc0_0
 have HB := Aside0.mk (Below.refl w.heap.size w)
 have H : (impl_ConfigOk.l0 k l0_0 (l0_0.length : Int) 0 l0_0 a0_1) = some r := h
 clear h
 have H' := Aside0.mk H
 clear H
 go_enter Try.func60, Try.ntmps60
 go_wp2_with (first | ((with_reducible refine gate_dst (N := 1) rfl ?_); refine box_event kr_ (N := 1) kr_ (cs := #[.slice A0_0 l0_0.length c0_0, .int .i64 a0_1]) (t := 31) ks_ ?_; intro gb392 hg w1 hbox hb; have BK392 := Aside0.mk (hbox); have GW392 : Aside0 (w.heap.size ≤ gb392) := szl_ hg dz2; have GE392 : Aside0 (w.heap.size ≤ gb392) := szl_ hg dz2; replace HB := Aside0.mk (below_step dz2 hb); clear hb hbox hg; obtain ⟨hcz3_0, hcz3_1, hfz3_0, hfz3_1⟩ := cz2_ BK392))
 go_loopg [8] k (fun kq v8 w' => ∃ (x8_1 : Int), v8 = .int .i64 x8_1 ∧ Aside0 (impl_ConfigOk.l0 kq l0_0 (l0_0.length : Int) x8_1 l0_0 a0_1 = some r) ∧ Aside0 (kq ≤ k) ∧ Aside0 (w'.heap[gb392]? = some (.cells #[(.slice A0_0 l0_0.length c0_0), .int .i64 a0_1] 31 (0, 0))) ∧ Aside0 (Below w.heap.size w w'))
 case atStart => exact ⟨(0), dz3, H', ⟨Nat.le_refl _⟩, ⟨by (with_reducible repeat (first | refine blk_drewN ?_ _ | refine blk_drew ?_ | refine blk_alloc ?_ _)); exact BK392.out⟩, ⟨by repeat (first | (with_reducible first | exact HB.out | apply below_alloc | apply pw_below_drewN | apply below_drew1 | refine below_set ?_ GE392.out) | exact HB.out)⟩⟩
 case round =>
  clear H'
  try clear p2
  try clear hcz3_0
  try clear hcz3_1
  try clear hfz3_0
  try clear hfz3_1
  obtain ⟨x8_1, rfl, HA, HK1, BK392, HB⟩ := hrel
  cases gk with
  | zero => exact absurd HA.out (by simp [impl_ConfigOk.l0])
  | succ k1 =>
   have H := HA.out
   clear HA
   simp only [impl_ConfigOk.l0] at H
   by_cases c4 : x8_1 < (l0_0.length : Int)
   ·rw [if_pos c4] at H
    have c4b0 : decide (x8_1 < (l0_0.length : Int)) = true := decide_eq_true c4
    clear c4
    by_cases c5 : 0 ≤ x8_1
    ·rw [if_pos c5] at H
     have c5b0 : decide (0 ≤ x8_1) = true := decide_eq_true c5
     clear c5
     by_cases c6 : x8_1 < (l0_0.length : Int)
     ·rw [if_pos c6] at H
      have c6b0 : decide (x8_1 < (l0_0.length : Int)) = true := decide_eq_true c6
      clear c6
      replace H := Option.bind_eq_some_iff.mp H
      obtain ⟨t394, A70, H⟩ := H
      replace H : (if t394 = true then (impl_ConfigOk.l0 k1 l0_0 (l0_0.length : Int) (wrap64 (x8_1 + 1)) l0_0 a0_1) else (some false)) = some r := H
      have A7 := Aside0.mk A70
      clear A70
      by_cases c8 : t394 = true
      ·subst c8
       have H1 : (impl_ConfigOk.l0 k1 l0_0 (l0_0.length : Int) (wrap64 (x8_1 + 1)) l0_0 a0_1) = some r := by rw [if_pos rfl] at H; exact H
       clear H
       have H := H1
       clear H1
       have H' := Aside0.mk H
       clear H
       have p393 : 0 ≤ (x8_1 : Int) := of_decide_eq_true dz0
       have q393 : x8_1 < (l0_0.length : Int) := of_decide_eq_true dz0
       obtain ⟨ad393, e393, hx393_0⟩ := Kd.at_int HR0_0.out x8_1 p393 q393
       cases e393
       replace hx393_0 := hxl_ HB hx393_0
       replace p393 := eq_true p393
       replace q393 := eq_true q393
       go_wp2_with (first | ((with_reducible refine gate_callee (f := 58) rfl ?_); refine goesL_ (some 13) rfl rfl Try.func58 (by kernel_rfl) rfl #[.int .i64 (rd l0_0 x8_1), .int .i64 0, .int .i64 7] rfl dz1 ?_; (with_reducible refine (impl_within.calls (rd l0_0 x8_1) 0 7 true _ A7.out).mono ?_); rintro e w' ⟨rfl, ⟨nd, rfl⟩⟩; refine ⟨_, rfl, ?_⟩))
       go_roundg k1
       case measure => have := HK1.out; omega
       case rel => exact ⟨(wrap64 (x8_1 + 1)), dz3, H', ⟨by have := HK1.out; omega⟩, ⟨by (with_reducible repeat (first | refine blk_drewN ?_ _ | refine blk_drew ?_ | refine blk_alloc ?_ _)); exact BK392.out⟩, ⟨by repeat (first | (with_reducible first | exact HB.out | apply below_alloc | apply pw_below_drewN | apply below_drew1 | refine below_set ?_ GE392.out) | exact HB.out)⟩⟩
      replace c8 := Bool.eq_false_iff.mpr c8
      subst c8
      have H1 : (some false) = some r := by rw [if_neg (show ¬ (false = true) by decide)] at H; exact H
      clear H
      have H := H1
      clear H1
      obtain rfl := Option.some.inj H
      have p393 : 0 ≤ (x8_1 : Int) := of_decide_eq_true dz0
      have q393 : x8_1 < (l0_0.length : Int) := of_decide_eq_true dz0
      obtain ⟨ad393, e393, hx393_0⟩ := Kd.at_int HR0_0.out x8_1 p393 q393
      cases e393
      replace hx393_0 := hxl_ HB hx393_0
      replace p393 := eq_true p393
      replace q393 := eq_true q393
      go_wp2_with (first | ((with_reducible refine gate_callee (f := 58) rfl ?_); refine goesL_ (some 13) rfl rfl Try.func58 (by kernel_rfl) rfl #[.int .i64 (rd l0_0 x8_1), .int .i64 0, .int .i64 7] rfl dz1 ?_; (with_reducible refine (impl_within.calls (rd l0_0 x8_1) 0 7 false _ A7.out).mono ?_); rintro e w' ⟨rfl, ⟨nd, rfl⟩⟩; refine ⟨_, rfl, ?_⟩))
      go_ret
      exact dz510
     rw [if_neg c6] at H
     exact absurd H (by simp)
    rw [if_neg c5] at H
    exact absurd H (by simp)
   rw [if_neg c4] at H
   have c4b0 : decide (x8_1 < (l0_0.length : Int)) = false := decide_eq_false c4
   clear c4
   replace H := Option.bind_eq_some_iff.mp H
   obtain ⟨t395, A90, H⟩ := H
   replace H : (if t395 = true then ((impl_within.f a0_1 1 4).bind fun t396 => (some t396)) else (some false)) = some r := H
   have A9 := Aside0.mk A90
   clear A90
   by_cases c10 : t395 = true
   ·subst c10
    have H1 : ((impl_within.f a0_1 1 4).bind fun t396 => (some t396)) = some r := by rw [if_pos rfl] at H; exact H
    clear H
    have H := H1
    clear H1
    replace H := Option.bind_eq_some_iff.mp H
    obtain ⟨t396, A110, H⟩ := H
    replace H : (some t396) = some r := H
    have A11 := Aside0.mk A110
    clear A110
    obtain rfl := Option.some.inj H
    obtain ⟨hcz12_0, hcz12_1, hfz12_0, hfz12_1⟩ := cz2_ BK392
    go_wp2_with (first | ((with_reducible refine gate_callee (f := 58) rfl ?_); refine goesL_ (some 19) rfl rfl Try.func58 (by kernel_rfl) rfl #[.int .i64 (l0_0.length : Int), .int .i64 1, .int .i64 8] rfl dz1 ?_; (with_reducible refine (impl_within.calls (l0_0.length : Int) 1 8 true _ A9.out).mono ?_); rintro e w' ⟨rfl, ⟨nd, rfl⟩⟩; refine ⟨_, rfl, ?_⟩) | (go_at_call 58; (with_reducible refine (impl_within.calls a0_1 1 4 t396 _ A11.out).mono ?_); rintro e w' ⟨rfl, ⟨nd, rfl⟩⟩))
    go_ret
    exact dz510
   replace c10 := Bool.eq_false_iff.mpr c10
   subst c10
   have H1 : (some false) = some r := by rw [if_neg (show ¬ (false = true) by decide)] at H; exact H
   clear H
   have H := H1
   clear H1
   obtain rfl := Option.some.inj H
   obtain ⟨hcz13_0, hcz13_1, hfz13_0, hfz13_1⟩ := cz2_ BK392
   go_wp2_with (first | ((with_reducible refine gate_callee (f := 58) rfl ?_); refine goesL_ (some 19) rfl rfl Try.func58 (by kernel_rfl) rfl #[.int .i64 (l0_0.length : Int), .int .i64 1, .int .i64 8] rfl dz1 ?_; (with_reducible refine (impl_within.calls (l0_0.length : Int) 1 8 false _ A9.out).mono ?_); rintro e w' ⟨rfl, ⟨nd, rfl⟩⟩; refine ⟨_, rfl, ?_⟩))
   go_ret
   exact dz510
def impl_dataOk.f (a0 : ByteArray) : Option (Bool) := some (decide ((a0.size : Int) ≤ 40))
set_option maxHeartbeats 8000000 in
set_option maxRecDepth 100000 in
theorem impl_dataOk.calls (a0 : ByteArray) (r : Bool) (w : World) (h : impl_dataOk.f a0 = some r) :
  Calls Try.prog 72 #[.string a0] w fun e w' => e = .returned (.bool r) ∧ Drawn0 w w' := by
 have H : (some (decide ((a0.size : Int) ≤ 40))) = some r := h
 clear h
 obtain rfl := Option.some.inj H
 go_enter Try.func72, Try.ntmps72
 go_wp2
 go_ret
 exact dz503
def impl_ascends.l0 : Nat → List Int → Int → List Int → Int → Int → Option (Bool)
 | 0, _, _, _, _, _ => none
 | k + 1, x0, x1, x7, x8, x9 => if x9 < x8 then (if 0 ≤ x9 then (if x9 < (x7.length : Int) then ((impl_within.f (rd x7 x9) 0 x1).bind fun t398 => (if t398 = true then (if x9 > 0 then (if 0 ≤ (wrap64 (x9 - 1)) then (if (wrap64 (x9 - 1)) < (x0.length : Int) then (if (rd x0 (wrap64 (x9 - 1))) ≥ (rd x7 x9) then (some false) else (impl_ascends.l0 k x0 x1 x7 x8 (wrap64 (x9 + 1)))) else (none)) else (none)) else (impl_ascends.l0 k x0 x1 x7 x8 (wrap64 (x9 + 1)))) else (some false))) else (none)) else (none)) else (some true)
def impl_ascends.f (k : Nat) (l0 : List Int) (a1 : Int) : Option (Bool) := impl_ascends.l0 k l0 a1 l0 (l0.length : Int) 0
set_option maxHeartbeats 8000000 in
set_option maxRecDepth 100000 in
theorem impl_ascends.calls (k : Nat) (A0 : Option Addr) (c0 : Nat) (l0 : List Int) (a1 : Int) (r : Bool) (w : World) (hr0 : Kd.C (Kd.int .i64) w A0 l0.length l0) (hc0 : l0.length ≤ c0) (h : impl_ascends.f k l0 a1 = some r) :
  Calls Try.prog 119 #[.slice A0 l0.length c0, .int .i64 a1] w fun e w' => e = .returned (.bool r) ∧ Drawn0 w w' := by
 have HR0 := Aside0.mk hr0
 have HC0 := Aside0.mk hc0
 clear hr0 hc0
 have H : (impl_ascends.l0 k l0 a1 l0 (l0.length : Int) 0) = some r := h
 clear h
 have H' := Aside0.mk H
 clear H
 go_enter Try.func119, Try.ntmps119
 go_wp2
 go_loopg [9] k (fun kq v9 w' => ∃ (x9_1 : Int), v9 = .int .i64 x9_1 ∧ Aside0 (impl_ascends.l0 kq l0 a1 l0 (l0.length : Int) x9_1 = some r) ∧ Aside0 (kq ≤ k) ∧ Drawn0 w w')
 case atStart => exact ⟨(0), dz3, H', ⟨Nat.le_refl _⟩, by repeat (first | exact Drawn0.refl _ | apply Drawn0.step)⟩
 case round =>
  clear H'
  try clear c1
  try clear p2
  obtain ⟨x9_1, rfl, HA, HK1, ⟨m1, rfl⟩⟩ := hrel
  cases gk with
  | zero => exact absurd HA.out (by simp [impl_ascends.l0])
  | succ k1 =>
   have H := HA.out
   clear HA
   simp only [impl_ascends.l0] at H
   by_cases c3 : x9_1 < (l0.length : Int)
   ·rw [if_pos c3] at H
    have c3b0 : decide (x9_1 < (l0.length : Int)) = true := decide_eq_true c3
    clear c3
    by_cases c4 : 0 ≤ x9_1
    ·rw [if_pos c4] at H
     have c4b0 : decide (0 ≤ x9_1) = true := decide_eq_true c4
     clear c4
     by_cases c5 : x9_1 < (l0.length : Int)
     ·rw [if_pos c5] at H
      have c5b0 : decide (x9_1 < (l0.length : Int)) = true := decide_eq_true c5
      clear c5
      replace H := Option.bind_eq_some_iff.mp H
      obtain ⟨t398, A60, H⟩ := H
      replace H : (if t398 = true then (if x9_1 > 0 then (if 0 ≤ (wrap64 (x9_1 - 1)) then (if (wrap64 (x9_1 - 1)) < (l0.length : Int) then (if (rd l0 (wrap64 (x9_1 - 1))) ≥ (rd l0 x9_1) then (some false) else (impl_ascends.l0 k1 l0 a1 l0 (l0.length : Int) (wrap64 (x9_1 + 1)))) else (none)) else (none)) else (impl_ascends.l0 k1 l0 a1 l0 (l0.length : Int) (wrap64 (x9_1 + 1)))) else (some false)) = some r := H
      have A6 := Aside0.mk A60
      clear A60
      by_cases c7 : t398 = true
      ·subst c7
       have H1 : (if x9_1 > 0 then (if 0 ≤ (wrap64 (x9_1 - 1)) then (if (wrap64 (x9_1 - 1)) < (l0.length : Int) then (if (rd l0 (wrap64 (x9_1 - 1))) ≥ (rd l0 x9_1) then (some false) else (impl_ascends.l0 k1 l0 a1 l0 (l0.length : Int) (wrap64 (x9_1 + 1)))) else (none)) else (none)) else (impl_ascends.l0 k1 l0 a1 l0 (l0.length : Int) (wrap64 (x9_1 + 1)))) = some r := by rw [if_pos rfl] at H; exact H
       clear H
       have H := H1
       clear H1
       by_cases c8 : x9_1 > 0
       ·rw [if_pos c8] at H
        have c8b0 : decide (0 < x9_1) = true := decide_eq_true c8
        clear c8
        obtain ⟨ji9, hji9⟩ : ∃ j_ : Int, (wrap64 (x9_1 - 1)) = j_ := ⟨_, rfl⟩
        replace H : (if 0 ≤ (ji9) then (if (ji9) < (l0.length : Int) then (if (rd l0 (ji9)) ≥ (rd l0 x9_1) then (some false) else (impl_ascends.l0 k1 l0 a1 l0 (l0.length : Int) (wrap64 (x9_1 + 1)))) else (none)) else (none)) = some r := by first | (rw [hji9] at H; exact H) | (simp only [hji9] at H ⊢; exact H)
        (try rw [hji9] at A6)
        have hji9w : (IntKind.i64.wrap (x9_1 - 1)) = ji9 := (i64_w _).trans hji9
        by_cases c10 : 0 ≤ (ji9)
        ·rw [if_pos c10] at H
         have c10b0 : decide (0 ≤ (ji9)) = true := decide_eq_true c10
         clear c10
         by_cases c11 : (ji9) < (l0.length : Int)
         ·rw [if_pos c11] at H
          have c11b0 : decide ((ji9) < (l0.length : Int)) = true := decide_eq_true c11
          clear c11
          by_cases c12 : (rd l0 (ji9)) ≥ (rd l0 x9_1)
          ·rw [if_pos c12] at H
           have c12b0 : decide ((rd l0 x9_1) ≤ (rd l0 (ji9))) = true := decide_eq_true c12
           clear c12
           obtain rfl := Option.some.inj H
           have p397 : 0 ≤ (x9_1 : Int) := of_decide_eq_true dz0
           have q397 : x9_1 < (l0.length : Int) := of_decide_eq_true dz0
           obtain ⟨ad397, e397, hx397_0⟩ := Kd.at_int HR0.out x9_1 p397 q397
           cases e397
           replace p397 := eq_true p397
           replace q397 := eq_true q397
           go_wp2_with (first | ((with_reducible refine gate_callee (f := 58) rfl ?_); refine goesL_ (some 16) rfl rfl Try.func58 (by kernel_rfl) rfl #[.int .i64 (rd l0 x9_1), .int .i64 0, .int .i64 a1] rfl dz1 ?_; (with_reducible refine (impl_within.calls (rd l0 x9_1) 0 a1 true _ A6.out).mono ?_); rintro e w' ⟨rfl, ⟨nd, rfl⟩⟩; refine ⟨_, rfl, ?_⟩; have p399 : 0 ≤ ((ji9) : Int) := of_decide_eq_true dz0; have q399 : (ji9) < (l0.length : Int) := of_decide_eq_true dz0; obtain ⟨ad399, e399, hx399_0⟩ := Kd.at_int HR0.out (ji9) p399 q399; obtain rfl : ad397 = ad399 := (by injection e399); replace p399 := eq_true p399; replace q399 := eq_true q399))
           go_ret
           exact dz506
          rw [if_neg c12] at H
          have c12b0 : decide ((rd l0 x9_1) ≤ (rd l0 (ji9))) = false := decide_eq_false c12
          clear c12
          have H' := Aside0.mk H
          clear H
          have p397 : 0 ≤ (x9_1 : Int) := of_decide_eq_true dz0
          have q397 : x9_1 < (l0.length : Int) := of_decide_eq_true dz0
          obtain ⟨ad397, e397, hx397_0⟩ := Kd.at_int HR0.out x9_1 p397 q397
          cases e397
          replace p397 := eq_true p397
          replace q397 := eq_true q397
          go_wp2_with (first | ((with_reducible refine gate_callee (f := 58) rfl ?_); refine goesL_ (some 16) rfl rfl Try.func58 (by kernel_rfl) rfl #[.int .i64 (rd l0 x9_1), .int .i64 0, .int .i64 a1] rfl dz1 ?_; (with_reducible refine (impl_within.calls (rd l0 x9_1) 0 a1 true _ A6.out).mono ?_); rintro e w' ⟨rfl, ⟨nd, rfl⟩⟩; refine ⟨_, rfl, ?_⟩; have p399 : 0 ≤ ((ji9) : Int) := of_decide_eq_true dz0; have q399 : (ji9) < (l0.length : Int) := of_decide_eq_true dz0; obtain ⟨ad399, e399, hx399_0⟩ := Kd.at_int HR0.out (ji9) p399 q399; obtain rfl : ad397 = ad399 := (by injection e399); replace p399 := eq_true p399; replace q399 := eq_true q399))
          go_roundg k1
          case measure => have := HK1.out; omega
          case rel => exact ⟨(wrap64 (x9_1 + 1)), dz3, H', ⟨by have := HK1.out; omega⟩, by repeat (first | exact Drawn0.refl _ | apply Drawn0.step)⟩
         rw [if_neg c11] at H
         exact absurd H (by simp)
        rw [if_neg c10] at H
        exact absurd H (by simp)
       rw [if_neg c8] at H
       have c8b0 : decide (0 < x9_1) = false := decide_eq_false c8
       clear c8
       have H' := Aside0.mk H
       clear H
       have p397 : 0 ≤ (x9_1 : Int) := of_decide_eq_true dz0
       have q397 : x9_1 < (l0.length : Int) := of_decide_eq_true dz0
       obtain ⟨ad397, e397, hx397_0⟩ := Kd.at_int HR0.out x9_1 p397 q397
       cases e397
       replace p397 := eq_true p397
       replace q397 := eq_true q397
       go_wp2_with (first | ((with_reducible refine gate_callee (f := 58) rfl ?_); refine goesL_ (some 16) rfl rfl Try.func58 (by kernel_rfl) rfl #[.int .i64 (rd l0 x9_1), .int .i64 0, .int .i64 a1] rfl dz1 ?_; (with_reducible refine (impl_within.calls (rd l0 x9_1) 0 a1 true _ A6.out).mono ?_); rintro e w' ⟨rfl, ⟨nd, rfl⟩⟩; refine ⟨_, rfl, ?_⟩))
       go_roundg k1
       case measure => have := HK1.out; omega
       case rel => exact ⟨(wrap64 (x9_1 + 1)), dz3, H', ⟨by have := HK1.out; omega⟩, by repeat (first | exact Drawn0.refl _ | apply Drawn0.step)⟩
      replace c7 := Bool.eq_false_iff.mpr c7
      subst c7
      have H1 : (some false) = some r := by rw [if_neg (show ¬ (false = true) by decide)] at H; exact H
      clear H
      have H := H1
      clear H1
      obtain rfl := Option.some.inj H
      have p397 : 0 ≤ (x9_1 : Int) := of_decide_eq_true dz0
      have q397 : x9_1 < (l0.length : Int) := of_decide_eq_true dz0
      obtain ⟨ad397, e397, hx397_0⟩ := Kd.at_int HR0.out x9_1 p397 q397
      cases e397
      replace p397 := eq_true p397
      replace q397 := eq_true q397
      go_wp2_with (first | ((with_reducible refine gate_callee (f := 58) rfl ?_); refine goesL_ (some 16) rfl rfl Try.func58 (by kernel_rfl) rfl #[.int .i64 (rd l0 x9_1), .int .i64 0, .int .i64 a1] rfl dz1 ?_; (with_reducible refine (impl_within.calls (rd l0 x9_1) 0 a1 false _ A6.out).mono ?_); rintro e w' ⟨rfl, ⟨nd, rfl⟩⟩; refine ⟨_, rfl, ?_⟩))
      go_ret
      exact dz503
     rw [if_neg c5] at H
     exact absurd H (by simp)
    rw [if_neg c4] at H
    exact absurd H (by simp)
   rw [if_neg c3] at H
   have c3b0 : decide (x9_1 < (l0.length : Int)) = false := decide_eq_false c3
   clear c3
   obtain rfl := Option.some.inj H
   go_wp2
   go_ret
   exact dz503
def impl_NodesOk.f (k : Nat) (l0_0 : List Int) (a0_1 : Int) (l1 : List Int) : Option (Bool) := (impl_ConfigOk.f k l0_0 a0_1).bind fun t401 => (if t401 = true then ((impl_ascends.f k l1 (wrap64 ((l0_0.length : Int) - 1))).bind fun t402 => (some t402)) else (some false))
set_option maxHeartbeats 8000000 in
set_option maxRecDepth 100000 in
theorem impl_NodesOk.calls (k : Nat) (A0_0 : Option Addr) (c0_0 : Nat) (l0_0 : List Int) (a0_1 : Int) (A1 : Option Addr) (c1 : Nat) (l1 : List Int) (r : Bool) (w : World) (hr0_0 : Kd.C (Kd.int .i64) w A0_0 l0_0.length l0_0) (hc0_0 : l0_0.length ≤ c0_0) (hr1 : Kd.C (Kd.int .i64) w A1 l1.length l1) (hc1 : l1.length ≤ c1) (h : impl_NodesOk.f k l0_0 a0_1 l1 = some r) :
  Calls Try.prog 73 #[.agg #[.slice A0_0 l0_0.length c0_0, .int .i64 a0_1], .slice A1 l1.length c1] w fun e w' => e = .returned (.bool r) ∧ Below w.heap.size w w' := by
 have hu31 := Try.underlying31
 have HR0_0 := Aside0.mk hr0_0
 have HC0_0 := Aside0.mk hc0_0
 clear hr0_0 hc0_0
 have HR1 := Aside0.mk hr1
 have HC1 := Aside0.mk hc1
 clear hr1 hc1
 have HB := Aside0.mk (Below.refl w.heap.size w)
 have H : ((impl_ConfigOk.f k l0_0 a0_1).bind fun t401 => (if t401 = true then ((impl_ascends.f k l1 (wrap64 ((l0_0.length : Int) - 1))).bind fun t402 => (some t402)) else (some false))) = some r := h
 clear h
 replace H := Option.bind_eq_some_iff.mp H
 obtain ⟨t401, A30, H⟩ := H
 replace H : (if t401 = true then ((impl_ascends.f k l1 (wrap64 ((l0_0.length : Int) - 1))).bind fun t402 => (some t402)) else (some false)) = some r := H
 have A3 := Aside0.mk A30
 clear A30
 by_cases c4 : t401 = true
 ·subst c4
  have H1 : ((impl_ascends.f k l1 (wrap64 ((l0_0.length : Int) - 1))).bind fun t402 => (some t402)) = some r := by rw [if_pos rfl] at H; exact H
  clear H
  have H := H1
  clear H1
  replace H := Option.bind_eq_some_iff.mp H
  obtain ⟨t402, A50, H⟩ := H
  replace H : (some t402) = some r := H
  have A5 := Aside0.mk A50
  clear A50
  obtain rfl := Option.some.inj H
  go_enter Try.func73, Try.ntmps73
  go_wp2_with (first | ((with_reducible refine gate_dst (N := 2) rfl ?_); (try (refine gate_guard (by rfl) ?_; dsimp only)); refine box_event kr_ (N := 2) kr_ (cs := #[.slice A0_0 l0_0.length c0_0, .int .i64 a0_1]) (t := 31) ks_ ?_; intro gb400 hg w1 hbox hb; have BK400 := Aside0.mk (hbox); have GW400 : Aside0 (w.heap.size ≤ gb400) := szl_ hg dz2; have GE400 : Aside0 (w.heap.size ≤ gb400) := szl_ hg dz2; replace HB := Aside0.mk (below_step dz2 hb); clear hb hbox hg; obtain ⟨hcz7_0, hcz7_1, hfz7_0, hfz7_1⟩ := cz2_ BK400) | ((with_reducible refine gate_callee (f := 60) rfl ?_); refine goesL_ (some 6) rfl rfl Try.func60 (by kernel_rfl) rfl #[.agg #[.slice A0_0 l0_0.length c0_0, .int .i64 a0_1]] rfl dz1 ?_; (with_reducible refine (impl_ConfigOk.calls k _ _ l0_0 a0_1 true _ ?side1 ?side2 A3.out).mono ?_); (case side1 => exact dz462); (case side2 => exact HC0_0.out); rintro e w2 ⟨rfl, hb⟩; refine ⟨_, rfl, ?_⟩; replace BK400 := (bkb_ BK400 hb); replace HB := Aside0.mk (below_step dz163 hb); (try clear hb); (try clear hb2); (try clear hk); (try clear hi); obtain ⟨hcz9_0, hcz9_1, hfz9_0, hfz9_1⟩ := cz2_ BK400) | (go_at_call 119; (with_reducible refine (impl_ascends.calls k _ _ l1 (wrap64 ((l0_0.length : Int) - 1)) t402 _ ?side1 ?side2 A5.out).mono ?_); (case side1 => exact dz463); (case side2 => exact HC1.out); rintro e w' ⟨rfl, ⟨nd, rfl⟩⟩))
  go_ret
  exact dz511
 replace c4 := Bool.eq_false_iff.mpr c4
 subst c4
 have H1 : (some false) = some r := by rw [if_neg (show ¬ (false = true) by decide)] at H; exact H
 clear H
 have H := H1
 clear H1
 obtain rfl := Option.some.inj H
 go_enter Try.func73, Try.ntmps73
 go_wp2_with (first | ((with_reducible refine gate_dst (N := 2) rfl ?_); (try (refine gate_guard (by rfl) ?_; dsimp only)); refine box_event kr_ (N := 2) kr_ (cs := #[.slice A0_0 l0_0.length c0_0, .int .i64 a0_1]) (t := 31) ks_ ?_; intro gb400 hg w1 hbox hb; have BK400 := Aside0.mk (hbox); have GW400 : Aside0 (w.heap.size ≤ gb400) := szl_ hg dz2; have GE400 : Aside0 (w.heap.size ≤ gb400) := szl_ hg dz2; replace HB := Aside0.mk (below_step dz2 hb); clear hb hbox hg; obtain ⟨hcz11_0, hcz11_1, hfz11_0, hfz11_1⟩ := cz2_ BK400) | ((with_reducible refine gate_callee (f := 60) rfl ?_); refine goesL_ (some 6) rfl rfl Try.func60 (by kernel_rfl) rfl #[.agg #[.slice A0_0 l0_0.length c0_0, .int .i64 a0_1]] rfl dz1 ?_; (with_reducible refine (impl_ConfigOk.calls k _ _ l0_0 a0_1 false _ ?side1 ?side2 A3.out).mono ?_); (case side1 => exact dz462); (case side2 => exact HC0_0.out); rintro e w2 ⟨rfl, hb⟩; refine ⟨_, rfl, ?_⟩; replace BK400 := (bkb_ BK400 hb); replace HB := Aside0.mk (below_step dz163 hb); (try clear hb); (try clear hb2); (try clear hk); (try clear hi)))
 go_ret
 exact dz511
def slices_Index_int_int.l0 : Nat → List Int → Int → Int → Int → Option (Int)
 | 0, _, _, _, _ => none
 | k + 1, x0, x1, x7, x8 => if x8 < x7 then (if 0 ≤ x8 then (if x8 < (x0.length : Int) then (if x1 = (rd x0 x8) then (some x8) else (slices_Index_int_int.l0 k x0 x1 x7 (wrap64 (x8 + 1)))) else (none)) else (none)) else (some (-1))
def slices_Index_int_int.f (k : Nat) (l0 : List Int) (a1 : Int) : Option (Int) := slices_Index_int_int.l0 k l0 a1 (l0.length : Int) 0
set_option maxHeartbeats 8000000 in
set_option maxRecDepth 100000 in
theorem slices_Index_int_int.calls (k : Nat) (A0 : Option Addr) (c0 : Nat) (l0 : List Int) (a1 : Int) (r : Int) (w : World) (hr0 : Kd.C (Kd.int .i64) w A0 l0.length l0) (hc0 : l0.length ≤ c0) (h : slices_Index_int_int.f k l0 a1 = some r) :
  Calls Try.prog 145 #[.slice A0 l0.length c0, .int .i64 a1] w fun e w' => e = .returned (.int .i64 r) ∧ Drawn0 w w' := by
 have HR0 := Aside0.mk hr0
 have HC0 := Aside0.mk hc0
 clear hr0 hc0
 have H : (slices_Index_int_int.l0 k l0 a1 (l0.length : Int) 0) = some r := h
 clear h
 have H' := Aside0.mk H
 clear H
 go_enter Try.func145, Try.ntmps145
 go_wp2
 go_loopg [8] k (fun kq v8 w' => ∃ (x8_1 : Int), v8 = .int .i64 x8_1 ∧ Aside0 (slices_Index_int_int.l0 kq l0 a1 (l0.length : Int) x8_1 = some r) ∧ Aside0 (kq ≤ k) ∧ Drawn0 w w')
 case atStart => exact ⟨(0), dz3, H', ⟨Nat.le_refl _⟩, by repeat (first | exact Drawn0.refl _ | apply Drawn0.step)⟩
 case round =>
  clear H'
  try clear c1
  try clear p2
  obtain ⟨x8_1, rfl, HA, HK1, ⟨m1, rfl⟩⟩ := hrel
  cases gk with
  | zero => exact absurd HA.out (by simp [slices_Index_int_int.l0])
  | succ k1 =>
   have H := HA.out
   clear HA
   simp only [slices_Index_int_int.l0] at H
   by_cases c3 : x8_1 < (l0.length : Int)
   ·rw [if_pos c3] at H
    have c3b0 : decide (x8_1 < (l0.length : Int)) = true := decide_eq_true c3
    clear c3
    by_cases c4 : 0 ≤ x8_1
    ·rw [if_pos c4] at H
     have c4b0 : decide (0 ≤ x8_1) = true := decide_eq_true c4
     clear c4
     by_cases c5 : x8_1 < (l0.length : Int)
     ·rw [if_pos c5] at H
      have c5b0 : decide (x8_1 < (l0.length : Int)) = true := decide_eq_true c5
      clear c5
      by_cases c6 : a1 = (rd l0 x8_1)
      ·rw [if_pos c6] at H
       have c6b0 : (a1 == (rd l0 x8_1)) = true := beq_iff_eq.mpr c6
       have c6b1 : (a1 != (rd l0 x8_1)) = false := bne_eq_false_iff_eq.mpr c6
       clear c6
       obtain rfl := Option.some.inj H
       have p403 : 0 ≤ (x8_1 : Int) := of_decide_eq_true dz0
       have q403 : x8_1 < (l0.length : Int) := of_decide_eq_true dz0
       obtain ⟨ad403, e403, hx403_0⟩ := Kd.at_int HR0.out x8_1 p403 q403
       cases e403
       replace p403 := eq_true p403
       replace q403 := eq_true q403
       go_wp2
       go_ret
       exact dz503
      rw [if_neg c6] at H
      have c6b0 : (a1 == (rd l0 x8_1)) = false := beq_eq_false_iff_ne.mpr c6
      have c6b1 : (a1 != (rd l0 x8_1)) = true := bne_iff_ne.mpr c6
      have H' := Aside0.mk H
      clear H
      have p403 : 0 ≤ (x8_1 : Int) := of_decide_eq_true dz0
      have q403 : x8_1 < (l0.length : Int) := of_decide_eq_true dz0
      obtain ⟨ad403, e403, hx403_0⟩ := Kd.at_int HR0.out x8_1 p403 q403
      cases e403
      replace p403 := eq_true p403
      replace q403 := eq_true q403
      go_wp2
      go_roundg k1
      case measure => have := HK1.out; omega
      case rel => exact ⟨(wrap64 (x8_1 + 1)), dz3, H', ⟨by have := HK1.out; omega⟩, by repeat (first | exact Drawn0.refl _ | apply Drawn0.step)⟩
     rw [if_neg c5] at H
     exact absurd H (by simp)
    rw [if_neg c4] at H
    exact absurd H (by simp)
   rw [if_neg c3] at H
   have c3b0 : decide (x8_1 < (l0.length : Int)) = false := decide_eq_false c3
   clear c3
   obtain rfl := Option.some.inj H
   go_wp2
   go_ret
   exact dz503
end Go.Proofs.Ytdkdhciogedoiab.PFnAdded
