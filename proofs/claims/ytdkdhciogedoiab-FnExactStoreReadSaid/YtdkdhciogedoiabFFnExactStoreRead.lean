import Derived.Test.YtdkdhciogedoiabOmD
set_option maxRecDepth 1000000
set_option linter.unusedVariables false
namespace Go.Proofs.Ytdkdhciogedoiab.OmFnExactStoreRead
open Go Go.OM
@[reducible] noncomputable def tConfig : Ty := .pair (.sl (.int .i64)) (.pair (.int .i64) (.unit))
@[reducible] noncomputable def Config : Type := (List Int) × Int × Unit
@[reducible] noncomputable def tEra : Ty := .pair (.sl (.int .i64)) (.pair .bool (.pair (.int .i64) (.unit)))
@[reducible] noncomputable def Era : Type := (List Int) × Bool × Int × Unit
@[reducible] noncomputable def tRegister : Ty := .pair (.sl tEra) (.pair (.int .i64) (.unit))
@[reducible] noncomputable def Register : Type := (List Era) × Int × Unit
@[reducible] noncomputable def tWord : Ty := .pair .str (.pair (.sl (.int .i64)) (.pair .bool (.unit)))
@[reducible] noncomputable def Word : Type := ByteArray × (List Int) × Bool × Unit
@[reducible] noncomputable def tWriter : Ty := .pair (.int .i64) (.pair (.sl tWord) (.unit))
@[reducible] noncomputable def Writer : Type := Int × (List Word) × Unit
@[reducible] noncomputable def tEntry : Ty := .pair (.int .i64) (.pair (.int .i64) (.pair .bool (.pair .str (.unit))))
@[reducible] noncomputable def Entry : Type := Int × Int × Bool × ByteArray × Unit
@[reducible] noncomputable def tMend : Ty := .pair (.int .i64) (.pair (.int .i64) (.pair (.sl (.int .i64)) (.pair (.sl tEntry) (.pair .bool (.pair (.sl (.sl (.int .i64))) (.unit))))))
@[reducible] noncomputable def Mend : Type := Int × Int × (List Int) × (List Entry) × Bool × (List (List Int)) × Unit
@[reducible] noncomputable def tStore : Ty := .pair (.sl tEntry) (.pair (.sl tEntry) (.pair (.int .i64) (.unit)))
@[reducible] noncomputable def Store : Type := (List Entry) × (List Entry) × Int × Unit
@[reducible] noncomputable def treader : Ty := .pair (.sl (.int .u8)) (.pair (.int .i64) (.pair .bool (.unit)))
@[reducible] noncomputable def reader : Type := (List Int) × Int × Bool × Unit
@[reducible] noncomputable def tl1Cur : Ty := .pair (.sl (.int .u8)) (.pair (.int .i64) (.pair (.int .i64) (.unit)))
@[reducible] noncomputable def l1Cur : Type := (List Int) × Int × Int × Unit
/-! laws.toByteS -/
noncomputable def laws_toByteS.p7 : Nat → (List Int) → (List Int) → Int → Option ((List Int))
  | 0, _, _, _ => none
  | k + 1, x0, x1, x2 => if x2 < ((x0.length : Nat) : Int) then (if (0 : Int) ≤ x2 ∧ x2 < ((x0.length : Nat) : Int) then (if (0 : Int) ≤ x2 ∧ x2 < ((x1.length : Nat) : Int) then laws_toByteS.p7 k x0 (x1.set x2.toNat (x0.getD x2.toNat (0 : Int))) (wrap64 (x2 + (1 : Int)))
        else none)
      else none)
    else some x1
noncomputable def laws_toByteS.f (k : Nat) (a0 : (List Int)) : Option ((List Int)) := if (0 : Int) ≤ ((a0.length : Nat) : Int) ∧ ((a0.length : Nat) : Int) ≤ ((a0.length : Nat) : Int) ∧ ((a0.length : Nat) : Int) ≤ lim then laws_toByteS.p7 k a0 (List.replicate ((a0.length : Nat) : Int).toNat (0 : Int)) (0 : Int)
  else none
/-! spec.GetNum -/
noncomputable def spec_GetNum.p13 : Nat → (List Int) → Int → Int → Int → Int → Option (Int × Int × Bool)
  | 0, _, _, _, _, _ => none
  | k + 1, x0, x1, x2, x3, x4 => if x4 < (9 : Int) then (if (wrap64 (x1 + x4)) < ((x0.length : Nat) : Int) then (if (0 : Int) ≤ (wrap64 (x1 + x4)) ∧ (wrap64 (x1 + x4)) < ((x0.length : Nat) : Int) then (if (wrap64 ((x0.getD (wrap64 (x1 + x4)).toNat (0 : Int)))) < (128 : Int) then (if (wrap64 ((x0.getD (wrap64 (x1 + x4)).toNat (0 : Int)))) = (0 : Int) then (if (0 : Int) < x4 then some ((0 : Int), (0 : Int), false)
              else some ((wrap64 (x2 + (wrap64 ((Int.tmod (wrap64 ((x0.getD (wrap64 (x1 + x4)).toNat (0 : Int)))) (128 : Int)) * x3)))), (wrap64 ((wrap64 (x1 + x4)) + (1 : Int))), true))
            else some ((wrap64 (x2 + (wrap64 ((Int.tmod (wrap64 ((x0.getD (wrap64 (x1 + x4)).toNat (0 : Int)))) (128 : Int)) * x3)))), (wrap64 ((wrap64 (x1 + x4)) + (1 : Int))), true))
          else spec_GetNum.p13 k x0 x1 (wrap64 (x2 + (wrap64 ((Int.tmod (wrap64 ((x0.getD (wrap64 (x1 + x4)).toNat (0 : Int)))) (128 : Int)) * x3)))) (wrap64 (x3 * (128 : Int))) (wrap64 (x4 + (1 : Int))))
        else none)
      else some ((0 : Int), (0 : Int), false))
    else some ((0 : Int), (0 : Int), false)
noncomputable def spec_GetNum.f (k : Nat) (a0 : (List Int)) (a1 : Int) : Option (Int × Int × Bool) := if a1 < (0 : Int) then some ((0 : Int), (0 : Int), false)
  else if ((a0.length : Nat) : Int) ≤ a1 then some ((0 : Int), (0 : Int), false)
  else spec_GetNum.p13 k a0 a1 (0 : Int) (1 : Int) (0 : Int)
/-! spec.GetText -/
noncomputable def spec_GetText.f (k : Nat) (a0 : (List Int)) (a1 : Int) : Option (ByteArray × Int × Bool) := (spec_GetNum.f k a0 a1).bind fun r1 =>
  if r1.2.2 = true then (if (wrap64 (((a0.length : Nat) : Int) - r1.2.1)) < r1.1 then some ((⟨#[]⟩ : ByteArray), (0 : Int), false)
    else if (0 : Int) ≤ r1.2.1 ∧ r1.2.1 ≤ (wrap64 (r1.2.1 + r1.1)) ∧ (wrap64 (r1.2.1 + r1.1)) ≤ ((a0.length : Nat) : Int) then some ((bytesOf (List.take ((wrap64 (r1.2.1 + r1.1)).toNat - r1.2.1.toNat) (a0.drop r1.2.1.toNat))), (wrap64 (r1.2.1 + r1.1)), true)
    else none)
  else some ((⟨#[]⟩ : ByteArray), (0 : Int), false)
/-! spec.l1In -/
noncomputable def spec_l1In.f (a0 : Int) (a1 : Int) (a2 : Int) : Option (Bool) := if a1 ≤ a0 then some (decide (a0 ≤ a2))
  else some false
/-! spec.PlaceOk -/
noncomputable def spec_PlaceOk.f (a0 : Int) : Option (Bool) := if (0 : Int) < a0 then ((spec_l1In.f (wrap64 ((Int.tdiv a0 (4294967296 : Int)))) (1 : Int) (30 : Int)).bind fun r1 =>
    if r1 = true then ((spec_l1In.f (Int.tmod a0 (4294967296 : Int)) (1 : Int) (60 : Int)).bind fun r2 =>
      some r2)
    else some false)
  else some false
/-! spec.EpochOf -/
noncomputable def spec_EpochOf.f (a0 : Int) : Option (Int) := (spec_PlaceOk.f a0).bind fun r1 =>
  if r1 = true then some (wrap64 ((Int.tdiv a0 (4294967296 : Int))))
  else some (0 : Int)
/-! spec.EntryOk -/
noncomputable def spec_EntryOk.p6 : Nat → Entry → Option (Bool)
  | 0, _ => none
  | k + 1, x0 => if x0.2.2.1 = true then (if (0 : Int) < x0.2.1 then some (decide (x0.2.2.2.1 = (⟨#[]⟩ : ByteArray)))
      else some false)
    else some true
noncomputable def spec_EntryOk.f (k : Nat) (a0 : Entry) : Option (Bool) := (spec_PlaceOk.f a0.1).bind fun r1 =>
  if r1 = true then ((spec_l1In.f a0.2.1 (0 : Int) (30 : Int)).bind fun r2 =>
    if r2 = true then (if (0 : Int) < a0.2.1 then ((spec_EpochOf.f a0.1).bind fun r3 =>
        if a0.2.1 ≤ r3 then some false
        else if (40 : Int) < ((a0.2.2.2.1.size : Nat) : Int) then some false
        else spec_EntryOk.p6 k a0)
      else if (40 : Int) < ((a0.2.2.2.1.size : Nat) : Int) then some false
      else spec_EntryOk.p6 k a0)
    else some false)
  else some false
/-! spec.EntryRead -/
noncomputable def spec_EntryRead.f (k : Nat) (a0 : (List Int)) (a1 : Int) : Option (Entry × Int × Bool) := (spec_GetNum.f k a0 a1).bind fun r1 =>
  if r1.2.2 = true then ((spec_GetNum.f k a0 r1.2.1).bind fun r2 =>
    if r2.2.2 = true then ((spec_GetNum.f k a0 r2.2.1).bind fun r3 =>
      if r3.2.2 = true then (if (1 : Int) < r3.1 then some (((0 : Int), ((0 : Int), (false, ((⟨#[]⟩ : ByteArray), ())))), (0 : Int), false)
        else (spec_GetText.f k a0 r3.2.1).bind fun r4 =>
        if r4.2.2 = true then ((spec_EntryOk.f k (r1.1, (r2.1, ((decide (r3.1 = (1 : Int))), (r4.1, ()))))).bind fun r5 =>
          if r5 = true then some ((r1.1, (r2.1, ((decide (r3.1 = (1 : Int))), (r4.1, ())))), r4.2.1, true)
          else some (((0 : Int), ((0 : Int), (false, ((⟨#[]⟩ : ByteArray), ())))), (0 : Int), false))
        else some (((0 : Int), ((0 : Int), (false, ((⟨#[]⟩ : ByteArray), ())))), (0 : Int), false))
      else some (((0 : Int), ((0 : Int), (false, ((⟨#[]⟩ : ByteArray), ())))), (0 : Int), false))
    else some (((0 : Int), ((0 : Int), (false, ((⟨#[]⟩ : ByteArray), ())))), (0 : Int), false))
  else some (((0 : Int), ((0 : Int), (false, ((⟨#[]⟩ : ByteArray), ())))), (0 : Int), false)
/-! spec.l6List -/
noncomputable def spec_l6List.p9 : Nat → (List Entry) → Int → Option (Bool)
  | 0, _, _ => none
  | k + 1, x0, x1 => if x1 < ((x0.length : Nat) : Int) then (if (0 : Int) ≤ x1 ∧ x1 < ((x0.length : Nat) : Int) then ((spec_EntryOk.f k (x0.getD x1.toNat ((0 : Int), ((0 : Int), (false, ((⟨#[]⟩ : ByteArray), ())))))).bind fun r1 =>
        if r1 = true then spec_l6List.p9 k x0 (wrap64 (x1 + (1 : Int)))
        else some false)
      else none)
    else some true
noncomputable def spec_l6List.f (k : Nat) (a0 : (List Entry)) (a1 : Int) : Option (Bool) := if a1 < ((a0.length : Nat) : Int) then some false
  else spec_l6List.p9 k a0 (0 : Int)
/-! spec.l6Asc -/
noncomputable def spec_l6Asc.p5 : Nat → (List Entry) → Int → Option (Bool)
  | 0, _, _ => none
  | k + 1, x0, x1 => if x1 < ((x0.length : Nat) : Int) then (if (0 : Int) ≤ (wrap64 (x1 - (1 : Int))) ∧ (wrap64 (x1 - (1 : Int))) < ((x0.length : Nat) : Int) then (if (0 : Int) ≤ x1 ∧ x1 < ((x0.length : Nat) : Int) then (if (x0.getD x1.toNat ((0 : Int), ((0 : Int), (false, ((⟨#[]⟩ : ByteArray), ()))))).1 ≤ (x0.getD (wrap64 (x1 - (1 : Int))).toNat ((0 : Int), ((0 : Int), (false, ((⟨#[]⟩ : ByteArray), ()))))).1 then some false
          else spec_l6Asc.p5 k x0 (wrap64 (x1 + (1 : Int))))
        else none)
      else none)
    else some true
noncomputable def spec_l6Asc.f (k : Nat) (a0 : (List Entry)) : Option (Bool) := spec_l6Asc.p5 k a0 (1 : Int)
/-! spec.StoreOk -/
noncomputable def spec_StoreOk.f (k : Nat) (a0 : Store) : Option (Bool) := (spec_l6List.f k a0.1 (200 : Int)).bind fun r1 =>
  if r1 = true then ((spec_l6List.f k a0.2.1 (20 : Int)).bind fun r2 =>
    if r2 = true then ((spec_l6Asc.f k a0.1).bind fun r3 =>
      if r3 = true then ((spec_l1In.f a0.2.2.1 (0 : Int) (30 : Int)).bind fun r4 =>
        some r4)
      else some false)
    else some false)
  else some false
/-! spec.StoreRead -/
mutual
noncomputable def spec_StoreRead.p15 : Nat → (List Int) → Int → Bool → Int → Int → Store → Store → Option (Store × Bool)
  | 0, _, _, _, _, _, _, _ => none
  | k + 1, x0, x1, x2, x3, x4, x5, x6 => if x4 < x3 then (if x2 = true then ((spec_EntryRead.f k x0 x1).bind fun r3 =>
        if (((x6.1.length : Nat) : Int) + ((([r3.1] : List Entry).length : Nat) : Int)) ≤ lim then spec_StoreRead.p15 k x0 r3.2.1 r3.2.2 x3 (wrap64 (x4 + (1 : Int))) x5 ((x6.1 ++ ([r3.1] : List Entry)), x6.2)
        else none)
      else spec_StoreRead.p26 k x0 x1 x2 x5 x6)
    else spec_StoreRead.p26 k x0 x1 x2 x5 x6
noncomputable def spec_StoreRead.p26 : Nat → (List Int) → Int → Bool → Store → Store → Option (Store × Bool)
  | 0, _, _, _, _, _ => none
  | k + 1, x0, x1, x2, x3, x4 => if x2 = true then (if x1 = ((x0.length : Nat) : Int) then ((spec_StoreOk.f k x4).bind fun r4 =>
        if r4 = true then some (x4, true)
        else some ((([] : List Entry), (([] : List Entry), ((0 : Int), ()))), false))
      else some ((([] : List Entry), (([] : List Entry), ((0 : Int), ()))), false))
    else some ((([] : List Entry), (([] : List Entry), ((0 : Int), ()))), false)
end
noncomputable def spec_StoreRead.f (k : Nat) (a0 : (List Int)) : Option (Store × Bool) := (spec_GetNum.f k a0 (0 : Int)).bind fun r1 =>
  if r1.2.2 = true then ((spec_GetNum.f k a0 r1.2.1).bind fun r2 =>
    spec_StoreRead.p15 k a0 r2.2.1 r2.2.2 r2.1 (0 : Int) (([] : List Entry), (([] : List Entry), ((0 : Int), ()))) (([] : List Entry), (([] : List Entry), (r1.1, ()))))
  else some ((([] : List Entry), (([] : List Entry), ((0 : Int), ()))), false)
/-! impl.GetNum -/
noncomputable def impl_GetNum.p11 : Nat → (List Int) → Int → Int → Int → Option (Int × Int × Bool)
  | 0, _, _, _, _ => none
  | k + 1, x0, x1, x2, x3 => if x3 < (9 : Int) then (if x3 < (wrap64 (((x0.length : Nat) : Int) - x1)) then (if (0 : Int) ≤ (wrap64 (x1 + x3)) ∧ (wrap64 (x1 + x3)) < ((x0.length : Nat) : Int) then (if (0 : Int) ≤ (wrap64 ((7 : Int) * x3)) then (if (127 : Int) < (wrap64 ((x0.getD (wrap64 (x1 + x3)).toNat (0 : Int)))) then impl_GetNum.p11 k x0 x1 (orK .i64 x2 (shlK .i64 (andK .i64 (wrap64 ((x0.getD (wrap64 (x1 + x3)).toNat (0 : Int)))) (127 : Int)) (wrap64 ((7 : Int) * x3)))) (wrap64 (x3 + (1 : Int)))
            else if (0 : Int) < x3 then (if (wrap64 ((x0.getD (wrap64 (x1 + x3)).toNat (0 : Int)))) = (0 : Int) then some ((0 : Int), (0 : Int), false)
              else some ((orK .i64 x2 (shlK .i64 (andK .i64 (wrap64 ((x0.getD (wrap64 (x1 + x3)).toNat (0 : Int)))) (127 : Int)) (wrap64 ((7 : Int) * x3)))), (wrap64 ((wrap64 (x1 + x3)) + (1 : Int))), true))
            else some ((orK .i64 x2 (shlK .i64 (andK .i64 (wrap64 ((x0.getD (wrap64 (x1 + x3)).toNat (0 : Int)))) (127 : Int)) (wrap64 ((7 : Int) * x3)))), (wrap64 ((wrap64 (x1 + x3)) + (1 : Int))), true))
          else none)
        else none)
      else some ((0 : Int), (0 : Int), false))
    else some ((0 : Int), (0 : Int), false)
noncomputable def impl_GetNum.f (k : Nat) (a0 : (List Int)) (a1 : Int) : Option (Int × Int × Bool) := if a1 < (0 : Int) then some ((0 : Int), (0 : Int), false)
  else impl_GetNum.p11 k a0 a1 (0 : Int) (0 : Int)
/-! impl.reader).num -/
noncomputable def impl_reader_num.f (k : Nat) (a0 : reader) : Option (Int × reader) := (impl_GetNum.f k a0.1 a0.2.1).bind fun r1 =>
  if a0.2.2.1 = true then some ((0 : Int), (a0.1, (a0.2.1, (true, a0.2.2.2))))
  else if r1.2.2 = true then some (r1.1, (a0.1, (r1.2.1, a0.2.2)))
  else some ((0 : Int), (a0.1, (a0.2.1, (true, a0.2.2.2))))
/-! impl.reader).count -/
noncomputable def impl_reader_count.f (k : Nat) (a0 : reader) (a1 : Int) : Option (Int × reader) := (impl_reader_num.f k a0).bind fun r1 =>
  if a1 < r1.1 then some ((0 : Int), (r1.2.1, (r1.2.2.1, (true, r1.2.2.2.2))))
  else some (r1.1, r1.2)
/-! impl.reader).done -/
noncomputable def impl_reader_done.f (a0 : reader) : Option (Bool × reader) := if a0.2.2.1 = true then some (false, a0)
  else some ((decide (a0.2.1 = ((a0.1.length : Nat) : Int))), a0)
/-! impl.within -/
noncomputable def impl_within.f (a0 : Int) (a1 : Int) (a2 : Int) : Option (Bool) := if a1 ≤ a0 then some (decide (a0 ≤ a2))
  else some false
/-! impl.isEpoch -/
noncomputable def impl_isEpoch.f (a0 : Int) : Option (Bool) := (impl_within.f a0 (1 : Int) (30 : Int)).bind fun r1 =>
  some r1
/-! impl.isOff -/
noncomputable def impl_isOff.f (a0 : Int) : Option (Bool) := (impl_within.f a0 (1 : Int) (60 : Int)).bind fun r1 =>
  some r1
/-! impl.PlaceOk -/
noncomputable def impl_PlaceOk.f (a0 : Int) : Option (Bool) := (impl_isEpoch.f (wrap64 ((Int.tdiv a0 (4294967296 : Int))))).bind fun r1 =>
  if r1 = true then ((impl_isOff.f (Int.tmod a0 (4294967296 : Int))).bind fun r2 =>
    some r2)
  else some false
/-! impl.dataOk -/
noncomputable def impl_dataOk.f (a0 : ByteArray) : Option (Bool) := some (decide (((a0.size : Nat) : Int) ≤ (40 : Int)))
/-! impl.EpochOf -/
noncomputable def impl_EpochOf.f (a0 : Int) : Option (Int) := (impl_PlaceOk.f a0).bind fun r1 =>
  if r1 = true then some (wrap64 ((Int.tdiv a0 (4294967296 : Int))))
  else some (0 : Int)
/-! impl.EntryOk -/
mutual
noncomputable def impl_EntryOk.p4 : Nat → Bool → Entry → Option (Bool)
  | 0, _, _ => none
  | k + 1, x0, x1 => if x1.2.2.1 = true then (if (0 : Int) < x1.2.1 then impl_EntryOk.p6 k x0 (decide (x1.2.2.2.1 = (⟨#[]⟩ : ByteArray))) x1
      else impl_EntryOk.p6 k x0 false x1)
    else impl_EntryOk.p6 k x0 true x1
noncomputable def impl_EntryOk.p6 : Nat → Bool → Bool → Entry → Option (Bool)
  | 0, _, _, _ => none
  | k + 1, x0, x1, x2 => (impl_PlaceOk.f x2.1).bind fun r3 =>
    if r3 = true then (if x0 = true then (if x1 = true then ((impl_dataOk.f x2.2.2.2.1).bind fun r4 =>
          some r4)
        else some false)
      else some false)
    else some false
end
noncomputable def impl_EntryOk.f (k : Nat) (a0 : Entry) : Option (Bool) := (impl_within.f a0.2.1 (0 : Int) (30 : Int)).bind fun r1 =>
  if r1 = true then (if a0.2.1 = (0 : Int) then impl_EntryOk.p4 k true a0
    else (impl_EpochOf.f a0.1).bind fun r2 =>
    impl_EntryOk.p4 k (decide (r2 < a0.2.1)) a0)
  else impl_EntryOk.p4 k false a0
/-! impl.entriesOk -/
noncomputable def impl_entriesOk.p5 : Nat → (List Entry) → Int → Int → Option (Bool)
  | 0, _, _, _ => none
  | k + 1, x0, x1, x2 => if x2 < x1 then (if (0 : Int) ≤ x2 ∧ x2 < ((x0.length : Nat) : Int) then ((impl_EntryOk.f k (x0.getD x2.toNat ((0 : Int), ((0 : Int), (false, ((⟨#[]⟩ : ByteArray), ())))))).bind fun r1 =>
        if r1 = true then impl_entriesOk.p5 k x0 x1 (wrap64 (x2 + (1 : Int)))
        else some false)
      else none)
    else some true
noncomputable def impl_entriesOk.f (k : Nat) (a0 : (List Entry)) : Option (Bool) := impl_entriesOk.p5 k a0 ((a0.length : Nat) : Int) (0 : Int)
/-! impl.placesAscend -/
noncomputable def impl_placesAscend.p5 : Nat → (List Entry) → (List Entry) → Int → Int → Option (Bool)
  | 0, _, _, _, _ => none
  | k + 1, x0, x1, x2, x3 => if x3 < x2 then (if (0 : Int) ≤ x3 ∧ x3 < ((x1.length : Nat) : Int) then (if (0 : Int) < x3 then (if (0 : Int) ≤ (wrap64 (x3 - (1 : Int))) ∧ (wrap64 (x3 - (1 : Int))) < ((x0.length : Nat) : Int) then (if (x1.getD x3.toNat ((0 : Int), ((0 : Int), (false, ((⟨#[]⟩ : ByteArray), ()))))).1 ≤ (x0.getD (wrap64 (x3 - (1 : Int))).toNat ((0 : Int), ((0 : Int), (false, ((⟨#[]⟩ : ByteArray), ()))))).1 then some false
            else impl_placesAscend.p5 k x0 x1 x2 (wrap64 (x3 + (1 : Int))))
          else none)
        else impl_placesAscend.p5 k x0 x1 x2 (wrap64 (x3 + (1 : Int))))
      else none)
    else some true
noncomputable def impl_placesAscend.f (k : Nat) (a0 : (List Entry)) : Option (Bool) := impl_placesAscend.p5 k a0 a0 ((a0.length : Nat) : Int) (0 : Int)
/-! impl.StoreOk -/
noncomputable def impl_StoreOk.f (k : Nat) (a0 : Store) : Option (Bool) := if (200 : Int) < ((a0.1.length : Nat) : Int) then some false
  else if (20 : Int) < ((a0.2.1.length : Nat) : Int) then some false
  else (impl_entriesOk.f k a0.1).bind fun r1 =>
  if r1 = true then ((impl_entriesOk.f k a0.2.1).bind fun r2 =>
    if r2 = true then ((impl_placesAscend.f k a0.1).bind fun r3 =>
      if r3 = true then ((impl_within.f a0.2.2.1 (0 : Int) (30 : Int)).bind fun r4 =>
        some r4)
      else some false)
    else some false)
  else some false
/-! impl.reader).flag -/
noncomputable def impl_reader_flag.f (k : Nat) (a0 : reader) : Option (Bool × reader) := (impl_reader_count.f k a0 (1 : Int)).bind fun r1 =>
  some ((decide (r1.1 = (1 : Int))), r1.2)
/-! impl.reader).text -/
noncomputable def impl_reader_text.f (k : Nat) (a0 : reader) : Option (ByteArray × reader) := (impl_reader_num.f k a0).bind fun r1 =>
  if r1.2.2.2.1 = true then some ((⟨#[]⟩ : ByteArray), (r1.2.1, (r1.2.2.1, (true, r1.2.2.2.2))))
  else if (wrap64 (((r1.2.1.length : Nat) : Int) - r1.2.2.1)) < r1.1 then some ((⟨#[]⟩ : ByteArray), (r1.2.1, (r1.2.2.1, (true, r1.2.2.2.2))))
  else if (0 : Int) ≤ (wrap64 ((wrap64 (r1.2.2.1 + r1.1)) - r1.1)) ∧ (wrap64 ((wrap64 (r1.2.2.1 + r1.1)) - r1.1)) ≤ (wrap64 (r1.2.2.1 + r1.1)) ∧ (wrap64 (r1.2.2.1 + r1.1)) ≤ ((r1.2.1.length : Nat) : Int) then some ((bytesOf (List.take ((wrap64 (r1.2.2.1 + r1.1)).toNat - (wrap64 ((wrap64 (r1.2.2.1 + r1.1)) - r1.1)).toNat) (r1.2.1.drop (wrap64 ((wrap64 (r1.2.2.1 + r1.1)) - r1.1)).toNat))), (r1.2.1, ((wrap64 (r1.2.2.1 + r1.1)), r1.2.2.2)))
  else none
/-! impl.reader).entry -/
noncomputable def impl_reader_entry.f (k : Nat) (a0 : reader) : Option (Entry × reader) := (impl_reader_num.f k a0).bind fun r1 =>
  (impl_reader_num.f k r1.2).bind fun r2 =>
  (impl_reader_flag.f k r2.2).bind fun r3 =>
  (impl_reader_text.f k r3.2).bind fun r4 =>
  if r4.2.2.2.1 = true then some (((0 : Int), ((0 : Int), (false, ((⟨#[]⟩ : ByteArray), ())))), (r4.2.1, (r4.2.2.1, (true, r4.2.2.2.2))))
  else (impl_EntryOk.f k (r1.1, (r2.1, (r3.1, (r4.1, ()))))).bind fun r5 =>
  if r5 = true then some ((r1.1, (r2.1, (r3.1, (r4.1, ())))), r4.2)
  else some (((0 : Int), ((0 : Int), (false, ((⟨#[]⟩ : ByteArray), ())))), (r4.2.1, (r4.2.2.1, (true, r4.2.2.2.2))))
/-! impl.StoreRead -/
mutual
noncomputable def impl_StoreRead.p13 : Nat → Int → Int → Store → Store → reader → Option (Store × Bool)
  | 0, _, _, _, _, _ => none
  | k + 1, x0, x1, x2, x3, x4 => if x1 < x0 then (if x4.2.2.1 = true then impl_StoreRead.p20 k x2 x3 x4
      else (impl_reader_entry.f k x4).bind fun r3 =>
      if (((x3.1.length : Nat) : Int) + ((([r3.1] : List Entry).length : Nat) : Int)) ≤ lim then impl_StoreRead.p13 k x0 (wrap64 (x1 + (1 : Int))) x2 ((x3.1 ++ ([r3.1] : List Entry)), x3.2) r3.2
      else none)
    else impl_StoreRead.p20 k x2 x3 x4
noncomputable def impl_StoreRead.p20 : Nat → Store → Store → reader → Option (Store × Bool)
  | 0, _, _, _ => none
  | k + 1, x0, x1, x2 => (impl_reader_done.f x2).bind fun r4 =>
    if r4.1 = true then ((impl_StoreOk.f k x1).bind fun r5 =>
      if r5 = true then some (x1, true)
      else some ((([] : List Entry), (([] : List Entry), ((0 : Int), ()))), false))
    else some ((([] : List Entry), (([] : List Entry), ((0 : Int), ()))), false)
end
noncomputable def impl_StoreRead.f (k : Nat) (a0 : (List Int)) : Option (Store × Bool) := (impl_reader_num.f k (a0, ((0 : Int), (false, ())))).bind fun r1 =>
  (impl_reader_count.f k r1.2 (200 : Int)).bind fun r2 =>
  impl_StoreRead.p13 k r2.1 (0 : Int) (([] : List Entry), (([] : List Entry), ((0 : Int), ()))) (([] : List Entry), (([] : List Entry), (r1.1, ()))) r2.2
/-! laws.eqEntry -/
noncomputable def laws_eqEntry.f (a0 : Entry) (a1 : Entry) : Option (Bool) := if a0.1 = a1.1 then (if a0.2.1 = a1.2.1 then (if a0.2.2.1 = a1.2.2.1 then (if a0.2.2.2.1 = a1.2.2.2.1 then some true
        else some false)
      else some false)
    else some false)
  else some false
/-! laws.eqEntryS -/
noncomputable def laws_eqEntryS.p9 : Nat → (List Entry) → (List Entry) → Int → Option (Bool)
  | 0, _, _, _ => none
  | k + 1, x0, x1, x2 => if x2 < ((x0.length : Nat) : Int) then (if (0 : Int) ≤ x2 ∧ x2 < ((x0.length : Nat) : Int) then (if (0 : Int) ≤ x2 ∧ x2 < ((x1.length : Nat) : Int) then ((laws_eqEntry.f (x0.getD x2.toNat ((0 : Int), ((0 : Int), (false, ((⟨#[]⟩ : ByteArray), ()))))) (x1.getD x2.toNat ((0 : Int), ((0 : Int), (false, ((⟨#[]⟩ : ByteArray), ())))))).bind fun r1 =>
          if r1 = true then laws_eqEntryS.p9 k x0 x1 (wrap64 (x2 + (1 : Int)))
          else some false)
        else none)
      else none)
    else some true
noncomputable def laws_eqEntryS.f (k : Nat) (a0 : (List Entry)) (a1 : (List Entry)) : Option (Bool) := if ((a0.length : Nat) : Int) = ((a1.length : Nat) : Int) then laws_eqEntryS.p9 k a0 a1 (0 : Int)
  else some false
/-! laws.eqStore -/
noncomputable def laws_eqStore.f (k : Nat) (a0 : Store) (a1 : Store) : Option (Bool) := (laws_eqEntryS.f k a0.1 a1.1).bind fun r1 =>
  if r1 = true then ((laws_eqEntryS.f k a0.2.1 a1.2.1).bind fun r2 =>
    if r2 = true then (if a0.2.2.1 = a1.2.2.1 then some true
      else some false)
    else some false)
  else some false
/-! laws.eqByteS -/
noncomputable def laws_eqByteS.p9 : Nat → (List Int) → (List Int) → Int → Option (Bool)
  | 0, _, _, _ => none
  | k + 1, x0, x1, x2 => if x2 < ((x0.length : Nat) : Int) then (if (0 : Int) ≤ x2 ∧ x2 < ((x0.length : Nat) : Int) then (if (0 : Int) ≤ x2 ∧ x2 < ((x1.length : Nat) : Int) then (if (x0.getD x2.toNat (0 : Int)) = (x1.getD x2.toNat (0 : Int)) then laws_eqByteS.p9 k x0 x1 (wrap64 (x2 + (1 : Int)))
          else some false)
        else none)
      else none)
    else some true
noncomputable def laws_eqByteS.f (k : Nat) (a0 : (List Int)) (a1 : (List Int)) : Option (Bool) := if ((a0.length : Nat) : Int) = ((a1.length : Nat) : Int) then laws_eqByteS.p9 k a0 a1 (0 : Int)
  else some false
/-! laws.markByteS -/
noncomputable def laws_markByteS.p5 : Nat → (List Int) → Int → Int → Option (Int × (List Int))
  | 0, _, _, _ => none
  | k + 1, x0, x1, x2 => if x2 < ((x0.length : Nat) : Int) then (if (0 : Int) ≤ x2 ∧ x2 < ((x0.length : Nat) : Int) then laws_markByteS.p5 k (x0.set x2.toNat (IntKind.wrap .u8 (x1))) (wrap64 (x1 + (1 : Int))) (wrap64 (x2 + (1 : Int)))
      else none)
    else some (x1, x0)
noncomputable def laws_markByteS.f (k : Nat) (a0 : (List Int)) (a1 : Int) : Option (Int × (List Int)) := laws_markByteS.p5 k a0 a1 (0 : Int)
/-! laws.markText -/
noncomputable def laws_markText.p9 : Nat → Int → ByteArray → Option (ByteArray)
  | 0, _, _ => none
  | k + 1, x0, x1 => if (0 : Int) < x0 then (if ((((bytesOf ([(IntKind.wrap .u8 ((wrap64 ((48 : Int) + (Int.tmod x0 (10 : Int))))))] : List Int)).size : Nat) : Int) + ((x1.size : Nat) : Int)) ≤ (9223372036854775807 : Int) then laws_markText.p9 k (wrap64 ((Int.tdiv x0 (10 : Int)))) ((bytesOf ([(IntKind.wrap .u8 ((wrap64 ((48 : Int) + (Int.tmod x0 (10 : Int))))))] : List Int)) ++ x1)
      else none)
    else if ((((⟨#[109]⟩ : ByteArray).size : Nat) : Int) + ((x1.size : Nat) : Int)) ≤ (9223372036854775807 : Int) then some ((⟨#[109]⟩ : ByteArray) ++ x1)
    else none
noncomputable def laws_markText.f (k : Nat) (a0 : Int) : Option (ByteArray) := if a0 ≤ (0 : Int) then some (⟨#[109, 48]⟩ : ByteArray)
  else laws_markText.p9 k a0 (⟨#[]⟩ : ByteArray)
/-! laws.markEntryS -/
noncomputable def laws_markEntryS.p5 : Nat → (List Entry) → Int → Int → Option (Int × (List Entry))
  | 0, _, _, _ => none
  | k + 1, x0, x1, x2 => if x2 < ((x0.length : Nat) : Int) then (if (0 : Int) ≤ x2 ∧ x2 < ((x0.length : Nat) : Int) then (if (0 : Int) ≤ x2 ∧ x2 < (((x0.set x2.toNat (x1, (x0.getD x2.toNat ((0 : Int), ((0 : Int), (false, ((⟨#[]⟩ : ByteArray), ()))))).2)).length : Nat) : Int) then (if (0 : Int) ≤ x2 ∧ x2 < ((((x0.set x2.toNat (x1, (x0.getD x2.toNat ((0 : Int), ((0 : Int), (false, ((⟨#[]⟩ : ByteArray), ()))))).2)).set x2.toNat (((x0.set x2.toNat (x1, (x0.getD x2.toNat ((0 : Int), ((0 : Int), (false, ((⟨#[]⟩ : ByteArray), ()))))).2)).getD x2.toNat ((0 : Int), ((0 : Int), (false, ((⟨#[]⟩ : ByteArray), ()))))).1, ((wrap64 (x1 + (1 : Int))), ((x0.set x2.toNat (x1, (x0.getD x2.toNat ((0 : Int), ((0 : Int), (false, ((⟨#[]⟩ : ByteArray), ()))))).2)).getD x2.toNat ((0 : Int), ((0 : Int), (false, ((⟨#[]⟩ : ByteArray), ()))))).2.2))).length : Nat) : Int) then ((laws_markText.f k (wrap64 ((wrap64 ((wrap64 (x1 + (1 : Int))) + (1 : Int))) + (1 : Int)))).bind fun r1 =>
            if (0 : Int) ≤ x2 ∧ x2 < (((((x0.set x2.toNat (x1, (x0.getD x2.toNat ((0 : Int), ((0 : Int), (false, ((⟨#[]⟩ : ByteArray), ()))))).2)).set x2.toNat (((x0.set x2.toNat (x1, (x0.getD x2.toNat ((0 : Int), ((0 : Int), (false, ((⟨#[]⟩ : ByteArray), ()))))).2)).getD x2.toNat ((0 : Int), ((0 : Int), (false, ((⟨#[]⟩ : ByteArray), ()))))).1, ((wrap64 (x1 + (1 : Int))), ((x0.set x2.toNat (x1, (x0.getD x2.toNat ((0 : Int), ((0 : Int), (false, ((⟨#[]⟩ : ByteArray), ()))))).2)).getD x2.toNat ((0 : Int), ((0 : Int), (false, ((⟨#[]⟩ : ByteArray), ()))))).2.2))).set x2.toNat ((((x0.set x2.toNat (x1, (x0.getD x2.toNat ((0 : Int), ((0 : Int), (false, ((⟨#[]⟩ : ByteArray), ()))))).2)).set x2.toNat (((x0.set x2.toNat (x1, (x0.getD x2.toNat ((0 : Int), ((0 : Int), (false, ((⟨#[]⟩ : ByteArray), ()))))).2)).getD x2.toNat ((0 : Int), ((0 : Int), (false, ((⟨#[]⟩ : ByteArray), ()))))).1, ((wrap64 (x1 + (1 : Int))), ((x0.set x2.toNat (x1, (x0.getD x2.toNat ((0 : Int), ((0 : Int), (false, ((⟨#[]⟩ : ByteArray), ()))))).2)).getD x2.toNat ((0 : Int), ((0 : Int), (false, ((⟨#[]⟩ : ByteArray), ()))))).2.2))).getD x2.toNat ((0 : Int), ((0 : Int), (false, ((⟨#[]⟩ : ByteArray), ()))))).1, ((((x0.set x2.toNat (x1, (x0.getD x2.toNat ((0 : Int), ((0 : Int), (false, ((⟨#[]⟩ : ByteArray), ()))))).2)).set x2.toNat (((x0.set x2.toNat (x1, (x0.getD x2.toNat ((0 : Int), ((0 : Int), (false, ((⟨#[]⟩ : ByteArray), ()))))).2)).getD x2.toNat ((0 : Int), ((0 : Int), (false, ((⟨#[]⟩ : ByteArray), ()))))).1, ((wrap64 (x1 + (1 : Int))), ((x0.set x2.toNat (x1, (x0.getD x2.toNat ((0 : Int), ((0 : Int), (false, ((⟨#[]⟩ : ByteArray), ()))))).2)).getD x2.toNat ((0 : Int), ((0 : Int), (false, ((⟨#[]⟩ : ByteArray), ()))))).2.2))).getD x2.toNat ((0 : Int), ((0 : Int), (false, ((⟨#[]⟩ : ByteArray), ()))))).2.1, ((decide ((Int.tmod (wrap64 ((wrap64 (x1 + (1 : Int))) + (1 : Int))) (3 : Int)) = (0 : Int))), (((x0.set x2.toNat (x1, (x0.getD x2.toNat ((0 : Int), ((0 : Int), (false, ((⟨#[]⟩ : ByteArray), ()))))).2)).set x2.toNat (((x0.set x2.toNat (x1, (x0.getD x2.toNat ((0 : Int), ((0 : Int), (false, ((⟨#[]⟩ : ByteArray), ()))))).2)).getD x2.toNat ((0 : Int), ((0 : Int), (false, ((⟨#[]⟩ : ByteArray), ()))))).1, ((wrap64 (x1 + (1 : Int))), ((x0.set x2.toNat (x1, (x0.getD x2.toNat ((0 : Int), ((0 : Int), (false, ((⟨#[]⟩ : ByteArray), ()))))).2)).getD x2.toNat ((0 : Int), ((0 : Int), (false, ((⟨#[]⟩ : ByteArray), ()))))).2.2))).getD x2.toNat ((0 : Int), ((0 : Int), (false, ((⟨#[]⟩ : ByteArray), ()))))).2.2.2)))).length : Nat) : Int) then laws_markEntryS.p5 k ((((x0.set x2.toNat (x1, (x0.getD x2.toNat ((0 : Int), ((0 : Int), (false, ((⟨#[]⟩ : ByteArray), ()))))).2)).set x2.toNat (((x0.set x2.toNat (x1, (x0.getD x2.toNat ((0 : Int), ((0 : Int), (false, ((⟨#[]⟩ : ByteArray), ()))))).2)).getD x2.toNat ((0 : Int), ((0 : Int), (false, ((⟨#[]⟩ : ByteArray), ()))))).1, ((wrap64 (x1 + (1 : Int))), ((x0.set x2.toNat (x1, (x0.getD x2.toNat ((0 : Int), ((0 : Int), (false, ((⟨#[]⟩ : ByteArray), ()))))).2)).getD x2.toNat ((0 : Int), ((0 : Int), (false, ((⟨#[]⟩ : ByteArray), ()))))).2.2))).set x2.toNat ((((x0.set x2.toNat (x1, (x0.getD x2.toNat ((0 : Int), ((0 : Int), (false, ((⟨#[]⟩ : ByteArray), ()))))).2)).set x2.toNat (((x0.set x2.toNat (x1, (x0.getD x2.toNat ((0 : Int), ((0 : Int), (false, ((⟨#[]⟩ : ByteArray), ()))))).2)).getD x2.toNat ((0 : Int), ((0 : Int), (false, ((⟨#[]⟩ : ByteArray), ()))))).1, ((wrap64 (x1 + (1 : Int))), ((x0.set x2.toNat (x1, (x0.getD x2.toNat ((0 : Int), ((0 : Int), (false, ((⟨#[]⟩ : ByteArray), ()))))).2)).getD x2.toNat ((0 : Int), ((0 : Int), (false, ((⟨#[]⟩ : ByteArray), ()))))).2.2))).getD x2.toNat ((0 : Int), ((0 : Int), (false, ((⟨#[]⟩ : ByteArray), ()))))).1, ((((x0.set x2.toNat (x1, (x0.getD x2.toNat ((0 : Int), ((0 : Int), (false, ((⟨#[]⟩ : ByteArray), ()))))).2)).set x2.toNat (((x0.set x2.toNat (x1, (x0.getD x2.toNat ((0 : Int), ((0 : Int), (false, ((⟨#[]⟩ : ByteArray), ()))))).2)).getD x2.toNat ((0 : Int), ((0 : Int), (false, ((⟨#[]⟩ : ByteArray), ()))))).1, ((wrap64 (x1 + (1 : Int))), ((x0.set x2.toNat (x1, (x0.getD x2.toNat ((0 : Int), ((0 : Int), (false, ((⟨#[]⟩ : ByteArray), ()))))).2)).getD x2.toNat ((0 : Int), ((0 : Int), (false, ((⟨#[]⟩ : ByteArray), ()))))).2.2))).getD x2.toNat ((0 : Int), ((0 : Int), (false, ((⟨#[]⟩ : ByteArray), ()))))).2.1, ((decide ((Int.tmod (wrap64 ((wrap64 (x1 + (1 : Int))) + (1 : Int))) (3 : Int)) = (0 : Int))), (((x0.set x2.toNat (x1, (x0.getD x2.toNat ((0 : Int), ((0 : Int), (false, ((⟨#[]⟩ : ByteArray), ()))))).2)).set x2.toNat (((x0.set x2.toNat (x1, (x0.getD x2.toNat ((0 : Int), ((0 : Int), (false, ((⟨#[]⟩ : ByteArray), ()))))).2)).getD x2.toNat ((0 : Int), ((0 : Int), (false, ((⟨#[]⟩ : ByteArray), ()))))).1, ((wrap64 (x1 + (1 : Int))), ((x0.set x2.toNat (x1, (x0.getD x2.toNat ((0 : Int), ((0 : Int), (false, ((⟨#[]⟩ : ByteArray), ()))))).2)).getD x2.toNat ((0 : Int), ((0 : Int), (false, ((⟨#[]⟩ : ByteArray), ()))))).2.2))).getD x2.toNat ((0 : Int), ((0 : Int), (false, ((⟨#[]⟩ : ByteArray), ()))))).2.2.2)))).set x2.toNat (((((x0.set x2.toNat (x1, (x0.getD x2.toNat ((0 : Int), ((0 : Int), (false, ((⟨#[]⟩ : ByteArray), ()))))).2)).set x2.toNat (((x0.set x2.toNat (x1, (x0.getD x2.toNat ((0 : Int), ((0 : Int), (false, ((⟨#[]⟩ : ByteArray), ()))))).2)).getD x2.toNat ((0 : Int), ((0 : Int), (false, ((⟨#[]⟩ : ByteArray), ()))))).1, ((wrap64 (x1 + (1 : Int))), ((x0.set x2.toNat (x1, (x0.getD x2.toNat ((0 : Int), ((0 : Int), (false, ((⟨#[]⟩ : ByteArray), ()))))).2)).getD x2.toNat ((0 : Int), ((0 : Int), (false, ((⟨#[]⟩ : ByteArray), ()))))).2.2))).set x2.toNat ((((x0.set x2.toNat (x1, (x0.getD x2.toNat ((0 : Int), ((0 : Int), (false, ((⟨#[]⟩ : ByteArray), ()))))).2)).set x2.toNat (((x0.set x2.toNat (x1, (x0.getD x2.toNat ((0 : Int), ((0 : Int), (false, ((⟨#[]⟩ : ByteArray), ()))))).2)).getD x2.toNat ((0 : Int), ((0 : Int), (false, ((⟨#[]⟩ : ByteArray), ()))))).1, ((wrap64 (x1 + (1 : Int))), ((x0.set x2.toNat (x1, (x0.getD x2.toNat ((0 : Int), ((0 : Int), (false, ((⟨#[]⟩ : ByteArray), ()))))).2)).getD x2.toNat ((0 : Int), ((0 : Int), (false, ((⟨#[]⟩ : ByteArray), ()))))).2.2))).getD x2.toNat ((0 : Int), ((0 : Int), (false, ((⟨#[]⟩ : ByteArray), ()))))).1, ((((x0.set x2.toNat (x1, (x0.getD x2.toNat ((0 : Int), ((0 : Int), (false, ((⟨#[]⟩ : ByteArray), ()))))).2)).set x2.toNat (((x0.set x2.toNat (x1, (x0.getD x2.toNat ((0 : Int), ((0 : Int), (false, ((⟨#[]⟩ : ByteArray), ()))))).2)).getD x2.toNat ((0 : Int), ((0 : Int), (false, ((⟨#[]⟩ : ByteArray), ()))))).1, ((wrap64 (x1 + (1 : Int))), ((x0.set x2.toNat (x1, (x0.getD x2.toNat ((0 : Int), ((0 : Int), (false, ((⟨#[]⟩ : ByteArray), ()))))).2)).getD x2.toNat ((0 : Int), ((0 : Int), (false, ((⟨#[]⟩ : ByteArray), ()))))).2.2))).getD x2.toNat ((0 : Int), ((0 : Int), (false, ((⟨#[]⟩ : ByteArray), ()))))).2.1, ((decide ((Int.tmod (wrap64 ((wrap64 (x1 + (1 : Int))) + (1 : Int))) (3 : Int)) = (0 : Int))), (((x0.set x2.toNat (x1, (x0.getD x2.toNat ((0 : Int), ((0 : Int), (false, ((⟨#[]⟩ : ByteArray), ()))))).2)).set x2.toNat (((x0.set x2.toNat (x1, (x0.getD x2.toNat ((0 : Int), ((0 : Int), (false, ((⟨#[]⟩ : ByteArray), ()))))).2)).getD x2.toNat ((0 : Int), ((0 : Int), (false, ((⟨#[]⟩ : ByteArray), ()))))).1, ((wrap64 (x1 + (1 : Int))), ((x0.set x2.toNat (x1, (x0.getD x2.toNat ((0 : Int), ((0 : Int), (false, ((⟨#[]⟩ : ByteArray), ()))))).2)).getD x2.toNat ((0 : Int), ((0 : Int), (false, ((⟨#[]⟩ : ByteArray), ()))))).2.2))).getD x2.toNat ((0 : Int), ((0 : Int), (false, ((⟨#[]⟩ : ByteArray), ()))))).2.2.2)))).getD x2.toNat ((0 : Int), ((0 : Int), (false, ((⟨#[]⟩ : ByteArray), ()))))).1, (((((x0.set x2.toNat (x1, (x0.getD x2.toNat ((0 : Int), ((0 : Int), (false, ((⟨#[]⟩ : ByteArray), ()))))).2)).set x2.toNat (((x0.set x2.toNat (x1, (x0.getD x2.toNat ((0 : Int), ((0 : Int), (false, ((⟨#[]⟩ : ByteArray), ()))))).2)).getD x2.toNat ((0 : Int), ((0 : Int), (false, ((⟨#[]⟩ : ByteArray), ()))))).1, ((wrap64 (x1 + (1 : Int))), ((x0.set x2.toNat (x1, (x0.getD x2.toNat ((0 : Int), ((0 : Int), (false, ((⟨#[]⟩ : ByteArray), ()))))).2)).getD x2.toNat ((0 : Int), ((0 : Int), (false, ((⟨#[]⟩ : ByteArray), ()))))).2.2))).set x2.toNat ((((x0.set x2.toNat (x1, (x0.getD x2.toNat ((0 : Int), ((0 : Int), (false, ((⟨#[]⟩ : ByteArray), ()))))).2)).set x2.toNat (((x0.set x2.toNat (x1, (x0.getD x2.toNat ((0 : Int), ((0 : Int), (false, ((⟨#[]⟩ : ByteArray), ()))))).2)).getD x2.toNat ((0 : Int), ((0 : Int), (false, ((⟨#[]⟩ : ByteArray), ()))))).1, ((wrap64 (x1 + (1 : Int))), ((x0.set x2.toNat (x1, (x0.getD x2.toNat ((0 : Int), ((0 : Int), (false, ((⟨#[]⟩ : ByteArray), ()))))).2)).getD x2.toNat ((0 : Int), ((0 : Int), (false, ((⟨#[]⟩ : ByteArray), ()))))).2.2))).getD x2.toNat ((0 : Int), ((0 : Int), (false, ((⟨#[]⟩ : ByteArray), ()))))).1, ((((x0.set x2.toNat (x1, (x0.getD x2.toNat ((0 : Int), ((0 : Int), (false, ((⟨#[]⟩ : ByteArray), ()))))).2)).set x2.toNat (((x0.set x2.toNat (x1, (x0.getD x2.toNat ((0 : Int), ((0 : Int), (false, ((⟨#[]⟩ : ByteArray), ()))))).2)).getD x2.toNat ((0 : Int), ((0 : Int), (false, ((⟨#[]⟩ : ByteArray), ()))))).1, ((wrap64 (x1 + (1 : Int))), ((x0.set x2.toNat (x1, (x0.getD x2.toNat ((0 : Int), ((0 : Int), (false, ((⟨#[]⟩ : ByteArray), ()))))).2)).getD x2.toNat ((0 : Int), ((0 : Int), (false, ((⟨#[]⟩ : ByteArray), ()))))).2.2))).getD x2.toNat ((0 : Int), ((0 : Int), (false, ((⟨#[]⟩ : ByteArray), ()))))).2.1, ((decide ((Int.tmod (wrap64 ((wrap64 (x1 + (1 : Int))) + (1 : Int))) (3 : Int)) = (0 : Int))), (((x0.set x2.toNat (x1, (x0.getD x2.toNat ((0 : Int), ((0 : Int), (false, ((⟨#[]⟩ : ByteArray), ()))))).2)).set x2.toNat (((x0.set x2.toNat (x1, (x0.getD x2.toNat ((0 : Int), ((0 : Int), (false, ((⟨#[]⟩ : ByteArray), ()))))).2)).getD x2.toNat ((0 : Int), ((0 : Int), (false, ((⟨#[]⟩ : ByteArray), ()))))).1, ((wrap64 (x1 + (1 : Int))), ((x0.set x2.toNat (x1, (x0.getD x2.toNat ((0 : Int), ((0 : Int), (false, ((⟨#[]⟩ : ByteArray), ()))))).2)).getD x2.toNat ((0 : Int), ((0 : Int), (false, ((⟨#[]⟩ : ByteArray), ()))))).2.2))).getD x2.toNat ((0 : Int), ((0 : Int), (false, ((⟨#[]⟩ : ByteArray), ()))))).2.2.2)))).getD x2.toNat ((0 : Int), ((0 : Int), (false, ((⟨#[]⟩ : ByteArray), ()))))).2.1, (((((x0.set x2.toNat (x1, (x0.getD x2.toNat ((0 : Int), ((0 : Int), (false, ((⟨#[]⟩ : ByteArray), ()))))).2)).set x2.toNat (((x0.set x2.toNat (x1, (x0.getD x2.toNat ((0 : Int), ((0 : Int), (false, ((⟨#[]⟩ : ByteArray), ()))))).2)).getD x2.toNat ((0 : Int), ((0 : Int), (false, ((⟨#[]⟩ : ByteArray), ()))))).1, ((wrap64 (x1 + (1 : Int))), ((x0.set x2.toNat (x1, (x0.getD x2.toNat ((0 : Int), ((0 : Int), (false, ((⟨#[]⟩ : ByteArray), ()))))).2)).getD x2.toNat ((0 : Int), ((0 : Int), (false, ((⟨#[]⟩ : ByteArray), ()))))).2.2))).set x2.toNat ((((x0.set x2.toNat (x1, (x0.getD x2.toNat ((0 : Int), ((0 : Int), (false, ((⟨#[]⟩ : ByteArray), ()))))).2)).set x2.toNat (((x0.set x2.toNat (x1, (x0.getD x2.toNat ((0 : Int), ((0 : Int), (false, ((⟨#[]⟩ : ByteArray), ()))))).2)).getD x2.toNat ((0 : Int), ((0 : Int), (false, ((⟨#[]⟩ : ByteArray), ()))))).1, ((wrap64 (x1 + (1 : Int))), ((x0.set x2.toNat (x1, (x0.getD x2.toNat ((0 : Int), ((0 : Int), (false, ((⟨#[]⟩ : ByteArray), ()))))).2)).getD x2.toNat ((0 : Int), ((0 : Int), (false, ((⟨#[]⟩ : ByteArray), ()))))).2.2))).getD x2.toNat ((0 : Int), ((0 : Int), (false, ((⟨#[]⟩ : ByteArray), ()))))).1, ((((x0.set x2.toNat (x1, (x0.getD x2.toNat ((0 : Int), ((0 : Int), (false, ((⟨#[]⟩ : ByteArray), ()))))).2)).set x2.toNat (((x0.set x2.toNat (x1, (x0.getD x2.toNat ((0 : Int), ((0 : Int), (false, ((⟨#[]⟩ : ByteArray), ()))))).2)).getD x2.toNat ((0 : Int), ((0 : Int), (false, ((⟨#[]⟩ : ByteArray), ()))))).1, ((wrap64 (x1 + (1 : Int))), ((x0.set x2.toNat (x1, (x0.getD x2.toNat ((0 : Int), ((0 : Int), (false, ((⟨#[]⟩ : ByteArray), ()))))).2)).getD x2.toNat ((0 : Int), ((0 : Int), (false, ((⟨#[]⟩ : ByteArray), ()))))).2.2))).getD x2.toNat ((0 : Int), ((0 : Int), (false, ((⟨#[]⟩ : ByteArray), ()))))).2.1, ((decide ((Int.tmod (wrap64 ((wrap64 (x1 + (1 : Int))) + (1 : Int))) (3 : Int)) = (0 : Int))), (((x0.set x2.toNat (x1, (x0.getD x2.toNat ((0 : Int), ((0 : Int), (false, ((⟨#[]⟩ : ByteArray), ()))))).2)).set x2.toNat (((x0.set x2.toNat (x1, (x0.getD x2.toNat ((0 : Int), ((0 : Int), (false, ((⟨#[]⟩ : ByteArray), ()))))).2)).getD x2.toNat ((0 : Int), ((0 : Int), (false, ((⟨#[]⟩ : ByteArray), ()))))).1, ((wrap64 (x1 + (1 : Int))), ((x0.set x2.toNat (x1, (x0.getD x2.toNat ((0 : Int), ((0 : Int), (false, ((⟨#[]⟩ : ByteArray), ()))))).2)).getD x2.toNat ((0 : Int), ((0 : Int), (false, ((⟨#[]⟩ : ByteArray), ()))))).2.2))).getD x2.toNat ((0 : Int), ((0 : Int), (false, ((⟨#[]⟩ : ByteArray), ()))))).2.2.2)))).getD x2.toNat ((0 : Int), ((0 : Int), (false, ((⟨#[]⟩ : ByteArray), ()))))).2.2.1, (r1, ((((x0.set x2.toNat (x1, (x0.getD x2.toNat ((0 : Int), ((0 : Int), (false, ((⟨#[]⟩ : ByteArray), ()))))).2)).set x2.toNat (((x0.set x2.toNat (x1, (x0.getD x2.toNat ((0 : Int), ((0 : Int), (false, ((⟨#[]⟩ : ByteArray), ()))))).2)).getD x2.toNat ((0 : Int), ((0 : Int), (false, ((⟨#[]⟩ : ByteArray), ()))))).1, ((wrap64 (x1 + (1 : Int))), ((x0.set x2.toNat (x1, (x0.getD x2.toNat ((0 : Int), ((0 : Int), (false, ((⟨#[]⟩ : ByteArray), ()))))).2)).getD x2.toNat ((0 : Int), ((0 : Int), (false, ((⟨#[]⟩ : ByteArray), ()))))).2.2))).set x2.toNat ((((x0.set x2.toNat (x1, (x0.getD x2.toNat ((0 : Int), ((0 : Int), (false, ((⟨#[]⟩ : ByteArray), ()))))).2)).set x2.toNat (((x0.set x2.toNat (x1, (x0.getD x2.toNat ((0 : Int), ((0 : Int), (false, ((⟨#[]⟩ : ByteArray), ()))))).2)).getD x2.toNat ((0 : Int), ((0 : Int), (false, ((⟨#[]⟩ : ByteArray), ()))))).1, ((wrap64 (x1 + (1 : Int))), ((x0.set x2.toNat (x1, (x0.getD x2.toNat ((0 : Int), ((0 : Int), (false, ((⟨#[]⟩ : ByteArray), ()))))).2)).getD x2.toNat ((0 : Int), ((0 : Int), (false, ((⟨#[]⟩ : ByteArray), ()))))).2.2))).getD x2.toNat ((0 : Int), ((0 : Int), (false, ((⟨#[]⟩ : ByteArray), ()))))).1, ((((x0.set x2.toNat (x1, (x0.getD x2.toNat ((0 : Int), ((0 : Int), (false, ((⟨#[]⟩ : ByteArray), ()))))).2)).set x2.toNat (((x0.set x2.toNat (x1, (x0.getD x2.toNat ((0 : Int), ((0 : Int), (false, ((⟨#[]⟩ : ByteArray), ()))))).2)).getD x2.toNat ((0 : Int), ((0 : Int), (false, ((⟨#[]⟩ : ByteArray), ()))))).1, ((wrap64 (x1 + (1 : Int))), ((x0.set x2.toNat (x1, (x0.getD x2.toNat ((0 : Int), ((0 : Int), (false, ((⟨#[]⟩ : ByteArray), ()))))).2)).getD x2.toNat ((0 : Int), ((0 : Int), (false, ((⟨#[]⟩ : ByteArray), ()))))).2.2))).getD x2.toNat ((0 : Int), ((0 : Int), (false, ((⟨#[]⟩ : ByteArray), ()))))).2.1, ((decide ((Int.tmod (wrap64 ((wrap64 (x1 + (1 : Int))) + (1 : Int))) (3 : Int)) = (0 : Int))), (((x0.set x2.toNat (x1, (x0.getD x2.toNat ((0 : Int), ((0 : Int), (false, ((⟨#[]⟩ : ByteArray), ()))))).2)).set x2.toNat (((x0.set x2.toNat (x1, (x0.getD x2.toNat ((0 : Int), ((0 : Int), (false, ((⟨#[]⟩ : ByteArray), ()))))).2)).getD x2.toNat ((0 : Int), ((0 : Int), (false, ((⟨#[]⟩ : ByteArray), ()))))).1, ((wrap64 (x1 + (1 : Int))), ((x0.set x2.toNat (x1, (x0.getD x2.toNat ((0 : Int), ((0 : Int), (false, ((⟨#[]⟩ : ByteArray), ()))))).2)).getD x2.toNat ((0 : Int), ((0 : Int), (false, ((⟨#[]⟩ : ByteArray), ()))))).2.2))).getD x2.toNat ((0 : Int), ((0 : Int), (false, ((⟨#[]⟩ : ByteArray), ()))))).2.2.2)))).getD x2.toNat ((0 : Int), ((0 : Int), (false, ((⟨#[]⟩ : ByteArray), ()))))).2.2.2.2))))) (wrap64 ((wrap64 ((wrap64 ((wrap64 (x1 + (1 : Int))) + (1 : Int))) + (1 : Int))) + (1 : Int))) (wrap64 (x2 + (1 : Int)))
            else none)
          else none)
        else none)
      else none)
    else some (x1, x0)
noncomputable def laws_markEntryS.f (k : Nat) (a0 : (List Entry)) (a1 : Int) : Option (Int × (List Entry)) := laws_markEntryS.p5 k a0 a1 (0 : Int)
/-! laws.markStore -/
noncomputable def laws_markStore.f (k : Nat) (a0 : Store) (a1 : Int) : Option (Int × Store) := (laws_markEntryS.f k a0.1 a1).bind fun r1 =>
  (laws_markEntryS.f k a0.2.1 r1.1).bind fun r2 =>
  some (r2.1, (r1.2, (r2.2, a0.2.2)))
/-! laws.heldEntryS -/
noncomputable def laws_heldEntryS.p5 : Nat → (List Entry) → Int → Int → Option (Int)
  | 0, _, _, _ => none
  | k + 1, x0, x1, x2 => if x2 < ((x0.length : Nat) : Int) then (if (0 : Int) ≤ x2 ∧ x2 < ((x0.length : Nat) : Int) then (if (x0.getD x2.toNat ((0 : Int), ((0 : Int), (false, ((⟨#[]⟩ : ByteArray), ()))))).1 = x1 then (if (0 : Int) ≤ x2 ∧ x2 < ((x0.length : Nat) : Int) then (if (x0.getD x2.toNat ((0 : Int), ((0 : Int), (false, ((⟨#[]⟩ : ByteArray), ()))))).2.1 = (wrap64 (x1 + (1 : Int))) then (if (0 : Int) ≤ x2 ∧ x2 < ((x0.length : Nat) : Int) then (if (x0.getD x2.toNat ((0 : Int), ((0 : Int), (false, ((⟨#[]⟩ : ByteArray), ()))))).2.2.1 = (decide ((Int.tmod (wrap64 ((wrap64 (x1 + (1 : Int))) + (1 : Int))) (3 : Int)) = (0 : Int))) then (if (0 : Int) ≤ x2 ∧ x2 < ((x0.length : Nat) : Int) then ((laws_markText.f k (wrap64 ((wrap64 ((wrap64 (x1 + (1 : Int))) + (1 : Int))) + (1 : Int)))).bind fun r1 =>
                    if (x0.getD x2.toNat ((0 : Int), ((0 : Int), (false, ((⟨#[]⟩ : ByteArray), ()))))).2.2.2.1 = r1 then laws_heldEntryS.p5 k x0 (wrap64 ((wrap64 ((wrap64 ((wrap64 (x1 + (1 : Int))) + (1 : Int))) + (1 : Int))) + (1 : Int))) (wrap64 (x2 + (1 : Int)))
                    else some (-1 : Int))
                  else none)
                else some (-1 : Int))
              else none)
            else some (-1 : Int))
          else none)
        else some (-1 : Int))
      else none)
    else some x1
noncomputable def laws_heldEntryS.f (k : Nat) (a0 : (List Entry)) (a1 : Int) : Option (Int) := laws_heldEntryS.p5 k a0 a1 (0 : Int)
/-! laws.heldStore -/
noncomputable def laws_heldStore.f (k : Nat) (a0 : Store) (a1 : Int) : Option (Int) := (laws_heldEntryS.f k a0.1 a1).bind fun r1 =>
  if r1 < (0 : Int) then some (-1 : Int)
  else (laws_heldEntryS.f k a0.2.1 r1).bind fun r2 =>
  if r2 < (0 : Int) then some (-1 : Int)
  else some r2
/-! laws.FnExactStoreRead -/
noncomputable def laws_FnExactStoreRead.f (k : Nat) (a0 : (List Int)) : Option (Bool) := if (1048576 : Int) < ((a0.length : Nat) : Int) then some true
  else (laws_toByteS.f k a0).bind fun r1 =>
  (spec_StoreRead.f k r1).bind fun r2 =>
  (laws_toByteS.f k a0).bind fun r3 =>
  (impl_StoreRead.f k r3).bind fun r4 =>
  (laws_eqStore.f k r4.1 r2.1).bind fun r5 =>
  if r5 = true then (if r4.2 = r2.2 then ((laws_toByteS.f k a0).bind fun r6 =>
      (laws_eqByteS.f k r3 r6).bind fun r7 =>
      if r7 = true then ((laws_markByteS.f k r3 (1 : Int)).bind fun r8 =>
        if r8.1 < (0 : Int) then some false
        else (laws_eqStore.f k r4.1 r2.1).bind fun r9 =>
        if r9 = true then (if r4.2 = r2.2 then ((laws_markStore.f k r4.1 (1 : Int)).bind fun r10 =>
            (laws_heldStore.f k r10.2 (1 : Int)).bind fun r11 =>
            if r11 < (0 : Int) then some false
            else if r11 = r10.1 then ((laws_toByteS.f k a0).bind fun r12 =>
              (impl_StoreRead.f k r12).bind fun r13 =>
              (laws_eqStore.f k r13.1 r2.1).bind fun r14 =>
              if r14 = true then (if r13.2 = r2.2 then ((laws_heldStore.f k r10.2 (1 : Int)).bind fun r15 =>
                  if r15 < (0 : Int) then some false
                  else if r15 = r10.1 then some true
                  else some false)
                else some false)
              else some false)
            else some false)
          else some false)
        else some false)
      else some false)
    else some false)
  else some false
end Go.Proofs.Ytdkdhciogedoiab.OmFnExactStoreRead
