import Derived.Test.YtllmifioelbleaaOmD
set_option maxRecDepth 1000000
set_option linter.unusedVariables false
namespace Go.Proofs.Ytllmifioelbleaa.OmFnStoreBytes
open Go Go.OM
@[reducible] noncomputable def tConfig : Ty := .pair (.sl (.int .i64)) (.pair (.int .i64) (.unit))
@[reducible] noncomputable def Config : Type := (List Int) × Int × Unit
@[reducible] noncomputable def tEntry : Ty := .pair (.int .i64) (.pair (.int .i64) (.pair .bool (.pair .str (.unit))))
@[reducible] noncomputable def Entry : Type := Int × Int × Bool × ByteArray × Unit
@[reducible] noncomputable def tMend : Ty := .pair (.int .i64) (.pair (.int .i64) (.pair (.sl (.int .i64)) (.pair (.sl tEntry) (.pair .bool (.pair (.sl (.sl (.int .i64))) (.unit))))))
@[reducible] noncomputable def Mend : Type := Int × Int × (List Int) × (List Entry) × Bool × (List (List Int)) × Unit
@[reducible] noncomputable def tEra : Ty := .pair (.sl (.int .i64)) (.pair .bool (.pair (.int .i64) (.unit)))
@[reducible] noncomputable def Era : Type := (List Int) × Bool × Int × Unit
@[reducible] noncomputable def tRegister : Ty := .pair (.sl tEra) (.pair (.int .i64) (.unit))
@[reducible] noncomputable def Register : Type := (List Era) × Int × Unit
@[reducible] noncomputable def tStore : Ty := .pair (.sl tEntry) (.pair (.sl tEntry) (.pair (.int .i64) (.unit)))
@[reducible] noncomputable def Store : Type := (List Entry) × (List Entry) × Int × Unit
@[reducible] noncomputable def tWord : Ty := .pair .str (.pair (.sl (.int .i64)) (.pair .bool (.unit)))
@[reducible] noncomputable def Word : Type := ByteArray × (List Int) × Bool × Unit
@[reducible] noncomputable def tWriter : Ty := .pair (.int .i64) (.pair (.sl tWord) (.unit))
@[reducible] noncomputable def Writer : Type := Int × (List Word) × Unit
@[reducible] noncomputable def treader : Ty := .pair (.sl (.int .u8)) (.pair (.int .i64) (.pair .bool (.unit)))
@[reducible] noncomputable def reader : Type := (List Int) × Int × Bool × Unit
@[reducible] noncomputable def tl1Cur : Ty := .pair (.sl (.int .u8)) (.pair (.int .i64) (.pair (.int .i64) (.unit)))
@[reducible] noncomputable def l1Cur : Type := (List Int) × Int × Int × Unit
/-! laws.big -/
noncomputable def laws_big.f (a0 : (List Int)) : Option (Bool) := some (decide ((1048576 : Int) < ((a0.length : Nat) : Int)))
/-! spec.l1New -/
noncomputable def spec_l1New.p7 : Nat → (List Int) → Int → Int → Option (l1Cur)
  | 0, _, _, _ => none
  | k + 1, x0, x1, x2 => if x2 < ((x0.length : Nat) : Int) then (if x2 < (4000 : Int) then (if (0 : Int) ≤ x2 ∧ x2 < ((x0.length : Nat) : Int) then spec_l1New.p7 k x0 (andK .i64 (wrap64 ((wrap64 ((wrap64 (x1 * (131 : Int))) + (wrap64 ((x0.getD x2.toNat (0 : Int)))))) + (7 : Int))) (1073741823 : Int)) (wrap64 (x2 + (1 : Int)))
        else none)
      else some (x0, ((0 : Int), (x1, ()))))
    else some (x0, ((0 : Int), (x1, ())))
noncomputable def spec_l1New.f (k : Nat) (a0 : (List Int)) : Option (l1Cur) := spec_l1New.p7 k a0 (wrap64 ((17817 : Int) + ((a0.length : Nat) : Int))) (0 : Int)
/-! spec.l1Byte -/
noncomputable def spec_l1Byte.f (a0 : l1Cur) : Option (Int × l1Cur) := if a0.2.1 < ((a0.1.length : Nat) : Int) then (if (0 : Int) ≤ a0.2.1 ∧ a0.2.1 < ((a0.1.length : Nat) : Int) then some ((andK .i64 (wrap64 ((andK .i64 (xorK .i64 (shrK .i64 (wrap64 ((wrap64 (a0.2.2.1 * (6364136223846793005 : Int))) + (1442695040888963407 : Int))) (33 : Int)) (shrK .i64 (wrap64 ((wrap64 (a0.2.2.1 * (6364136223846793005 : Int))) + (1442695040888963407 : Int))) (45 : Int))) (255 : Int)) + (wrap64 ((a0.1.getD a0.2.1.toNat (0 : Int)))))) (255 : Int)), (a0.1, ((wrap64 (a0.2.1 + (1 : Int))), ((wrap64 ((wrap64 (a0.2.2.1 * (6364136223846793005 : Int))) + (1442695040888963407 : Int))), a0.2.2.2))))
    else none)
  else some ((andK .i64 (xorK .i64 (shrK .i64 (wrap64 ((wrap64 (a0.2.2.1 * (6364136223846793005 : Int))) + (1442695040888963407 : Int))) (33 : Int)) (shrK .i64 (wrap64 ((wrap64 (a0.2.2.1 * (6364136223846793005 : Int))) + (1442695040888963407 : Int))) (45 : Int))) (255 : Int)), (a0.1, (a0.2.1, ((wrap64 ((wrap64 (a0.2.2.1 * (6364136223846793005 : Int))) + (1442695040888963407 : Int))), a0.2.2.2))))
/-! spec.l1Below -/
noncomputable def spec_l1Below.f (a0 : l1Cur) (a1 : Int) : Option (Int × l1Cur) := if a1 ≤ (0 : Int) then some ((0 : Int), a0)
  else if a1 ≤ (256 : Int) then ((spec_l1Byte.f a0).bind fun r1 =>
    if a1 = (0 : Int) then none
    else some ((Int.tmod r1.1 a1), r1.2))
  else (spec_l1Byte.f a0).bind fun r2 =>
  (spec_l1Byte.f r2.2).bind fun r3 =>
  (spec_l1Byte.f r3.2).bind fun r4 =>
  (spec_l1Byte.f r4.2).bind fun r5 =>
  if a1 = (0 : Int) then none
  else some ((Int.tmod (wrap64 ((wrap64 ((wrap64 ((wrap64 (r2.1 * (16777216 : Int))) + (wrap64 (r3.1 * (65536 : Int))))) + (wrap64 (r4.1 * (256 : Int))))) + r5.1)) a1), r5.2)
/-! spec.l1Place -/
noncomputable def spec_l1Place.f (a0 : Int) (a1 : Int) : Option (Int) := some (wrap64 ((wrap64 ((4294967296 : Int) * a0)) + a1))
/-! spec.l1Pick -/
noncomputable def spec_l1Pick.f (a0 : l1Cur) (a1 : (List ByteArray)) : Option (ByteArray × l1Cur) := (spec_l1Below.f a0 ((a1.length : Nat) : Int)).bind fun r1 =>
  if (0 : Int) ≤ r1.1 ∧ r1.1 < ((a1.length : Nat) : Int) then some ((a1.getD r1.1.toNat (⟨#[]⟩ : ByteArray)), r1.2)
  else none
/-! spec.l1Once -/
noncomputable def spec_l1Once.f (a0 : l1Cur) (a1 : Int) : Option (Bool × l1Cur) := (spec_l1Below.f a0 a1).bind fun r1 =>
  some ((decide (r1.1 = (0 : Int))), r1.2)
/-! spec.l1In -/
noncomputable def spec_l1In.f (a0 : Int) (a1 : Int) (a2 : Int) : Option (Bool) := if a1 ≤ a0 then some (decide (a0 ≤ a2))
  else some false
/-! spec.PlaceOk -/
noncomputable def spec_PlaceOk.f (a0 : Int) : Option (Bool) := if (0 : Int) < a0 then ((spec_l1In.f (wrap64 ((Int.tdiv a0 (4294967296 : Int)))) (1 : Int) (30 : Int)).bind fun r1 =>
    if r1 = true then ((spec_l1In.f (Int.tmod a0 (4294967296 : Int)) (1 : Int) (60 : Int)).bind fun r2 =>
      some r2)
    else some false)
  else some false
/-! spec.EpochOf -/
noncomputable def spec_EpochOf.f (a0 : Int) : Option (Int) := (spec_PlaceOk.f a0).bind fun r1 =>
  if r1 = true then some (wrap64 ((Int.tdiv a0 (4294967296 : Int))))
  else some (0 : Int)
/-! spec.l3DrawRight -/
noncomputable def spec_l3DrawRight.f (a0 : l1Cur) : Option (Entry × l1Cur) := (spec_l1Below.f a0 (3 : Int)).bind fun r1 =>
  (spec_l1Below.f r1.2 (6 : Int)).bind fun r2 =>
  (spec_l1Place.f (wrap64 ((1 : Int) + r1.1)) (wrap64 ((1 : Int) + r2.1))).bind fun r3 =>
  (spec_l1Pick.f r2.2 ([(⟨#[]⟩ : ByteArray), (⟨#[97]⟩ : ByteArray), (⟨#[98, 99]⟩ : ByteArray), (⟨#[0]⟩ : ByteArray), (⟨#[119, 111, 114, 100]⟩ : ByteArray)] : List ByteArray)).bind fun r4 =>
  (spec_l1Once.f r4.2 (3 : Int)).bind fun r5 =>
  if r5.1 = true then ((spec_EpochOf.f r3).bind fun r6 =>
    (spec_l1Below.f r5.2 (3 : Int)).bind fun r7 =>
    (spec_l1Once.f r7.2 (2 : Int)).bind fun r8 =>
    if r8.1 = true then some ((r3, ((wrap64 ((wrap64 (r6 + (1 : Int))) + r7.1)), (true, ((⟨#[]⟩ : ByteArray), ())))), r8.2)
    else some ((r3, ((wrap64 ((wrap64 (r6 + (1 : Int))) + r7.1)), (false, (r4.1, ())))), r8.2))
  else some ((r3, ((0 : Int), (false, (r4.1, ())))), r5.2)
/-! spec.EntryOk -/
noncomputable def spec_EntryOk.p6 : Nat → Entry → Option (Bool)
  | 0, _ => none
  | k + 1, x0 => if x0.2.2.1 = true then (if (0 : Int) < x0.2.1 then some (decide (x0.2.2.2.1 = (⟨#[]⟩ : ByteArray)))
      else some false)
    else some true
noncomputable def spec_EntryOk.f (k : Nat) (a0 : Entry) : Option (Bool) := (spec_PlaceOk.f a0.1).bind fun r1 =>
  if r1 = true then ((spec_l1In.f a0.2.1 (0 : Int) (30 : Int)).bind fun r2 =>
    if r2 = true then (if (0 : Int) < a0.2.1 then ((spec_EpochOf.f a0.1).bind fun r3 =>
        if a0.2.1 ≤ r3 then some false
        else if (40 : Int) < ((a0.2.2.2.1.size : Nat) : Int) then some false
        else spec_EntryOk.p6 k a0)
      else if (40 : Int) < ((a0.2.2.2.1.size : Nat) : Int) then some false
      else spec_EntryOk.p6 k a0)
    else some false)
  else some false
/-! spec.l6List -/
noncomputable def spec_l6List.p9 : Nat → (List Entry) → Int → Option (Bool)
  | 0, _, _ => none
  | k + 1, x0, x1 => if x1 < ((x0.length : Nat) : Int) then (if (0 : Int) ≤ x1 ∧ x1 < ((x0.length : Nat) : Int) then ((spec_EntryOk.f k (x0.getD x1.toNat ((0 : Int), ((0 : Int), (false, ((⟨#[]⟩ : ByteArray), ())))))).bind fun r1 =>
        if r1 = true then spec_l6List.p9 k x0 (wrap64 (x1 + (1 : Int)))
        else some false)
      else none)
    else some true
noncomputable def spec_l6List.f (k : Nat) (a0 : (List Entry)) (a1 : Int) : Option (Bool) := if a1 < ((a0.length : Nat) : Int) then some false
  else spec_l6List.p9 k a0 (0 : Int)
/-! spec.l6Asc -/
noncomputable def spec_l6Asc.p5 : Nat → (List Entry) → Int → Option (Bool)
  | 0, _, _ => none
  | k + 1, x0, x1 => if x1 < ((x0.length : Nat) : Int) then (if (0 : Int) ≤ (wrap64 (x1 - (1 : Int))) ∧ (wrap64 (x1 - (1 : Int))) < ((x0.length : Nat) : Int) then (if (0 : Int) ≤ x1 ∧ x1 < ((x0.length : Nat) : Int) then (if (x0.getD x1.toNat ((0 : Int), ((0 : Int), (false, ((⟨#[]⟩ : ByteArray), ()))))).1 ≤ (x0.getD (wrap64 (x1 - (1 : Int))).toNat ((0 : Int), ((0 : Int), (false, ((⟨#[]⟩ : ByteArray), ()))))).1 then some false
          else spec_l6Asc.p5 k x0 (wrap64 (x1 + (1 : Int))))
        else none)
      else none)
    else some true
noncomputable def spec_l6Asc.f (k : Nat) (a0 : (List Entry)) : Option (Bool) := spec_l6Asc.p5 k a0 (1 : Int)
/-! spec.StoreOk -/
noncomputable def spec_StoreOk.f (k : Nat) (a0 : Store) : Option (Bool) := (spec_l6List.f k a0.1 (200 : Int)).bind fun r1 =>
  if r1 = true then ((spec_l6List.f k a0.2.1 (20 : Int)).bind fun r2 =>
    if r2 = true then ((spec_l6Asc.f k a0.1).bind fun r3 =>
      if r3 = true then ((spec_l1In.f a0.2.2.1 (0 : Int) (30 : Int)).bind fun r4 =>
        some r4)
      else some false)
    else some false)
  else some false
/-! spec.l6Copy -/
noncomputable def spec_l6Copy.f (a0 : Store) : Option (Store) := if (((([] : List Entry).length : Nat) : Int) + ((a0.1.length : Nat) : Int)) ≤ lim then (if (((([] : List Entry).length : Nat) : Int) + ((a0.2.1.length : Nat) : Int)) ≤ lim then some ((([] : List Entry) ++ a0.1), ((([] : List Entry) ++ a0.2.1), (a0.2.2.1, ())))
    else none)
  else none
/-! spec.l6Takes -/
noncomputable def spec_l6Takes.f (a0 : Store) (a1 : Entry) : Option (Bool) := if a1.2.1 = (0 : Int) then ((spec_EpochOf.f a1.1).bind fun r1 =>
    some (decide (a0.2.2.1 < r1)))
  else some (decide (a0.2.2.1 < a1.2.1))
/-! spec.StorePut -/
noncomputable def spec_StorePut.f (k : Nat) (a0 : Store) (a1 : Entry) : Option (Store × Bool) := (spec_StoreOk.f k a0).bind fun r1 =>
  if r1 = true then ((spec_l6Copy.f a0).bind fun r2 =>
    (spec_EntryOk.f k a1).bind fun r3 =>
    if r3 = true then ((spec_l6Takes.f a0 a1).bind fun r4 =>
      if r4 = true then (if ((a0.2.1.length : Nat) : Int) = (20 : Int) then some (r2, false)
        else if (((r2.2.1.length : Nat) : Int) + ((([a1] : List Entry).length : Nat) : Int)) ≤ lim then some ((r2.1, ((r2.2.1 ++ ([a1] : List Entry)), r2.2.2)), true)
        else none)
      else some (r2, false))
    else some (r2, false))
  else some ((([] : List Entry), (([] : List Entry), ((0 : Int), ()))), false)
/-! spec.Better -/
noncomputable def spec_Better.f (a0 : Entry) (a1 : Entry) : Option (Entry) := if a0.2.1 < a1.2.1 then some a1
  else some a0
/-! spec.l6Keep -/
mutual
noncomputable def spec_l6Keep.p9 : Nat → (List Entry) → (List Entry) → Bool → Int → Entry → Option ((List Entry))
  | 0, _, _, _, _, _ => none
  | k + 1, x0, x1, x2, x3, x4 => if x3 < ((x0.length : Nat) : Int) then (if x2 = true then spec_l6Keep.p18 k x0 x1 x2 x3 x4
      else if (0 : Int) ≤ x3 ∧ x3 < ((x0.length : Nat) : Int) then (if (x0.getD x3.toNat ((0 : Int), ((0 : Int), (false, ((⟨#[]⟩ : ByteArray), ()))))).1 = x4.1 then (if (0 : Int) ≤ x3 ∧ x3 < ((x0.length : Nat) : Int) then ((spec_Better.f (x0.getD x3.toNat ((0 : Int), ((0 : Int), (false, ((⟨#[]⟩ : ByteArray), ()))))) x4).bind fun r1 =>
            if (((x1.length : Nat) : Int) + ((([r1] : List Entry).length : Nat) : Int)) ≤ lim then spec_l6Keep.p9 k x0 (x1 ++ ([r1] : List Entry)) true (wrap64 (x3 + (1 : Int))) x4
            else none)
          else none)
        else spec_l6Keep.p18 k x0 x1 x2 x3 x4)
      else none)
    else if x2 = true then some x1
    else if (((x1.length : Nat) : Int) + ((([x4] : List Entry).length : Nat) : Int)) ≤ lim then some (x1 ++ ([x4] : List Entry))
    else none
noncomputable def spec_l6Keep.p18 : Nat → (List Entry) → (List Entry) → Bool → Int → Entry → Option ((List Entry))
  | 0, _, _, _, _, _ => none
  | k + 1, x0, x1, x2, x3, x4 => if x2 = true then (if (0 : Int) ≤ x3 ∧ x3 < ((x0.length : Nat) : Int) then (if (((x1.length : Nat) : Int) + ((([(x0.getD x3.toNat ((0 : Int), ((0 : Int), (false, ((⟨#[]⟩ : ByteArray), ())))))] : List Entry).length : Nat) : Int)) ≤ lim then spec_l6Keep.p9 k x0 (x1 ++ ([(x0.getD x3.toNat ((0 : Int), ((0 : Int), (false, ((⟨#[]⟩ : ByteArray), ())))))] : List Entry)) x2 (wrap64 (x3 + (1 : Int))) x4
        else none)
      else none)
    else if (0 : Int) ≤ x3 ∧ x3 < ((x0.length : Nat) : Int) then (if x4.1 < (x0.getD x3.toNat ((0 : Int), ((0 : Int), (false, ((⟨#[]⟩ : ByteArray), ()))))).1 then (if (((x1.length : Nat) : Int) + ((([x4] : List Entry).length : Nat) : Int)) ≤ lim then (if (0 : Int) ≤ x3 ∧ x3 < ((x0.length : Nat) : Int) then (if ((((x1 ++ ([x4] : List Entry)).length : Nat) : Int) + ((([(x0.getD x3.toNat ((0 : Int), ((0 : Int), (false, ((⟨#[]⟩ : ByteArray), ())))))] : List Entry).length : Nat) : Int)) ≤ lim then spec_l6Keep.p9 k x0 ((x1 ++ ([x4] : List Entry)) ++ ([(x0.getD x3.toNat ((0 : Int), ((0 : Int), (false, ((⟨#[]⟩ : ByteArray), ())))))] : List Entry)) true (wrap64 (x3 + (1 : Int))) x4
            else none)
          else none)
        else none)
      else if (0 : Int) ≤ x3 ∧ x3 < ((x0.length : Nat) : Int) then (if (((x1.length : Nat) : Int) + ((([(x0.getD x3.toNat ((0 : Int), ((0 : Int), (false, ((⟨#[]⟩ : ByteArray), ())))))] : List Entry).length : Nat) : Int)) ≤ lim then spec_l6Keep.p9 k x0 (x1 ++ ([(x0.getD x3.toNat ((0 : Int), ((0 : Int), (false, ((⟨#[]⟩ : ByteArray), ())))))] : List Entry)) x2 (wrap64 (x3 + (1 : Int))) x4
        else none)
      else none)
    else none
end
noncomputable def spec_l6Keep.f (k : Nat) (a0 : (List Entry)) (a1 : Entry) : Option ((List Entry)) := spec_l6Keep.p9 k a0 ([] : List Entry) false (0 : Int) a1
/-! spec.StoreCrash -/
noncomputable def spec_StoreCrash.p11 : Nat → Int → Int → Store → Store → Store → Option (Store × Bool)
  | 0, _, _, _, _, _ => none
  | k + 1, x0, x1, x2, x3, x4 => if x1 < ((x2.2.1.length : Nat) : Int) then (if (0 : Int) ≤ x1 then (if (andK .i64 (shrK .i64 x0 x1) (1 : Int)) = (1 : Int) then (if (0 : Int) ≤ x1 ∧ x1 < ((x2.2.1.length : Nat) : Int) then ((spec_l6Keep.f k x4.1 (x2.2.1.getD x1.toNat ((0 : Int), ((0 : Int), (false, ((⟨#[]⟩ : ByteArray), ())))))).bind fun r2 =>
            spec_StoreCrash.p11 k x0 (wrap64 (x1 + (1 : Int))) x2 x3 (r2, x4.2))
          else none)
        else spec_StoreCrash.p11 k x0 (wrap64 (x1 + (1 : Int))) x2 x3 x4)
      else none)
    else (spec_l1In.f x0 (0 : Int) (1048575 : Int)).bind fun r3 =>
    if r3 = true then (if (200 : Int) < ((x4.1.length : Nat) : Int) then ((spec_l6Copy.f x2).bind fun r4 =>
        some (r4, false))
      else some (x4, true))
    else (spec_l6Copy.f x2).bind fun r5 =>
    some (r5, false)
noncomputable def spec_StoreCrash.f (k : Nat) (a0 : Store) (a1 : Int) : Option (Store × Bool) := (spec_StoreOk.f k a0).bind fun r1 =>
  if r1 = true then (if (((([] : List Entry).length : Nat) : Int) + ((a0.1.length : Nat) : Int)) ≤ lim then spec_StoreCrash.p11 k a1 (0 : Int) a0 (([] : List Entry), (([] : List Entry), ((0 : Int), ()))) ((([] : List Entry) ++ a0.1), (([] : List Entry), (a0.2.2.1, ())))
    else none)
  else some ((([] : List Entry), (([] : List Entry), ((0 : Int), ()))), false)
/-! spec.StoreSync -/
noncomputable def spec_StoreSync.f (k : Nat) (a0 : Store) : Option (Store × Bool) := (spec_StoreCrash.f k a0 (1048575 : Int)).bind fun r1 =>
  some (r1.1, r1.2)
/-! spec.l1Max -/
noncomputable def spec_l1Max.f (a0 : Int) (a1 : Int) : Option (Int) := if a1 < a0 then some a0
  else some a1
/-! spec.StoreSeal -/
noncomputable def spec_StoreSeal.f (k : Nat) (a0 : Store) (a1 : Int) : Option (Store × Bool) := (spec_StoreOk.f k a0).bind fun r1 =>
  if r1 = true then ((spec_StoreSync.f k a0).bind fun r2 =>
    if r2.2 = true then ((spec_l1In.f a1 (0 : Int) (30 : Int)).bind fun r3 =>
      if r3 = true then ((spec_l1Max.f r2.1.2.2.1 a1).bind fun r4 =>
        some ((r2.1.1, (r2.1.2.1, (r4, r2.1.2.2.2))), true))
      else (spec_l6Copy.f a0).bind fun r5 =>
      some (r5, false))
    else (spec_l6Copy.f a0).bind fun r6 =>
    some (r6, false))
  else some ((([] : List Entry), (([] : List Entry), ((0 : Int), ()))), false)
/-! spec.l6DrawRight -/
mutual
noncomputable def spec_l6DrawRight.p9 : Nat → Int → Int → Store → Store → l1Cur → Option (Store × l1Cur)
  | 0, _, _, _, _, _ => none
  | k + 1, x0, x1, x2, x3, x4 => if x1 < x0 then ((spec_l3DrawRight.f x4).bind fun r2 =>
      (spec_StorePut.f k x3 r2.1).bind fun r3 =>
      (spec_l1Below.f r2.2 (6 : Int)).bind fun r4 =>
      if r4.1 = (0 : Int) then ((spec_StoreSync.f k x3).bind fun r5 =>
        if r5.2 = true then spec_l6DrawRight.p9 k x0 (wrap64 (x1 + (1 : Int))) x2 r5.1 r4.2
        else spec_l6DrawRight.p9 k x0 (wrap64 (x1 + (1 : Int))) x2 x3 r4.2)
      else if r4.1 = (1 : Int) then ((spec_StoreSync.f k r3.1).bind fun r6 =>
        if r6.2 = true then spec_l6DrawRight.p9 k x0 (wrap64 (x1 + (1 : Int))) x2 r6.1 r4.2
        else spec_l6DrawRight.p9 k x0 (wrap64 (x1 + (1 : Int))) x2 x3 r4.2)
      else if r4.1 = (2 : Int) then ((spec_l1Once.f r4.2 (3 : Int)).bind fun r7 =>
        if r7.1 = true then ((spec_l1Below.f r7.2 (4 : Int)).bind fun r8 =>
          (spec_StoreSeal.f k x3 r8.1).bind fun r9 =>
          if r9.2 = true then spec_l6DrawRight.p9 k x0 (wrap64 (x1 + (1 : Int))) x2 r9.1 r8.2
          else spec_l6DrawRight.p9 k x0 (wrap64 (x1 + (1 : Int))) x2 x3 r8.2)
        else if r3.2 = true then spec_l6DrawRight.p9 k x0 (wrap64 (x1 + (1 : Int))) x2 r3.1 r7.2
        else spec_l6DrawRight.p9 k x0 (wrap64 (x1 + (1 : Int))) x2 x3 r7.2)
      else if r3.2 = true then spec_l6DrawRight.p9 k x0 (wrap64 (x1 + (1 : Int))) x2 r3.1 r4.2
      else spec_l6DrawRight.p9 k x0 (wrap64 (x1 + (1 : Int))) x2 x3 r4.2)
    else (spec_l1Once.f x4 (40 : Int)).bind fun r10 =>
    if r10.1 = true then spec_l6DrawRight.p41 k (1 : Int) x2 (([] : List Entry), x3.2) r10.2
    else some (x3, r10.2)
noncomputable def spec_l6DrawRight.p41 : Nat → Int → Store → Store → l1Cur → Option (Store × l1Cur)
  | 0, _, _, _, _ => none
  | k + 1, x0, x1, x2, x3 => if x0 ≤ (4 : Int) then spec_l6DrawRight.p47 k x0 (1 : Int) x1 x2 x3
    else some (x2, x3)
noncomputable def spec_l6DrawRight.p47 : Nat → Int → Int → Store → Store → l1Cur → Option (Store × l1Cur)
  | 0, _, _, _, _, _ => none
  | k + 1, x0, x1, x2, x3, x4 => if x1 ≤ (50 : Int) then ((spec_l1Place.f x0 x1).bind fun r11 =>
      if (((x3.1.length : Nat) : Int) + ((([(r11, ((0 : Int), (false, ((⟨#[]⟩ : ByteArray), ()))))] : List Entry).length : Nat) : Int)) ≤ lim then spec_l6DrawRight.p47 k x0 (wrap64 (x1 + (1 : Int))) x2 ((x3.1 ++ ([(r11, ((0 : Int), (false, ((⟨#[]⟩ : ByteArray), ()))))] : List Entry)), x3.2) x4
      else none)
    else spec_l6DrawRight.p41 k (wrap64 (x0 + (1 : Int))) x2 x3 x4
end
noncomputable def spec_l6DrawRight.f (k : Nat) (a0 : l1Cur) : Option (Store × l1Cur) := (spec_l1Below.f a0 (8 : Int)).bind fun r1 =>
  spec_l6DrawRight.p9 k r1.1 (0 : Int) (([] : List Entry), (([] : List Entry), ((0 : Int), ()))) (([] : List Entry), (([] : List Entry), ((0 : Int), ()))) r1.2
/-! spec.l1PickInt -/
noncomputable def spec_l1PickInt.f (a0 : l1Cur) (a1 : (List Int)) : Option (Int × l1Cur) := (spec_l1Below.f a0 ((a1.length : Nat) : Int)).bind fun r1 =>
  if (0 : Int) ≤ r1.1 ∧ r1.1 < ((a1.length : Nat) : Int) then some ((a1.getD r1.1.toNat (0 : Int)), r1.2)
  else none
/-! spec.l1DrawPlace -/
noncomputable def spec_l1DrawPlace.f (a0 : l1Cur) : Option (Int × l1Cur) := (spec_l1Below.f a0 (3 : Int)).bind fun r1 =>
  (spec_l1Below.f r1.2 (6 : Int)).bind fun r2 =>
  (spec_l1Place.f (wrap64 ((1 : Int) + r1.1)) (wrap64 ((1 : Int) + r2.1))).bind fun r3 =>
  (spec_l1Below.f r2.2 (15 : Int)).bind fun r4 =>
  if r4.1 = (0 : Int) then ((spec_l1PickInt.f r4.2 ([(0 : Int), (-1 : Int), (4294967296 : Int), (4294967297 : Int), (9223372036854775807 : Int), (-9223372036854775808 : Int)] : List Int)).bind fun r5 =>
    some (r5.1, r5.2))
  else if r4.1 = (1 : Int) then ((spec_l1PickInt.f r4.2 ([(0 : Int), (30 : Int), (31 : Int)] : List Int)).bind fun r6 =>
    (spec_l1PickInt.f r6.2 ([(0 : Int), (60 : Int), (61 : Int)] : List Int)).bind fun r7 =>
    (spec_l1Place.f r6.1 r7.1).bind fun r8 =>
    some (r8, r7.2))
  else some (r3, r4.2)
/-! spec.l3Draw -/
noncomputable def spec_l3Draw.f (a0 : l1Cur) : Option (Entry × l1Cur) := (spec_l3DrawRight.f a0).bind fun r1 =>
  (spec_l1Below.f r1.2 (15 : Int)).bind fun r2 =>
  if r2.1 = (0 : Int) then ((spec_l1DrawPlace.f r2.2).bind fun r3 =>
    some ((r3.1, r1.1.2), r3.2))
  else if r2.1 = (1 : Int) then ((spec_l1PickInt.f r2.2 ([(-1 : Int), (1 : Int), (30 : Int), (31 : Int)] : List Int)).bind fun r4 =>
    some ((r1.1.1, (r4.1, r1.1.2.2)), r4.2))
  else if r2.1 = (2 : Int) then some ((r1.1.1, (r1.1.2.1, (true, r1.1.2.2.2))), r2.2)
  else if r2.1 = (3 : Int) then ((spec_l1Below.f r2.2 (2 : Int)).bind fun r5 =>
    if (0 : Int) ≤ (wrap64 ((40 : Int) + r5.1)) ∧ (wrap64 ((40 : Int) + r5.1)) ≤ (wrap64 ((40 : Int) + r5.1)) ∧ (wrap64 ((40 : Int) + r5.1)) ≤ lim then some ((r1.1.1, (r1.1.2.1, (r1.1.2.2.1, ((bytesOf (List.replicate (wrap64 ((40 : Int) + r5.1)).toNat (0 : Int))), r1.1.2.2.2.2)))), r5.2)
    else none)
  else some (r1.1, r2.2)
/-! spec.l6Draw -/
noncomputable def spec_l6Draw.p21 : Nat → Store → Store → l1Cur → Option (Store × l1Cur)
  | 0, _, _, _ => none
  | k + 1, x0, x1, x2 => (spec_l1Below.f x2 (2 : Int)).bind fun r6 =>
    if ((x1.2.1.length : Nat) : Int) < (wrap64 ((20 : Int) + r6.1)) then ((spec_l1Place.f (5 : Int) (1 : Int)).bind fun r7 =>
      if (((x1.2.1.length : Nat) : Int) + ((([(r7, ((0 : Int), (false, ((⟨#[]⟩ : ByteArray), ()))))] : List Entry).length : Nat) : Int)) ≤ lim then spec_l6Draw.p21 k x0 (x1.1, ((x1.2.1 ++ ([(r7, ((0 : Int), (false, ((⟨#[]⟩ : ByteArray), ()))))] : List Entry)), x1.2.2)) r6.2
      else none)
    else some (x1, r6.2)
noncomputable def spec_l6Draw.f (k : Nat) (a0 : l1Cur) : Option (Store × l1Cur) := (spec_l6DrawRight.f k a0).bind fun r1 =>
  (spec_l1Below.f r1.2 (25 : Int)).bind fun r2 =>
  if r2.1 = (0 : Int) then ((spec_l1PickInt.f r2.2 ([(-1 : Int), (30 : Int), (31 : Int)] : List Int)).bind fun r3 =>
    some ((r1.1.1, (r1.1.2.1, (r3.1, r1.1.2.2.2))), r3.2))
  else if r2.1 = (1 : Int) then ((spec_l3Draw.f r2.2).bind fun r4 =>
    if (((r1.1.1.length : Nat) : Int) + ((([r4.1] : List Entry).length : Nat) : Int)) ≤ lim then some (((r1.1.1 ++ ([r4.1] : List Entry)), r1.1.2), r4.2)
    else none)
  else if r2.1 = (2 : Int) then ((spec_l3Draw.f r2.2).bind fun r5 =>
    if (((r1.1.2.1.length : Nat) : Int) + ((([r5.1] : List Entry).length : Nat) : Int)) ≤ lim then some ((r1.1.1, ((r1.1.2.1 ++ ([r5.1] : List Entry)), r1.1.2.2)), r5.2)
    else none)
  else if r2.1 = (3 : Int) then spec_l6Draw.p21 k (([] : List Entry), (([] : List Entry), ((0 : Int), ()))) r1.1 r2.2
  else some (r1.1, r2.2)
/-! spec.DrawStorePack -/
noncomputable def spec_DrawStorePack.f (k : Nat) (a0 : (List Int)) : Option (Store) := (spec_l1New.f k a0).bind fun r1 =>
  (spec_l6Draw.f k r1).bind fun r2 =>
  (spec_l1Once.f r2.2 (4 : Int)).bind fun r3 =>
  if r3.1 = true then some r2.1
  else some (r2.1.1, (([] : List Entry), r2.1.2.2))
/-! impl.within -/
noncomputable def impl_within.f (a0 : Int) (a1 : Int) (a2 : Int) : Option (Bool) := if a1 ≤ a0 then some (decide (a0 ≤ a2))
  else some false
/-! impl.isEpoch -/
noncomputable def impl_isEpoch.f (a0 : Int) : Option (Bool) := (impl_within.f a0 (1 : Int) (30 : Int)).bind fun r1 =>
  some r1
/-! impl.isOff -/
noncomputable def impl_isOff.f (a0 : Int) : Option (Bool) := (impl_within.f a0 (1 : Int) (60 : Int)).bind fun r1 =>
  some r1
/-! impl.PlaceOk -/
noncomputable def impl_PlaceOk.f (a0 : Int) : Option (Bool) := (impl_isEpoch.f (wrap64 ((Int.tdiv a0 (4294967296 : Int))))).bind fun r1 =>
  if r1 = true then ((impl_isOff.f (Int.tmod a0 (4294967296 : Int))).bind fun r2 =>
    some r2)
  else some false
/-! impl.dataOk -/
noncomputable def impl_dataOk.f (a0 : ByteArray) : Option (Bool) := some (decide (((a0.size : Nat) : Int) ≤ (40 : Int)))
/-! impl.EpochOf -/
noncomputable def impl_EpochOf.f (a0 : Int) : Option (Int) := (impl_PlaceOk.f a0).bind fun r1 =>
  if r1 = true then some (wrap64 ((Int.tdiv a0 (4294967296 : Int))))
  else some (0 : Int)
/-! impl.EntryOk -/
mutual
noncomputable def impl_EntryOk.p4 : Nat → Bool → Entry → Option (Bool)
  | 0, _, _ => none
  | k + 1, x0, x1 => if x1.2.2.1 = true then (if (0 : Int) < x1.2.1 then impl_EntryOk.p6 k x0 (decide (x1.2.2.2.1 = (⟨#[]⟩ : ByteArray))) x1
      else impl_EntryOk.p6 k x0 false x1)
    else impl_EntryOk.p6 k x0 true x1
noncomputable def impl_EntryOk.p6 : Nat → Bool → Bool → Entry → Option (Bool)
  | 0, _, _, _ => none
  | k + 1, x0, x1, x2 => (impl_PlaceOk.f x2.1).bind fun r3 =>
    if r3 = true then (if x0 = true then (if x1 = true then ((impl_dataOk.f x2.2.2.2.1).bind fun r4 =>
          some r4)
        else some false)
      else some false)
    else some false
end
noncomputable def impl_EntryOk.f (k : Nat) (a0 : Entry) : Option (Bool) := (impl_within.f a0.2.1 (0 : Int) (30 : Int)).bind fun r1 =>
  if r1 = true then (if a0.2.1 = (0 : Int) then impl_EntryOk.p4 k true a0
    else (impl_EpochOf.f a0.1).bind fun r2 =>
    impl_EntryOk.p4 k (decide (r2 < a0.2.1)) a0)
  else impl_EntryOk.p4 k false a0
/-! impl.entriesOk -/
noncomputable def impl_entriesOk.p5 : Nat → (List Entry) → Int → Int → Option (Bool)
  | 0, _, _, _ => none
  | k + 1, x0, x1, x2 => if x2 < x1 then (if (0 : Int) ≤ x2 ∧ x2 < ((x0.length : Nat) : Int) then ((impl_EntryOk.f k (x0.getD x2.toNat ((0 : Int), ((0 : Int), (false, ((⟨#[]⟩ : ByteArray), ())))))).bind fun r1 =>
        if r1 = true then impl_entriesOk.p5 k x0 x1 (wrap64 (x2 + (1 : Int)))
        else some false)
      else none)
    else some true
noncomputable def impl_entriesOk.f (k : Nat) (a0 : (List Entry)) : Option (Bool) := impl_entriesOk.p5 k a0 ((a0.length : Nat) : Int) (0 : Int)
/-! impl.placesAscend -/
noncomputable def impl_placesAscend.p5 : Nat → (List Entry) → (List Entry) → Int → Int → Option (Bool)
  | 0, _, _, _, _ => none
  | k + 1, x0, x1, x2, x3 => if x3 < x2 then (if (0 : Int) ≤ x3 ∧ x3 < ((x1.length : Nat) : Int) then (if (0 : Int) < x3 then (if (0 : Int) ≤ (wrap64 (x3 - (1 : Int))) ∧ (wrap64 (x3 - (1 : Int))) < ((x0.length : Nat) : Int) then (if (x1.getD x3.toNat ((0 : Int), ((0 : Int), (false, ((⟨#[]⟩ : ByteArray), ()))))).1 ≤ (x0.getD (wrap64 (x3 - (1 : Int))).toNat ((0 : Int), ((0 : Int), (false, ((⟨#[]⟩ : ByteArray), ()))))).1 then some false
            else impl_placesAscend.p5 k x0 x1 x2 (wrap64 (x3 + (1 : Int))))
          else none)
        else impl_placesAscend.p5 k x0 x1 x2 (wrap64 (x3 + (1 : Int))))
      else none)
    else some true
noncomputable def impl_placesAscend.f (k : Nat) (a0 : (List Entry)) : Option (Bool) := impl_placesAscend.p5 k a0 a0 ((a0.length : Nat) : Int) (0 : Int)
/-! impl.StoreOk -/
noncomputable def impl_StoreOk.f (k : Nat) (a0 : Store) : Option (Bool) := if (200 : Int) < ((a0.1.length : Nat) : Int) then some false
  else if (20 : Int) < ((a0.2.1.length : Nat) : Int) then some false
  else (impl_entriesOk.f k a0.1).bind fun r1 =>
  if r1 = true then ((impl_entriesOk.f k a0.2.1).bind fun r2 =>
    if r2 = true then ((impl_placesAscend.f k a0.1).bind fun r3 =>
      if r3 = true then ((impl_within.f a0.2.2.1 (0 : Int) (30 : Int)).bind fun r4 =>
        some r4)
      else some false)
    else some false)
  else some false
/-! impl.PutNum -/
noncomputable def impl_PutNum.p9 : Nat → Int → (List Int) → Option ((List Int))
  | 0, _, _ => none
  | k + 1, x0, x1 => if (127 : Int) < x0 then (if (((x1.length : Nat) : Int) + ((([(IntKind.wrap .u8 ((orK .i64 (andK .i64 x0 (127 : Int)) (128 : Int))))] : List Int).length : Nat) : Int)) ≤ lim then impl_PutNum.p9 k (shrK .i64 x0 (7 : Int)) (x1 ++ ([(IntKind.wrap .u8 ((orK .i64 (andK .i64 x0 (127 : Int)) (128 : Int))))] : List Int))
      else none)
    else if (((x1.length : Nat) : Int) + ((([(IntKind.wrap .u8 (x0))] : List Int).length : Nat) : Int)) ≤ lim then some (x1 ++ ([(IntKind.wrap .u8 (x0))] : List Int))
    else none
noncomputable def impl_PutNum.f (k : Nat) (a0 : Int) : Option ((List Int)) := if a0 < (0 : Int) then some ([] : List Int)
  else impl_PutNum.p9 k a0 ([] : List Int)
/-! impl.putNums -/
noncomputable def impl_putNums.p7 : Nat → (List Int) → (List Int) → Int → Int → Option ((List Int))
  | 0, _, _, _, _ => none
  | k + 1, x0, x1, x2, x3 => if x3 < x2 then (if (0 : Int) ≤ x3 ∧ x3 < ((x1.length : Nat) : Int) then ((impl_PutNum.f k (x1.getD x3.toNat (0 : Int))).bind fun r1 =>
        if (((x0.length : Nat) : Int) + ((r1.length : Nat) : Int)) ≤ lim then impl_putNums.p7 k (x0 ++ r1) x1 x2 (wrap64 (x3 + (1 : Int)))
        else none)
      else none)
    else some x0
noncomputable def impl_putNums.f (k : Nat) (a0 : (List Int)) : Option ((List Int)) := impl_putNums.p7 k ([] : List Int) a0 ((a0.length : Nat) : Int) (0 : Int)
/-! impl.flagNum -/
noncomputable def impl_flagNum.f (a0 : Bool) : Option (Int) := if a0 = true then some (1 : Int)
  else some (0 : Int)
/-! impl.PutText -/
noncomputable def impl_PutText.f (k : Nat) (a0 : ByteArray) : Option ((List Int)) := (impl_PutNum.f k ((a0.size : Nat) : Int)).bind fun r1 =>
  if (((r1.length : Nat) : Int) + (((listOf a0).length : Nat) : Int)) ≤ lim then some (r1 ++ (listOf a0))
  else none
/-! impl.EntryPack -/
noncomputable def impl_EntryPack.f (k : Nat) (a0 : Entry) : Option ((List Int) × Bool) := (impl_EntryOk.f k a0).bind fun r1 =>
  if r1 = true then ((impl_flagNum.f a0.2.2.1).bind fun r2 =>
    (impl_putNums.f k ([a0.1, a0.2.1, r2] : List Int)).bind fun r3 =>
    (impl_PutText.f k a0.2.2.2.1).bind fun r4 =>
    if (((r3.length : Nat) : Int) + ((r4.length : Nat) : Int)) ≤ lim then some ((r3 ++ r4), true)
    else none)
  else some (([] : List Int), false)
/-! impl.StorePack -/
noncomputable def impl_StorePack.p11 : Nat → (List Int) → (List Entry) → Int → Int → Option ((List Int) × Bool)
  | 0, _, _, _, _ => none
  | k + 1, x0, x1, x2, x3 => if x3 < x2 then (if (0 : Int) ≤ x3 ∧ x3 < ((x1.length : Nat) : Int) then ((impl_EntryPack.f k (x1.getD x3.toNat ((0 : Int), ((0 : Int), (false, ((⟨#[]⟩ : ByteArray), ())))))).bind fun r3 =>
        if (((x0.length : Nat) : Int) + ((r3.1.length : Nat) : Int)) ≤ lim then impl_StorePack.p11 k (x0 ++ r3.1) x1 x2 (wrap64 (x3 + (1 : Int)))
        else none)
      else none)
    else some (x0, true)
noncomputable def impl_StorePack.f (k : Nat) (a0 : Store) : Option ((List Int) × Bool) := (impl_StoreOk.f k a0).bind fun r1 =>
  if r1 = true then (if (0 : Int) < ((a0.2.1.length : Nat) : Int) then some (([] : List Int), false)
    else (impl_putNums.f k ([a0.2.2.1, ((a0.1.length : Nat) : Int)] : List Int)).bind fun r2 =>
    impl_StorePack.p11 k r2 a0.1 ((a0.1.length : Nat) : Int) (0 : Int))
  else some (([] : List Int), false)
/-! spec.PutNum -/
noncomputable def spec_PutNum.p9 : Nat → Int → (List Int) → Option ((List Int))
  | 0, _, _ => none
  | k + 1, x0, x1 => if (127 : Int) < x0 then (if (((x1.length : Nat) : Int) + ((([(IntKind.wrap .u8 ((wrap64 ((Int.tmod x0 (128 : Int)) + (128 : Int)))))] : List Int).length : Nat) : Int)) ≤ lim then spec_PutNum.p9 k (wrap64 ((Int.tdiv x0 (128 : Int)))) (x1 ++ ([(IntKind.wrap .u8 ((wrap64 ((Int.tmod x0 (128 : Int)) + (128 : Int)))))] : List Int))
      else none)
    else if (((x1.length : Nat) : Int) + ((([(IntKind.wrap .u8 (x0))] : List Int).length : Nat) : Int)) ≤ lim then some (x1 ++ ([(IntKind.wrap .u8 (x0))] : List Int))
    else none
noncomputable def spec_PutNum.f (k : Nat) (a0 : Int) : Option ((List Int)) := if a0 < (0 : Int) then some ([] : List Int)
  else spec_PutNum.p9 k a0 ([] : List Int)
/-! spec.l3Bit -/
noncomputable def spec_l3Bit.f (a0 : Bool) : Option (Int) := if a0 = true then some (1 : Int)
  else some (0 : Int)
/-! spec.PutText -/
noncomputable def spec_PutText.f (k : Nat) (a0 : ByteArray) : Option ((List Int)) := (spec_PutNum.f k ((a0.size : Nat) : Int)).bind fun r1 =>
  if (((r1.length : Nat) : Int) + (((listOf a0).length : Nat) : Int)) ≤ lim then some (r1 ++ (listOf a0))
  else none
/-! spec.l3Pack -/
noncomputable def spec_l3Pack.f (k : Nat) (a0 : Entry) : Option ((List Int)) := (spec_PutNum.f k a0.1).bind fun r1 =>
  (spec_PutNum.f k a0.2.1).bind fun r2 =>
  if (((r1.length : Nat) : Int) + ((r2.length : Nat) : Int)) ≤ lim then ((spec_l3Bit.f a0.2.2.1).bind fun r3 =>
    (spec_PutNum.f k r3).bind fun r4 =>
    if ((((r1 ++ r2).length : Nat) : Int) + ((r4.length : Nat) : Int)) ≤ lim then ((spec_PutText.f k a0.2.2.2.1).bind fun r5 =>
      if (((((r1 ++ r2) ++ r4).length : Nat) : Int) + ((r5.length : Nat) : Int)) ≤ lim then some (((r1 ++ r2) ++ r4) ++ r5)
      else none)
    else none)
  else none
/-! spec.StorePack -/
noncomputable def spec_StorePack.p11 : Nat → (List Int) → Int → Store → Option ((List Int) × Bool)
  | 0, _, _, _ => none
  | k + 1, x0, x1, x2 => if x1 < ((x2.1.length : Nat) : Int) then (if (0 : Int) ≤ x1 ∧ x1 < ((x2.1.length : Nat) : Int) then ((spec_l3Pack.f k (x2.1.getD x1.toNat ((0 : Int), ((0 : Int), (false, ((⟨#[]⟩ : ByteArray), ())))))).bind fun r4 =>
        if (((x0.length : Nat) : Int) + ((r4.length : Nat) : Int)) ≤ lim then spec_StorePack.p11 k (x0 ++ r4) (wrap64 (x1 + (1 : Int))) x2
        else none)
      else none)
    else some (x0, true)
noncomputable def spec_StorePack.f (k : Nat) (a0 : Store) : Option ((List Int) × Bool) := (spec_StoreOk.f k a0).bind fun r1 =>
  if r1 = true then (if (0 : Int) < ((a0.2.1.length : Nat) : Int) then some (([] : List Int), false)
    else (spec_PutNum.f k a0.2.2.1).bind fun r2 =>
    (spec_PutNum.f k ((a0.1.length : Nat) : Int)).bind fun r3 =>
    if (((r2.length : Nat) : Int) + ((r3.length : Nat) : Int)) ≤ lim then spec_StorePack.p11 k (r2 ++ r3) (0 : Int) a0
    else none)
  else some (([] : List Int), false)
/-! impl.GetNum -/
noncomputable def impl_GetNum.p11 : Nat → (List Int) → Int → Int → Int → Option (Int × Int × Bool)
  | 0, _, _, _, _ => none
  | k + 1, x0, x1, x2, x3 => if x3 < (9 : Int) then (if x3 < (wrap64 (((x0.length : Nat) : Int) - x1)) then (if (0 : Int) ≤ (wrap64 (x1 + x3)) ∧ (wrap64 (x1 + x3)) < ((x0.length : Nat) : Int) then (if (0 : Int) ≤ (wrap64 ((7 : Int) * x3)) then (if (127 : Int) < (wrap64 ((x0.getD (wrap64 (x1 + x3)).toNat (0 : Int)))) then impl_GetNum.p11 k x0 x1 (orK .i64 x2 (shlK .i64 (andK .i64 (wrap64 ((x0.getD (wrap64 (x1 + x3)).toNat (0 : Int)))) (127 : Int)) (wrap64 ((7 : Int) * x3)))) (wrap64 (x3 + (1 : Int)))
            else if (0 : Int) < x3 then (if (wrap64 ((x0.getD (wrap64 (x1 + x3)).toNat (0 : Int)))) = (0 : Int) then some ((0 : Int), (0 : Int), false)
              else some ((orK .i64 x2 (shlK .i64 (andK .i64 (wrap64 ((x0.getD (wrap64 (x1 + x3)).toNat (0 : Int)))) (127 : Int)) (wrap64 ((7 : Int) * x3)))), (wrap64 ((wrap64 (x1 + x3)) + (1 : Int))), true))
            else some ((orK .i64 x2 (shlK .i64 (andK .i64 (wrap64 ((x0.getD (wrap64 (x1 + x3)).toNat (0 : Int)))) (127 : Int)) (wrap64 ((7 : Int) * x3)))), (wrap64 ((wrap64 (x1 + x3)) + (1 : Int))), true))
          else none)
        else none)
      else some ((0 : Int), (0 : Int), false))
    else some ((0 : Int), (0 : Int), false)
noncomputable def impl_GetNum.f (k : Nat) (a0 : (List Int)) (a1 : Int) : Option (Int × Int × Bool) := if a1 < (0 : Int) then some ((0 : Int), (0 : Int), false)
  else impl_GetNum.p11 k a0 a1 (0 : Int) (0 : Int)
/-! impl.reader).num -/
noncomputable def impl_reader_num.f (k : Nat) (a0 : reader) : Option (Int × reader) := (impl_GetNum.f k a0.1 a0.2.1).bind fun r1 =>
  if a0.2.2.1 = true then some ((0 : Int), (a0.1, (a0.2.1, (true, a0.2.2.2))))
  else if r1.2.2 = true then some (r1.1, (a0.1, (r1.2.1, a0.2.2)))
  else some ((0 : Int), (a0.1, (a0.2.1, (true, a0.2.2.2))))
/-! impl.reader).count -/
noncomputable def impl_reader_count.f (k : Nat) (a0 : reader) (a1 : Int) : Option (Int × reader) := (impl_reader_num.f k a0).bind fun r1 =>
  if a1 < r1.1 then some ((0 : Int), (r1.2.1, (r1.2.2.1, (true, r1.2.2.2.2))))
  else some (r1.1, r1.2)
/-! impl.reader).done -/
noncomputable def impl_reader_done.f (a0 : reader) : Option (Bool × reader) := if a0.2.2.1 = true then some (false, a0)
  else some ((decide (a0.2.1 = ((a0.1.length : Nat) : Int))), a0)
/-! impl.reader).flag -/
noncomputable def impl_reader_flag.f (k : Nat) (a0 : reader) : Option (Bool × reader) := (impl_reader_count.f k a0 (1 : Int)).bind fun r1 =>
  some ((decide (r1.1 = (1 : Int))), r1.2)
/-! impl.reader).text -/
noncomputable def impl_reader_text.f (k : Nat) (a0 : reader) : Option (ByteArray × reader) := (impl_reader_num.f k a0).bind fun r1 =>
  if r1.2.2.2.1 = true then some ((⟨#[]⟩ : ByteArray), (r1.2.1, (r1.2.2.1, (true, r1.2.2.2.2))))
  else if (wrap64 (((r1.2.1.length : Nat) : Int) - r1.2.2.1)) < r1.1 then some ((⟨#[]⟩ : ByteArray), (r1.2.1, (r1.2.2.1, (true, r1.2.2.2.2))))
  else if (0 : Int) ≤ (wrap64 ((wrap64 (r1.2.2.1 + r1.1)) - r1.1)) ∧ (wrap64 ((wrap64 (r1.2.2.1 + r1.1)) - r1.1)) ≤ (wrap64 (r1.2.2.1 + r1.1)) ∧ (wrap64 (r1.2.2.1 + r1.1)) ≤ ((r1.2.1.length : Nat) : Int) then some ((bytesOf (List.take ((wrap64 (r1.2.2.1 + r1.1)).toNat - (wrap64 ((wrap64 (r1.2.2.1 + r1.1)) - r1.1)).toNat) (r1.2.1.drop (wrap64 ((wrap64 (r1.2.2.1 + r1.1)) - r1.1)).toNat))), (r1.2.1, ((wrap64 (r1.2.2.1 + r1.1)), r1.2.2.2)))
  else none
/-! impl.reader).entry -/
noncomputable def impl_reader_entry.f (k : Nat) (a0 : reader) : Option (Entry × reader) := (impl_reader_num.f k a0).bind fun r1 =>
  (impl_reader_num.f k r1.2).bind fun r2 =>
  (impl_reader_flag.f k r2.2).bind fun r3 =>
  (impl_reader_text.f k r3.2).bind fun r4 =>
  if r4.2.2.2.1 = true then some (((0 : Int), ((0 : Int), (false, ((⟨#[]⟩ : ByteArray), ())))), (r4.2.1, (r4.2.2.1, (true, r4.2.2.2.2))))
  else (impl_EntryOk.f k (r1.1, (r2.1, (r3.1, (r4.1, ()))))).bind fun r5 =>
  if r5 = true then some ((r1.1, (r2.1, (r3.1, (r4.1, ())))), r4.2)
  else some (((0 : Int), ((0 : Int), (false, ((⟨#[]⟩ : ByteArray), ())))), (r4.2.1, (r4.2.2.1, (true, r4.2.2.2.2))))
/-! impl.StoreRead -/
mutual
noncomputable def impl_StoreRead.p13 : Nat → Int → Int → Store → Store → reader → Option (Store × Bool)
  | 0, _, _, _, _, _ => none
  | k + 1, x0, x1, x2, x3, x4 => if x1 < x0 then (if x4.2.2.1 = true then impl_StoreRead.p20 k x2 x3 x4
      else (impl_reader_entry.f k x4).bind fun r3 =>
      if (((x3.1.length : Nat) : Int) + ((([r3.1] : List Entry).length : Nat) : Int)) ≤ lim then impl_StoreRead.p13 k x0 (wrap64 (x1 + (1 : Int))) x2 ((x3.1 ++ ([r3.1] : List Entry)), x3.2) r3.2
      else none)
    else impl_StoreRead.p20 k x2 x3 x4
noncomputable def impl_StoreRead.p20 : Nat → Store → Store → reader → Option (Store × Bool)
  | 0, _, _, _ => none
  | k + 1, x0, x1, x2 => (impl_reader_done.f x2).bind fun r4 =>
    if r4.1 = true then ((impl_StoreOk.f k x1).bind fun r5 =>
      if r5 = true then some (x1, true)
      else some ((([] : List Entry), (([] : List Entry), ((0 : Int), ()))), false))
    else some ((([] : List Entry), (([] : List Entry), ((0 : Int), ()))), false)
end
noncomputable def impl_StoreRead.f (k : Nat) (a0 : (List Int)) : Option (Store × Bool) := (impl_reader_num.f k (a0, ((0 : Int), (false, ())))).bind fun r1 =>
  (impl_reader_count.f k r1.2 (200 : Int)).bind fun r2 =>
  impl_StoreRead.p13 k r2.1 (0 : Int) (([] : List Entry), (([] : List Entry), ((0 : Int), ()))) (([] : List Entry), (([] : List Entry), (r1.1, ()))) r2.2
/-! laws.sameEntries -/
noncomputable def laws_sameEntries.p9 : Nat → (List Entry) → (List Entry) → Int → Option (Bool)
  | 0, _, _, _ => none
  | k + 1, x0, x1, x2 => if x2 < ((x0.length : Nat) : Int) then (if (0 : Int) ≤ x2 ∧ x2 < ((x0.length : Nat) : Int) then (if (0 : Int) ≤ x2 ∧ x2 < ((x1.length : Nat) : Int) then (if (x0.getD x2.toNat ((0 : Int), ((0 : Int), (false, ((⟨#[]⟩ : ByteArray), ()))))) = (x1.getD x2.toNat ((0 : Int), ((0 : Int), (false, ((⟨#[]⟩ : ByteArray), ()))))) then laws_sameEntries.p9 k x0 x1 (wrap64 (x2 + (1 : Int)))
          else some false)
        else none)
      else none)
    else some true
noncomputable def laws_sameEntries.f (k : Nat) (a0 : (List Entry)) (a1 : (List Entry)) : Option (Bool) := if ((a0.length : Nat) : Int) = ((a1.length : Nat) : Int) then laws_sameEntries.p9 k a0 a1 (0 : Int)
  else some false
/-! spec.DrawStoreRead -/
noncomputable def spec_DrawStoreRead.f (k : Nat) (a0 : (List Int)) : Option ((List Int)) := (spec_l1New.f k a0).bind fun r1 =>
  (spec_l6DrawRight.f k r1).bind fun r2 =>
  (spec_StorePack.f k (r2.1.1, (([] : List Entry), r2.1.2.2))).bind fun r3 =>
  if r3.2 = true then ((spec_l1Below.f r2.2 (5 : Int)).bind fun r4 =>
    if r4.1 = (0 : Int) then ((spec_l1Below.f r4.2 ((r3.1.length : Nat) : Int)).bind fun r5 =>
      (spec_l1PickInt.f r5.2 ([(0 : Int), (1 : Int), (2 : Int), (3 : Int), (127 : Int), (128 : Int), (255 : Int)] : List Int)).bind fun r6 =>
      if (0 : Int) ≤ r5.1 ∧ r5.1 < ((r3.1.length : Nat) : Int) then some (r3.1.set r5.1.toNat (IntKind.wrap .u8 (r6.1)))
      else none)
    else if r4.1 = (1 : Int) then ((spec_l1Below.f r4.2 (wrap64 (((r3.1.length : Nat) : Int) + (1 : Int)))).bind fun r7 =>
      if (0 : Int) ≤ (0 : Int) ∧ (0 : Int) ≤ r7.1 ∧ r7.1 ≤ ((r3.1.length : Nat) : Int) then some (List.take (r7.1.toNat - (0 : Int).toNat) (r3.1.drop (0 : Int).toNat))
      else none)
    else if r4.1 = (2 : Int) then (if (((r3.1.length : Nat) : Int) + ((([(0 : Int)] : List Int).length : Nat) : Int)) ≤ lim then some (r3.1 ++ ([(0 : Int)] : List Int))
      else none)
    else some r3.1)
  else some r3.1
/-! spec.GetNum -/
noncomputable def spec_GetNum.p13 : Nat → (List Int) → Int → Int → Int → Int → Option (Int × Int × Bool)
  | 0, _, _, _, _, _ => none
  | k + 1, x0, x1, x2, x3, x4 => if x4 < (9 : Int) then (if (wrap64 (x1 + x4)) < ((x0.length : Nat) : Int) then (if (0 : Int) ≤ (wrap64 (x1 + x4)) ∧ (wrap64 (x1 + x4)) < ((x0.length : Nat) : Int) then (if (wrap64 ((x0.getD (wrap64 (x1 + x4)).toNat (0 : Int)))) < (128 : Int) then (if (wrap64 ((x0.getD (wrap64 (x1 + x4)).toNat (0 : Int)))) = (0 : Int) then (if (0 : Int) < x4 then some ((0 : Int), (0 : Int), false)
              else some ((wrap64 (x2 + (wrap64 ((Int.tmod (wrap64 ((x0.getD (wrap64 (x1 + x4)).toNat (0 : Int)))) (128 : Int)) * x3)))), (wrap64 ((wrap64 (x1 + x4)) + (1 : Int))), true))
            else some ((wrap64 (x2 + (wrap64 ((Int.tmod (wrap64 ((x0.getD (wrap64 (x1 + x4)).toNat (0 : Int)))) (128 : Int)) * x3)))), (wrap64 ((wrap64 (x1 + x4)) + (1 : Int))), true))
          else spec_GetNum.p13 k x0 x1 (wrap64 (x2 + (wrap64 ((Int.tmod (wrap64 ((x0.getD (wrap64 (x1 + x4)).toNat (0 : Int)))) (128 : Int)) * x3)))) (wrap64 (x3 * (128 : Int))) (wrap64 (x4 + (1 : Int))))
        else none)
      else some ((0 : Int), (0 : Int), false))
    else some ((0 : Int), (0 : Int), false)
noncomputable def spec_GetNum.f (k : Nat) (a0 : (List Int)) (a1 : Int) : Option (Int × Int × Bool) := if a1 < (0 : Int) then some ((0 : Int), (0 : Int), false)
  else if ((a0.length : Nat) : Int) ≤ a1 then some ((0 : Int), (0 : Int), false)
  else spec_GetNum.p13 k a0 a1 (0 : Int) (1 : Int) (0 : Int)
/-! spec.GetText -/
noncomputable def spec_GetText.f (k : Nat) (a0 : (List Int)) (a1 : Int) : Option (ByteArray × Int × Bool) := (spec_GetNum.f k a0 a1).bind fun r1 =>
  if r1.2.2 = true then (if (wrap64 (((a0.length : Nat) : Int) - r1.2.1)) < r1.1 then some ((⟨#[]⟩ : ByteArray), (0 : Int), false)
    else if (0 : Int) ≤ r1.2.1 ∧ r1.2.1 ≤ (wrap64 (r1.2.1 + r1.1)) ∧ (wrap64 (r1.2.1 + r1.1)) ≤ ((a0.length : Nat) : Int) then some ((bytesOf (List.take ((wrap64 (r1.2.1 + r1.1)).toNat - r1.2.1.toNat) (a0.drop r1.2.1.toNat))), (wrap64 (r1.2.1 + r1.1)), true)
    else none)
  else some ((⟨#[]⟩ : ByteArray), (0 : Int), false)
/-! spec.EntryRead -/
noncomputable def spec_EntryRead.f (k : Nat) (a0 : (List Int)) (a1 : Int) : Option (Entry × Int × Bool) := (spec_GetNum.f k a0 a1).bind fun r1 =>
  if r1.2.2 = true then ((spec_GetNum.f k a0 r1.2.1).bind fun r2 =>
    if r2.2.2 = true then ((spec_GetNum.f k a0 r2.2.1).bind fun r3 =>
      if r3.2.2 = true then (if (1 : Int) < r3.1 then some (((0 : Int), ((0 : Int), (false, ((⟨#[]⟩ : ByteArray), ())))), (0 : Int), false)
        else (spec_GetText.f k a0 r3.2.1).bind fun r4 =>
        if r4.2.2 = true then ((spec_EntryOk.f k (r1.1, (r2.1, ((decide (r3.1 = (1 : Int))), (r4.1, ()))))).bind fun r5 =>
          if r5 = true then some ((r1.1, (r2.1, ((decide (r3.1 = (1 : Int))), (r4.1, ())))), r4.2.1, true)
          else some (((0 : Int), ((0 : Int), (false, ((⟨#[]⟩ : ByteArray), ())))), (0 : Int), false))
        else some (((0 : Int), ((0 : Int), (false, ((⟨#[]⟩ : ByteArray), ())))), (0 : Int), false))
      else some (((0 : Int), ((0 : Int), (false, ((⟨#[]⟩ : ByteArray), ())))), (0 : Int), false))
    else some (((0 : Int), ((0 : Int), (false, ((⟨#[]⟩ : ByteArray), ())))), (0 : Int), false))
  else some (((0 : Int), ((0 : Int), (false, ((⟨#[]⟩ : ByteArray), ())))), (0 : Int), false)
/-! spec.StoreRead -/
mutual
noncomputable def spec_StoreRead.p15 : Nat → (List Int) → Int → Bool → Int → Int → Store → Store → Option (Store × Bool)
  | 0, _, _, _, _, _, _, _ => none
  | k + 1, x0, x1, x2, x3, x4, x5, x6 => if x4 < x3 then (if x2 = true then ((spec_EntryRead.f k x0 x1).bind fun r3 =>
        if (((x6.1.length : Nat) : Int) + ((([r3.1] : List Entry).length : Nat) : Int)) ≤ lim then spec_StoreRead.p15 k x0 r3.2.1 r3.2.2 x3 (wrap64 (x4 + (1 : Int))) x5 ((x6.1 ++ ([r3.1] : List Entry)), x6.2)
        else none)
      else spec_StoreRead.p26 k x0 x1 x2 x5 x6)
    else spec_StoreRead.p26 k x0 x1 x2 x5 x6
noncomputable def spec_StoreRead.p26 : Nat → (List Int) → Int → Bool → Store → Store → Option (Store × Bool)
  | 0, _, _, _, _, _ => none
  | k + 1, x0, x1, x2, x3, x4 => if x2 = true then (if x1 = ((x0.length : Nat) : Int) then ((spec_StoreOk.f k x4).bind fun r4 =>
        if r4 = true then some (x4, true)
        else some ((([] : List Entry), (([] : List Entry), ((0 : Int), ()))), false))
      else some ((([] : List Entry), (([] : List Entry), ((0 : Int), ()))), false))
    else some ((([] : List Entry), (([] : List Entry), ((0 : Int), ()))), false)
end
noncomputable def spec_StoreRead.f (k : Nat) (a0 : (List Int)) : Option (Store × Bool) := (spec_GetNum.f k a0 (0 : Int)).bind fun r1 =>
  if r1.2.2 = true then ((spec_GetNum.f k a0 r1.2.1).bind fun r2 =>
    spec_StoreRead.p15 k a0 r2.2.1 r2.2.2 r2.1 (0 : Int) (([] : List Entry), (([] : List Entry), ((0 : Int), ()))) (([] : List Entry), (([] : List Entry), (r1.1, ()))))
  else some ((([] : List Entry), (([] : List Entry), ((0 : Int), ()))), false)
/-! laws.FnStoreBytes -/
noncomputable def laws_FnStoreBytes.p24 : Nat → (List Int) → Option (Bool)
  | 0, _ => none
  | k + 1, x0 => (spec_DrawStoreRead.f k x0).bind fun r7 =>
    (impl_StoreRead.f k r7).bind fun r8 =>
    (spec_StoreRead.f k r7).bind fun r9 =>
    if r8.2 = r9.2 then ((impl_StorePack.f k r8.1).bind fun r10 =>
      if r8.2 = true then (if r8.2 = true then (if r10.2 = true then some (decide ((bytesOf r10.1) = (bytesOf r7)))
          else some false)
        else some false)
      else if ((r8.1.1.length : Nat) : Int) = (0 : Int) then some true
      else if r8.2 = true then (if r10.2 = true then some (decide ((bytesOf r10.1) = (bytesOf r7)))
        else some false)
      else some false)
    else some false
noncomputable def laws_FnStoreBytes.f (k : Nat) (a0 : (List Int)) : Option (Bool) := (laws_big.f a0).bind fun r1 =>
  if r1 = true then some true
  else (spec_DrawStorePack.f k a0).bind fun r2 =>
  (impl_StorePack.f k r2).bind fun r3 =>
  (spec_StorePack.f k r2).bind fun r4 =>
  if r3.2 = r4.2 then (if r3.2 = true then ((impl_StoreRead.f k r3.1).bind fun r5 =>
      if r5.2 = true then (if r5.1.2.2.1 = r2.2.2.1 then ((laws_sameEntries.f k r5.1.1 r2.1).bind fun r6 =>
          if r6 = true then laws_FnStoreBytes.p24 k a0
          else some false)
        else some false)
      else some false)
    else laws_FnStoreBytes.p24 k a0)
  else some false
end Go.Proofs.Ytllmifioelbleaa.OmFnStoreBytes
