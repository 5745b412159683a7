import Derived.Test.YthgnikafeamidaaOmD
set_option maxRecDepth 1000000
set_option linter.unusedVariables false
namespace Go.Proofs.Ythgnikafeamidaa.OmFnExactFill
open Go Go.OM
@[reducible] noncomputable def tEntry : Ty := .pair (.int .i64) (.pair (.int .i64) (.pair .bool (.pair .str (.unit))))
@[reducible] noncomputable def Entry : Type := Int × Int × Bool × ByteArray × Unit
@[reducible] noncomputable def tStore : Ty := .pair (.sl tEntry) (.pair (.sl tEntry) (.pair (.int .i64) (.unit)))
@[reducible] noncomputable def Store : Type := (List Entry) × (List Entry) × Int × Unit
@[reducible] noncomputable def tConfig : Ty := .pair (.sl (.int .i64)) (.pair (.int .i64) (.unit))
@[reducible] noncomputable def Config : Type := (List Int) × Int × Unit
@[reducible] noncomputable def tMend : Ty := .pair (.int .i64) (.pair (.int .i64) (.pair (.sl (.int .i64)) (.pair (.sl tEntry) (.pair .bool (.pair (.sl (.sl (.int .i64))) (.unit))))))
@[reducible] noncomputable def Mend : Type := Int × Int × (List Int) × (List Entry) × Bool × (List (List Int)) × Unit
@[reducible] noncomputable def tl1Cur : Ty := .pair (.sl (.int .u8)) (.pair (.int .i64) (.pair (.int .i64) (.unit)))
@[reducible] noncomputable def l1Cur : Type := (List Int) × Int × Int × Unit
/-! laws.szIntS -/
noncomputable def laws_szIntS.f (a0 : (List Int)) (a1 : Int) : Option (Int) := if (wrap64 (a1 - ((a0.length : Nat) : Int))) < (0 : Int) then some (-1 : Int)
  else some (wrap64 (a1 - ((a0.length : Nat) : Int)))
/-! laws.szConfig -/
noncomputable def laws_szConfig.f (a0 : Config) (a1 : Int) : Option (Int) := (laws_szIntS.f a0.1 a1).bind fun r1 =>
  if r1 < (0 : Int) then some (-1 : Int)
  else some r1
/-! laws.szEntry -/
noncomputable def laws_szEntry.f (a0 : Entry) (a1 : Int) : Option (Int) := if (wrap64 (a1 - ((a0.2.2.2.1.size : Nat) : Int))) < (0 : Int) then some (-1 : Int)
  else some (wrap64 (a1 - ((a0.2.2.2.1.size : Nat) : Int)))
/-! laws.szEntryS -/
noncomputable def laws_szEntryS.p11 : Nat → (List Entry) → Int → Int → Option (Int)
  | 0, _, _, _ => none
  | k + 1, x0, x1, x2 => if x2 < ((x0.length : Nat) : Int) then (if (0 : Int) ≤ x2 ∧ x2 < ((x0.length : Nat) : Int) then ((laws_szEntry.f (x0.getD x2.toNat ((0 : Int), ((0 : Int), (false, ((⟨#[]⟩ : ByteArray), ()))))) x1).bind fun r1 =>
        if r1 < (0 : Int) then some (-1 : Int)
        else laws_szEntryS.p11 k x0 r1 (wrap64 (x2 + (1 : Int))))
      else none)
    else some x1
noncomputable def laws_szEntryS.f (k : Nat) (a0 : (List Entry)) (a1 : Int) : Option (Int) := if (wrap64 (a1 - ((a0.length : Nat) : Int))) < (0 : Int) then some (-1 : Int)
  else laws_szEntryS.p11 k a0 (wrap64 (a1 - ((a0.length : Nat) : Int))) (0 : Int)
/-! laws.szStore -/
noncomputable def laws_szStore.f (k : Nat) (a0 : Store) (a1 : Int) : Option (Int) := (laws_szEntryS.f k a0.1 a1).bind fun r1 =>
  if r1 < (0 : Int) then some (-1 : Int)
  else (laws_szEntryS.f k a0.2.1 r1).bind fun r2 =>
  if r2 < (0 : Int) then some (-1 : Int)
  else some r2
/-! laws.szStoreS -/
noncomputable def laws_szStoreS.p11 : Nat → (List Store) → Int → Int → Option (Int)
  | 0, _, _, _ => none
  | k + 1, x0, x1, x2 => if x2 < ((x0.length : Nat) : Int) then (if (0 : Int) ≤ x2 ∧ x2 < ((x0.length : Nat) : Int) then ((laws_szStore.f k (x0.getD x2.toNat (([] : List Entry), (([] : List Entry), ((0 : Int), ())))) x1).bind fun r1 =>
        if r1 < (0 : Int) then some (-1 : Int)
        else laws_szStoreS.p11 k x0 r1 (wrap64 (x2 + (1 : Int))))
      else none)
    else some x1
noncomputable def laws_szStoreS.f (k : Nat) (a0 : (List Store)) (a1 : Int) : Option (Int) := if (wrap64 (a1 - ((a0.length : Nat) : Int))) < (0 : Int) then some (-1 : Int)
  else laws_szStoreS.p11 k a0 (wrap64 (a1 - ((a0.length : Nat) : Int))) (0 : Int)
/-! laws.toIntS -/
noncomputable def laws_toIntS.p7 : Nat → (List Int) → (List Int) → Int → Option ((List Int))
  | 0, _, _, _ => none
  | k + 1, x0, x1, x2 => if x2 < ((x0.length : Nat) : Int) then (if (0 : Int) ≤ x2 ∧ x2 < ((x0.length : Nat) : Int) then (if (0 : Int) ≤ x2 ∧ x2 < ((x1.length : Nat) : Int) then laws_toIntS.p7 k x0 (x1.set x2.toNat (x0.getD x2.toNat (0 : Int))) (wrap64 (x2 + (1 : Int)))
        else none)
      else none)
    else some x1
noncomputable def laws_toIntS.f (k : Nat) (a0 : (List Int)) : Option ((List Int)) := if (0 : Int) ≤ ((a0.length : Nat) : Int) ∧ ((a0.length : Nat) : Int) ≤ ((a0.length : Nat) : Int) ∧ ((a0.length : Nat) : Int) ≤ lim then laws_toIntS.p7 k a0 (List.replicate ((a0.length : Nat) : Int).toNat (0 : Int)) (0 : Int)
  else none
/-! laws.toConfig -/
noncomputable def laws_toConfig.f (k : Nat) (a0 : Config) : Option (Config) := (laws_toIntS.f k a0.1).bind fun r1 =>
  some (r1, (a0.2.1, ()))
/-! laws.toEntry -/
noncomputable def laws_toEntry.f (a0 : Entry) : Option (Entry) := some (a0.1, (a0.2.1, (a0.2.2.1, (a0.2.2.2.1, ()))))
/-! laws.toEntryS -/
noncomputable def laws_toEntryS.p7 : Nat → (List Entry) → (List Entry) → Int → Option ((List Entry))
  | 0, _, _, _ => none
  | k + 1, x0, x1, x2 => if x2 < ((x0.length : Nat) : Int) then (if (0 : Int) ≤ x2 ∧ x2 < ((x0.length : Nat) : Int) then ((laws_toEntry.f (x0.getD x2.toNat ((0 : Int), ((0 : Int), (false, ((⟨#[]⟩ : ByteArray), ())))))).bind fun r1 =>
        if (0 : Int) ≤ x2 ∧ x2 < ((x1.length : Nat) : Int) then laws_toEntryS.p7 k x0 (x1.set x2.toNat r1) (wrap64 (x2 + (1 : Int)))
        else none)
      else none)
    else some x1
noncomputable def laws_toEntryS.f (k : Nat) (a0 : (List Entry)) : Option ((List Entry)) := if (0 : Int) ≤ ((a0.length : Nat) : Int) ∧ ((a0.length : Nat) : Int) ≤ ((a0.length : Nat) : Int) ∧ ((a0.length : Nat) : Int) ≤ lim then laws_toEntryS.p7 k a0 (List.replicate ((a0.length : Nat) : Int).toNat ((0 : Int), ((0 : Int), (false, ((⟨#[]⟩ : ByteArray), ()))))) (0 : Int)
  else none
/-! laws.toStore -/
noncomputable def laws_toStore.f (k : Nat) (a0 : Store) : Option (Store) := (laws_toEntryS.f k a0.1).bind fun r1 =>
  (laws_toEntryS.f k a0.2.1).bind fun r2 =>
  some (r1, (r2, (a0.2.2.1, ())))
/-! laws.toStoreS -/
noncomputable def laws_toStoreS.p7 : Nat → (List Store) → (List Store) → Int → Option ((List Store))
  | 0, _, _, _ => none
  | k + 1, x0, x1, x2 => if x2 < ((x0.length : Nat) : Int) then (if (0 : Int) ≤ x2 ∧ x2 < ((x0.length : Nat) : Int) then ((laws_toStore.f k (x0.getD x2.toNat (([] : List Entry), (([] : List Entry), ((0 : Int), ()))))).bind fun r1 =>
        if (0 : Int) ≤ x2 ∧ x2 < ((x1.length : Nat) : Int) then laws_toStoreS.p7 k x0 (x1.set x2.toNat r1) (wrap64 (x2 + (1 : Int)))
        else none)
      else none)
    else some x1
noncomputable def laws_toStoreS.f (k : Nat) (a0 : (List Store)) : Option ((List Store)) := if (0 : Int) ≤ ((a0.length : Nat) : Int) ∧ ((a0.length : Nat) : Int) ≤ ((a0.length : Nat) : Int) ∧ ((a0.length : Nat) : Int) ≤ lim then laws_toStoreS.p7 k a0 (List.replicate ((a0.length : Nat) : Int).toNat (([] : List Entry), (([] : List Entry), ((0 : Int), ())))) (0 : Int)
  else none
/-! spec.l1In -/
noncomputable def spec_l1In.f (a0 : Int) (a1 : Int) (a2 : Int) : Option (Bool) := if a1 ≤ a0 then some (decide (a0 ≤ a2))
  else some false
/-! spec.ConfigOk -/
noncomputable def spec_ConfigOk.p9 : Nat → Int → Config → Option (Bool)
  | 0, _, _ => none
  | k + 1, x0, x1 => if x0 < ((x1.1.length : Nat) : Int) then (if (0 : Int) ≤ x0 ∧ x0 < ((x1.1.length : Nat) : Int) then ((spec_l1In.f (x1.1.getD x0.toNat (0 : Int)) (0 : Int) (7 : Int)).bind fun r3 =>
        if r3 = true then spec_ConfigOk.p9 k (wrap64 (x0 + (1 : Int))) x1
        else some false)
      else none)
    else some true
noncomputable def spec_ConfigOk.f (k : Nat) (a0 : Config) : Option (Bool) := (spec_l1In.f ((a0.1.length : Nat) : Int) (1 : Int) (8 : Int)).bind fun r1 =>
  if r1 = true then ((spec_l1In.f a0.2.1 (1 : Int) (4 : Int)).bind fun r2 =>
    if r2 = true then spec_ConfigOk.p9 k (0 : Int) a0
    else some false)
  else some false
/-! spec.l4Asc -/
noncomputable def spec_l4Asc.p5 : Nat → (List Int) → Int → Int → Int → Option (Bool)
  | 0, _, _, _, _ => none
  | k + 1, x0, x1, x2, x3 => if x3 < ((x0.length : Nat) : Int) then (if (0 : Int) ≤ x3 ∧ x3 < ((x0.length : Nat) : Int) then ((spec_l1In.f (x0.getD x3.toNat (0 : Int)) x1 x2).bind fun r1 =>
        if r1 = true then (if (0 : Int) < x3 then (if (0 : Int) ≤ (wrap64 (x3 - (1 : Int))) ∧ (wrap64 (x3 - (1 : Int))) < ((x0.length : Nat) : Int) then (if (0 : Int) ≤ x3 ∧ x3 < ((x0.length : Nat) : Int) then (if (x0.getD x3.toNat (0 : Int)) ≤ (x0.getD (wrap64 (x3 - (1 : Int))).toNat (0 : Int)) then some false
                else spec_l4Asc.p5 k x0 x1 x2 (wrap64 (x3 + (1 : Int))))
              else none)
            else none)
          else spec_l4Asc.p5 k x0 x1 x2 (wrap64 (x3 + (1 : Int))))
        else some false)
      else none)
    else some true
noncomputable def spec_l4Asc.f (k : Nat) (a0 : (List Int)) (a1 : Int) (a2 : Int) : Option (Bool) := spec_l4Asc.p5 k a0 a1 a2 (0 : Int)
/-! spec.NodesOk -/
noncomputable def spec_NodesOk.f (k : Nat) (a0 : Config) (a1 : (List Int)) : Option (Bool) := (spec_ConfigOk.f k a0).bind fun r1 =>
  if r1 = true then ((spec_l4Asc.f k a1 (0 : Int) (wrap64 (((a0.1.length : Nat) : Int) - (1 : Int)))).bind fun r2 =>
    some r2)
  else some false
/-! spec.l4Span -/
noncomputable def spec_l4Span.p9 : Nat → (List Int) → (List Bool) → Int → Int → Config → Option (Int)
  | 0, _, _, _, _, _ => none
  | k + 1, x0, x1, x2, x3, x4 => if x3 < ((x0.length : Nat) : Int) then (if (0 : Int) ≤ x3 ∧ x3 < ((x0.length : Nat) : Int) then (if (0 : Int) ≤ (x0.getD x3.toNat (0 : Int)) ∧ (x0.getD x3.toNat (0 : Int)) < ((x4.1.length : Nat) : Int) then (if (0 : Int) ≤ (x4.1.getD (x0.getD x3.toNat (0 : Int)).toNat (0 : Int)) ∧ (x4.1.getD (x0.getD x3.toNat (0 : Int)).toNat (0 : Int)) < ((x1.length : Nat) : Int) then (if (x1.getD (x4.1.getD (x0.getD x3.toNat (0 : Int)).toNat (0 : Int)).toNat false) = true then spec_l4Span.p9 k x0 x1 x2 (wrap64 (x3 + (1 : Int))) x4
            else if (0 : Int) ≤ (x4.1.getD (x0.getD x3.toNat (0 : Int)).toNat (0 : Int)) ∧ (x4.1.getD (x0.getD x3.toNat (0 : Int)).toNat (0 : Int)) < ((x1.length : Nat) : Int) then spec_l4Span.p9 k x0 (x1.set (x4.1.getD (x0.getD x3.toNat (0 : Int)).toNat (0 : Int)).toNat true) (wrap64 (x2 + (1 : Int))) (wrap64 (x3 + (1 : Int))) x4
            else none)
          else none)
        else none)
      else none)
    else some x2
noncomputable def spec_l4Span.f (k : Nat) (a0 : Config) (a1 : (List Int)) : Option (Int) := if (0 : Int) ≤ (8 : Int) ∧ (8 : Int) ≤ (8 : Int) ∧ (8 : Int) ≤ lim then spec_l4Span.p9 k a1 (List.replicate (8 : Int).toNat false) (0 : Int) (0 : Int) a0
  else none
/-! spec.Holds -/
noncomputable def spec_Holds.f (k : Nat) (a0 : Config) (a1 : (List Int)) : Option (Bool) := (spec_NodesOk.f k a0 a1).bind fun r1 =>
  if r1 = true then ((spec_l4Span.f k a0 a1).bind fun r2 =>
    some (decide (a0.2.1 ≤ r2)))
  else some false
/-! spec.LostOk -/
noncomputable def spec_LostOk.f (k : Nat) (a0 : Config) (a1 : (List Int)) : Option (Bool) := (spec_NodesOk.f k a0 a1).bind fun r1 =>
  if r1 = true then ((spec_Holds.f k a0 a1).bind fun r2 =>
    some (!(decide (r2 = true))))
  else some false
/-! spec.l4Has -/
noncomputable def spec_l4Has.p5 : Nat → (List Int) → Int → Int → Option (Bool)
  | 0, _, _, _ => none
  | k + 1, x0, x1, x2 => if x2 < ((x0.length : Nat) : Int) then (if (0 : Int) ≤ x2 ∧ x2 < ((x0.length : Nat) : Int) then (if (x0.getD x2.toNat (0 : Int)) = x1 then some true
        else spec_l4Has.p5 k x0 x1 (wrap64 (x2 + (1 : Int))))
      else none)
    else some false
noncomputable def spec_l4Has.f (k : Nat) (a0 : (List Int)) (a1 : Int) : Option (Bool) := spec_l4Has.p5 k a0 a1 (0 : Int)
/-! spec.PlaceOk -/
noncomputable def spec_PlaceOk.f (a0 : Int) : Option (Bool) := if (0 : Int) < a0 then ((spec_l1In.f (wrap64 ((Int.tdiv a0 (4294967296 : Int)))) (1 : Int) (30 : Int)).bind fun r1 =>
    if r1 = true then ((spec_l1In.f (Int.tmod a0 (4294967296 : Int)) (1 : Int) (60 : Int)).bind fun r2 =>
      some r2)
    else some false)
  else some false
/-! spec.EpochOf -/
noncomputable def spec_EpochOf.f (a0 : Int) : Option (Int) := (spec_PlaceOk.f a0).bind fun r1 =>
  if r1 = true then some (wrap64 ((Int.tdiv a0 (4294967296 : Int))))
  else some (0 : Int)
/-! spec.EntryOk -/
noncomputable def spec_EntryOk.p6 : Nat → Entry → Option (Bool)
  | 0, _ => none
  | k + 1, x0 => if x0.2.2.1 = true then (if (0 : Int) < x0.2.1 then some (decide (x0.2.2.2.1 = (⟨#[]⟩ : ByteArray)))
      else some false)
    else some true
noncomputable def spec_EntryOk.f (k : Nat) (a0 : Entry) : Option (Bool) := (spec_PlaceOk.f a0.1).bind fun r1 =>
  if r1 = true then ((spec_l1In.f a0.2.1 (0 : Int) (30 : Int)).bind fun r2 =>
    if r2 = true then (if (0 : Int) < a0.2.1 then ((spec_EpochOf.f a0.1).bind fun r3 =>
        if a0.2.1 ≤ r3 then some false
        else if (40 : Int) < ((a0.2.2.2.1.size : Nat) : Int) then some false
        else spec_EntryOk.p6 k a0)
      else if (40 : Int) < ((a0.2.2.2.1.size : Nat) : Int) then some false
      else spec_EntryOk.p6 k a0)
    else some false)
  else some false
/-! spec.l6List -/
noncomputable def spec_l6List.p9 : Nat → (List Entry) → Int → Option (Bool)
  | 0, _, _ => none
  | k + 1, x0, x1 => if x1 < ((x0.length : Nat) : Int) then (if (0 : Int) ≤ x1 ∧ x1 < ((x0.length : Nat) : Int) then ((spec_EntryOk.f k (x0.getD x1.toNat ((0 : Int), ((0 : Int), (false, ((⟨#[]⟩ : ByteArray), ())))))).bind fun r1 =>
        if r1 = true then spec_l6List.p9 k x0 (wrap64 (x1 + (1 : Int)))
        else some false)
      else none)
    else some true
noncomputable def spec_l6List.f (k : Nat) (a0 : (List Entry)) (a1 : Int) : Option (Bool) := if a1 < ((a0.length : Nat) : Int) then some false
  else spec_l6List.p9 k a0 (0 : Int)
/-! spec.l6Asc -/
noncomputable def spec_l6Asc.p5 : Nat → (List Entry) → Int → Option (Bool)
  | 0, _, _ => none
  | k + 1, x0, x1 => if x1 < ((x0.length : Nat) : Int) then (if (0 : Int) ≤ (wrap64 (x1 - (1 : Int))) ∧ (wrap64 (x1 - (1 : Int))) < ((x0.length : Nat) : Int) then (if (0 : Int) ≤ x1 ∧ x1 < ((x0.length : Nat) : Int) then (if (x0.getD x1.toNat ((0 : Int), ((0 : Int), (false, ((⟨#[]⟩ : ByteArray), ()))))).1 ≤ (x0.getD (wrap64 (x1 - (1 : Int))).toNat ((0 : Int), ((0 : Int), (false, ((⟨#[]⟩ : ByteArray), ()))))).1 then some false
          else spec_l6Asc.p5 k x0 (wrap64 (x1 + (1 : Int))))
        else none)
      else none)
    else some true
noncomputable def spec_l6Asc.f (k : Nat) (a0 : (List Entry)) : Option (Bool) := spec_l6Asc.p5 k a0 (1 : Int)
/-! spec.StoreOk -/
noncomputable def spec_StoreOk.f (k : Nat) (a0 : Store) : Option (Bool) := (spec_l6List.f k a0.1 (200 : Int)).bind fun r1 =>
  if r1 = true then ((spec_l6List.f k a0.2.1 (20 : Int)).bind fun r2 =>
    if r2 = true then ((spec_l6Asc.f k a0.1).bind fun r3 =>
      if r3 = true then ((spec_l1In.f a0.2.2.1 (0 : Int) (30 : Int)).bind fun r4 =>
        some r4)
      else some false)
    else some false)
  else some false
/-! spec.Better -/
noncomputable def spec_Better.f (a0 : Entry) (a1 : Entry) : Option (Entry) := if a0.2.1 < a1.2.1 then some a1
  else some a0
/-! spec.l6Keep -/
mutual
noncomputable def spec_l6Keep.p9 : Nat → (List Entry) → (List Entry) → Bool → Int → Entry → Option ((List Entry))
  | 0, _, _, _, _, _ => none
  | k + 1, x0, x1, x2, x3, x4 => if x3 < ((x0.length : Nat) : Int) then (if x2 = true then spec_l6Keep.p18 k x0 x1 x2 x3 x4
      else if (0 : Int) ≤ x3 ∧ x3 < ((x0.length : Nat) : Int) then (if (x0.getD x3.toNat ((0 : Int), ((0 : Int), (false, ((⟨#[]⟩ : ByteArray), ()))))).1 = x4.1 then (if (0 : Int) ≤ x3 ∧ x3 < ((x0.length : Nat) : Int) then ((spec_Better.f (x0.getD x3.toNat ((0 : Int), ((0 : Int), (false, ((⟨#[]⟩ : ByteArray), ()))))) x4).bind fun r1 =>
            if (((x1.length : Nat) : Int) + ((([r1] : List Entry).length : Nat) : Int)) ≤ lim then spec_l6Keep.p9 k x0 (x1 ++ ([r1] : List Entry)) true (wrap64 (x3 + (1 : Int))) x4
            else none)
          else none)
        else spec_l6Keep.p18 k x0 x1 x2 x3 x4)
      else none)
    else if x2 = true then some x1
    else if (((x1.length : Nat) : Int) + ((([x4] : List Entry).length : Nat) : Int)) ≤ lim then some (x1 ++ ([x4] : List Entry))
    else none
noncomputable def spec_l6Keep.p18 : Nat → (List Entry) → (List Entry) → Bool → Int → Entry → Option ((List Entry))
  | 0, _, _, _, _, _ => none
  | k + 1, x0, x1, x2, x3, x4 => if x2 = true then (if (0 : Int) ≤ x3 ∧ x3 < ((x0.length : Nat) : Int) then (if (((x1.length : Nat) : Int) + ((([(x0.getD x3.toNat ((0 : Int), ((0 : Int), (false, ((⟨#[]⟩ : ByteArray), ())))))] : List Entry).length : Nat) : Int)) ≤ lim then spec_l6Keep.p9 k x0 (x1 ++ ([(x0.getD x3.toNat ((0 : Int), ((0 : Int), (false, ((⟨#[]⟩ : ByteArray), ())))))] : List Entry)) x2 (wrap64 (x3 + (1 : Int))) x4
        else none)
      else none)
    else if (0 : Int) ≤ x3 ∧ x3 < ((x0.length : Nat) : Int) then (if x4.1 < (x0.getD x3.toNat ((0 : Int), ((0 : Int), (false, ((⟨#[]⟩ : ByteArray), ()))))).1 then (if (((x1.length : Nat) : Int) + ((([x4] : List Entry).length : Nat) : Int)) ≤ lim then (if (0 : Int) ≤ x3 ∧ x3 < ((x0.length : Nat) : Int) then (if ((((x1 ++ ([x4] : List Entry)).length : Nat) : Int) + ((([(x0.getD x3.toNat ((0 : Int), ((0 : Int), (false, ((⟨#[]⟩ : ByteArray), ())))))] : List Entry).length : Nat) : Int)) ≤ lim then spec_l6Keep.p9 k x0 ((x1 ++ ([x4] : List Entry)) ++ ([(x0.getD x3.toNat ((0 : Int), ((0 : Int), (false, ((⟨#[]⟩ : ByteArray), ())))))] : List Entry)) true (wrap64 (x3 + (1 : Int))) x4
            else none)
          else none)
        else none)
      else if (0 : Int) ≤ x3 ∧ x3 < ((x0.length : Nat) : Int) then (if (((x1.length : Nat) : Int) + ((([(x0.getD x3.toNat ((0 : Int), ((0 : Int), (false, ((⟨#[]⟩ : ByteArray), ())))))] : List Entry).length : Nat) : Int)) ≤ lim then spec_l6Keep.p9 k x0 (x1 ++ ([(x0.getD x3.toNat ((0 : Int), ((0 : Int), (false, ((⟨#[]⟩ : ByteArray), ())))))] : List Entry)) x2 (wrap64 (x3 + (1 : Int))) x4
        else none)
      else none)
    else none
end
noncomputable def spec_l6Keep.f (k : Nat) (a0 : (List Entry)) (a1 : Entry) : Option ((List Entry)) := spec_l6Keep.p9 k a0 ([] : List Entry) false (0 : Int) a1
/-! spec.l11Union -/
mutual
noncomputable def spec_l11Union.p7 : Nat → (List Store) → (List Entry) → Int → Option ((List Entry))
  | 0, _, _, _ => none
  | k + 1, x0, x1, x2 => if x2 < ((x0.length : Nat) : Int) then spec_l11Union.p13 k x0 x1 x2 (0 : Int)
    else some x1
noncomputable def spec_l11Union.p13 : Nat → (List Store) → (List Entry) → Int → Int → Option ((List Entry))
  | 0, _, _, _, _ => none
  | k + 1, x0, x1, x2, x3 => if (0 : Int) ≤ x2 ∧ x2 < ((x0.length : Nat) : Int) then (if x3 < (((x0.getD x2.toNat (([] : List Entry), (([] : List Entry), ((0 : Int), ())))).1.length : Nat) : Int) then (if (0 : Int) ≤ x2 ∧ x2 < ((x0.length : Nat) : Int) then (if (0 : Int) ≤ x3 ∧ x3 < (((x0.getD x2.toNat (([] : List Entry), (([] : List Entry), ((0 : Int), ())))).1.length : Nat) : Int) then ((spec_l6Keep.f k x1 ((x0.getD x2.toNat (([] : List Entry), (([] : List Entry), ((0 : Int), ())))).1.getD x3.toNat ((0 : Int), ((0 : Int), (false, ((⟨#[]⟩ : ByteArray), ())))))).bind fun r1 =>
            spec_l11Union.p13 k x0 r1 x2 (wrap64 (x3 + (1 : Int))))
          else none)
        else none)
      else spec_l11Union.p7 k x0 x1 (wrap64 (x2 + (1 : Int))))
    else none
end
noncomputable def spec_l11Union.f (k : Nat) (a0 : (List Store)) : Option ((List Entry)) := spec_l11Union.p7 k a0 ([] : List Entry) (0 : Int)
/-! spec.Fill -/
mutual
noncomputable def spec_Fill.p13 : Nat → (List Store) → (List Int) → Int → (List Store) → Int → Store → Store → Option (Store × Bool)
  | 0, _, _, _, _, _, _, _ => none
  | k + 1, x0, x1, x2, x3, x4, x5, x6 => if x4 < ((x0.length : Nat) : Int) then ((spec_l4Has.f k x1 x4).bind fun r4 =>
      if r4 = true then spec_Fill.p13 k x0 x1 x2 x3 (wrap64 (x4 + (1 : Int))) x5 x6
      else if (0 : Int) ≤ x4 ∧ x4 < ((x0.length : Nat) : Int) then (if (((x3.length : Nat) : Int) + ((([(x0.getD x4.toNat (([] : List Entry), (([] : List Entry), ((0 : Int), ()))))] : List Store).length : Nat) : Int)) ≤ lim then spec_Fill.p13 k x0 x1 x2 (x3 ++ ([(x0.getD x4.toNat (([] : List Entry), (([] : List Entry), ((0 : Int), ()))))] : List Store)) (wrap64 (x4 + (1 : Int))) x5 x6
        else none)
      else none)
    else spec_Fill.p23 k x2 x3 (0 : Int) x5 x6
noncomputable def spec_Fill.p23 : Nat → Int → (List Store) → Int → Store → Store → Option (Store × Bool)
  | 0, _, _, _, _, _ => none
  | k + 1, x0, x1, x2, x3, x4 => if x2 < ((x1.length : Nat) : Int) then (if (0 : Int) ≤ x2 ∧ x2 < ((x1.length : Nat) : Int) then ((spec_StoreOk.f k (x1.getD x2.toNat (([] : List Entry), (([] : List Entry), ((0 : Int), ()))))).bind fun r5 =>
        if r5 = true then spec_Fill.p23 k x0 x1 (wrap64 (x2 + (1 : Int))) x3 x4
        else some (x4, false))
      else none)
    else (spec_l11Union.f k x1).bind fun r6 =>
    (spec_StoreOk.f k (r6, (([] : List Entry), (x0, ())))).bind fun r7 =>
    if r7 = true then some ((r6, (([] : List Entry), (x0, ()))), true)
    else some (x4, false)
end
noncomputable def spec_Fill.f (k : Nat) (a0 : Config) (a1 : (List Store)) (a2 : (List Int)) (a3 : Int) (a4 : Int) : Option (Store × Bool) := (spec_ConfigOk.f k a0).bind fun r1 =>
  if r1 = true then (if ((a1.length : Nat) : Int) = ((a0.1.length : Nat) : Int) then ((spec_LostOk.f k a0 a2).bind fun r2 =>
      if r2 = true then ((spec_l4Has.f k a2 a3).bind fun r3 =>
        if r3 = true then spec_Fill.p13 k a1 a2 a4 ([] : List Store) (0 : Int) (([] : List Entry), (([] : List Entry), ((0 : Int), ()))) (([] : List Entry), (([] : List Entry), ((0 : Int), ())))
        else some ((([] : List Entry), (([] : List Entry), ((0 : Int), ()))), false))
      else some ((([] : List Entry), (([] : List Entry), ((0 : Int), ()))), false))
    else some ((([] : List Entry), (([] : List Entry), ((0 : Int), ()))), false))
  else some ((([] : List Entry), (([] : List Entry), ((0 : Int), ()))), false)
/-! impl.within -/
noncomputable def impl_within.f (a0 : Int) (a1 : Int) (a2 : Int) : Option (Bool) := if a1 ≤ a0 then some (decide (a0 ≤ a2))
  else some false
/-! impl.ConfigOk -/
noncomputable def impl_ConfigOk.p5 : Nat → (List Int) → Int → Int → Config → Option (Bool)
  | 0, _, _, _, _ => none
  | k + 1, x0, x1, x2, x3 => if x2 < x1 then (if (0 : Int) ≤ x2 ∧ x2 < ((x0.length : Nat) : Int) then ((impl_within.f (x0.getD x2.toNat (0 : Int)) (0 : Int) (7 : Int)).bind fun r1 =>
        if r1 = true then impl_ConfigOk.p5 k x0 x1 (wrap64 (x2 + (1 : Int))) x3
        else some false)
      else none)
    else (impl_within.f ((x3.1.length : Nat) : Int) (1 : Int) (8 : Int)).bind fun r2 =>
    if r2 = true then ((impl_within.f x3.2.1 (1 : Int) (4 : Int)).bind fun r3 =>
      some r3)
    else some false
noncomputable def impl_ConfigOk.f (k : Nat) (a0 : Config) : Option (Bool) := impl_ConfigOk.p5 k a0.1 ((a0.1.length : Nat) : Int) (0 : Int) a0
/-! impl.ascends -/
noncomputable def impl_ascends.p5 : Nat → (List Int) → Int → (List Int) → Int → Int → Option (Bool)
  | 0, _, _, _, _, _ => none
  | k + 1, x0, x1, x2, x3, x4 => if x4 < x3 then (if (0 : Int) ≤ x4 ∧ x4 < ((x2.length : Nat) : Int) then ((impl_within.f (x2.getD x4.toNat (0 : Int)) (0 : Int) x1).bind fun r1 =>
        if r1 = true then (if (0 : Int) < x4 then (if (0 : Int) ≤ (wrap64 (x4 - (1 : Int))) ∧ (wrap64 (x4 - (1 : Int))) < ((x0.length : Nat) : Int) then (if (x2.getD x4.toNat (0 : Int)) ≤ (x0.getD (wrap64 (x4 - (1 : Int))).toNat (0 : Int)) then some false
              else impl_ascends.p5 k x0 x1 x2 x3 (wrap64 (x4 + (1 : Int))))
            else none)
          else impl_ascends.p5 k x0 x1 x2 x3 (wrap64 (x4 + (1 : Int))))
        else some false)
      else none)
    else some true
noncomputable def impl_ascends.f (k : Nat) (a0 : (List Int)) (a1 : Int) : Option (Bool) := impl_ascends.p5 k a0 a1 a0 ((a0.length : Nat) : Int) (0 : Int)
/-! impl.NodesOk -/
noncomputable def impl_NodesOk.f (k : Nat) (a0 : Config) (a1 : (List Int)) : Option (Bool) := (impl_ConfigOk.f k a0).bind fun r1 =>
  if r1 = true then ((impl_ascends.f k a1 (wrap64 (((a0.1.length : Nat) : Int) - (1 : Int)))).bind fun r2 =>
    some r2)
  else some false
/-! slices.Index[[]int,int] -/
noncomputable def slices_Index_int_int.p5 : Nat → (List Int) → Int → Int → Int → Option (Int)
  | 0, _, _, _, _ => none
  | k + 1, x0, x1, x2, x3 => if x3 < x2 then (if (0 : Int) ≤ x3 ∧ x3 < ((x0.length : Nat) : Int) then (if x1 = (x0.getD x3.toNat (0 : Int)) then some x3
        else slices_Index_int_int.p5 k x0 x1 x2 (wrap64 (x3 + (1 : Int))))
      else none)
    else some (-1 : Int)
noncomputable def slices_Index_int_int.f (k : Nat) (a0 : (List Int)) (a1 : Int) : Option (Int) := slices_Index_int_int.p5 k a0 a1 ((a0.length : Nat) : Int) (0 : Int)
/-! slices.Contains[[]int,int] -/
noncomputable def slices_Contains_int_int.f (k : Nat) (a0 : (List Int)) (a1 : Int) : Option (Bool) := (slices_Index_int_int.f k a0 a1).bind fun r1 =>
  some (decide ((0 : Int) ≤ r1))
/-! impl.SpanOf -/
noncomputable def impl_SpanOf.p11 : Nat → (List Int) → (List Int) → Int → Int → Config → Option (Int)
  | 0, _, _, _, _, _ => none
  | k + 1, x0, x1, x2, x3, x4 => if x3 < x2 then (if (0 : Int) ≤ x3 ∧ x3 < ((x1.length : Nat) : Int) then (if (0 : Int) ≤ (x1.getD x3.toNat (0 : Int)) ∧ (x1.getD x3.toNat (0 : Int)) < ((x4.1.length : Nat) : Int) then ((slices_Contains_int_int.f k x0 (x4.1.getD (x1.getD x3.toNat (0 : Int)).toNat (0 : Int))).bind fun r2 =>
          if r2 = true then impl_SpanOf.p11 k x0 x1 x2 (wrap64 (x3 + (1 : Int))) x4
          else if (0 : Int) ≤ (x1.getD x3.toNat (0 : Int)) ∧ (x1.getD x3.toNat (0 : Int)) < ((x4.1.length : Nat) : Int) then (if (((x0.length : Nat) : Int) + ((([(x4.1.getD (x1.getD x3.toNat (0 : Int)).toNat (0 : Int))] : List Int).length : Nat) : Int)) ≤ lim then impl_SpanOf.p11 k (x0 ++ ([(x4.1.getD (x1.getD x3.toNat (0 : Int)).toNat (0 : Int))] : List Int)) x1 x2 (wrap64 (x3 + (1 : Int))) x4
            else none)
          else none)
        else none)
      else none)
    else some ((x0.length : Nat) : Int)
noncomputable def impl_SpanOf.f (k : Nat) (a0 : Config) (a1 : (List Int)) : Option (Int) := (impl_NodesOk.f k a0 a1).bind fun r1 =>
  if r1 = true then impl_SpanOf.p11 k ([] : List Int) a1 ((a1.length : Nat) : Int) (0 : Int) a0
  else some (-1 : Int)
/-! impl.Holds -/
noncomputable def impl_Holds.f (k : Nat) (a0 : Config) (a1 : (List Int)) : Option (Bool) := (impl_NodesOk.f k a0 a1).bind fun r1 =>
  if r1 = true then ((impl_SpanOf.f k a0 a1).bind fun r2 =>
    some (decide (a0.2.1 ≤ r2)))
  else some false
/-! impl.LostOk -/
noncomputable def impl_LostOk.f (k : Nat) (a0 : Config) (a1 : (List Int)) : Option (Bool) := (impl_NodesOk.f k a0 a1).bind fun r1 =>
  if r1 = true then ((impl_Holds.f k a0 a1).bind fun r2 =>
    some (!(decide (r2 = true))))
  else some false
/-! impl.isEpoch -/
noncomputable def impl_isEpoch.f (a0 : Int) : Option (Bool) := (impl_within.f a0 (1 : Int) (30 : Int)).bind fun r1 =>
  some r1
/-! impl.isOff -/
noncomputable def impl_isOff.f (a0 : Int) : Option (Bool) := (impl_within.f a0 (1 : Int) (60 : Int)).bind fun r1 =>
  some r1
/-! impl.PlaceOk -/
noncomputable def impl_PlaceOk.f (a0 : Int) : Option (Bool) := (impl_isEpoch.f (wrap64 ((Int.tdiv a0 (4294967296 : Int))))).bind fun r1 =>
  if r1 = true then ((impl_isOff.f (Int.tmod a0 (4294967296 : Int))).bind fun r2 =>
    some r2)
  else some false
/-! impl.dataOk -/
noncomputable def impl_dataOk.f (a0 : ByteArray) : Option (Bool) := some (decide (((a0.size : Nat) : Int) ≤ (40 : Int)))
/-! impl.EpochOf -/
noncomputable def impl_EpochOf.f (a0 : Int) : Option (Int) := (impl_PlaceOk.f a0).bind fun r1 =>
  if r1 = true then some (wrap64 ((Int.tdiv a0 (4294967296 : Int))))
  else some (0 : Int)
/-! impl.EntryOk -/
mutual
noncomputable def impl_EntryOk.p4 : Nat → Bool → Entry → Option (Bool)
  | 0, _, _ => none
  | k + 1, x0, x1 => if x1.2.2.1 = true then (if (0 : Int) < x1.2.1 then impl_EntryOk.p6 k x0 (decide (x1.2.2.2.1 = (⟨#[]⟩ : ByteArray))) x1
      else impl_EntryOk.p6 k x0 false x1)
    else impl_EntryOk.p6 k x0 true x1
noncomputable def impl_EntryOk.p6 : Nat → Bool → Bool → Entry → Option (Bool)
  | 0, _, _, _ => none
  | k + 1, x0, x1, x2 => (impl_PlaceOk.f x2.1).bind fun r3 =>
    if r3 = true then (if x0 = true then (if x1 = true then ((impl_dataOk.f x2.2.2.2.1).bind fun r4 =>
          some r4)
        else some false)
      else some false)
    else some false
end
noncomputable def impl_EntryOk.f (k : Nat) (a0 : Entry) : Option (Bool) := (impl_within.f a0.2.1 (0 : Int) (30 : Int)).bind fun r1 =>
  if r1 = true then (if a0.2.1 = (0 : Int) then impl_EntryOk.p4 k true a0
    else (impl_EpochOf.f a0.1).bind fun r2 =>
    impl_EntryOk.p4 k (decide (r2 < a0.2.1)) a0)
  else impl_EntryOk.p4 k false a0
/-! impl.entriesOk -/
noncomputable def impl_entriesOk.p5 : Nat → (List Entry) → Int → Int → Option (Bool)
  | 0, _, _, _ => none
  | k + 1, x0, x1, x2 => if x2 < x1 then (if (0 : Int) ≤ x2 ∧ x2 < ((x0.length : Nat) : Int) then ((impl_EntryOk.f k (x0.getD x2.toNat ((0 : Int), ((0 : Int), (false, ((⟨#[]⟩ : ByteArray), ())))))).bind fun r1 =>
        if r1 = true then impl_entriesOk.p5 k x0 x1 (wrap64 (x2 + (1 : Int)))
        else some false)
      else none)
    else some true
noncomputable def impl_entriesOk.f (k : Nat) (a0 : (List Entry)) : Option (Bool) := impl_entriesOk.p5 k a0 ((a0.length : Nat) : Int) (0 : Int)
/-! impl.placesAscend -/
noncomputable def impl_placesAscend.p5 : Nat → (List Entry) → (List Entry) → Int → Int → Option (Bool)
  | 0, _, _, _, _ => none
  | k + 1, x0, x1, x2, x3 => if x3 < x2 then (if (0 : Int) ≤ x3 ∧ x3 < ((x1.length : Nat) : Int) then (if (0 : Int) < x3 then (if (0 : Int) ≤ (wrap64 (x3 - (1 : Int))) ∧ (wrap64 (x3 - (1 : Int))) < ((x0.length : Nat) : Int) then (if (x1.getD x3.toNat ((0 : Int), ((0 : Int), (false, ((⟨#[]⟩ : ByteArray), ()))))).1 ≤ (x0.getD (wrap64 (x3 - (1 : Int))).toNat ((0 : Int), ((0 : Int), (false, ((⟨#[]⟩ : ByteArray), ()))))).1 then some false
            else impl_placesAscend.p5 k x0 x1 x2 (wrap64 (x3 + (1 : Int))))
          else none)
        else impl_placesAscend.p5 k x0 x1 x2 (wrap64 (x3 + (1 : Int))))
      else none)
    else some true
noncomputable def impl_placesAscend.f (k : Nat) (a0 : (List Entry)) : Option (Bool) := impl_placesAscend.p5 k a0 a0 ((a0.length : Nat) : Int) (0 : Int)
/-! impl.StoreOk -/
noncomputable def impl_StoreOk.f (k : Nat) (a0 : Store) : Option (Bool) := if (200 : Int) < ((a0.1.length : Nat) : Int) then some false
  else if (20 : Int) < ((a0.2.1.length : Nat) : Int) then some false
  else (impl_entriesOk.f k a0.1).bind fun r1 =>
  if r1 = true then ((impl_entriesOk.f k a0.2.1).bind fun r2 =>
    if r2 = true then ((impl_placesAscend.f k a0.1).bind fun r3 =>
      if r3 = true then ((impl_within.f a0.2.2.1 (0 : Int) (30 : Int)).bind fun r4 =>
        some r4)
      else some false)
    else some false)
  else some false
/-! impl.placeIn$1 -/
noncomputable def impl_placeIn_1.f (a0 : Entry) (a1 : Int) : Option (Int) := if a0.1 < a1 then some (-1 : Int)
  else if a1 < a0.1 then some (1 : Int)
  else some (0 : Int)
/-! impl.Entry,int] -/
noncomputable def slices_BinarySearchFunc_impl_Entry_impl_Entry_int_impl_placeIn_1.p7 : Nat → (List Entry) → Int → Unit → Int → Int → Int → Option (Int × Bool)
  | 0, _, _, _, _, _, _ => none
  | k + 1, x0, x1, x2, x3, x4, x5 => if x4 < x5 then (if (0 : Int) ≤ (wrap64 ((shrK .u64 (IntKind.wrap .u64 ((wrap64 (x4 + x5)))) (1 : Int)))) ∧ (wrap64 ((shrK .u64 (IntKind.wrap .u64 ((wrap64 (x4 + x5)))) (1 : Int)))) < ((x0.length : Nat) : Int) then ((impl_placeIn_1.f (x0.getD (wrap64 ((shrK .u64 (IntKind.wrap .u64 ((wrap64 (x4 + x5)))) (1 : Int)))).toNat ((0 : Int), ((0 : Int), (false, ((⟨#[]⟩ : ByteArray), ()))))) x1).bind fun r1 =>
        if r1 < (0 : Int) then slices_BinarySearchFunc_impl_Entry_impl_Entry_int_impl_placeIn_1.p7 k x0 x1 x2 x3 (wrap64 ((wrap64 ((shrK .u64 (IntKind.wrap .u64 ((wrap64 (x4 + x5)))) (1 : Int)))) + (1 : Int))) x5
        else slices_BinarySearchFunc_impl_Entry_impl_Entry_int_impl_placeIn_1.p7 k x0 x1 x2 x3 x4 (wrap64 ((shrK .u64 (IntKind.wrap .u64 ((wrap64 (x4 + x5)))) (1 : Int)))))
      else none)
    else if x4 < x3 then (if (0 : Int) ≤ x4 ∧ x4 < ((x0.length : Nat) : Int) then ((impl_placeIn_1.f (x0.getD x4.toNat ((0 : Int), ((0 : Int), (false, ((⟨#[]⟩ : ByteArray), ()))))) x1).bind fun r2 =>
        some (x4, (decide (r2 = (0 : Int)))))
      else none)
    else some (x4, false)
noncomputable def slices_BinarySearchFunc_impl_Entry_impl_Entry_int_impl_placeIn_1.f (k : Nat) (a0 : (List Entry)) (a1 : Int) (a2 : Unit) : Option (Int × Bool) := slices_BinarySearchFunc_impl_Entry_impl_Entry_int_impl_placeIn_1.p7 k a0 a1 a2 ((a0.length : Nat) : Int) (0 : Int) ((a0.length : Nat) : Int)
/-! impl.placeIn -/
noncomputable def impl_placeIn.f (k : Nat) (a0 : (List Entry)) (a1 : Int) : Option (Int × Bool) := (slices_BinarySearchFunc_impl_Entry_impl_Entry_int_impl_placeIn_1.f k a0 a1 ()).bind fun r1 =>
  some (r1.1, r1.2)
/-! impl.Better -/
noncomputable def impl_Better.f (a0 : Entry) (a1 : Entry) : Option (Entry) := if a0.2.1 < a1.2.1 then some a1
  else some a0
/-! impl.Entry] -/
noncomputable def slices_Insert_impl_Entry_impl_Entry.f (a0 : (List Entry)) (a1 : Int) (a2 : (List Entry)) : Option (List Entry) := if (0 : Int) ≤ a1 ∧ a1 ≤ ((List.length a0 : Nat) : Int) ∧ ((List.length a2 : Nat) : Int) = 1 ∧ ((List.length a0 : Nat) : Int) + 1 ≤ lim then some (List.take a1.toNat a0 ++ a2 ++ List.drop a1.toNat a0) else none

/-! impl.kept -/
noncomputable def impl_kept.f (k : Nat) (a0 : (List Entry)) (a1 : Entry) : Option ((List Entry)) := (impl_placeIn.f k a0 a1.1).bind fun r1 =>
  if r1.2 = true then (if (0 : Int) ≤ r1.1 ∧ r1.1 < ((a0.length : Nat) : Int) then ((impl_Better.f (a0.getD r1.1.toNat ((0 : Int), ((0 : Int), (false, ((⟨#[]⟩ : ByteArray), ()))))) a1).bind fun r2 =>
      if (0 : Int) ≤ r1.1 ∧ r1.1 < ((a0.length : Nat) : Int) then some (a0.set r1.1.toNat r2)
      else none)
    else none)
  else (slices_Insert_impl_Entry_impl_Entry.f a0 r1.1 ([a1] : List Entry)).bind fun r3 =>
  some r3
/-! impl.Union -/
mutual
noncomputable def impl_Union.p7 : Nat → (List Entry) → (List Store) → Int → Int → Option ((List Entry))
  | 0, _, _, _, _ => none
  | k + 1, x0, x1, x2, x3 => if x3 < x2 then (if (0 : Int) ≤ x3 ∧ x3 < ((x1.length : Nat) : Int) then ((impl_StoreOk.f k (x1.getD x3.toNat (([] : List Entry), (([] : List Entry), ((0 : Int), ()))))).bind fun r1 =>
        if r1 = true then impl_Union.p17 k x0 x1 x2 x3 (x1.getD x3.toNat (([] : List Entry), (([] : List Entry), ((0 : Int), ())))).1 (((x1.getD x3.toNat (([] : List Entry), (([] : List Entry), ((0 : Int), ())))).1.length : Nat) : Int) (0 : Int)
        else some ([] : List Entry))
      else none)
    else some x0
noncomputable def impl_Union.p17 : Nat → (List Entry) → (List Store) → Int → Int → (List Entry) → Int → Int → Option ((List Entry))
  | 0, _, _, _, _, _, _, _ => none
  | k + 1, x0, x1, x2, x3, x4, x5, x6 => if x6 < x5 then (if (0 : Int) ≤ x6 ∧ x6 < ((x4.length : Nat) : Int) then ((impl_kept.f k x0 (x4.getD x6.toNat ((0 : Int), ((0 : Int), (false, ((⟨#[]⟩ : ByteArray), ())))))).bind fun r2 =>
        impl_Union.p17 k r2 x1 x2 x3 x4 x5 (wrap64 (x6 + (1 : Int))))
      else none)
    else impl_Union.p7 k x0 x1 x2 (wrap64 (x3 + (1 : Int)))
end
noncomputable def impl_Union.f (k : Nat) (a0 : (List Store)) : Option ((List Entry)) := impl_Union.p7 k ([] : List Entry) a0 ((a0.length : Nat) : Int) (0 : Int)
/-! impl.Fill -/
noncomputable def impl_Fill.p11 : Nat → (List Int) → Int → (List Store) → (List Store) → Int → Int → Store → Option (Store × Bool)
  | 0, _, _, _, _, _, _, _ => none
  | k + 1, x0, x1, x2, x3, x4, x5, x6 => if x5 < x4 then (if (0 : Int) ≤ x5 ∧ x5 < ((x3.length : Nat) : Int) then ((slices_Contains_int_int.f k x0 x5).bind fun r3 =>
        if r3 = true then impl_Fill.p11 k x0 x1 x2 x3 x4 (wrap64 (x5 + (1 : Int))) x6
        else (impl_StoreOk.f k (x3.getD x5.toNat (([] : List Entry), (([] : List Entry), ((0 : Int), ()))))).bind fun r4 =>
        if r4 = true then (if (((x2.length : Nat) : Int) + ((([(x3.getD x5.toNat (([] : List Entry), (([] : List Entry), ((0 : Int), ()))))] : List Store).length : Nat) : Int)) ≤ lim then impl_Fill.p11 k x0 x1 (x2 ++ ([(x3.getD x5.toNat (([] : List Entry), (([] : List Entry), ((0 : Int), ()))))] : List Store)) x3 x4 (wrap64 (x5 + (1 : Int))) x6
          else none)
        else some ((([] : List Entry), (([] : List Entry), ((0 : Int), ()))), false))
      else none)
    else (impl_Union.f k x2).bind fun r5 =>
    (impl_StoreOk.f k (r5, (([] : List Entry), (x1, ())))).bind fun r6 =>
    if r6 = true then some ((r5, (([] : List Entry), (x1, ()))), true)
    else some ((([] : List Entry), (([] : List Entry), ((0 : Int), ()))), false)
noncomputable def impl_Fill.f (k : Nat) (a0 : Config) (a1 : (List Store)) (a2 : (List Int)) (a3 : Int) (a4 : Int) : Option (Store × Bool) := if ((a1.length : Nat) : Int) = ((a0.1.length : Nat) : Int) then ((impl_LostOk.f k a0 a2).bind fun r1 =>
    if r1 = true then ((slices_Contains_int_int.f k a2 a3).bind fun r2 =>
      if r2 = true then impl_Fill.p11 k a2 a4 ([] : List Store) a1 ((a1.length : Nat) : Int) (0 : Int) (([] : List Entry), (([] : List Entry), ((0 : Int), ())))
      else some ((([] : List Entry), (([] : List Entry), ((0 : Int), ()))), false))
    else some ((([] : List Entry), (([] : List Entry), ((0 : Int), ()))), false))
  else some ((([] : List Entry), (([] : List Entry), ((0 : Int), ()))), false)
/-! laws.eqEntry -/
noncomputable def laws_eqEntry.f (a0 : Entry) (a1 : Entry) : Option (Bool) := if a0.1 = a1.1 then (if a0.2.1 = a1.2.1 then (if a0.2.2.1 = a1.2.2.1 then (if a0.2.2.2.1 = a1.2.2.2.1 then some true
        else some false)
      else some false)
    else some false)
  else some false
/-! laws.eqEntryS -/
noncomputable def laws_eqEntryS.p9 : Nat → (List Entry) → (List Entry) → Int → Option (Bool)
  | 0, _, _, _ => none
  | k + 1, x0, x1, x2 => if x2 < ((x0.length : Nat) : Int) then (if (0 : Int) ≤ x2 ∧ x2 < ((x0.length : Nat) : Int) then (if (0 : Int) ≤ x2 ∧ x2 < ((x1.length : Nat) : Int) then ((laws_eqEntry.f (x0.getD x2.toNat ((0 : Int), ((0 : Int), (false, ((⟨#[]⟩ : ByteArray), ()))))) (x1.getD x2.toNat ((0 : Int), ((0 : Int), (false, ((⟨#[]⟩ : ByteArray), ())))))).bind fun r1 =>
          if r1 = true then laws_eqEntryS.p9 k x0 x1 (wrap64 (x2 + (1 : Int)))
          else some false)
        else none)
      else none)
    else some true
noncomputable def laws_eqEntryS.f (k : Nat) (a0 : (List Entry)) (a1 : (List Entry)) : Option (Bool) := if ((a0.length : Nat) : Int) = ((a1.length : Nat) : Int) then laws_eqEntryS.p9 k a0 a1 (0 : Int)
  else some false
/-! laws.eqStore -/
noncomputable def laws_eqStore.f (k : Nat) (a0 : Store) (a1 : Store) : Option (Bool) := (laws_eqEntryS.f k a0.1 a1.1).bind fun r1 =>
  if r1 = true then ((laws_eqEntryS.f k a0.2.1 a1.2.1).bind fun r2 =>
    if r2 = true then (if a0.2.2.1 = a1.2.2.1 then some true
      else some false)
    else some false)
  else some false
/-! laws.eqIntS -/
noncomputable def laws_eqIntS.p9 : Nat → (List Int) → (List Int) → Int → Option (Bool)
  | 0, _, _, _ => none
  | k + 1, x0, x1, x2 => if x2 < ((x0.length : Nat) : Int) then (if (0 : Int) ≤ x2 ∧ x2 < ((x0.length : Nat) : Int) then (if (0 : Int) ≤ x2 ∧ x2 < ((x1.length : Nat) : Int) then (if (x0.getD x2.toNat (0 : Int)) = (x1.getD x2.toNat (0 : Int)) then laws_eqIntS.p9 k x0 x1 (wrap64 (x2 + (1 : Int)))
          else some false)
        else none)
      else none)
    else some true
noncomputable def laws_eqIntS.f (k : Nat) (a0 : (List Int)) (a1 : (List Int)) : Option (Bool) := if ((a0.length : Nat) : Int) = ((a1.length : Nat) : Int) then laws_eqIntS.p9 k a0 a1 (0 : Int)
  else some false
/-! laws.eqConfig -/
noncomputable def laws_eqConfig.f (k : Nat) (a0 : Config) (a1 : Config) : Option (Bool) := (laws_eqIntS.f k a0.1 a1.1).bind fun r1 =>
  if r1 = true then (if a0.2.1 = a1.2.1 then some true
    else some false)
  else some false
/-! laws.eqStoreS -/
noncomputable def laws_eqStoreS.p9 : Nat → (List Store) → (List Store) → Int → Option (Bool)
  | 0, _, _, _ => none
  | k + 1, x0, x1, x2 => if x2 < ((x0.length : Nat) : Int) then (if (0 : Int) ≤ x2 ∧ x2 < ((x0.length : Nat) : Int) then (if (0 : Int) ≤ x2 ∧ x2 < ((x1.length : Nat) : Int) then ((laws_eqStore.f k (x0.getD x2.toNat (([] : List Entry), (([] : List Entry), ((0 : Int), ())))) (x1.getD x2.toNat (([] : List Entry), (([] : List Entry), ((0 : Int), ()))))).bind fun r1 =>
          if r1 = true then laws_eqStoreS.p9 k x0 x1 (wrap64 (x2 + (1 : Int)))
          else some false)
        else none)
      else none)
    else some true
noncomputable def laws_eqStoreS.f (k : Nat) (a0 : (List Store)) (a1 : (List Store)) : Option (Bool) := if ((a0.length : Nat) : Int) = ((a1.length : Nat) : Int) then laws_eqStoreS.p9 k a0 a1 (0 : Int)
  else some false
/-! laws.markIntS -/
noncomputable def laws_markIntS.p5 : Nat → (List Int) → Int → Int → Option (Int × (List Int))
  | 0, _, _, _ => none
  | k + 1, x0, x1, x2 => if x2 < ((x0.length : Nat) : Int) then (if (0 : Int) ≤ x2 ∧ x2 < ((x0.length : Nat) : Int) then laws_markIntS.p5 k (x0.set x2.toNat x1) (wrap64 (x1 + (1 : Int))) (wrap64 (x2 + (1 : Int)))
      else none)
    else some (x1, x0)
noncomputable def laws_markIntS.f (k : Nat) (a0 : (List Int)) (a1 : Int) : Option (Int × (List Int)) := laws_markIntS.p5 k a0 a1 (0 : Int)
/-! laws.markConfig -/
noncomputable def laws_markConfig.f (k : Nat) (a0 : Config) (a1 : Int) : Option (Int × Config) := (laws_markIntS.f k a0.1 a1).bind fun r1 =>
  some (r1.1, (r1.2, a0.2))
/-! laws.markText -/
noncomputable def laws_markText.p9 : Nat → Int → ByteArray → Option (ByteArray)
  | 0, _, _ => none
  | k + 1, x0, x1 => if (0 : Int) < x0 then (if ((((bytesOf ([(IntKind.wrap .u8 ((wrap64 ((48 : Int) + (Int.tmod x0 (10 : Int))))))] : List Int)).size : Nat) : Int) + ((x1.size : Nat) : Int)) ≤ (9223372036854775807 : Int) then laws_markText.p9 k (wrap64 ((Int.tdiv x0 (10 : Int)))) ((bytesOf ([(IntKind.wrap .u8 ((wrap64 ((48 : Int) + (Int.tmod x0 (10 : Int))))))] : List Int)) ++ x1)
      else none)
    else if ((((⟨#[109]⟩ : ByteArray).size : Nat) : Int) + ((x1.size : Nat) : Int)) ≤ (9223372036854775807 : Int) then some ((⟨#[109]⟩ : ByteArray) ++ x1)
    else none
noncomputable def laws_markText.f (k : Nat) (a0 : Int) : Option (ByteArray) := if a0 ≤ (0 : Int) then some (⟨#[109, 48]⟩ : ByteArray)
  else laws_markText.p9 k a0 (⟨#[]⟩ : ByteArray)
/-! laws.markEntryS -/
noncomputable def laws_markEntryS.p5 : Nat → (List Entry) → Int → Int → Option (Int × (List Entry))
  | 0, _, _, _ => none
  | k + 1, x0, x1, x2 => if x2 < ((x0.length : Nat) : Int) then (if (0 : Int) ≤ x2 ∧ x2 < ((x0.length : Nat) : Int) then (if (0 : Int) ≤ x2 ∧ x2 < (((x0.set x2.toNat (x1, (x0.getD x2.toNat ((0 : Int), ((0 : Int), (false, ((⟨#[]⟩ : ByteArray), ()))))).2)).length : Nat) : Int) then (if (0 : Int) ≤ x2 ∧ x2 < ((((x0.set x2.toNat (x1, (x0.getD x2.toNat ((0 : Int), ((0 : Int), (false, ((⟨#[]⟩ : ByteArray), ()))))).2)).set x2.toNat (((x0.set x2.toNat (x1, (x0.getD x2.toNat ((0 : Int), ((0 : Int), (false, ((⟨#[]⟩ : ByteArray), ()))))).2)).getD x2.toNat ((0 : Int), ((0 : Int), (false, ((⟨#[]⟩ : ByteArray), ()))))).1, ((wrap64 (x1 + (1 : Int))), ((x0.set x2.toNat (x1, (x0.getD x2.toNat ((0 : Int), ((0 : Int), (false, ((⟨#[]⟩ : ByteArray), ()))))).2)).getD x2.toNat ((0 : Int), ((0 : Int), (false, ((⟨#[]⟩ : ByteArray), ()))))).2.2))).length : Nat) : Int) then ((laws_markText.f k (wrap64 ((wrap64 ((wrap64 (x1 + (1 : Int))) + (1 : Int))) + (1 : Int)))).bind fun r1 =>
            if (0 : Int) ≤ x2 ∧ x2 < (((((x0.set x2.toNat (x1, (x0.getD x2.toNat ((0 : Int), ((0 : Int), (false, ((⟨#[]⟩ : ByteArray), ()))))).2)).set x2.toNat (((x0.set x2.toNat (x1, (x0.getD x2.toNat ((0 : Int), ((0 : Int), (false, ((⟨#[]⟩ : ByteArray), ()))))).2)).getD x2.toNat ((0 : Int), ((0 : Int), (false, ((⟨#[]⟩ : ByteArray), ()))))).1, ((wrap64 (x1 + (1 : Int))), ((x0.set x2.toNat (x1, (x0.getD x2.toNat ((0 : Int), ((0 : Int), (false, ((⟨#[]⟩ : ByteArray), ()))))).2)).getD x2.toNat ((0 : Int), ((0 : Int), (false, ((⟨#[]⟩ : ByteArray), ()))))).2.2))).set x2.toNat ((((x0.set x2.toNat (x1, (x0.getD x2.toNat ((0 : Int), ((0 : Int), (false, ((⟨#[]⟩ : ByteArray), ()))))).2)).set x2.toNat (((x0.set x2.toNat (x1, (x0.getD x2.toNat ((0 : Int), ((0 : Int), (false, ((⟨#[]⟩ : ByteArray), ()))))).2)).getD x2.toNat ((0 : Int), ((0 : Int), (false, ((⟨#[]⟩ : ByteArray), ()))))).1, ((wrap64 (x1 + (1 : Int))), ((x0.set x2.toNat (x1, (x0.getD x2.toNat ((0 : Int), ((0 : Int), (false, ((⟨#[]⟩ : ByteArray), ()))))).2)).getD x2.toNat ((0 : Int), ((0 : Int), (false, ((⟨#[]⟩ : ByteArray), ()))))).2.2))).getD x2.toNat ((0 : Int), ((0 : Int), (false, ((⟨#[]⟩ : ByteArray), ()))))).1, ((((x0.set x2.toNat (x1, (x0.getD x2.toNat ((0 : Int), ((0 : Int), (false, ((⟨#[]⟩ : ByteArray), ()))))).2)).set x2.toNat (((x0.set x2.toNat (x1, (x0.getD x2.toNat ((0 : Int), ((0 : Int), (false, ((⟨#[]⟩ : ByteArray), ()))))).2)).getD x2.toNat ((0 : Int), ((0 : Int), (false, ((⟨#[]⟩ : ByteArray), ()))))).1, ((wrap64 (x1 + (1 : Int))), ((x0.set x2.toNat (x1, (x0.getD x2.toNat ((0 : Int), ((0 : Int), (false, ((⟨#[]⟩ : ByteArray), ()))))).2)).getD x2.toNat ((0 : Int), ((0 : Int), (false, ((⟨#[]⟩ : ByteArray), ()))))).2.2))).getD x2.toNat ((0 : Int), ((0 : Int), (false, ((⟨#[]⟩ : ByteArray), ()))))).2.1, ((decide ((Int.tmod (wrap64 ((wrap64 (x1 + (1 : Int))) + (1 : Int))) (3 : Int)) = (0 : Int))), (((x0.set x2.toNat (x1, (x0.getD x2.toNat ((0 : Int), ((0 : Int), (false, ((⟨#[]⟩ : ByteArray), ()))))).2)).set x2.toNat (((x0.set x2.toNat (x1, (x0.getD x2.toNat ((0 : Int), ((0 : Int), (false, ((⟨#[]⟩ : ByteArray), ()))))).2)).getD x2.toNat ((0 : Int), ((0 : Int), (false, ((⟨#[]⟩ : ByteArray), ()))))).1, ((wrap64 (x1 + (1 : Int))), ((x0.set x2.toNat (x1, (x0.getD x2.toNat ((0 : Int), ((0 : Int), (false, ((⟨#[]⟩ : ByteArray), ()))))).2)).getD x2.toNat ((0 : Int), ((0 : Int), (false, ((⟨#[]⟩ : ByteArray), ()))))).2.2))).getD x2.toNat ((0 : Int), ((0 : Int), (false, ((⟨#[]⟩ : ByteArray), ()))))).2.2.2)))).length : Nat) : Int) then laws_markEntryS.p5 k ((((x0.set x2.toNat (x1, (x0.getD x2.toNat ((0 : Int), ((0 : Int), (false, ((⟨#[]⟩ : ByteArray), ()))))).2)).set x2.toNat (((x0.set x2.toNat (x1, (x0.getD x2.toNat ((0 : Int), ((0 : Int), (false, ((⟨#[]⟩ : ByteArray), ()))))).2)).getD x2.toNat ((0 : Int), ((0 : Int), (false, ((⟨#[]⟩ : ByteArray), ()))))).1, ((wrap64 (x1 + (1 : Int))), ((x0.set x2.toNat (x1, (x0.getD x2.toNat ((0 : Int), ((0 : Int), (false, ((⟨#[]⟩ : ByteArray), ()))))).2)).getD x2.toNat ((0 : Int), ((0 : Int), (false, ((⟨#[]⟩ : ByteArray), ()))))).2.2))).set x2.toNat ((((x0.set x2.toNat (x1, (x0.getD x2.toNat ((0 : Int), ((0 : Int), (false, ((⟨#[]⟩ : ByteArray), ()))))).2)).set x2.toNat (((x0.set x2.toNat (x1, (x0.getD x2.toNat ((0 : Int), ((0 : Int), (false, ((⟨#[]⟩ : ByteArray), ()))))).2)).getD x2.toNat ((0 : Int), ((0 : Int), (false, ((⟨#[]⟩ : ByteArray), ()))))).1, ((wrap64 (x1 + (1 : Int))), ((x0.set x2.toNat (x1, (x0.getD x2.toNat ((0 : Int), ((0 : Int), (false, ((⟨#[]⟩ : ByteArray), ()))))).2)).getD x2.toNat ((0 : Int), ((0 : Int), (false, ((⟨#[]⟩ : ByteArray), ()))))).2.2))).getD x2.toNat ((0 : Int), ((0 : Int), (false, ((⟨#[]⟩ : ByteArray), ()))))).1, ((((x0.set x2.toNat (x1, (x0.getD x2.toNat ((0 : Int), ((0 : Int), (false, ((⟨#[]⟩ : ByteArray), ()))))).2)).set x2.toNat (((x0.set x2.toNat (x1, (x0.getD x2.toNat ((0 : Int), ((0 : Int), (false, ((⟨#[]⟩ : ByteArray), ()))))).2)).getD x2.toNat ((0 : Int), ((0 : Int), (false, ((⟨#[]⟩ : ByteArray), ()))))).1, ((wrap64 (x1 + (1 : Int))), ((x0.set x2.toNat (x1, (x0.getD x2.toNat ((0 : Int), ((0 : Int), (false, ((⟨#[]⟩ : ByteArray), ()))))).2)).getD x2.toNat ((0 : Int), ((0 : Int), (false, ((⟨#[]⟩ : ByteArray), ()))))).2.2))).getD x2.toNat ((0 : Int), ((0 : Int), (false, ((⟨#[]⟩ : ByteArray), ()))))).2.1, ((decide ((Int.tmod (wrap64 ((wrap64 (x1 + (1 : Int))) + (1 : Int))) (3 : Int)) = (0 : Int))), (((x0.set x2.toNat (x1, (x0.getD x2.toNat ((0 : Int), ((0 : Int), (false, ((⟨#[]⟩ : ByteArray), ()))))).2)).set x2.toNat (((x0.set x2.toNat (x1, (x0.getD x2.toNat ((0 : Int), ((0 : Int), (false, ((⟨#[]⟩ : ByteArray), ()))))).2)).getD x2.toNat ((0 : Int), ((0 : Int), (false, ((⟨#[]⟩ : ByteArray), ()))))).1, ((wrap64 (x1 + (1 : Int))), ((x0.set x2.toNat (x1, (x0.getD x2.toNat ((0 : Int), ((0 : Int), (false, ((⟨#[]⟩ : ByteArray), ()))))).2)).getD x2.toNat ((0 : Int), ((0 : Int), (false, ((⟨#[]⟩ : ByteArray), ()))))).2.2))).getD x2.toNat ((0 : Int), ((0 : Int), (false, ((⟨#[]⟩ : ByteArray), ()))))).2.2.2)))).set x2.toNat (((((x0.set x2.toNat (x1, (x0.getD x2.toNat ((0 : Int), ((0 : Int), (false, ((⟨#[]⟩ : ByteArray), ()))))).2)).set x2.toNat (((x0.set x2.toNat (x1, (x0.getD x2.toNat ((0 : Int), ((0 : Int), (false, ((⟨#[]⟩ : ByteArray), ()))))).2)).getD x2.toNat ((0 : Int), ((0 : Int), (false, ((⟨#[]⟩ : ByteArray), ()))))).1, ((wrap64 (x1 + (1 : Int))), ((x0.set x2.toNat (x1, (x0.getD x2.toNat ((0 : Int), ((0 : Int), (false, ((⟨#[]⟩ : ByteArray), ()))))).2)).getD x2.toNat ((0 : Int), ((0 : Int), (false, ((⟨#[]⟩ : ByteArray), ()))))).2.2))).set x2.toNat ((((x0.set x2.toNat (x1, (x0.getD x2.toNat ((0 : Int), ((0 : Int), (false, ((⟨#[]⟩ : ByteArray), ()))))).2)).set x2.toNat (((x0.set x2.toNat (x1, (x0.getD x2.toNat ((0 : Int), ((0 : Int), (false, ((⟨#[]⟩ : ByteArray), ()))))).2)).getD x2.toNat ((0 : Int), ((0 : Int), (false, ((⟨#[]⟩ : ByteArray), ()))))).1, ((wrap64 (x1 + (1 : Int))), ((x0.set x2.toNat (x1, (x0.getD x2.toNat ((0 : Int), ((0 : Int), (false, ((⟨#[]⟩ : ByteArray), ()))))).2)).getD x2.toNat ((0 : Int), ((0 : Int), (false, ((⟨#[]⟩ : ByteArray), ()))))).2.2))).getD x2.toNat ((0 : Int), ((0 : Int), (false, ((⟨#[]⟩ : ByteArray), ()))))).1, ((((x0.set x2.toNat (x1, (x0.getD x2.toNat ((0 : Int), ((0 : Int), (false, ((⟨#[]⟩ : ByteArray), ()))))).2)).set x2.toNat (((x0.set x2.toNat (x1, (x0.getD x2.toNat ((0 : Int), ((0 : Int), (false, ((⟨#[]⟩ : ByteArray), ()))))).2)).getD x2.toNat ((0 : Int), ((0 : Int), (false, ((⟨#[]⟩ : ByteArray), ()))))).1, ((wrap64 (x1 + (1 : Int))), ((x0.set x2.toNat (x1, (x0.getD x2.toNat ((0 : Int), ((0 : Int), (false, ((⟨#[]⟩ : ByteArray), ()))))).2)).getD x2.toNat ((0 : Int), ((0 : Int), (false, ((⟨#[]⟩ : ByteArray), ()))))).2.2))).getD x2.toNat ((0 : Int), ((0 : Int), (false, ((⟨#[]⟩ : ByteArray), ()))))).2.1, ((decide ((Int.tmod (wrap64 ((wrap64 (x1 + (1 : Int))) + (1 : Int))) (3 : Int)) = (0 : Int))), (((x0.set x2.toNat (x1, (x0.getD x2.toNat ((0 : Int), ((0 : Int), (false, ((⟨#[]⟩ : ByteArray), ()))))).2)).set x2.toNat (((x0.set x2.toNat (x1, (x0.getD x2.toNat ((0 : Int), ((0 : Int), (false, ((⟨#[]⟩ : ByteArray), ()))))).2)).getD x2.toNat ((0 : Int), ((0 : Int), (false, ((⟨#[]⟩ : ByteArray), ()))))).1, ((wrap64 (x1 + (1 : Int))), ((x0.set x2.toNat (x1, (x0.getD x2.toNat ((0 : Int), ((0 : Int), (false, ((⟨#[]⟩ : ByteArray), ()))))).2)).getD x2.toNat ((0 : Int), ((0 : Int), (false, ((⟨#[]⟩ : ByteArray), ()))))).2.2))).getD x2.toNat ((0 : Int), ((0 : Int), (false, ((⟨#[]⟩ : ByteArray), ()))))).2.2.2)))).getD x2.toNat ((0 : Int), ((0 : Int), (false, ((⟨#[]⟩ : ByteArray), ()))))).1, (((((x0.set x2.toNat (x1, (x0.getD x2.toNat ((0 : Int), ((0 : Int), (false, ((⟨#[]⟩ : ByteArray), ()))))).2)).set x2.toNat (((x0.set x2.toNat (x1, (x0.getD x2.toNat ((0 : Int), ((0 : Int), (false, ((⟨#[]⟩ : ByteArray), ()))))).2)).getD x2.toNat ((0 : Int), ((0 : Int), (false, ((⟨#[]⟩ : ByteArray), ()))))).1, ((wrap64 (x1 + (1 : Int))), ((x0.set x2.toNat (x1, (x0.getD x2.toNat ((0 : Int), ((0 : Int), (false, ((⟨#[]⟩ : ByteArray), ()))))).2)).getD x2.toNat ((0 : Int), ((0 : Int), (false, ((⟨#[]⟩ : ByteArray), ()))))).2.2))).set x2.toNat ((((x0.set x2.toNat (x1, (x0.getD x2.toNat ((0 : Int), ((0 : Int), (false, ((⟨#[]⟩ : ByteArray), ()))))).2)).set x2.toNat (((x0.set x2.toNat (x1, (x0.getD x2.toNat ((0 : Int), ((0 : Int), (false, ((⟨#[]⟩ : ByteArray), ()))))).2)).getD x2.toNat ((0 : Int), ((0 : Int), (false, ((⟨#[]⟩ : ByteArray), ()))))).1, ((wrap64 (x1 + (1 : Int))), ((x0.set x2.toNat (x1, (x0.getD x2.toNat ((0 : Int), ((0 : Int), (false, ((⟨#[]⟩ : ByteArray), ()))))).2)).getD x2.toNat ((0 : Int), ((0 : Int), (false, ((⟨#[]⟩ : ByteArray), ()))))).2.2))).getD x2.toNat ((0 : Int), ((0 : Int), (false, ((⟨#[]⟩ : ByteArray), ()))))).1, ((((x0.set x2.toNat (x1, (x0.getD x2.toNat ((0 : Int), ((0 : Int), (false, ((⟨#[]⟩ : ByteArray), ()))))).2)).set x2.toNat (((x0.set x2.toNat (x1, (x0.getD x2.toNat ((0 : Int), ((0 : Int), (false, ((⟨#[]⟩ : ByteArray), ()))))).2)).getD x2.toNat ((0 : Int), ((0 : Int), (false, ((⟨#[]⟩ : ByteArray), ()))))).1, ((wrap64 (x1 + (1 : Int))), ((x0.set x2.toNat (x1, (x0.getD x2.toNat ((0 : Int), ((0 : Int), (false, ((⟨#[]⟩ : ByteArray), ()))))).2)).getD x2.toNat ((0 : Int), ((0 : Int), (false, ((⟨#[]⟩ : ByteArray), ()))))).2.2))).getD x2.toNat ((0 : Int), ((0 : Int), (false, ((⟨#[]⟩ : ByteArray), ()))))).2.1, ((decide ((Int.tmod (wrap64 ((wrap64 (x1 + (1 : Int))) + (1 : Int))) (3 : Int)) = (0 : Int))), (((x0.set x2.toNat (x1, (x0.getD x2.toNat ((0 : Int), ((0 : Int), (false, ((⟨#[]⟩ : ByteArray), ()))))).2)).set x2.toNat (((x0.set x2.toNat (x1, (x0.getD x2.toNat ((0 : Int), ((0 : Int), (false, ((⟨#[]⟩ : ByteArray), ()))))).2)).getD x2.toNat ((0 : Int), ((0 : Int), (false, ((⟨#[]⟩ : ByteArray), ()))))).1, ((wrap64 (x1 + (1 : Int))), ((x0.set x2.toNat (x1, (x0.getD x2.toNat ((0 : Int), ((0 : Int), (false, ((⟨#[]⟩ : ByteArray), ()))))).2)).getD x2.toNat ((0 : Int), ((0 : Int), (false, ((⟨#[]⟩ : ByteArray), ()))))).2.2))).getD x2.toNat ((0 : Int), ((0 : Int), (false, ((⟨#[]⟩ : ByteArray), ()))))).2.2.2)))).getD x2.toNat ((0 : Int), ((0 : Int), (false, ((⟨#[]⟩ : ByteArray), ()))))).2.1, (((((x0.set x2.toNat (x1, (x0.getD x2.toNat ((0 : Int), ((0 : Int), (false, ((⟨#[]⟩ : ByteArray), ()))))).2)).set x2.toNat (((x0.set x2.toNat (x1, (x0.getD x2.toNat ((0 : Int), ((0 : Int), (false, ((⟨#[]⟩ : ByteArray), ()))))).2)).getD x2.toNat ((0 : Int), ((0 : Int), (false, ((⟨#[]⟩ : ByteArray), ()))))).1, ((wrap64 (x1 + (1 : Int))), ((x0.set x2.toNat (x1, (x0.getD x2.toNat ((0 : Int), ((0 : Int), (false, ((⟨#[]⟩ : ByteArray), ()))))).2)).getD x2.toNat ((0 : Int), ((0 : Int), (false, ((⟨#[]⟩ : ByteArray), ()))))).2.2))).set x2.toNat ((((x0.set x2.toNat (x1, (x0.getD x2.toNat ((0 : Int), ((0 : Int), (false, ((⟨#[]⟩ : ByteArray), ()))))).2)).set x2.toNat (((x0.set x2.toNat (x1, (x0.getD x2.toNat ((0 : Int), ((0 : Int), (false, ((⟨#[]⟩ : ByteArray), ()))))).2)).getD x2.toNat ((0 : Int), ((0 : Int), (false, ((⟨#[]⟩ : ByteArray), ()))))).1, ((wrap64 (x1 + (1 : Int))), ((x0.set x2.toNat (x1, (x0.getD x2.toNat ((0 : Int), ((0 : Int), (false, ((⟨#[]⟩ : ByteArray), ()))))).2)).getD x2.toNat ((0 : Int), ((0 : Int), (false, ((⟨#[]⟩ : ByteArray), ()))))).2.2))).getD x2.toNat ((0 : Int), ((0 : Int), (false, ((⟨#[]⟩ : ByteArray), ()))))).1, ((((x0.set x2.toNat (x1, (x0.getD x2.toNat ((0 : Int), ((0 : Int), (false, ((⟨#[]⟩ : ByteArray), ()))))).2)).set x2.toNat (((x0.set x2.toNat (x1, (x0.getD x2.toNat ((0 : Int), ((0 : Int), (false, ((⟨#[]⟩ : ByteArray), ()))))).2)).getD x2.toNat ((0 : Int), ((0 : Int), (false, ((⟨#[]⟩ : ByteArray), ()))))).1, ((wrap64 (x1 + (1 : Int))), ((x0.set x2.toNat (x1, (x0.getD x2.toNat ((0 : Int), ((0 : Int), (false, ((⟨#[]⟩ : ByteArray), ()))))).2)).getD x2.toNat ((0 : Int), ((0 : Int), (false, ((⟨#[]⟩ : ByteArray), ()))))).2.2))).getD x2.toNat ((0 : Int), ((0 : Int), (false, ((⟨#[]⟩ : ByteArray), ()))))).2.1, ((decide ((Int.tmod (wrap64 ((wrap64 (x1 + (1 : Int))) + (1 : Int))) (3 : Int)) = (0 : Int))), (((x0.set x2.toNat (x1, (x0.getD x2.toNat ((0 : Int), ((0 : Int), (false, ((⟨#[]⟩ : ByteArray), ()))))).2)).set x2.toNat (((x0.set x2.toNat (x1, (x0.getD x2.toNat ((0 : Int), ((0 : Int), (false, ((⟨#[]⟩ : ByteArray), ()))))).2)).getD x2.toNat ((0 : Int), ((0 : Int), (false, ((⟨#[]⟩ : ByteArray), ()))))).1, ((wrap64 (x1 + (1 : Int))), ((x0.set x2.toNat (x1, (x0.getD x2.toNat ((0 : Int), ((0 : Int), (false, ((⟨#[]⟩ : ByteArray), ()))))).2)).getD x2.toNat ((0 : Int), ((0 : Int), (false, ((⟨#[]⟩ : ByteArray), ()))))).2.2))).getD x2.toNat ((0 : Int), ((0 : Int), (false, ((⟨#[]⟩ : ByteArray), ()))))).2.2.2)))).getD x2.toNat ((0 : Int), ((0 : Int), (false, ((⟨#[]⟩ : ByteArray), ()))))).2.2.1, (r1, ((((x0.set x2.toNat (x1, (x0.getD x2.toNat ((0 : Int), ((0 : Int), (false, ((⟨#[]⟩ : ByteArray), ()))))).2)).set x2.toNat (((x0.set x2.toNat (x1, (x0.getD x2.toNat ((0 : Int), ((0 : Int), (false, ((⟨#[]⟩ : ByteArray), ()))))).2)).getD x2.toNat ((0 : Int), ((0 : Int), (false, ((⟨#[]⟩ : ByteArray), ()))))).1, ((wrap64 (x1 + (1 : Int))), ((x0.set x2.toNat (x1, (x0.getD x2.toNat ((0 : Int), ((0 : Int), (false, ((⟨#[]⟩ : ByteArray), ()))))).2)).getD x2.toNat ((0 : Int), ((0 : Int), (false, ((⟨#[]⟩ : ByteArray), ()))))).2.2))).set x2.toNat ((((x0.set x2.toNat (x1, (x0.getD x2.toNat ((0 : Int), ((0 : Int), (false, ((⟨#[]⟩ : ByteArray), ()))))).2)).set x2.toNat (((x0.set x2.toNat (x1, (x0.getD x2.toNat ((0 : Int), ((0 : Int), (false, ((⟨#[]⟩ : ByteArray), ()))))).2)).getD x2.toNat ((0 : Int), ((0 : Int), (false, ((⟨#[]⟩ : ByteArray), ()))))).1, ((wrap64 (x1 + (1 : Int))), ((x0.set x2.toNat (x1, (x0.getD x2.toNat ((0 : Int), ((0 : Int), (false, ((⟨#[]⟩ : ByteArray), ()))))).2)).getD x2.toNat ((0 : Int), ((0 : Int), (false, ((⟨#[]⟩ : ByteArray), ()))))).2.2))).getD x2.toNat ((0 : Int), ((0 : Int), (false, ((⟨#[]⟩ : ByteArray), ()))))).1, ((((x0.set x2.toNat (x1, (x0.getD x2.toNat ((0 : Int), ((0 : Int), (false, ((⟨#[]⟩ : ByteArray), ()))))).2)).set x2.toNat (((x0.set x2.toNat (x1, (x0.getD x2.toNat ((0 : Int), ((0 : Int), (false, ((⟨#[]⟩ : ByteArray), ()))))).2)).getD x2.toNat ((0 : Int), ((0 : Int), (false, ((⟨#[]⟩ : ByteArray), ()))))).1, ((wrap64 (x1 + (1 : Int))), ((x0.set x2.toNat (x1, (x0.getD x2.toNat ((0 : Int), ((0 : Int), (false, ((⟨#[]⟩ : ByteArray), ()))))).2)).getD x2.toNat ((0 : Int), ((0 : Int), (false, ((⟨#[]⟩ : ByteArray), ()))))).2.2))).getD x2.toNat ((0 : Int), ((0 : Int), (false, ((⟨#[]⟩ : ByteArray), ()))))).2.1, ((decide ((Int.tmod (wrap64 ((wrap64 (x1 + (1 : Int))) + (1 : Int))) (3 : Int)) = (0 : Int))), (((x0.set x2.toNat (x1, (x0.getD x2.toNat ((0 : Int), ((0 : Int), (false, ((⟨#[]⟩ : ByteArray), ()))))).2)).set x2.toNat (((x0.set x2.toNat (x1, (x0.getD x2.toNat ((0 : Int), ((0 : Int), (false, ((⟨#[]⟩ : ByteArray), ()))))).2)).getD x2.toNat ((0 : Int), ((0 : Int), (false, ((⟨#[]⟩ : ByteArray), ()))))).1, ((wrap64 (x1 + (1 : Int))), ((x0.set x2.toNat (x1, (x0.getD x2.toNat ((0 : Int), ((0 : Int), (false, ((⟨#[]⟩ : ByteArray), ()))))).2)).getD x2.toNat ((0 : Int), ((0 : Int), (false, ((⟨#[]⟩ : ByteArray), ()))))).2.2))).getD x2.toNat ((0 : Int), ((0 : Int), (false, ((⟨#[]⟩ : ByteArray), ()))))).2.2.2)))).getD x2.toNat ((0 : Int), ((0 : Int), (false, ((⟨#[]⟩ : ByteArray), ()))))).2.2.2.2))))) (wrap64 ((wrap64 ((wrap64 ((wrap64 (x1 + (1 : Int))) + (1 : Int))) + (1 : Int))) + (1 : Int))) (wrap64 (x2 + (1 : Int)))
            else none)
          else none)
        else none)
      else none)
    else some (x1, x0)
noncomputable def laws_markEntryS.f (k : Nat) (a0 : (List Entry)) (a1 : Int) : Option (Int × (List Entry)) := laws_markEntryS.p5 k a0 a1 (0 : Int)
/-! laws.markStoreS -/
noncomputable def laws_markStoreS.p5 : Nat → (List Store) → Int → Int → Option (Int × (List Store))
  | 0, _, _, _ => none
  | k + 1, x0, x1, x2 => if x2 < ((x0.length : Nat) : Int) then (if (0 : Int) ≤ x2 ∧ x2 < ((x0.length : Nat) : Int) then ((laws_markEntryS.f k (x0.getD x2.toNat (([] : List Entry), (([] : List Entry), ((0 : Int), ())))).1 x1).bind fun r1 =>
        if (0 : Int) ≤ x2 ∧ x2 < (((x0.set x2.toNat (r1.2, (x0.getD x2.toNat (([] : List Entry), (([] : List Entry), ((0 : Int), ())))).2)).length : Nat) : Int) then ((laws_markEntryS.f k ((x0.set x2.toNat (r1.2, (x0.getD x2.toNat (([] : List Entry), (([] : List Entry), ((0 : Int), ())))).2)).getD x2.toNat (([] : List Entry), (([] : List Entry), ((0 : Int), ())))).2.1 r1.1).bind fun r2 =>
          if (0 : Int) ≤ x2 ∧ x2 < ((((x0.set x2.toNat (r1.2, (x0.getD x2.toNat (([] : List Entry), (([] : List Entry), ((0 : Int), ())))).2)).set x2.toNat (((x0.set x2.toNat (r1.2, (x0.getD x2.toNat (([] : List Entry), (([] : List Entry), ((0 : Int), ())))).2)).getD x2.toNat (([] : List Entry), (([] : List Entry), ((0 : Int), ())))).1, (r2.2, ((x0.set x2.toNat (r1.2, (x0.getD x2.toNat (([] : List Entry), (([] : List Entry), ((0 : Int), ())))).2)).getD x2.toNat (([] : List Entry), (([] : List Entry), ((0 : Int), ())))).2.2))).length : Nat) : Int) then laws_markStoreS.p5 k (((x0.set x2.toNat (r1.2, (x0.getD x2.toNat (([] : List Entry), (([] : List Entry), ((0 : Int), ())))).2)).set x2.toNat (((x0.set x2.toNat (r1.2, (x0.getD x2.toNat (([] : List Entry), (([] : List Entry), ((0 : Int), ())))).2)).getD x2.toNat (([] : List Entry), (([] : List Entry), ((0 : Int), ())))).1, (r2.2, ((x0.set x2.toNat (r1.2, (x0.getD x2.toNat (([] : List Entry), (([] : List Entry), ((0 : Int), ())))).2)).getD x2.toNat (([] : List Entry), (([] : List Entry), ((0 : Int), ())))).2.2))).set x2.toNat ((((x0.set x2.toNat (r1.2, (x0.getD x2.toNat (([] : List Entry), (([] : List Entry), ((0 : Int), ())))).2)).set x2.toNat (((x0.set x2.toNat (r1.2, (x0.getD x2.toNat (([] : List Entry), (([] : List Entry), ((0 : Int), ())))).2)).getD x2.toNat (([] : List Entry), (([] : List Entry), ((0 : Int), ())))).1, (r2.2, ((x0.set x2.toNat (r1.2, (x0.getD x2.toNat (([] : List Entry), (([] : List Entry), ((0 : Int), ())))).2)).getD x2.toNat (([] : List Entry), (([] : List Entry), ((0 : Int), ())))).2.2))).getD x2.toNat (([] : List Entry), (([] : List Entry), ((0 : Int), ())))).1, ((((x0.set x2.toNat (r1.2, (x0.getD x2.toNat (([] : List Entry), (([] : List Entry), ((0 : Int), ())))).2)).set x2.toNat (((x0.set x2.toNat (r1.2, (x0.getD x2.toNat (([] : List Entry), (([] : List Entry), ((0 : Int), ())))).2)).getD x2.toNat (([] : List Entry), (([] : List Entry), ((0 : Int), ())))).1, (r2.2, ((x0.set x2.toNat (r1.2, (x0.getD x2.toNat (([] : List Entry), (([] : List Entry), ((0 : Int), ())))).2)).getD x2.toNat (([] : List Entry), (([] : List Entry), ((0 : Int), ())))).2.2))).getD x2.toNat (([] : List Entry), (([] : List Entry), ((0 : Int), ())))).2.1, (r2.1, (((x0.set x2.toNat (r1.2, (x0.getD x2.toNat (([] : List Entry), (([] : List Entry), ((0 : Int), ())))).2)).set x2.toNat (((x0.set x2.toNat (r1.2, (x0.getD x2.toNat (([] : List Entry), (([] : List Entry), ((0 : Int), ())))).2)).getD x2.toNat (([] : List Entry), (([] : List Entry), ((0 : Int), ())))).1, (r2.2, ((x0.set x2.toNat (r1.2, (x0.getD x2.toNat (([] : List Entry), (([] : List Entry), ((0 : Int), ())))).2)).getD x2.toNat (([] : List Entry), (([] : List Entry), ((0 : Int), ())))).2.2))).getD x2.toNat (([] : List Entry), (([] : List Entry), ((0 : Int), ())))).2.2.2)))) (wrap64 (r2.1 + (1 : Int))) (wrap64 (x2 + (1 : Int)))
          else none)
        else none)
      else none)
    else some (x1, x0)
noncomputable def laws_markStoreS.f (k : Nat) (a0 : (List Store)) (a1 : Int) : Option (Int × (List Store)) := laws_markStoreS.p5 k a0 a1 (0 : Int)
/-! laws.markStore -/
noncomputable def laws_markStore.f (k : Nat) (a0 : Store) (a1 : Int) : Option (Int × Store) := (laws_markEntryS.f k a0.1 a1).bind fun r1 =>
  (laws_markEntryS.f k a0.2.1 r1.1).bind fun r2 =>
  some (r2.1, (r1.2, (r2.2, a0.2.2)))
/-! laws.heldEntryS -/
noncomputable def laws_heldEntryS.p5 : Nat → (List Entry) → Int → Int → Option (Int)
  | 0, _, _, _ => none
  | k + 1, x0, x1, x2 => if x2 < ((x0.length : Nat) : Int) then (if (0 : Int) ≤ x2 ∧ x2 < ((x0.length : Nat) : Int) then (if (x0.getD x2.toNat ((0 : Int), ((0 : Int), (false, ((⟨#[]⟩ : ByteArray), ()))))).1 = x1 then (if (0 : Int) ≤ x2 ∧ x2 < ((x0.length : Nat) : Int) then (if (x0.getD x2.toNat ((0 : Int), ((0 : Int), (false, ((⟨#[]⟩ : ByteArray), ()))))).2.1 = (wrap64 (x1 + (1 : Int))) then (if (0 : Int) ≤ x2 ∧ x2 < ((x0.length : Nat) : Int) then (if (x0.getD x2.toNat ((0 : Int), ((0 : Int), (false, ((⟨#[]⟩ : ByteArray), ()))))).2.2.1 = (decide ((Int.tmod (wrap64 ((wrap64 (x1 + (1 : Int))) + (1 : Int))) (3 : Int)) = (0 : Int))) then (if (0 : Int) ≤ x2 ∧ x2 < ((x0.length : Nat) : Int) then ((laws_markText.f k (wrap64 ((wrap64 ((wrap64 (x1 + (1 : Int))) + (1 : Int))) + (1 : Int)))).bind fun r1 =>
                    if (x0.getD x2.toNat ((0 : Int), ((0 : Int), (false, ((⟨#[]⟩ : ByteArray), ()))))).2.2.2.1 = r1 then laws_heldEntryS.p5 k x0 (wrap64 ((wrap64 ((wrap64 ((wrap64 (x1 + (1 : Int))) + (1 : Int))) + (1 : Int))) + (1 : Int))) (wrap64 (x2 + (1 : Int)))
                    else some (-1 : Int))
                  else none)
                else some (-1 : Int))
              else none)
            else some (-1 : Int))
          else none)
        else some (-1 : Int))
      else none)
    else some x1
noncomputable def laws_heldEntryS.f (k : Nat) (a0 : (List Entry)) (a1 : Int) : Option (Int) := laws_heldEntryS.p5 k a0 a1 (0 : Int)
/-! laws.heldStore -/
noncomputable def laws_heldStore.f (k : Nat) (a0 : Store) (a1 : Int) : Option (Int) := (laws_heldEntryS.f k a0.1 a1).bind fun r1 =>
  if r1 < (0 : Int) then some (-1 : Int)
  else (laws_heldEntryS.f k a0.2.1 r1).bind fun r2 =>
  if r2 < (0 : Int) then some (-1 : Int)
  else some r2
/-! laws.FnExactFill -/
noncomputable def laws_FnExactFill.f (k : Nat) (a0 : Config) (a1 : (List Store)) (a2 : (List Int)) (a3 : Int) (a4 : Int) : Option (Bool) := if (1048576 : Int) < ((a2.length : Nat) : Int) then some true
  else (laws_szConfig.f a0 (1048576 : Int)).bind fun r1 =>
  if r1 < (0 : Int) then some true
  else (laws_szStoreS.f k a1 r1).bind fun r2 =>
  if r2 < (0 : Int) then some true
  else (laws_toConfig.f k a0).bind fun r3 =>
  (laws_toStoreS.f k a1).bind fun r4 =>
  (laws_toIntS.f k a2).bind fun r5 =>
  (spec_Fill.f k r3 r4 r5 a3 a4).bind fun r6 =>
  (laws_toConfig.f k a0).bind fun r7 =>
  (laws_toStoreS.f k a1).bind fun r8 =>
  (laws_toIntS.f k a2).bind fun r9 =>
  (impl_Fill.f k r7 r8 r9 a3 a4).bind fun r10 =>
  (laws_eqStore.f k r10.1 r6.1).bind fun r11 =>
  if r11 = true then (if r10.2 = r6.2 then ((laws_toConfig.f k a0).bind fun r12 =>
      (laws_eqConfig.f k r7 r12).bind fun r13 =>
      if r13 = true then ((laws_toStoreS.f k a1).bind fun r14 =>
        (laws_eqStoreS.f k r8 r14).bind fun r15 =>
        if r15 = true then ((laws_toIntS.f k a2).bind fun r16 =>
          (laws_eqIntS.f k r9 r16).bind fun r17 =>
          if r17 = true then ((laws_markConfig.f k r7 (1 : Int)).bind fun r18 =>
            (laws_markStoreS.f k r8 r18.1).bind fun r19 =>
            (laws_markIntS.f k r9 r19.1).bind fun r20 =>
            if r20.1 < (0 : Int) then some false
            else (laws_eqStore.f k r10.1 r6.1).bind fun r21 =>
            if r21 = true then (if r10.2 = r6.2 then ((laws_markStore.f k r10.1 (1 : Int)).bind fun r22 =>
                (laws_heldStore.f k r22.2 (1 : Int)).bind fun r23 =>
                if r23 < (0 : Int) then some false
                else if r23 = r22.1 then ((laws_toConfig.f k a0).bind fun r24 =>
                  (laws_toStoreS.f k a1).bind fun r25 =>
                  (laws_toIntS.f k a2).bind fun r26 =>
                  (impl_Fill.f k r24 r25 r26 a3 a4).bind fun r27 =>
                  (laws_eqStore.f k r27.1 r6.1).bind fun r28 =>
                  if r28 = true then (if r27.2 = r6.2 then ((laws_heldStore.f k r22.2 (1 : Int)).bind fun r29 =>
                      if r29 < (0 : Int) then some false
                      else if r29 = r22.1 then some true
                      else some false)
                    else some false)
                  else some false)
                else some false)
              else some false)
            else some false)
          else some false)
        else some false)
      else some false)
    else some false)
  else some false
end Go.Proofs.Ythgnikafeamidaa.OmFnExactFill
