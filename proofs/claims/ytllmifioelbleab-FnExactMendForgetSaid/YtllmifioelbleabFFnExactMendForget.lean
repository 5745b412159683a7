import Derived.Test.YtllmifioelbleabOmD
set_option maxRecDepth 1000000
set_option linter.unusedVariables false
namespace Go.Proofs.Ytllmifioelbleab.OmFnExactMendForget
open Go Go.OM
@[reducible] noncomputable def tWord : Ty := .pair .str (.pair (.sl (.int .i64)) (.pair .bool (.unit)))
@[reducible] noncomputable def Word : Type := ByteArray × (List Int) × Bool × Unit
@[reducible] noncomputable def tWriter : Ty := .pair (.int .i64) (.pair (.sl tWord) (.unit))
@[reducible] noncomputable def Writer : Type := Int × (List Word) × Unit
@[reducible] noncomputable def tConfig : Ty := .pair (.sl (.int .i64)) (.pair (.int .i64) (.unit))
@[reducible] noncomputable def Config : Type := (List Int) × Int × Unit
@[reducible] noncomputable def tEntry : Ty := .pair (.int .i64) (.pair (.int .i64) (.pair .bool (.pair .str (.unit))))
@[reducible] noncomputable def Entry : Type := Int × Int × Bool × ByteArray × Unit
@[reducible] noncomputable def tMend : Ty := .pair (.int .i64) (.pair (.int .i64) (.pair (.sl (.int .i64)) (.pair (.sl tEntry) (.pair .bool (.pair (.sl (.sl (.int .i64))) (.unit))))))
@[reducible] noncomputable def Mend : Type := Int × Int × (List Int) × (List Entry) × Bool × (List (List Int)) × Unit
@[reducible] noncomputable def tl1Cur : Ty := .pair (.sl (.int .u8)) (.pair (.int .i64) (.pair (.int .i64) (.unit)))
@[reducible] noncomputable def l1Cur : Type := (List Int) × Int × Int × Unit
/-! laws.szIntS -/
noncomputable def laws_szIntS.f (a0 : (List Int)) (a1 : Int) : Option (Int) := if (wrap64 (a1 - ((a0.length : Nat) : Int))) < (0 : Int) then some (-1 : Int)
  else some (wrap64 (a1 - ((a0.length : Nat) : Int)))
/-! laws.szConfig -/
noncomputable def laws_szConfig.f (a0 : Config) (a1 : Int) : Option (Int) := (laws_szIntS.f a0.1 a1).bind fun r1 =>
  if r1 < (0 : Int) then some (-1 : Int)
  else some r1
/-! laws.szEntry -/
noncomputable def laws_szEntry.f (a0 : Entry) (a1 : Int) : Option (Int) := if (wrap64 (a1 - ((a0.2.2.2.1.size : Nat) : Int))) < (0 : Int) then some (-1 : Int)
  else some (wrap64 (a1 - ((a0.2.2.2.1.size : Nat) : Int)))
/-! laws.szEntryS -/
noncomputable def laws_szEntryS.p11 : Nat → (List Entry) → Int → Int → Option (Int)
  | 0, _, _, _ => none
  | k + 1, x0, x1, x2 => if x2 < ((x0.length : Nat) : Int) then (if (0 : Int) ≤ x2 ∧ x2 < ((x0.length : Nat) : Int) then ((laws_szEntry.f (x0.getD x2.toNat ((0 : Int), ((0 : Int), (false, ((⟨#[]⟩ : ByteArray), ()))))) x1).bind fun r1 =>
        if r1 < (0 : Int) then some (-1 : Int)
        else laws_szEntryS.p11 k x0 r1 (wrap64 (x2 + (1 : Int))))
      else none)
    else some x1
noncomputable def laws_szEntryS.f (k : Nat) (a0 : (List Entry)) (a1 : Int) : Option (Int) := if (wrap64 (a1 - ((a0.length : Nat) : Int))) < (0 : Int) then some (-1 : Int)
  else laws_szEntryS.p11 k a0 (wrap64 (a1 - ((a0.length : Nat) : Int))) (0 : Int)
/-! laws.szIntSS -/
noncomputable def laws_szIntSS.p11 : Nat → (List (List Int)) → Int → Int → Option (Int)
  | 0, _, _, _ => none
  | k + 1, x0, x1, x2 => if x2 < ((x0.length : Nat) : Int) then (if (0 : Int) ≤ x2 ∧ x2 < ((x0.length : Nat) : Int) then ((laws_szIntS.f (x0.getD x2.toNat ([] : List Int)) x1).bind fun r1 =>
        if r1 < (0 : Int) then some (-1 : Int)
        else laws_szIntSS.p11 k x0 r1 (wrap64 (x2 + (1 : Int))))
      else none)
    else some x1
noncomputable def laws_szIntSS.f (k : Nat) (a0 : (List (List Int))) (a1 : Int) : Option (Int) := if (wrap64 (a1 - ((a0.length : Nat) : Int))) < (0 : Int) then some (-1 : Int)
  else laws_szIntSS.p11 k a0 (wrap64 (a1 - ((a0.length : Nat) : Int))) (0 : Int)
/-! laws.szMend -/
noncomputable def laws_szMend.f (k : Nat) (a0 : Mend) (a1 : Int) : Option (Int) := (laws_szIntS.f a0.2.2.1 a1).bind fun r1 =>
  if r1 < (0 : Int) then some (-1 : Int)
  else (laws_szEntryS.f k a0.2.2.2.1 r1).bind fun r2 =>
  if r2 < (0 : Int) then some (-1 : Int)
  else (laws_szIntSS.f k a0.2.2.2.2.2.1 r2).bind fun r3 =>
  if r3 < (0 : Int) then some (-1 : Int)
  else some r3
/-! laws.toIntS -/
noncomputable def laws_toIntS.p7 : Nat → (List Int) → (List Int) → Int → Option ((List Int))
  | 0, _, _, _ => none
  | k + 1, x0, x1, x2 => if x2 < ((x0.length : Nat) : Int) then (if (0 : Int) ≤ x2 ∧ x2 < ((x0.length : Nat) : Int) then (if (0 : Int) ≤ x2 ∧ x2 < ((x1.length : Nat) : Int) then laws_toIntS.p7 k x0 (x1.set x2.toNat (x0.getD x2.toNat (0 : Int))) (wrap64 (x2 + (1 : Int)))
        else none)
      else none)
    else some x1
noncomputable def laws_toIntS.f (k : Nat) (a0 : (List Int)) : Option ((List Int)) := if (0 : Int) ≤ ((a0.length : Nat) : Int) ∧ ((a0.length : Nat) : Int) ≤ ((a0.length : Nat) : Int) ∧ ((a0.length : Nat) : Int) ≤ lim then laws_toIntS.p7 k a0 (List.replicate ((a0.length : Nat) : Int).toNat (0 : Int)) (0 : Int)
  else none
/-! laws.toConfig -/
noncomputable def laws_toConfig.f (k : Nat) (a0 : Config) : Option (Config) := (laws_toIntS.f k a0.1).bind fun r1 =>
  some (r1, (a0.2.1, ()))
/-! laws.toEntry -/
noncomputable def laws_toEntry.f (a0 : Entry) : Option (Entry) := some (a0.1, (a0.2.1, (a0.2.2.1, (a0.2.2.2.1, ()))))
/-! laws.toEntryS -/
noncomputable def laws_toEntryS.p7 : Nat → (List Entry) → (List Entry) → Int → Option ((List Entry))
  | 0, _, _, _ => none
  | k + 1, x0, x1, x2 => if x2 < ((x0.length : Nat) : Int) then (if (0 : Int) ≤ x2 ∧ x2 < ((x0.length : Nat) : Int) then ((laws_toEntry.f (x0.getD x2.toNat ((0 : Int), ((0 : Int), (false, ((⟨#[]⟩ : ByteArray), ())))))).bind fun r1 =>
        if (0 : Int) ≤ x2 ∧ x2 < ((x1.length : Nat) : Int) then laws_toEntryS.p7 k x0 (x1.set x2.toNat r1) (wrap64 (x2 + (1 : Int)))
        else none)
      else none)
    else some x1
noncomputable def laws_toEntryS.f (k : Nat) (a0 : (List Entry)) : Option ((List Entry)) := if (0 : Int) ≤ ((a0.length : Nat) : Int) ∧ ((a0.length : Nat) : Int) ≤ ((a0.length : Nat) : Int) ∧ ((a0.length : Nat) : Int) ≤ lim then laws_toEntryS.p7 k a0 (List.replicate ((a0.length : Nat) : Int).toNat ((0 : Int), ((0 : Int), (false, ((⟨#[]⟩ : ByteArray), ()))))) (0 : Int)
  else none
/-! laws.toIntSS -/
noncomputable def laws_toIntSS.p7 : Nat → (List (List Int)) → (List (List Int)) → Int → Option ((List (List Int)))
  | 0, _, _, _ => none
  | k + 1, x0, x1, x2 => if x2 < ((x0.length : Nat) : Int) then (if (0 : Int) ≤ x2 ∧ x2 < ((x0.length : Nat) : Int) then ((laws_toIntS.f k (x0.getD x2.toNat ([] : List Int))).bind fun r1 =>
        if (0 : Int) ≤ x2 ∧ x2 < ((x1.length : Nat) : Int) then laws_toIntSS.p7 k x0 (x1.set x2.toNat r1) (wrap64 (x2 + (1 : Int)))
        else none)
      else none)
    else some x1
noncomputable def laws_toIntSS.f (k : Nat) (a0 : (List (List Int))) : Option ((List (List Int))) := if (0 : Int) ≤ ((a0.length : Nat) : Int) ∧ ((a0.length : Nat) : Int) ≤ ((a0.length : Nat) : Int) ∧ ((a0.length : Nat) : Int) ≤ lim then laws_toIntSS.p7 k a0 (List.replicate ((a0.length : Nat) : Int).toNat ([] : List Int)) (0 : Int)
  else none
/-! laws.toMend -/
noncomputable def laws_toMend.f (k : Nat) (a0 : Mend) : Option (Mend) := (laws_toIntS.f k a0.2.2.1).bind fun r1 =>
  (laws_toEntryS.f k a0.2.2.2.1).bind fun r2 =>
  (laws_toIntSS.f k a0.2.2.2.2.2.1).bind fun r3 =>
  some (a0.1, (a0.2.1, (r1, (r2, (a0.2.2.2.2.1, (r3, ()))))))
/-! spec.l1In -/
noncomputable def spec_l1In.f (a0 : Int) (a1 : Int) (a2 : Int) : Option (Bool) := if a1 ≤ a0 then some (decide (a0 ≤ a2))
  else some false
/-! spec.ConfigOk -/
noncomputable def spec_ConfigOk.p9 : Nat → Int → Config → Option (Bool)
  | 0, _, _ => none
  | k + 1, x0, x1 => if x0 < ((x1.1.length : Nat) : Int) then (if (0 : Int) ≤ x0 ∧ x0 < ((x1.1.length : Nat) : Int) then ((spec_l1In.f (x1.1.getD x0.toNat (0 : Int)) (0 : Int) (7 : Int)).bind fun r3 =>
        if r3 = true then spec_ConfigOk.p9 k (wrap64 (x0 + (1 : Int))) x1
        else some false)
      else none)
    else some true
noncomputable def spec_ConfigOk.f (k : Nat) (a0 : Config) : Option (Bool) := (spec_l1In.f ((a0.1.length : Nat) : Int) (1 : Int) (8 : Int)).bind fun r1 =>
  if r1 = true then ((spec_l1In.f a0.2.1 (1 : Int) (4 : Int)).bind fun r2 =>
    if r2 = true then spec_ConfigOk.p9 k (0 : Int) a0
    else some false)
  else some false
/-! spec.l4Asc -/
noncomputable def spec_l4Asc.p5 : Nat → (List Int) → Int → Int → Int → Option (Bool)
  | 0, _, _, _, _ => none
  | k + 1, x0, x1, x2, x3 => if x3 < ((x0.length : Nat) : Int) then (if (0 : Int) ≤ x3 ∧ x3 < ((x0.length : Nat) : Int) then ((spec_l1In.f (x0.getD x3.toNat (0 : Int)) x1 x2).bind fun r1 =>
        if r1 = true then (if (0 : Int) < x3 then (if (0 : Int) ≤ (wrap64 (x3 - (1 : Int))) ∧ (wrap64 (x3 - (1 : Int))) < ((x0.length : Nat) : Int) then (if (0 : Int) ≤ x3 ∧ x3 < ((x0.length : Nat) : Int) then (if (x0.getD x3.toNat (0 : Int)) ≤ (x0.getD (wrap64 (x3 - (1 : Int))).toNat (0 : Int)) then some false
                else spec_l4Asc.p5 k x0 x1 x2 (wrap64 (x3 + (1 : Int))))
              else none)
            else none)
          else spec_l4Asc.p5 k x0 x1 x2 (wrap64 (x3 + (1 : Int))))
        else some false)
      else none)
    else some true
noncomputable def spec_l4Asc.f (k : Nat) (a0 : (List Int)) (a1 : Int) (a2 : Int) : Option (Bool) := spec_l4Asc.p5 k a0 a1 a2 (0 : Int)
/-! spec.NodesOk -/
noncomputable def spec_NodesOk.f (k : Nat) (a0 : Config) (a1 : (List Int)) : Option (Bool) := (spec_ConfigOk.f k a0).bind fun r1 =>
  if r1 = true then ((spec_l4Asc.f k a1 (0 : Int) (wrap64 (((a0.1.length : Nat) : Int) - (1 : Int)))).bind fun r2 =>
    some r2)
  else some false
/-! spec.l6Asc -/
noncomputable def spec_l6Asc.p5 : Nat → (List Entry) → Int → Option (Bool)
  | 0, _, _ => none
  | k + 1, x0, x1 => if x1 < ((x0.length : Nat) : Int) then (if (0 : Int) ≤ (wrap64 (x1 - (1 : Int))) ∧ (wrap64 (x1 - (1 : Int))) < ((x0.length : Nat) : Int) then (if (0 : Int) ≤ x1 ∧ x1 < ((x0.length : Nat) : Int) then (if (x0.getD x1.toNat ((0 : Int), ((0 : Int), (false, ((⟨#[]⟩ : ByteArray), ()))))).1 ≤ (x0.getD (wrap64 (x1 - (1 : Int))).toNat ((0 : Int), ((0 : Int), (false, ((⟨#[]⟩ : ByteArray), ()))))).1 then some false
          else spec_l6Asc.p5 k x0 (wrap64 (x1 + (1 : Int))))
        else none)
      else none)
    else some true
noncomputable def spec_l6Asc.f (k : Nat) (a0 : (List Entry)) : Option (Bool) := spec_l6Asc.p5 k a0 (1 : Int)
/-! spec.PlaceOk -/
noncomputable def spec_PlaceOk.f (a0 : Int) : Option (Bool) := if (0 : Int) < a0 then ((spec_l1In.f (wrap64 ((Int.tdiv a0 (4294967296 : Int)))) (1 : Int) (30 : Int)).bind fun r1 =>
    if r1 = true then ((spec_l1In.f (Int.tmod a0 (4294967296 : Int)) (1 : Int) (60 : Int)).bind fun r2 =>
      some r2)
    else some false)
  else some false
/-! spec.EpochOf -/
noncomputable def spec_EpochOf.f (a0 : Int) : Option (Int) := (spec_PlaceOk.f a0).bind fun r1 =>
  if r1 = true then some (wrap64 ((Int.tdiv a0 (4294967296 : Int))))
  else some (0 : Int)
/-! spec.EntryOk -/
noncomputable def spec_EntryOk.p6 : Nat → Entry → Option (Bool)
  | 0, _ => none
  | k + 1, x0 => if x0.2.2.1 = true then (if (0 : Int) < x0.2.1 then some (decide (x0.2.2.2.1 = (⟨#[]⟩ : ByteArray)))
      else some false)
    else some true
noncomputable def spec_EntryOk.f (k : Nat) (a0 : Entry) : Option (Bool) := (spec_PlaceOk.f a0.1).bind fun r1 =>
  if r1 = true then ((spec_l1In.f a0.2.1 (0 : Int) (30 : Int)).bind fun r2 =>
    if r2 = true then (if (0 : Int) < a0.2.1 then ((spec_EpochOf.f a0.1).bind fun r3 =>
        if a0.2.1 ≤ r3 then some false
        else if (40 : Int) < ((a0.2.2.2.1.size : Nat) : Int) then some false
        else spec_EntryOk.p6 k a0)
      else if (40 : Int) < ((a0.2.2.2.1.size : Nat) : Int) then some false
      else spec_EntryOk.p6 k a0)
    else some false)
  else some false
/-! spec.OffOf -/
noncomputable def spec_OffOf.f (a0 : Int) : Option (Int) := (spec_PlaceOk.f a0).bind fun r1 =>
  if r1 = true then some (Int.tmod a0 (4294967296 : Int))
  else some (0 : Int)
/-! spec.l9Last -/
noncomputable def spec_l9Last.f (a0 : Mend) : Option (Int) := if ((a0.2.2.2.1.length : Nat) : Int) = (0 : Int) then some (0 : Int)
  else if (0 : Int) ≤ (wrap64 (((a0.2.2.2.1.length : Nat) : Int) - (1 : Int))) ∧ (wrap64 (((a0.2.2.2.1.length : Nat) : Int) - (1 : Int))) < ((a0.2.2.2.1.length : Nat) : Int) then ((spec_OffOf.f (a0.2.2.2.1.getD (wrap64 (((a0.2.2.2.1.length : Nat) : Int) - (1 : Int))).toNat ((0 : Int), ((0 : Int), (false, ((⟨#[]⟩ : ByteArray), ()))))).1).bind fun r1 =>
    some r1)
  else none
/-! spec.MendOk -/
mutual
noncomputable def spec_MendOk.p9 : Nat → Int → Config → Mend → Option (Bool)
  | 0, _, _, _ => none
  | k + 1, x0, x1, x2 => if x0 < ((x2.2.2.2.1.length : Nat) : Int) then (if (0 : Int) ≤ x0 ∧ x0 < ((x2.2.2.2.1.length : Nat) : Int) then ((spec_EntryOk.f k (x2.2.2.2.1.getD x0.toNat ((0 : Int), ((0 : Int), (false, ((⟨#[]⟩ : ByteArray), ())))))).bind fun r6 =>
        if r6 = true then (if (0 : Int) ≤ x0 ∧ x0 < ((x2.2.2.2.1.length : Nat) : Int) then ((spec_EpochOf.f (x2.2.2.2.1.getD x0.toNat ((0 : Int), ((0 : Int), (false, ((⟨#[]⟩ : ByteArray), ()))))).1).bind fun r7 =>
            if r7 = x2.2.1 then (if (0 : Int) ≤ x0 ∧ x0 < ((x2.2.2.2.1.length : Nat) : Int) then (if x2.1 ≤ (x2.2.2.2.1.getD x0.toNat ((0 : Int), ((0 : Int), (false, ((⟨#[]⟩ : ByteArray), ()))))).2.1 then some false
                else spec_MendOk.p9 k (wrap64 (x0 + (1 : Int))) x1 x2)
              else none)
            else some false)
          else none)
        else some false)
      else none)
    else spec_MendOk.p19 k (0 : Int) x1 x2
noncomputable def spec_MendOk.p19 : Nat → Int → Config → Mend → Option (Bool)
  | 0, _, _, _ => none
  | k + 1, x0, x1, x2 => if x0 < ((x2.2.2.2.2.2.1.length : Nat) : Int) then (if (0 : Int) ≤ x0 ∧ x0 < ((x2.2.2.2.2.2.1.length : Nat) : Int) then ((spec_NodesOk.f k x1 (x2.2.2.2.2.2.1.getD x0.toNat ([] : List Int))).bind fun r8 =>
        if r8 = true then spec_MendOk.p19 k (wrap64 (x0 + (1 : Int))) x1 x2
        else some false)
      else none)
    else if x2.2.2.2.2.1 = true then ((spec_l9Last.f x2).bind fun r9 =>
      some (decide (((x2.2.2.2.2.2.1.length : Nat) : Int) = r9)))
    else some (decide (((x2.2.2.2.2.2.1.length : Nat) : Int) = (0 : Int)))
end
noncomputable def spec_MendOk.f (k : Nat) (a0 : Config) (a1 : Mend) : Option (Bool) := (spec_ConfigOk.f k a0).bind fun r1 =>
  if r1 = true then ((spec_l1In.f a1.2.1 (1 : Int) (30 : Int)).bind fun r2 =>
    if r2 = true then ((spec_l1In.f a1.1 (wrap64 (a1.2.1 + (1 : Int))) (30 : Int)).bind fun r3 =>
      if r3 = true then ((spec_NodesOk.f k a0 a1.2.2.1).bind fun r4 =>
        if r4 = true then ((spec_l6Asc.f k a1.2.2.2.1).bind fun r5 =>
          if r5 = true then spec_MendOk.p9 k (0 : Int) a0 a1
          else some false)
        else some false)
      else some false)
    else some false)
  else some false
/-! spec.l9Copy -/
noncomputable def spec_l9Copy.p7 : Nat → Int → Mend → Mend → Mend → Option (Mend)
  | 0, _, _, _, _ => none
  | k + 1, x0, x1, x2, x3 => if x0 < ((x1.2.2.2.2.2.1.length : Nat) : Int) then (if (0 : Int) ≤ x0 ∧ x0 < ((x1.2.2.2.2.2.1.length : Nat) : Int) then (if (((([] : List Int).length : Nat) : Int) + (((x1.2.2.2.2.2.1.getD x0.toNat ([] : List Int)).length : Nat) : Int)) ≤ lim then (if (((x3.2.2.2.2.2.1.length : Nat) : Int) + ((([(([] : List Int) ++ (x1.2.2.2.2.2.1.getD x0.toNat ([] : List Int)))] : List (List Int)).length : Nat) : Int)) ≤ lim then spec_l9Copy.p7 k (wrap64 (x0 + (1 : Int))) x1 x2 (x3.1, (x3.2.1, (x3.2.2.1, (x3.2.2.2.1, (x3.2.2.2.2.1, ((x3.2.2.2.2.2.1 ++ ([(([] : List Int) ++ (x1.2.2.2.2.2.1.getD x0.toNat ([] : List Int)))] : List (List Int))), x3.2.2.2.2.2.2))))))
          else none)
        else none)
      else none)
    else some x3
noncomputable def spec_l9Copy.f (k : Nat) (a0 : Mend) : Option (Mend) := if (((([] : List Int).length : Nat) : Int) + ((a0.2.2.1.length : Nat) : Int)) ≤ lim then (if (((([] : List Entry).length : Nat) : Int) + ((a0.2.2.2.1.length : Nat) : Int)) ≤ lim then spec_l9Copy.p7 k (0 : Int) a0 ((0 : Int), ((0 : Int), (([] : List Int), (([] : List Entry), (false, (([] : List (List Int)), ())))))) (a0.1, (a0.2.1, ((([] : List Int) ++ a0.2.2.1), ((([] : List Entry) ++ a0.2.2.2.1), (a0.2.2.2.2.1, (([] : List (List Int)), ()))))))
    else none)
  else none
/-! spec.l4Has -/
noncomputable def spec_l4Has.p5 : Nat → (List Int) → Int → Int → Option (Bool)
  | 0, _, _, _ => none
  | k + 1, x0, x1, x2 => if x2 < ((x0.length : Nat) : Int) then (if (0 : Int) ≤ x2 ∧ x2 < ((x0.length : Nat) : Int) then (if (x0.getD x2.toNat (0 : Int)) = x1 then some true
        else spec_l4Has.p5 k x0 x1 (wrap64 (x2 + (1 : Int))))
      else none)
    else some false
noncomputable def spec_l4Has.f (k : Nat) (a0 : (List Int)) (a1 : Int) : Option (Bool) := spec_l4Has.p5 k a0 a1 (0 : Int)
/-! spec.l4Less -/
noncomputable def spec_l4Less.p7 : Nat → (List Int) → (List Int) → (List Int) → Int → Option ((List Int))
  | 0, _, _, _, _ => none
  | k + 1, x0, x1, x2, x3 => if x3 < ((x0.length : Nat) : Int) then (if (0 : Int) ≤ x3 ∧ x3 < ((x0.length : Nat) : Int) then ((spec_l4Has.f k x1 (x0.getD x3.toNat (0 : Int))).bind fun r1 =>
        if r1 = true then spec_l4Less.p7 k x0 x1 x2 (wrap64 (x3 + (1 : Int)))
        else if (0 : Int) ≤ x3 ∧ x3 < ((x0.length : Nat) : Int) then (if (((x2.length : Nat) : Int) + ((([(x0.getD x3.toNat (0 : Int))] : List Int).length : Nat) : Int)) ≤ lim then spec_l4Less.p7 k x0 x1 (x2 ++ ([(x0.getD x3.toNat (0 : Int))] : List Int)) (wrap64 (x3 + (1 : Int)))
          else none)
        else none)
      else none)
    else some x2
noncomputable def spec_l4Less.f (k : Nat) (a0 : (List Int)) (a1 : (List Int)) : Option ((List Int)) := spec_l4Less.p7 k a0 a1 ([] : List Int) (0 : Int)
/-! spec.MendForget -/
noncomputable def spec_MendForget.p11 : Nat → Int → Int → Mend → Mend → Option (Mend × Bool)
  | 0, _, _, _, _ => none
  | k + 1, x0, x1, x2, x3 => if x1 < ((x3.2.2.2.2.2.1.length : Nat) : Int) then (if (0 : Int) ≤ x1 ∧ x1 < ((x3.2.2.2.2.2.1.length : Nat) : Int) then ((spec_l4Less.f k (x3.2.2.2.2.2.1.getD x1.toNat ([] : List Int)) ([x0] : List Int)).bind fun r3 =>
        if (0 : Int) ≤ x1 ∧ x1 < ((x3.2.2.2.2.2.1.length : Nat) : Int) then spec_MendForget.p11 k x0 (wrap64 (x1 + (1 : Int))) x2 (x3.1, (x3.2.1, (x3.2.2.1, (x3.2.2.2.1, (x3.2.2.2.2.1, ((x3.2.2.2.2.2.1.set x1.toNat r3), x3.2.2.2.2.2.2))))))
        else none)
      else none)
    else some (x3, true)
noncomputable def spec_MendForget.f (k : Nat) (a0 : Config) (a1 : Mend) (a2 : Int) : Option (Mend × Bool) := (spec_MendOk.f k a0 a1).bind fun r1 =>
  if r1 = true then ((spec_l9Copy.f k a1).bind fun r2 =>
    spec_MendForget.p11 k a2 (0 : Int) ((0 : Int), ((0 : Int), (([] : List Int), (([] : List Entry), (false, (([] : List (List Int)), ())))))) r2)
  else some (((0 : Int), ((0 : Int), (([] : List Int), (([] : List Entry), (false, (([] : List (List Int)), ())))))), false)
/-! impl.within -/
noncomputable def impl_within.f (a0 : Int) (a1 : Int) (a2 : Int) : Option (Bool) := if a1 ≤ a0 then some (decide (a0 ≤ a2))
  else some false
/-! impl.ConfigOk -/
noncomputable def impl_ConfigOk.p5 : Nat → (List Int) → Int → Int → Config → Option (Bool)
  | 0, _, _, _, _ => none
  | k + 1, x0, x1, x2, x3 => if x2 < x1 then (if (0 : Int) ≤ x2 ∧ x2 < ((x0.length : Nat) : Int) then ((impl_within.f (x0.getD x2.toNat (0 : Int)) (0 : Int) (7 : Int)).bind fun r1 =>
        if r1 = true then impl_ConfigOk.p5 k x0 x1 (wrap64 (x2 + (1 : Int))) x3
        else some false)
      else none)
    else (impl_within.f ((x3.1.length : Nat) : Int) (1 : Int) (8 : Int)).bind fun r2 =>
    if r2 = true then ((impl_within.f x3.2.1 (1 : Int) (4 : Int)).bind fun r3 =>
      some r3)
    else some false
noncomputable def impl_ConfigOk.f (k : Nat) (a0 : Config) : Option (Bool) := impl_ConfigOk.p5 k a0.1 ((a0.1.length : Nat) : Int) (0 : Int) a0
/-! impl.ascends -/
noncomputable def impl_ascends.p5 : Nat → (List Int) → Int → (List Int) → Int → Int → Option (Bool)
  | 0, _, _, _, _, _ => none
  | k + 1, x0, x1, x2, x3, x4 => if x4 < x3 then (if (0 : Int) ≤ x4 ∧ x4 < ((x2.length : Nat) : Int) then ((impl_within.f (x2.getD x4.toNat (0 : Int)) (0 : Int) x1).bind fun r1 =>
        if r1 = true then (if (0 : Int) < x4 then (if (0 : Int) ≤ (wrap64 (x4 - (1 : Int))) ∧ (wrap64 (x4 - (1 : Int))) < ((x0.length : Nat) : Int) then (if (x2.getD x4.toNat (0 : Int)) ≤ (x0.getD (wrap64 (x4 - (1 : Int))).toNat (0 : Int)) then some false
              else impl_ascends.p5 k x0 x1 x2 x3 (wrap64 (x4 + (1 : Int))))
            else none)
          else impl_ascends.p5 k x0 x1 x2 x3 (wrap64 (x4 + (1 : Int))))
        else some false)
      else none)
    else some true
noncomputable def impl_ascends.f (k : Nat) (a0 : (List Int)) (a1 : Int) : Option (Bool) := impl_ascends.p5 k a0 a1 a0 ((a0.length : Nat) : Int) (0 : Int)
/-! impl.NodesOk -/
noncomputable def impl_NodesOk.f (k : Nat) (a0 : Config) (a1 : (List Int)) : Option (Bool) := (impl_ConfigOk.f k a0).bind fun r1 =>
  if r1 = true then ((impl_ascends.f k a1 (wrap64 (((a0.1.length : Nat) : Int) - (1 : Int)))).bind fun r2 =>
    some r2)
  else some false
/-! impl.isEpoch -/
noncomputable def impl_isEpoch.f (a0 : Int) : Option (Bool) := (impl_within.f a0 (1 : Int) (30 : Int)).bind fun r1 =>
  some r1
/-! impl.isOff -/
noncomputable def impl_isOff.f (a0 : Int) : Option (Bool) := (impl_within.f a0 (1 : Int) (60 : Int)).bind fun r1 =>
  some r1
/-! impl.PlaceOk -/
noncomputable def impl_PlaceOk.f (a0 : Int) : Option (Bool) := (impl_isEpoch.f (wrap64 ((Int.tdiv a0 (4294967296 : Int))))).bind fun r1 =>
  if r1 = true then ((impl_isOff.f (Int.tmod a0 (4294967296 : Int))).bind fun r2 =>
    some r2)
  else some false
/-! impl.OffOf -/
noncomputable def impl_OffOf.f (a0 : Int) : Option (Int) := (impl_PlaceOk.f a0).bind fun r1 =>
  if r1 = true then some (Int.tmod a0 (4294967296 : Int))
  else some (0 : Int)
/-! impl.lastOff -/
noncomputable def impl_lastOff.f (a0 : Mend) : Option (Int) := if ((a0.2.2.2.1.length : Nat) : Int) = (0 : Int) then some (0 : Int)
  else if (0 : Int) ≤ (wrap64 (((a0.2.2.2.1.length : Nat) : Int) - (1 : Int))) ∧ (wrap64 (((a0.2.2.2.1.length : Nat) : Int) - (1 : Int))) < ((a0.2.2.2.1.length : Nat) : Int) then ((impl_OffOf.f (a0.2.2.2.1.getD (wrap64 (((a0.2.2.2.1.length : Nat) : Int) - (1 : Int))).toNat ((0 : Int), ((0 : Int), (false, ((⟨#[]⟩ : ByteArray), ()))))).1).bind fun r1 =>
    some r1)
  else none
/-! impl.dataOk -/
noncomputable def impl_dataOk.f (a0 : ByteArray) : Option (Bool) := some (decide (((a0.size : Nat) : Int) ≤ (40 : Int)))
/-! impl.EpochOf -/
noncomputable def impl_EpochOf.f (a0 : Int) : Option (Int) := (impl_PlaceOk.f a0).bind fun r1 =>
  if r1 = true then some (wrap64 ((Int.tdiv a0 (4294967296 : Int))))
  else some (0 : Int)
/-! impl.EntryOk -/
mutual
noncomputable def impl_EntryOk.p4 : Nat → Bool → Entry → Option (Bool)
  | 0, _, _ => none
  | k + 1, x0, x1 => if x1.2.2.1 = true then (if (0 : Int) < x1.2.1 then impl_EntryOk.p6 k x0 (decide (x1.2.2.2.1 = (⟨#[]⟩ : ByteArray))) x1
      else impl_EntryOk.p6 k x0 false x1)
    else impl_EntryOk.p6 k x0 true x1
noncomputable def impl_EntryOk.p6 : Nat → Bool → Bool → Entry → Option (Bool)
  | 0, _, _, _ => none
  | k + 1, x0, x1, x2 => (impl_PlaceOk.f x2.1).bind fun r3 =>
    if r3 = true then (if x0 = true then (if x1 = true then ((impl_dataOk.f x2.2.2.2.1).bind fun r4 =>
          some r4)
        else some false)
      else some false)
    else some false
end
noncomputable def impl_EntryOk.f (k : Nat) (a0 : Entry) : Option (Bool) := (impl_within.f a0.2.1 (0 : Int) (30 : Int)).bind fun r1 =>
  if r1 = true then (if a0.2.1 = (0 : Int) then impl_EntryOk.p4 k true a0
    else (impl_EpochOf.f a0.1).bind fun r2 =>
    impl_EntryOk.p4 k (decide (r2 < a0.2.1)) a0)
  else impl_EntryOk.p4 k false a0
/-! impl.placesAscend -/
noncomputable def impl_placesAscend.p5 : Nat → (List Entry) → (List Entry) → Int → Int → Option (Bool)
  | 0, _, _, _, _ => none
  | k + 1, x0, x1, x2, x3 => if x3 < x2 then (if (0 : Int) ≤ x3 ∧ x3 < ((x1.length : Nat) : Int) then (if (0 : Int) < x3 then (if (0 : Int) ≤ (wrap64 (x3 - (1 : Int))) ∧ (wrap64 (x3 - (1 : Int))) < ((x0.length : Nat) : Int) then (if (x1.getD x3.toNat ((0 : Int), ((0 : Int), (false, ((⟨#[]⟩ : ByteArray), ()))))).1 ≤ (x0.getD (wrap64 (x3 - (1 : Int))).toNat ((0 : Int), ((0 : Int), (false, ((⟨#[]⟩ : ByteArray), ()))))).1 then some false
            else impl_placesAscend.p5 k x0 x1 x2 (wrap64 (x3 + (1 : Int))))
          else none)
        else impl_placesAscend.p5 k x0 x1 x2 (wrap64 (x3 + (1 : Int))))
      else none)
    else some true
noncomputable def impl_placesAscend.f (k : Nat) (a0 : (List Entry)) : Option (Bool) := impl_placesAscend.p5 k a0 a0 ((a0.length : Nat) : Int) (0 : Int)
/-! impl.seenOk -/
noncomputable def impl_seenOk.p5 : Nat → (List Entry) → Int → Int → Mend → Option (Bool)
  | 0, _, _, _, _ => none
  | k + 1, x0, x1, x2, x3 => if x2 < x1 then (if (0 : Int) ≤ x2 ∧ x2 < ((x0.length : Nat) : Int) then ((impl_EntryOk.f k (x0.getD x2.toNat ((0 : Int), ((0 : Int), (false, ((⟨#[]⟩ : ByteArray), ())))))).bind fun r1 =>
        if r1 = true then ((impl_EpochOf.f (x0.getD x2.toNat ((0 : Int), ((0 : Int), (false, ((⟨#[]⟩ : ByteArray), ()))))).1).bind fun r2 =>
          if r2 = x3.2.1 then (if x3.1 ≤ (x0.getD x2.toNat ((0 : Int), ((0 : Int), (false, ((⟨#[]⟩ : ByteArray), ()))))).2.1 then some false
            else impl_seenOk.p5 k x0 x1 (wrap64 (x2 + (1 : Int))) x3)
          else some false)
        else some false)
      else none)
    else (impl_placesAscend.f k x3.2.2.2.1).bind fun r3 =>
    some r3
noncomputable def impl_seenOk.f (k : Nat) (a0 : Mend) : Option (Bool) := impl_seenOk.p5 k a0.2.2.2.1 ((a0.2.2.2.1.length : Nat) : Int) (0 : Int) a0
/-! impl.MendOk -/
mutual
noncomputable def impl_MendOk.p5 : Nat → (List (List Int)) → Int → Int → Config → Mend → Option (Bool)
  | 0, _, _, _, _, _ => none
  | k + 1, x0, x1, x2, x3, x4 => if x2 < x1 then (if (0 : Int) ≤ x2 ∧ x2 < ((x0.length : Nat) : Int) then ((impl_NodesOk.f k x3 (x0.getD x2.toNat ([] : List Int))).bind fun r1 =>
        if r1 = true then impl_MendOk.p5 k x0 x1 (wrap64 (x2 + (1 : Int))) x3 x4
        else some false)
      else none)
    else if x4.2.2.2.2.1 = true then ((impl_lastOff.f x4).bind fun r2 =>
      impl_MendOk.p20 k r2 x3 x4)
    else impl_MendOk.p20 k (0 : Int) x3 x4
noncomputable def impl_MendOk.p20 : Nat → Int → Config → Mend → Option (Bool)
  | 0, _, _, _ => none
  | k + 1, x0, x1, x2 => (impl_isEpoch.f x2.2.1).bind fun r3 =>
    if r3 = true then ((impl_within.f x2.1 (wrap64 (x2.2.1 + (1 : Int))) (30 : Int)).bind fun r4 =>
      impl_MendOk.p22 k x0 r4 x1 x2)
    else impl_MendOk.p22 k x0 false x1 x2
noncomputable def impl_MendOk.p22 : Nat → Int → Bool → Config → Mend → Option (Bool)
  | 0, _, _, _, _ => none
  | k + 1, x0, x1, x2, x3 => (impl_ConfigOk.f k x2).bind fun r5 =>
    if r5 = true then (if x1 = true then ((impl_NodesOk.f k x2 x3.2.2.1).bind fun r6 =>
        if r6 = true then ((impl_seenOk.f k x3).bind fun r7 =>
          if r7 = true then some (decide (((x3.2.2.2.2.2.1.length : Nat) : Int) = x0))
          else some false)
        else some false)
      else some false)
    else some false
end
noncomputable def impl_MendOk.f (k : Nat) (a0 : Config) (a1 : Mend) : Option (Bool) := impl_MendOk.p5 k a1.2.2.2.2.2.1 ((a1.2.2.2.2.2.1.length : Nat) : Int) (0 : Int) a0 a1
/-! impl.copyInts -/
noncomputable def impl_copyInts.f (a0 : (List Int)) : Option ((List Int)) := if (((([] : List Int).length : Nat) : Int) + ((a0.length : Nat) : Int)) ≤ lim then some (([] : List Int) ++ a0)
  else none
/-! impl.copyEntries -/
noncomputable def impl_copyEntries.f (a0 : (List Entry)) : Option ((List Entry)) := if (((([] : List Entry).length : Nat) : Int) + ((a0.length : Nat) : Int)) ≤ lim then some (([] : List Entry) ++ a0)
  else none
/-! impl.copyMend -/
noncomputable def impl_copyMend.p9 : Nat → (List (List Int)) → Int → Int → Mend → Mend → Option (Mend)
  | 0, _, _, _, _, _ => none
  | k + 1, x0, x1, x2, x3, x4 => if x2 < x1 then (if (0 : Int) ≤ x2 ∧ x2 < ((x0.length : Nat) : Int) then ((impl_copyInts.f (x0.getD x2.toNat ([] : List Int))).bind fun r3 =>
        if (((x4.2.2.2.2.2.1.length : Nat) : Int) + ((([r3] : List (List Int)).length : Nat) : Int)) ≤ lim then impl_copyMend.p9 k x0 x1 (wrap64 (x2 + (1 : Int))) x3 (x4.1, (x4.2.1, (x4.2.2.1, (x4.2.2.2.1, (x4.2.2.2.2.1, ((x4.2.2.2.2.2.1 ++ ([r3] : List (List Int))), x4.2.2.2.2.2.2))))))
        else none)
      else none)
    else some x4
noncomputable def impl_copyMend.f (k : Nat) (a0 : Mend) : Option (Mend) := (impl_copyInts.f a0.2.2.1).bind fun r1 =>
  (impl_copyEntries.f a0.2.2.2.1).bind fun r2 =>
  impl_copyMend.p9 k a0.2.2.2.2.2.1 ((a0.2.2.2.2.2.1.length : Nat) : Int) (0 : Int) ((0 : Int), ((0 : Int), (([] : List Int), (([] : List Entry), (false, (([] : List (List Int)), ())))))) (a0.1, (a0.2.1, (r1, (r2, (a0.2.2.2.2.1, (([] : List (List Int)), a0.2.2.2.2.2.2))))))
/-! slices.DeleteFunc[[]int,int] at impl.withoutNode$1 -/
def slices_DeleteFunc_int_int_impl_withoutNode_1.okp (y : (Int × Unit)) : Prop := True
instance : DecidablePred slices_DeleteFunc_int_int_impl_withoutNode_1.okp := fun y => by unfold slices_DeleteFunc_int_int_impl_withoutNode_1.okp; infer_instance
def slices_DeleteFunc_int_int_impl_withoutNode_1.pred (y : (Int × Unit)) (v : Int) : Bool := decide (v = y.1)
noncomputable def slices_DeleteFunc_int_int_impl_withoutNode_1.f (a0 : List Int) (a1 : (Int × Unit)) : Option (List Int) := if ((List.length a0 : Nat) : Int) ≤ lim ∧ slices_DeleteFunc_int_int_impl_withoutNode_1.okp a1 then some (List.filter (fun v => !slices_DeleteFunc_int_int_impl_withoutNode_1.pred a1 v) a0) else none

/-! impl.withoutNode -/
noncomputable def impl_withoutNode.f (a0 : (List Int)) (a1 : Int) : Option ((List Int)) := (impl_copyInts.f a0).bind fun r1 =>
  (slices_DeleteFunc_int_int_impl_withoutNode_1.f r1 (a1, ())).bind fun r2 =>
  some r2
/-! impl.MendForget -/
noncomputable def impl_MendForget.p11 : Nat → Int → (List (List Int)) → Int → Int → Mend → Mend → Option (Mend × Bool)
  | 0, _, _, _, _, _, _ => none
  | k + 1, x0, x1, x2, x3, x4, x5 => if x3 < x2 then (if (0 : Int) ≤ x3 ∧ x3 < ((x1.length : Nat) : Int) then ((impl_withoutNode.f (x1.getD x3.toNat ([] : List Int)) x0).bind fun r3 =>
        if (0 : Int) ≤ x3 ∧ x3 < ((x5.2.2.2.2.2.1.length : Nat) : Int) then impl_MendForget.p11 k x0 x1 x2 (wrap64 (x3 + (1 : Int))) x4 (x5.1, (x5.2.1, (x5.2.2.1, (x5.2.2.2.1, (x5.2.2.2.2.1, ((x5.2.2.2.2.2.1.set x3.toNat r3), x5.2.2.2.2.2.2))))))
        else none)
      else none)
    else some (x5, true)
noncomputable def impl_MendForget.f (k : Nat) (a0 : Config) (a1 : Mend) (a2 : Int) : Option (Mend × Bool) := (impl_MendOk.f k a0 a1).bind fun r1 =>
  if r1 = true then ((impl_copyMend.f k a1).bind fun r2 =>
    impl_MendForget.p11 k a2 a1.2.2.2.2.2.1 ((a1.2.2.2.2.2.1.length : Nat) : Int) (0 : Int) ((0 : Int), ((0 : Int), (([] : List Int), (([] : List Entry), (false, (([] : List (List Int)), ())))))) r2)
  else some (((0 : Int), ((0 : Int), (([] : List Int), (([] : List Entry), (false, (([] : List (List Int)), ())))))), false)
/-! laws.eqIntS -/
noncomputable def laws_eqIntS.p9 : Nat → (List Int) → (List Int) → Int → Option (Bool)
  | 0, _, _, _ => none
  | k + 1, x0, x1, x2 => if x2 < ((x0.length : Nat) : Int) then (if (0 : Int) ≤ x2 ∧ x2 < ((x0.length : Nat) : Int) then (if (0 : Int) ≤ x2 ∧ x2 < ((x1.length : Nat) : Int) then (if (x0.getD x2.toNat (0 : Int)) = (x1.getD x2.toNat (0 : Int)) then laws_eqIntS.p9 k x0 x1 (wrap64 (x2 + (1 : Int)))
          else some false)
        else none)
      else none)
    else some true
noncomputable def laws_eqIntS.f (k : Nat) (a0 : (List Int)) (a1 : (List Int)) : Option (Bool) := if ((a0.length : Nat) : Int) = ((a1.length : Nat) : Int) then laws_eqIntS.p9 k a0 a1 (0 : Int)
  else some false
/-! laws.eqEntry -/
noncomputable def laws_eqEntry.f (a0 : Entry) (a1 : Entry) : Option (Bool) := if a0.1 = a1.1 then (if a0.2.1 = a1.2.1 then (if a0.2.2.1 = a1.2.2.1 then (if a0.2.2.2.1 = a1.2.2.2.1 then some true
        else some false)
      else some false)
    else some false)
  else some false
/-! laws.eqEntryS -/
noncomputable def laws_eqEntryS.p9 : Nat → (List Entry) → (List Entry) → Int → Option (Bool)
  | 0, _, _, _ => none
  | k + 1, x0, x1, x2 => if x2 < ((x0.length : Nat) : Int) then (if (0 : Int) ≤ x2 ∧ x2 < ((x0.length : Nat) : Int) then (if (0 : Int) ≤ x2 ∧ x2 < ((x1.length : Nat) : Int) then ((laws_eqEntry.f (x0.getD x2.toNat ((0 : Int), ((0 : Int), (false, ((⟨#[]⟩ : ByteArray), ()))))) (x1.getD x2.toNat ((0 : Int), ((0 : Int), (false, ((⟨#[]⟩ : ByteArray), ())))))).bind fun r1 =>
          if r1 = true then laws_eqEntryS.p9 k x0 x1 (wrap64 (x2 + (1 : Int)))
          else some false)
        else none)
      else none)
    else some true
noncomputable def laws_eqEntryS.f (k : Nat) (a0 : (List Entry)) (a1 : (List Entry)) : Option (Bool) := if ((a0.length : Nat) : Int) = ((a1.length : Nat) : Int) then laws_eqEntryS.p9 k a0 a1 (0 : Int)
  else some false
/-! laws.eqIntSS -/
noncomputable def laws_eqIntSS.p9 : Nat → (List (List Int)) → (List (List Int)) → Int → Option (Bool)
  | 0, _, _, _ => none
  | k + 1, x0, x1, x2 => if x2 < ((x0.length : Nat) : Int) then (if (0 : Int) ≤ x2 ∧ x2 < ((x0.length : Nat) : Int) then (if (0 : Int) ≤ x2 ∧ x2 < ((x1.length : Nat) : Int) then ((laws_eqIntS.f k (x0.getD x2.toNat ([] : List Int)) (x1.getD x2.toNat ([] : List Int))).bind fun r1 =>
          if r1 = true then laws_eqIntSS.p9 k x0 x1 (wrap64 (x2 + (1 : Int)))
          else some false)
        else none)
      else none)
    else some true
noncomputable def laws_eqIntSS.f (k : Nat) (a0 : (List (List Int))) (a1 : (List (List Int))) : Option (Bool) := if ((a0.length : Nat) : Int) = ((a1.length : Nat) : Int) then laws_eqIntSS.p9 k a0 a1 (0 : Int)
  else some false
/-! laws.eqMend -/
noncomputable def laws_eqMend.f (k : Nat) (a0 : Mend) (a1 : Mend) : Option (Bool) := if a0.1 = a1.1 then (if a0.2.1 = a1.2.1 then ((laws_eqIntS.f k a0.2.2.1 a1.2.2.1).bind fun r1 =>
      if r1 = true then ((laws_eqEntryS.f k a0.2.2.2.1 a1.2.2.2.1).bind fun r2 =>
        if r2 = true then (if a0.2.2.2.2.1 = a1.2.2.2.2.1 then ((laws_eqIntSS.f k a0.2.2.2.2.2.1 a1.2.2.2.2.2.1).bind fun r3 =>
            if r3 = true then some true
            else some false)
          else some false)
        else some false)
      else some false)
    else some false)
  else some false
/-! laws.eqConfig -/
noncomputable def laws_eqConfig.f (k : Nat) (a0 : Config) (a1 : Config) : Option (Bool) := (laws_eqIntS.f k a0.1 a1.1).bind fun r1 =>
  if r1 = true then (if a0.2.1 = a1.2.1 then some true
    else some false)
  else some false
/-! laws.markIntS -/
noncomputable def laws_markIntS.p5 : Nat → (List Int) → Int → Int → Option (Int × (List Int))
  | 0, _, _, _ => none
  | k + 1, x0, x1, x2 => if x2 < ((x0.length : Nat) : Int) then (if (0 : Int) ≤ x2 ∧ x2 < ((x0.length : Nat) : Int) then laws_markIntS.p5 k (x0.set x2.toNat x1) (wrap64 (x1 + (1 : Int))) (wrap64 (x2 + (1 : Int)))
      else none)
    else some (x1, x0)
noncomputable def laws_markIntS.f (k : Nat) (a0 : (List Int)) (a1 : Int) : Option (Int × (List Int)) := laws_markIntS.p5 k a0 a1 (0 : Int)
/-! laws.markConfig -/
noncomputable def laws_markConfig.f (k : Nat) (a0 : Config) (a1 : Int) : Option (Int × Config) := (laws_markIntS.f k a0.1 a1).bind fun r1 =>
  some (r1.1, (r1.2, a0.2))
/-! laws.markText -/
noncomputable def laws_markText.p9 : Nat → Int → ByteArray → Option (ByteArray)
  | 0, _, _ => none
  | k + 1, x0, x1 => if (0 : Int) < x0 then (if ((((bytesOf ([(IntKind.wrap .u8 ((wrap64 ((48 : Int) + (Int.tmod x0 (10 : Int))))))] : List Int)).size : Nat) : Int) + ((x1.size : Nat) : Int)) ≤ (9223372036854775807 : Int) then laws_markText.p9 k (wrap64 ((Int.tdiv x0 (10 : Int)))) ((bytesOf ([(IntKind.wrap .u8 ((wrap64 ((48 : Int) + (Int.tmod x0 (10 : Int))))))] : List Int)) ++ x1)
      else none)
    else if ((((⟨#[109]⟩ : ByteArray).size : Nat) : Int) + ((x1.size : Nat) : Int)) ≤ (9223372036854775807 : Int) then some ((⟨#[109]⟩ : ByteArray) ++ x1)
    else none
noncomputable def laws_markText.f (k : Nat) (a0 : Int) : Option (ByteArray) := if a0 ≤ (0 : Int) then some (⟨#[109, 48]⟩ : ByteArray)
  else laws_markText.p9 k a0 (⟨#[]⟩ : ByteArray)
/-! laws.markEntryS -/
noncomputable def laws_markEntryS.p5 : Nat → (List Entry) → Int → Int → Option (Int × (List Entry))
  | 0, _, _, _ => none
  | k + 1, x0, x1, x2 => if x2 < ((x0.length : Nat) : Int) then (if (0 : Int) ≤ x2 ∧ x2 < ((x0.length : Nat) : Int) then (if (0 : Int) ≤ x2 ∧ x2 < (((x0.set x2.toNat (x1, (x0.getD x2.toNat ((0 : Int), ((0 : Int), (false, ((⟨#[]⟩ : ByteArray), ()))))).2)).length : Nat) : Int) then (if (0 : Int) ≤ x2 ∧ x2 < ((((x0.set x2.toNat (x1, (x0.getD x2.toNat ((0 : Int), ((0 : Int), (false, ((⟨#[]⟩ : ByteArray), ()))))).2)).set x2.toNat (((x0.set x2.toNat (x1, (x0.getD x2.toNat ((0 : Int), ((0 : Int), (false, ((⟨#[]⟩ : ByteArray), ()))))).2)).getD x2.toNat ((0 : Int), ((0 : Int), (false, ((⟨#[]⟩ : ByteArray), ()))))).1, ((wrap64 (x1 + (1 : Int))), ((x0.set x2.toNat (x1, (x0.getD x2.toNat ((0 : Int), ((0 : Int), (false, ((⟨#[]⟩ : ByteArray), ()))))).2)).getD x2.toNat ((0 : Int), ((0 : Int), (false, ((⟨#[]⟩ : ByteArray), ()))))).2.2))).length : Nat) : Int) then ((laws_markText.f k (wrap64 ((wrap64 ((wrap64 (x1 + (1 : Int))) + (1 : Int))) + (1 : Int)))).bind fun r1 =>
            if (0 : Int) ≤ x2 ∧ x2 < (((((x0.set x2.toNat (x1, (x0.getD x2.toNat ((0 : Int), ((0 : Int), (false, ((⟨#[]⟩ : ByteArray), ()))))).2)).set x2.toNat (((x0.set x2.toNat (x1, (x0.getD x2.toNat ((0 : Int), ((0 : Int), (false, ((⟨#[]⟩ : ByteArray), ()))))).2)).getD x2.toNat ((0 : Int), ((0 : Int), (false, ((⟨#[]⟩ : ByteArray), ()))))).1, ((wrap64 (x1 + (1 : Int))), ((x0.set x2.toNat (x1, (x0.getD x2.toNat ((0 : Int), ((0 : Int), (false, ((⟨#[]⟩ : ByteArray), ()))))).2)).getD x2.toNat ((0 : Int), ((0 : Int), (false, ((⟨#[]⟩ : ByteArray), ()))))).2.2))).set x2.toNat ((((x0.set x2.toNat (x1, (x0.getD x2.toNat ((0 : Int), ((0 : Int), (false, ((⟨#[]⟩ : ByteArray), ()))))).2)).set x2.toNat (((x0.set x2.toNat (x1, (x0.getD x2.toNat ((0 : Int), ((0 : Int), (false, ((⟨#[]⟩ : ByteArray), ()))))).2)).getD x2.toNat ((0 : Int), ((0 : Int), (false, ((⟨#[]⟩ : ByteArray), ()))))).1, ((wrap64 (x1 + (1 : Int))), ((x0.set x2.toNat (x1, (x0.getD x2.toNat ((0 : Int), ((0 : Int), (false, ((⟨#[]⟩ : ByteArray), ()))))).2)).getD x2.toNat ((0 : Int), ((0 : Int), (false, ((⟨#[]⟩ : ByteArray), ()))))).2.2))).getD x2.toNat ((0 : Int), ((0 : Int), (false, ((⟨#[]⟩ : ByteArray), ()))))).1, ((((x0.set x2.toNat (x1, (x0.getD x2.toNat ((0 : Int), ((0 : Int), (false, ((⟨#[]⟩ : ByteArray), ()))))).2)).set x2.toNat (((x0.set x2.toNat (x1, (x0.getD x2.toNat ((0 : Int), ((0 : Int), (false, ((⟨#[]⟩ : ByteArray), ()))))).2)).getD x2.toNat ((0 : Int), ((0 : Int), (false, ((⟨#[]⟩ : ByteArray), ()))))).1, ((wrap64 (x1 + (1 : Int))), ((x0.set x2.toNat (x1, (x0.getD x2.toNat ((0 : Int), ((0 : Int), (false, ((⟨#[]⟩ : ByteArray), ()))))).2)).getD x2.toNat ((0 : Int), ((0 : Int), (false, ((⟨#[]⟩ : ByteArray), ()))))).2.2))).getD x2.toNat ((0 : Int), ((0 : Int), (false, ((⟨#[]⟩ : ByteArray), ()))))).2.1, ((decide ((Int.tmod (wrap64 ((wrap64 (x1 + (1 : Int))) + (1 : Int))) (3 : Int)) = (0 : Int))), (((x0.set x2.toNat (x1, (x0.getD x2.toNat ((0 : Int), ((0 : Int), (false, ((⟨#[]⟩ : ByteArray), ()))))).2)).set x2.toNat (((x0.set x2.toNat (x1, (x0.getD x2.toNat ((0 : Int), ((0 : Int), (false, ((⟨#[]⟩ : ByteArray), ()))))).2)).getD x2.toNat ((0 : Int), ((0 : Int), (false, ((⟨#[]⟩ : ByteArray), ()))))).1, ((wrap64 (x1 + (1 : Int))), ((x0.set x2.toNat (x1, (x0.getD x2.toNat ((0 : Int), ((0 : Int), (false, ((⟨#[]⟩ : ByteArray), ()))))).2)).getD x2.toNat ((0 : Int), ((0 : Int), (false, ((⟨#[]⟩ : ByteArray), ()))))).2.2))).getD x2.toNat ((0 : Int), ((0 : Int), (false, ((⟨#[]⟩ : ByteArray), ()))))).2.2.2)))).length : Nat) : Int) then laws_markEntryS.p5 k ((((x0.set x2.toNat (x1, (x0.getD x2.toNat ((0 : Int), ((0 : Int), (false, ((⟨#[]⟩ : ByteArray), ()))))).2)).set x2.toNat (((x0.set x2.toNat (x1, (x0.getD x2.toNat ((0 : Int), ((0 : Int), (false, ((⟨#[]⟩ : ByteArray), ()))))).2)).getD x2.toNat ((0 : Int), ((0 : Int), (false, ((⟨#[]⟩ : ByteArray), ()))))).1, ((wrap64 (x1 + (1 : Int))), ((x0.set x2.toNat (x1, (x0.getD x2.toNat ((0 : Int), ((0 : Int), (false, ((⟨#[]⟩ : ByteArray), ()))))).2)).getD x2.toNat ((0 : Int), ((0 : Int), (false, ((⟨#[]⟩ : ByteArray), ()))))).2.2))).set x2.toNat ((((x0.set x2.toNat (x1, (x0.getD x2.toNat ((0 : Int), ((0 : Int), (false, ((⟨#[]⟩ : ByteArray), ()))))).2)).set x2.toNat (((x0.set x2.toNat (x1, (x0.getD x2.toNat ((0 : Int), ((0 : Int), (false, ((⟨#[]⟩ : ByteArray), ()))))).2)).getD x2.toNat ((0 : Int), ((0 : Int), (false, ((⟨#[]⟩ : ByteArray), ()))))).1, ((wrap64 (x1 + (1 : Int))), ((x0.set x2.toNat (x1, (x0.getD x2.toNat ((0 : Int), ((0 : Int), (false, ((⟨#[]⟩ : ByteArray), ()))))).2)).getD x2.toNat ((0 : Int), ((0 : Int), (false, ((⟨#[]⟩ : ByteArray), ()))))).2.2))).getD x2.toNat ((0 : Int), ((0 : Int), (false, ((⟨#[]⟩ : ByteArray), ()))))).1, ((((x0.set x2.toNat (x1, (x0.getD x2.toNat ((0 : Int), ((0 : Int), (false, ((⟨#[]⟩ : ByteArray), ()))))).2)).set x2.toNat (((x0.set x2.toNat (x1, (x0.getD x2.toNat ((0 : Int), ((0 : Int), (false, ((⟨#[]⟩ : ByteArray), ()))))).2)).getD x2.toNat ((0 : Int), ((0 : Int), (false, ((⟨#[]⟩ : ByteArray), ()))))).1, ((wrap64 (x1 + (1 : Int))), ((x0.set x2.toNat (x1, (x0.getD x2.toNat ((0 : Int), ((0 : Int), (false, ((⟨#[]⟩ : ByteArray), ()))))).2)).getD x2.toNat ((0 : Int), ((0 : Int), (false, ((⟨#[]⟩ : ByteArray), ()))))).2.2))).getD x2.toNat ((0 : Int), ((0 : Int), (false, ((⟨#[]⟩ : ByteArray), ()))))).2.1, ((decide ((Int.tmod (wrap64 ((wrap64 (x1 + (1 : Int))) + (1 : Int))) (3 : Int)) = (0 : Int))), (((x0.set x2.toNat (x1, (x0.getD x2.toNat ((0 : Int), ((0 : Int), (false, ((⟨#[]⟩ : ByteArray), ()))))).2)).set x2.toNat (((x0.set x2.toNat (x1, (x0.getD x2.toNat ((0 : Int), ((0 : Int), (false, ((⟨#[]⟩ : ByteArray), ()))))).2)).getD x2.toNat ((0 : Int), ((0 : Int), (false, ((⟨#[]⟩ : ByteArray), ()))))).1, ((wrap64 (x1 + (1 : Int))), ((x0.set x2.toNat (x1, (x0.getD x2.toNat ((0 : Int), ((0 : Int), (false, ((⟨#[]⟩ : ByteArray), ()))))).2)).getD x2.toNat ((0 : Int), ((0 : Int), (false, ((⟨#[]⟩ : ByteArray), ()))))).2.2))).getD x2.toNat ((0 : Int), ((0 : Int), (false, ((⟨#[]⟩ : ByteArray), ()))))).2.2.2)))).set x2.toNat (((((x0.set x2.toNat (x1, (x0.getD x2.toNat ((0 : Int), ((0 : Int), (false, ((⟨#[]⟩ : ByteArray), ()))))).2)).set x2.toNat (((x0.set x2.toNat (x1, (x0.getD x2.toNat ((0 : Int), ((0 : Int), (false, ((⟨#[]⟩ : ByteArray), ()))))).2)).getD x2.toNat ((0 : Int), ((0 : Int), (false, ((⟨#[]⟩ : ByteArray), ()))))).1, ((wrap64 (x1 + (1 : Int))), ((x0.set x2.toNat (x1, (x0.getD x2.toNat ((0 : Int), ((0 : Int), (false, ((⟨#[]⟩ : ByteArray), ()))))).2)).getD x2.toNat ((0 : Int), ((0 : Int), (false, ((⟨#[]⟩ : ByteArray), ()))))).2.2))).set x2.toNat ((((x0.set x2.toNat (x1, (x0.getD x2.toNat ((0 : Int), ((0 : Int), (false, ((⟨#[]⟩ : ByteArray), ()))))).2)).set x2.toNat (((x0.set x2.toNat (x1, (x0.getD x2.toNat ((0 : Int), ((0 : Int), (false, ((⟨#[]⟩ : ByteArray), ()))))).2)).getD x2.toNat ((0 : Int), ((0 : Int), (false, ((⟨#[]⟩ : ByteArray), ()))))).1, ((wrap64 (x1 + (1 : Int))), ((x0.set x2.toNat (x1, (x0.getD x2.toNat ((0 : Int), ((0 : Int), (false, ((⟨#[]⟩ : ByteArray), ()))))).2)).getD x2.toNat ((0 : Int), ((0 : Int), (false, ((⟨#[]⟩ : ByteArray), ()))))).2.2))).getD x2.toNat ((0 : Int), ((0 : Int), (false, ((⟨#[]⟩ : ByteArray), ()))))).1, ((((x0.set x2.toNat (x1, (x0.getD x2.toNat ((0 : Int), ((0 : Int), (false, ((⟨#[]⟩ : ByteArray), ()))))).2)).set x2.toNat (((x0.set x2.toNat (x1, (x0.getD x2.toNat ((0 : Int), ((0 : Int), (false, ((⟨#[]⟩ : ByteArray), ()))))).2)).getD x2.toNat ((0 : Int), ((0 : Int), (false, ((⟨#[]⟩ : ByteArray), ()))))).1, ((wrap64 (x1 + (1 : Int))), ((x0.set x2.toNat (x1, (x0.getD x2.toNat ((0 : Int), ((0 : Int), (false, ((⟨#[]⟩ : ByteArray), ()))))).2)).getD x2.toNat ((0 : Int), ((0 : Int), (false, ((⟨#[]⟩ : ByteArray), ()))))).2.2))).getD x2.toNat ((0 : Int), ((0 : Int), (false, ((⟨#[]⟩ : ByteArray), ()))))).2.1, ((decide ((Int.tmod (wrap64 ((wrap64 (x1 + (1 : Int))) + (1 : Int))) (3 : Int)) = (0 : Int))), (((x0.set x2.toNat (x1, (x0.getD x2.toNat ((0 : Int), ((0 : Int), (false, ((⟨#[]⟩ : ByteArray), ()))))).2)).set x2.toNat (((x0.set x2.toNat (x1, (x0.getD x2.toNat ((0 : Int), ((0 : Int), (false, ((⟨#[]⟩ : ByteArray), ()))))).2)).getD x2.toNat ((0 : Int), ((0 : Int), (false, ((⟨#[]⟩ : ByteArray), ()))))).1, ((wrap64 (x1 + (1 : Int))), ((x0.set x2.toNat (x1, (x0.getD x2.toNat ((0 : Int), ((0 : Int), (false, ((⟨#[]⟩ : ByteArray), ()))))).2)).getD x2.toNat ((0 : Int), ((0 : Int), (false, ((⟨#[]⟩ : ByteArray), ()))))).2.2))).getD x2.toNat ((0 : Int), ((0 : Int), (false, ((⟨#[]⟩ : ByteArray), ()))))).2.2.2)))).getD x2.toNat ((0 : Int), ((0 : Int), (false, ((⟨#[]⟩ : ByteArray), ()))))).1, (((((x0.set x2.toNat (x1, (x0.getD x2.toNat ((0 : Int), ((0 : Int), (false, ((⟨#[]⟩ : ByteArray), ()))))).2)).set x2.toNat (((x0.set x2.toNat (x1, (x0.getD x2.toNat ((0 : Int), ((0 : Int), (false, ((⟨#[]⟩ : ByteArray), ()))))).2)).getD x2.toNat ((0 : Int), ((0 : Int), (false, ((⟨#[]⟩ : ByteArray), ()))))).1, ((wrap64 (x1 + (1 : Int))), ((x0.set x2.toNat (x1, (x0.getD x2.toNat ((0 : Int), ((0 : Int), (false, ((⟨#[]⟩ : ByteArray), ()))))).2)).getD x2.toNat ((0 : Int), ((0 : Int), (false, ((⟨#[]⟩ : ByteArray), ()))))).2.2))).set x2.toNat ((((x0.set x2.toNat (x1, (x0.getD x2.toNat ((0 : Int), ((0 : Int), (false, ((⟨#[]⟩ : ByteArray), ()))))).2)).set x2.toNat (((x0.set x2.toNat (x1, (x0.getD x2.toNat ((0 : Int), ((0 : Int), (false, ((⟨#[]⟩ : ByteArray), ()))))).2)).getD x2.toNat ((0 : Int), ((0 : Int), (false, ((⟨#[]⟩ : ByteArray), ()))))).1, ((wrap64 (x1 + (1 : Int))), ((x0.set x2.toNat (x1, (x0.getD x2.toNat ((0 : Int), ((0 : Int), (false, ((⟨#[]⟩ : ByteArray), ()))))).2)).getD x2.toNat ((0 : Int), ((0 : Int), (false, ((⟨#[]⟩ : ByteArray), ()))))).2.2))).getD x2.toNat ((0 : Int), ((0 : Int), (false, ((⟨#[]⟩ : ByteArray), ()))))).1, ((((x0.set x2.toNat (x1, (x0.getD x2.toNat ((0 : Int), ((0 : Int), (false, ((⟨#[]⟩ : ByteArray), ()))))).2)).set x2.toNat (((x0.set x2.toNat (x1, (x0.getD x2.toNat ((0 : Int), ((0 : Int), (false, ((⟨#[]⟩ : ByteArray), ()))))).2)).getD x2.toNat ((0 : Int), ((0 : Int), (false, ((⟨#[]⟩ : ByteArray), ()))))).1, ((wrap64 (x1 + (1 : Int))), ((x0.set x2.toNat (x1, (x0.getD x2.toNat ((0 : Int), ((0 : Int), (false, ((⟨#[]⟩ : ByteArray), ()))))).2)).getD x2.toNat ((0 : Int), ((0 : Int), (false, ((⟨#[]⟩ : ByteArray), ()))))).2.2))).getD x2.toNat ((0 : Int), ((0 : Int), (false, ((⟨#[]⟩ : ByteArray), ()))))).2.1, ((decide ((Int.tmod (wrap64 ((wrap64 (x1 + (1 : Int))) + (1 : Int))) (3 : Int)) = (0 : Int))), (((x0.set x2.toNat (x1, (x0.getD x2.toNat ((0 : Int), ((0 : Int), (false, ((⟨#[]⟩ : ByteArray), ()))))).2)).set x2.toNat (((x0.set x2.toNat (x1, (x0.getD x2.toNat ((0 : Int), ((0 : Int), (false, ((⟨#[]⟩ : ByteArray), ()))))).2)).getD x2.toNat ((0 : Int), ((0 : Int), (false, ((⟨#[]⟩ : ByteArray), ()))))).1, ((wrap64 (x1 + (1 : Int))), ((x0.set x2.toNat (x1, (x0.getD x2.toNat ((0 : Int), ((0 : Int), (false, ((⟨#[]⟩ : ByteArray), ()))))).2)).getD x2.toNat ((0 : Int), ((0 : Int), (false, ((⟨#[]⟩ : ByteArray), ()))))).2.2))).getD x2.toNat ((0 : Int), ((0 : Int), (false, ((⟨#[]⟩ : ByteArray), ()))))).2.2.2)))).getD x2.toNat ((0 : Int), ((0 : Int), (false, ((⟨#[]⟩ : ByteArray), ()))))).2.1, (((((x0.set x2.toNat (x1, (x0.getD x2.toNat ((0 : Int), ((0 : Int), (false, ((⟨#[]⟩ : ByteArray), ()))))).2)).set x2.toNat (((x0.set x2.toNat (x1, (x0.getD x2.toNat ((0 : Int), ((0 : Int), (false, ((⟨#[]⟩ : ByteArray), ()))))).2)).getD x2.toNat ((0 : Int), ((0 : Int), (false, ((⟨#[]⟩ : ByteArray), ()))))).1, ((wrap64 (x1 + (1 : Int))), ((x0.set x2.toNat (x1, (x0.getD x2.toNat ((0 : Int), ((0 : Int), (false, ((⟨#[]⟩ : ByteArray), ()))))).2)).getD x2.toNat ((0 : Int), ((0 : Int), (false, ((⟨#[]⟩ : ByteArray), ()))))).2.2))).set x2.toNat ((((x0.set x2.toNat (x1, (x0.getD x2.toNat ((0 : Int), ((0 : Int), (false, ((⟨#[]⟩ : ByteArray), ()))))).2)).set x2.toNat (((x0.set x2.toNat (x1, (x0.getD x2.toNat ((0 : Int), ((0 : Int), (false, ((⟨#[]⟩ : ByteArray), ()))))).2)).getD x2.toNat ((0 : Int), ((0 : Int), (false, ((⟨#[]⟩ : ByteArray), ()))))).1, ((wrap64 (x1 + (1 : Int))), ((x0.set x2.toNat (x1, (x0.getD x2.toNat ((0 : Int), ((0 : Int), (false, ((⟨#[]⟩ : ByteArray), ()))))).2)).getD x2.toNat ((0 : Int), ((0 : Int), (false, ((⟨#[]⟩ : ByteArray), ()))))).2.2))).getD x2.toNat ((0 : Int), ((0 : Int), (false, ((⟨#[]⟩ : ByteArray), ()))))).1, ((((x0.set x2.toNat (x1, (x0.getD x2.toNat ((0 : Int), ((0 : Int), (false, ((⟨#[]⟩ : ByteArray), ()))))).2)).set x2.toNat (((x0.set x2.toNat (x1, (x0.getD x2.toNat ((0 : Int), ((0 : Int), (false, ((⟨#[]⟩ : ByteArray), ()))))).2)).getD x2.toNat ((0 : Int), ((0 : Int), (false, ((⟨#[]⟩ : ByteArray), ()))))).1, ((wrap64 (x1 + (1 : Int))), ((x0.set x2.toNat (x1, (x0.getD x2.toNat ((0 : Int), ((0 : Int), (false, ((⟨#[]⟩ : ByteArray), ()))))).2)).getD x2.toNat ((0 : Int), ((0 : Int), (false, ((⟨#[]⟩ : ByteArray), ()))))).2.2))).getD x2.toNat ((0 : Int), ((0 : Int), (false, ((⟨#[]⟩ : ByteArray), ()))))).2.1, ((decide ((Int.tmod (wrap64 ((wrap64 (x1 + (1 : Int))) + (1 : Int))) (3 : Int)) = (0 : Int))), (((x0.set x2.toNat (x1, (x0.getD x2.toNat ((0 : Int), ((0 : Int), (false, ((⟨#[]⟩ : ByteArray), ()))))).2)).set x2.toNat (((x0.set x2.toNat (x1, (x0.getD x2.toNat ((0 : Int), ((0 : Int), (false, ((⟨#[]⟩ : ByteArray), ()))))).2)).getD x2.toNat ((0 : Int), ((0 : Int), (false, ((⟨#[]⟩ : ByteArray), ()))))).1, ((wrap64 (x1 + (1 : Int))), ((x0.set x2.toNat (x1, (x0.getD x2.toNat ((0 : Int), ((0 : Int), (false, ((⟨#[]⟩ : ByteArray), ()))))).2)).getD x2.toNat ((0 : Int), ((0 : Int), (false, ((⟨#[]⟩ : ByteArray), ()))))).2.2))).getD x2.toNat ((0 : Int), ((0 : Int), (false, ((⟨#[]⟩ : ByteArray), ()))))).2.2.2)))).getD x2.toNat ((0 : Int), ((0 : Int), (false, ((⟨#[]⟩ : ByteArray), ()))))).2.2.1, (r1, ((((x0.set x2.toNat (x1, (x0.getD x2.toNat ((0 : Int), ((0 : Int), (false, ((⟨#[]⟩ : ByteArray), ()))))).2)).set x2.toNat (((x0.set x2.toNat (x1, (x0.getD x2.toNat ((0 : Int), ((0 : Int), (false, ((⟨#[]⟩ : ByteArray), ()))))).2)).getD x2.toNat ((0 : Int), ((0 : Int), (false, ((⟨#[]⟩ : ByteArray), ()))))).1, ((wrap64 (x1 + (1 : Int))), ((x0.set x2.toNat (x1, (x0.getD x2.toNat ((0 : Int), ((0 : Int), (false, ((⟨#[]⟩ : ByteArray), ()))))).2)).getD x2.toNat ((0 : Int), ((0 : Int), (false, ((⟨#[]⟩ : ByteArray), ()))))).2.2))).set x2.toNat ((((x0.set x2.toNat (x1, (x0.getD x2.toNat ((0 : Int), ((0 : Int), (false, ((⟨#[]⟩ : ByteArray), ()))))).2)).set x2.toNat (((x0.set x2.toNat (x1, (x0.getD x2.toNat ((0 : Int), ((0 : Int), (false, ((⟨#[]⟩ : ByteArray), ()))))).2)).getD x2.toNat ((0 : Int), ((0 : Int), (false, ((⟨#[]⟩ : ByteArray), ()))))).1, ((wrap64 (x1 + (1 : Int))), ((x0.set x2.toNat (x1, (x0.getD x2.toNat ((0 : Int), ((0 : Int), (false, ((⟨#[]⟩ : ByteArray), ()))))).2)).getD x2.toNat ((0 : Int), ((0 : Int), (false, ((⟨#[]⟩ : ByteArray), ()))))).2.2))).getD x2.toNat ((0 : Int), ((0 : Int), (false, ((⟨#[]⟩ : ByteArray), ()))))).1, ((((x0.set x2.toNat (x1, (x0.getD x2.toNat ((0 : Int), ((0 : Int), (false, ((⟨#[]⟩ : ByteArray), ()))))).2)).set x2.toNat (((x0.set x2.toNat (x1, (x0.getD x2.toNat ((0 : Int), ((0 : Int), (false, ((⟨#[]⟩ : ByteArray), ()))))).2)).getD x2.toNat ((0 : Int), ((0 : Int), (false, ((⟨#[]⟩ : ByteArray), ()))))).1, ((wrap64 (x1 + (1 : Int))), ((x0.set x2.toNat (x1, (x0.getD x2.toNat ((0 : Int), ((0 : Int), (false, ((⟨#[]⟩ : ByteArray), ()))))).2)).getD x2.toNat ((0 : Int), ((0 : Int), (false, ((⟨#[]⟩ : ByteArray), ()))))).2.2))).getD x2.toNat ((0 : Int), ((0 : Int), (false, ((⟨#[]⟩ : ByteArray), ()))))).2.1, ((decide ((Int.tmod (wrap64 ((wrap64 (x1 + (1 : Int))) + (1 : Int))) (3 : Int)) = (0 : Int))), (((x0.set x2.toNat (x1, (x0.getD x2.toNat ((0 : Int), ((0 : Int), (false, ((⟨#[]⟩ : ByteArray), ()))))).2)).set x2.toNat (((x0.set x2.toNat (x1, (x0.getD x2.toNat ((0 : Int), ((0 : Int), (false, ((⟨#[]⟩ : ByteArray), ()))))).2)).getD x2.toNat ((0 : Int), ((0 : Int), (false, ((⟨#[]⟩ : ByteArray), ()))))).1, ((wrap64 (x1 + (1 : Int))), ((x0.set x2.toNat (x1, (x0.getD x2.toNat ((0 : Int), ((0 : Int), (false, ((⟨#[]⟩ : ByteArray), ()))))).2)).getD x2.toNat ((0 : Int), ((0 : Int), (false, ((⟨#[]⟩ : ByteArray), ()))))).2.2))).getD x2.toNat ((0 : Int), ((0 : Int), (false, ((⟨#[]⟩ : ByteArray), ()))))).2.2.2)))).getD x2.toNat ((0 : Int), ((0 : Int), (false, ((⟨#[]⟩ : ByteArray), ()))))).2.2.2.2))))) (wrap64 ((wrap64 ((wrap64 ((wrap64 (x1 + (1 : Int))) + (1 : Int))) + (1 : Int))) + (1 : Int))) (wrap64 (x2 + (1 : Int)))
            else none)
          else none)
        else none)
      else none)
    else some (x1, x0)
noncomputable def laws_markEntryS.f (k : Nat) (a0 : (List Entry)) (a1 : Int) : Option (Int × (List Entry)) := laws_markEntryS.p5 k a0 a1 (0 : Int)
/-! laws.markIntSS -/
noncomputable def laws_markIntSS.p5 : Nat → (List (List Int)) → Int → Int → Option (Int × (List (List Int)))
  | 0, _, _, _ => none
  | k + 1, x0, x1, x2 => if x2 < ((x0.length : Nat) : Int) then (if (0 : Int) ≤ x2 ∧ x2 < ((x0.length : Nat) : Int) then ((laws_markIntS.f k (x0.getD x2.toNat ([] : List Int)) x1).bind fun r1 =>
        laws_markIntSS.p5 k (x0.set x2.toNat r1.2) r1.1 (wrap64 (x2 + (1 : Int))))
      else none)
    else some (x1, x0)
noncomputable def laws_markIntSS.f (k : Nat) (a0 : (List (List Int))) (a1 : Int) : Option (Int × (List (List Int))) := laws_markIntSS.p5 k a0 a1 (0 : Int)
/-! laws.markMend -/
noncomputable def laws_markMend.f (k : Nat) (a0 : Mend) (a1 : Int) : Option (Int × Mend) := (laws_markIntS.f k a0.2.2.1 a1).bind fun r1 =>
  (laws_markEntryS.f k a0.2.2.2.1 r1.1).bind fun r2 =>
  (laws_markIntSS.f k a0.2.2.2.2.2.1 r2.1).bind fun r3 =>
  some (r3.1, (a0.1, (a0.2.1, (r1.2, (r2.2, (a0.2.2.2.2.1, (r3.2, a0.2.2.2.2.2.2)))))))
/-! laws.heldIntS -/
noncomputable def laws_heldIntS.p5 : Nat → (List Int) → Int → Int → Option (Int)
  | 0, _, _, _ => none
  | k + 1, x0, x1, x2 => if x2 < ((x0.length : Nat) : Int) then (if (0 : Int) ≤ x2 ∧ x2 < ((x0.length : Nat) : Int) then (if (x0.getD x2.toNat (0 : Int)) = x1 then laws_heldIntS.p5 k x0 (wrap64 (x1 + (1 : Int))) (wrap64 (x2 + (1 : Int)))
        else some (-1 : Int))
      else none)
    else some x1
noncomputable def laws_heldIntS.f (k : Nat) (a0 : (List Int)) (a1 : Int) : Option (Int) := laws_heldIntS.p5 k a0 a1 (0 : Int)
/-! laws.heldEntryS -/
noncomputable def laws_heldEntryS.p5 : Nat → (List Entry) → Int → Int → Option (Int)
  | 0, _, _, _ => none
  | k + 1, x0, x1, x2 => if x2 < ((x0.length : Nat) : Int) then (if (0 : Int) ≤ x2 ∧ x2 < ((x0.length : Nat) : Int) then (if (x0.getD x2.toNat ((0 : Int), ((0 : Int), (false, ((⟨#[]⟩ : ByteArray), ()))))).1 = x1 then (if (0 : Int) ≤ x2 ∧ x2 < ((x0.length : Nat) : Int) then (if (x0.getD x2.toNat ((0 : Int), ((0 : Int), (false, ((⟨#[]⟩ : ByteArray), ()))))).2.1 = (wrap64 (x1 + (1 : Int))) then (if (0 : Int) ≤ x2 ∧ x2 < ((x0.length : Nat) : Int) then (if (x0.getD x2.toNat ((0 : Int), ((0 : Int), (false, ((⟨#[]⟩ : ByteArray), ()))))).2.2.1 = (decide ((Int.tmod (wrap64 ((wrap64 (x1 + (1 : Int))) + (1 : Int))) (3 : Int)) = (0 : Int))) then (if (0 : Int) ≤ x2 ∧ x2 < ((x0.length : Nat) : Int) then ((laws_markText.f k (wrap64 ((wrap64 ((wrap64 (x1 + (1 : Int))) + (1 : Int))) + (1 : Int)))).bind fun r1 =>
                    if (x0.getD x2.toNat ((0 : Int), ((0 : Int), (false, ((⟨#[]⟩ : ByteArray), ()))))).2.2.2.1 = r1 then laws_heldEntryS.p5 k x0 (wrap64 ((wrap64 ((wrap64 ((wrap64 (x1 + (1 : Int))) + (1 : Int))) + (1 : Int))) + (1 : Int))) (wrap64 (x2 + (1 : Int)))
                    else some (-1 : Int))
                  else none)
                else some (-1 : Int))
              else none)
            else some (-1 : Int))
          else none)
        else some (-1 : Int))
      else none)
    else some x1
noncomputable def laws_heldEntryS.f (k : Nat) (a0 : (List Entry)) (a1 : Int) : Option (Int) := laws_heldEntryS.p5 k a0 a1 (0 : Int)
/-! laws.heldIntSS -/
noncomputable def laws_heldIntSS.p5 : Nat → (List (List Int)) → Int → Int → Option (Int)
  | 0, _, _, _ => none
  | k + 1, x0, x1, x2 => if x2 < ((x0.length : Nat) : Int) then (if (0 : Int) ≤ x2 ∧ x2 < ((x0.length : Nat) : Int) then ((laws_heldIntS.f k (x0.getD x2.toNat ([] : List Int)) x1).bind fun r1 =>
        if r1 < (0 : Int) then some (-1 : Int)
        else laws_heldIntSS.p5 k x0 r1 (wrap64 (x2 + (1 : Int))))
      else none)
    else some x1
noncomputable def laws_heldIntSS.f (k : Nat) (a0 : (List (List Int))) (a1 : Int) : Option (Int) := laws_heldIntSS.p5 k a0 a1 (0 : Int)
/-! laws.heldMend -/
noncomputable def laws_heldMend.f (k : Nat) (a0 : Mend) (a1 : Int) : Option (Int) := (laws_heldIntS.f k a0.2.2.1 a1).bind fun r1 =>
  if r1 < (0 : Int) then some (-1 : Int)
  else (laws_heldEntryS.f k a0.2.2.2.1 r1).bind fun r2 =>
  if r2 < (0 : Int) then some (-1 : Int)
  else (laws_heldIntSS.f k a0.2.2.2.2.2.1 r2).bind fun r3 =>
  if r3 < (0 : Int) then some (-1 : Int)
  else some r3
/-! laws.FnExactMendForget -/
noncomputable def laws_FnExactMendForget.f (k : Nat) (a0 : Config) (a1 : Mend) (a2 : Int) : Option (Bool) := (laws_szConfig.f a0 (1048576 : Int)).bind fun r1 =>
  if r1 < (0 : Int) then some true
  else (laws_szMend.f k a1 r1).bind fun r2 =>
  if r2 < (0 : Int) then some true
  else (laws_toConfig.f k a0).bind fun r3 =>
  (laws_toMend.f k a1).bind fun r4 =>
  (spec_MendForget.f k r3 r4 a2).bind fun r5 =>
  (laws_toConfig.f k a0).bind fun r6 =>
  (laws_toMend.f k a1).bind fun r7 =>
  (impl_MendForget.f k r6 r7 a2).bind fun r8 =>
  (laws_eqMend.f k r8.1 r5.1).bind fun r9 =>
  if r9 = true then (if r8.2 = r5.2 then ((laws_toConfig.f k a0).bind fun r10 =>
      (laws_eqConfig.f k r6 r10).bind fun r11 =>
      if r11 = true then ((laws_toMend.f k a1).bind fun r12 =>
        (laws_eqMend.f k r7 r12).bind fun r13 =>
        if r13 = true then ((laws_markConfig.f k r6 (1 : Int)).bind fun r14 =>
          (laws_markMend.f k r7 r14.1).bind fun r15 =>
          if r15.1 < (0 : Int) then some false
          else (laws_eqMend.f k r8.1 r5.1).bind fun r16 =>
          if r16 = true then (if r8.2 = r5.2 then ((laws_markMend.f k r8.1 (1 : Int)).bind fun r17 =>
              (laws_heldMend.f k r17.2 (1 : Int)).bind fun r18 =>
              if r18 < (0 : Int) then some false
              else if r18 = r17.1 then ((laws_toConfig.f k a0).bind fun r19 =>
                (laws_toMend.f k a1).bind fun r20 =>
                (impl_MendForget.f k r19 r20 a2).bind fun r21 =>
                (laws_eqMend.f k r21.1 r5.1).bind fun r22 =>
                if r22 = true then (if r21.2 = r5.2 then ((laws_heldMend.f k r17.2 (1 : Int)).bind fun r23 =>
                    if r23 < (0 : Int) then some false
                    else if r23 = r17.1 then some true
                    else some false)
                  else some false)
                else some false)
              else some false)
            else some false)
          else some false)
        else some false)
      else some false)
    else some false)
  else some false
end Go.Proofs.Ytllmifioelbleab.OmFnExactMendForget
