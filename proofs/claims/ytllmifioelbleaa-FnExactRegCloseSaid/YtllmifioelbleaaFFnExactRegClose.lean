import Derived.Test.YtllmifioelbleaaOmD
set_option maxRecDepth 1000000
set_option linter.unusedVariables false
namespace Go.Proofs.Ytllmifioelbleaa.OmFnExactRegClose
open Go Go.OM
@[reducible] noncomputable def tConfig : Ty := .pair (.sl (.int .i64)) (.pair (.int .i64) (.unit))
@[reducible] noncomputable def Config : Type := (List Int) × Int × Unit
@[reducible] noncomputable def tEntry : Ty := .pair (.int .i64) (.pair (.int .i64) (.pair .bool (.pair .str (.unit))))
@[reducible] noncomputable def Entry : Type := Int × Int × Bool × ByteArray × Unit
@[reducible] noncomputable def tMend : Ty := .pair (.int .i64) (.pair (.int .i64) (.pair (.sl (.int .i64)) (.pair (.sl tEntry) (.pair .bool (.pair (.sl (.sl (.int .i64))) (.unit))))))
@[reducible] noncomputable def Mend : Type := Int × Int × (List Int) × (List Entry) × Bool × (List (List Int)) × Unit
@[reducible] noncomputable def tEra : Ty := .pair (.sl (.int .i64)) (.pair .bool (.pair (.int .i64) (.unit)))
@[reducible] noncomputable def Era : Type := (List Int) × Bool × Int × Unit
@[reducible] noncomputable def tRegister : Ty := .pair (.sl tEra) (.pair (.int .i64) (.unit))
@[reducible] noncomputable def Register : Type := (List Era) × Int × Unit
@[reducible] noncomputable def tStore : Ty := .pair (.sl tEntry) (.pair (.sl tEntry) (.pair (.int .i64) (.unit)))
@[reducible] noncomputable def Store : Type := (List Entry) × (List Entry) × Int × Unit
@[reducible] noncomputable def tWord : Ty := .pair .str (.pair (.sl (.int .i64)) (.pair .bool (.unit)))
@[reducible] noncomputable def Word : Type := ByteArray × (List Int) × Bool × Unit
@[reducible] noncomputable def tWriter : Ty := .pair (.int .i64) (.pair (.sl tWord) (.unit))
@[reducible] noncomputable def Writer : Type := Int × (List Word) × Unit
@[reducible] noncomputable def treader : Ty := .pair (.sl (.int .u8)) (.pair (.int .i64) (.pair .bool (.unit)))
@[reducible] noncomputable def reader : Type := (List Int) × Int × Bool × Unit
@[reducible] noncomputable def tl1Cur : Ty := .pair (.sl (.int .u8)) (.pair (.int .i64) (.pair (.int .i64) (.unit)))
@[reducible] noncomputable def l1Cur : Type := (List Int) × Int × Int × Unit
/-! laws.szIntS -/
noncomputable def laws_szIntS.f (a0 : (List Int)) (a1 : Int) : Option (Int) := if (wrap64 (a1 - ((a0.length : Nat) : Int))) < (0 : Int) then some (-1 : Int)
  else some (wrap64 (a1 - ((a0.length : Nat) : Int)))
/-! laws.szConfig -/
noncomputable def laws_szConfig.f (a0 : Config) (a1 : Int) : Option (Int) := (laws_szIntS.f a0.1 a1).bind fun r1 =>
  if r1 < (0 : Int) then some (-1 : Int)
  else some r1
/-! laws.szEra -/
noncomputable def laws_szEra.f (a0 : Era) (a1 : Int) : Option (Int) := (laws_szIntS.f a0.1 a1).bind fun r1 =>
  if r1 < (0 : Int) then some (-1 : Int)
  else some r1
/-! laws.szEraS -/
noncomputable def laws_szEraS.p11 : Nat → (List Era) → Int → Int → Option (Int)
  | 0, _, _, _ => none
  | k + 1, x0, x1, x2 => if x2 < ((x0.length : Nat) : Int) then (if (0 : Int) ≤ x2 ∧ x2 < ((x0.length : Nat) : Int) then ((laws_szEra.f (x0.getD x2.toNat (([] : List Int), (false, ((0 : Int), ())))) x1).bind fun r1 =>
        if r1 < (0 : Int) then some (-1 : Int)
        else laws_szEraS.p11 k x0 r1 (wrap64 (x2 + (1 : Int))))
      else none)
    else some x1
noncomputable def laws_szEraS.f (k : Nat) (a0 : (List Era)) (a1 : Int) : Option (Int) := if (wrap64 (a1 - ((a0.length : Nat) : Int))) < (0 : Int) then some (-1 : Int)
  else laws_szEraS.p11 k a0 (wrap64 (a1 - ((a0.length : Nat) : Int))) (0 : Int)
/-! laws.szRegister -/
noncomputable def laws_szRegister.f (k : Nat) (a0 : Register) (a1 : Int) : Option (Int) := (laws_szEraS.f k a0.1 a1).bind fun r1 =>
  if r1 < (0 : Int) then some (-1 : Int)
  else some r1
/-! laws.toIntS -/
noncomputable def laws_toIntS.p7 : Nat → (List Int) → (List Int) → Int → Option ((List Int))
  | 0, _, _, _ => none
  | k + 1, x0, x1, x2 => if x2 < ((x0.length : Nat) : Int) then (if (0 : Int) ≤ x2 ∧ x2 < ((x0.length : Nat) : Int) then (if (0 : Int) ≤ x2 ∧ x2 < ((x1.length : Nat) : Int) then laws_toIntS.p7 k x0 (x1.set x2.toNat (x0.getD x2.toNat (0 : Int))) (wrap64 (x2 + (1 : Int)))
        else none)
      else none)
    else some x1
noncomputable def laws_toIntS.f (k : Nat) (a0 : (List Int)) : Option ((List Int)) := if (0 : Int) ≤ ((a0.length : Nat) : Int) ∧ ((a0.length : Nat) : Int) ≤ ((a0.length : Nat) : Int) ∧ ((a0.length : Nat) : Int) ≤ lim then laws_toIntS.p7 k a0 (List.replicate ((a0.length : Nat) : Int).toNat (0 : Int)) (0 : Int)
  else none
/-! laws.toConfig -/
noncomputable def laws_toConfig.f (k : Nat) (a0 : Config) : Option (Config) := (laws_toIntS.f k a0.1).bind fun r1 =>
  some (r1, (a0.2.1, ()))
/-! laws.toEra -/
noncomputable def laws_toEra.f (k : Nat) (a0 : Era) : Option (Era) := (laws_toIntS.f k a0.1).bind fun r1 =>
  some (r1, (a0.2.1, (a0.2.2.1, ())))
/-! laws.toEraS -/
noncomputable def laws_toEraS.p7 : Nat → (List Era) → (List Era) → Int → Option ((List Era))
  | 0, _, _, _ => none
  | k + 1, x0, x1, x2 => if x2 < ((x0.length : Nat) : Int) then (if (0 : Int) ≤ x2 ∧ x2 < ((x0.length : Nat) : Int) then ((laws_toEra.f k (x0.getD x2.toNat (([] : List Int), (false, ((0 : Int), ()))))).bind fun r1 =>
        if (0 : Int) ≤ x2 ∧ x2 < ((x1.length : Nat) : Int) then laws_toEraS.p7 k x0 (x1.set x2.toNat r1) (wrap64 (x2 + (1 : Int)))
        else none)
      else none)
    else some x1
noncomputable def laws_toEraS.f (k : Nat) (a0 : (List Era)) : Option ((List Era)) := if (0 : Int) ≤ ((a0.length : Nat) : Int) ∧ ((a0.length : Nat) : Int) ≤ ((a0.length : Nat) : Int) ∧ ((a0.length : Nat) : Int) ≤ lim then laws_toEraS.p7 k a0 (List.replicate ((a0.length : Nat) : Int).toNat (([] : List Int), (false, ((0 : Int), ())))) (0 : Int)
  else none
/-! laws.toRegister -/
noncomputable def laws_toRegister.f (k : Nat) (a0 : Register) : Option (Register) := (laws_toEraS.f k a0.1).bind fun r1 =>
  some (r1, (a0.2.1, ()))
/-! spec.l1In -/
noncomputable def spec_l1In.f (a0 : Int) (a1 : Int) (a2 : Int) : Option (Bool) := if a1 ≤ a0 then some (decide (a0 ≤ a2))
  else some false
/-! spec.ConfigOk -/
noncomputable def spec_ConfigOk.p9 : Nat → Int → Config → Option (Bool)
  | 0, _, _ => none
  | k + 1, x0, x1 => if x0 < ((x1.1.length : Nat) : Int) then (if (0 : Int) ≤ x0 ∧ x0 < ((x1.1.length : Nat) : Int) then ((spec_l1In.f (x1.1.getD x0.toNat (0 : Int)) (0 : Int) (7 : Int)).bind fun r3 =>
        if r3 = true then spec_ConfigOk.p9 k (wrap64 (x0 + (1 : Int))) x1
        else some false)
      else none)
    else some true
noncomputable def spec_ConfigOk.f (k : Nat) (a0 : Config) : Option (Bool) := (spec_l1In.f ((a0.1.length : Nat) : Int) (1 : Int) (8 : Int)).bind fun r1 =>
  if r1 = true then ((spec_l1In.f a0.2.1 (1 : Int) (4 : Int)).bind fun r2 =>
    if r2 = true then spec_ConfigOk.p9 k (0 : Int) a0
    else some false)
  else some false
/-! spec.PlaceOk -/
noncomputable def spec_PlaceOk.f (a0 : Int) : Option (Bool) := if (0 : Int) < a0 then ((spec_l1In.f (wrap64 ((Int.tdiv a0 (4294967296 : Int)))) (1 : Int) (30 : Int)).bind fun r1 =>
    if r1 = true then ((spec_l1In.f (Int.tmod a0 (4294967296 : Int)) (1 : Int) (60 : Int)).bind fun r2 =>
      some r2)
    else some false)
  else some false
/-! spec.EpochOf -/
noncomputable def spec_EpochOf.f (a0 : Int) : Option (Int) := (spec_PlaceOk.f a0).bind fun r1 =>
  if r1 = true then some (wrap64 ((Int.tdiv a0 (4294967296 : Int))))
  else some (0 : Int)
/-! spec.l4Asc -/
noncomputable def spec_l4Asc.p5 : Nat → (List Int) → Int → Int → Int → Option (Bool)
  | 0, _, _, _, _ => none
  | k + 1, x0, x1, x2, x3 => if x3 < ((x0.length : Nat) : Int) then (if (0 : Int) ≤ x3 ∧ x3 < ((x0.length : Nat) : Int) then ((spec_l1In.f (x0.getD x3.toNat (0 : Int)) x1 x2).bind fun r1 =>
        if r1 = true then (if (0 : Int) < x3 then (if (0 : Int) ≤ (wrap64 (x3 - (1 : Int))) ∧ (wrap64 (x3 - (1 : Int))) < ((x0.length : Nat) : Int) then (if (0 : Int) ≤ x3 ∧ x3 < ((x0.length : Nat) : Int) then (if (x0.getD x3.toNat (0 : Int)) ≤ (x0.getD (wrap64 (x3 - (1 : Int))).toNat (0 : Int)) then some false
                else spec_l4Asc.p5 k x0 x1 x2 (wrap64 (x3 + (1 : Int))))
              else none)
            else none)
          else spec_l4Asc.p5 k x0 x1 x2 (wrap64 (x3 + (1 : Int))))
        else some false)
      else none)
    else some true
noncomputable def spec_l4Asc.f (k : Nat) (a0 : (List Int)) (a1 : Int) (a2 : Int) : Option (Bool) := spec_l4Asc.p5 k a0 a1 a2 (0 : Int)
/-! spec.NodesOk -/
noncomputable def spec_NodesOk.f (k : Nat) (a0 : Config) (a1 : (List Int)) : Option (Bool) := (spec_ConfigOk.f k a0).bind fun r1 =>
  if r1 = true then ((spec_l4Asc.f k a1 (0 : Int) (wrap64 (((a0.1.length : Nat) : Int) - (1 : Int)))).bind fun r2 =>
    some r2)
  else some false
/-! spec.l4Span -/
noncomputable def spec_l4Span.p9 : Nat → (List Int) → (List Bool) → Int → Int → Config → Option (Int)
  | 0, _, _, _, _, _ => none
  | k + 1, x0, x1, x2, x3, x4 => if x3 < ((x0.length : Nat) : Int) then (if (0 : Int) ≤ x3 ∧ x3 < ((x0.length : Nat) : Int) then (if (0 : Int) ≤ (x0.getD x3.toNat (0 : Int)) ∧ (x0.getD x3.toNat (0 : Int)) < ((x4.1.length : Nat) : Int) then (if (0 : Int) ≤ (x4.1.getD (x0.getD x3.toNat (0 : Int)).toNat (0 : Int)) ∧ (x4.1.getD (x0.getD x3.toNat (0 : Int)).toNat (0 : Int)) < ((x1.length : Nat) : Int) then (if (x1.getD (x4.1.getD (x0.getD x3.toNat (0 : Int)).toNat (0 : Int)).toNat false) = true then spec_l4Span.p9 k x0 x1 x2 (wrap64 (x3 + (1 : Int))) x4
            else if (0 : Int) ≤ (x4.1.getD (x0.getD x3.toNat (0 : Int)).toNat (0 : Int)) ∧ (x4.1.getD (x0.getD x3.toNat (0 : Int)).toNat (0 : Int)) < ((x1.length : Nat) : Int) then spec_l4Span.p9 k x0 (x1.set (x4.1.getD (x0.getD x3.toNat (0 : Int)).toNat (0 : Int)).toNat true) (wrap64 (x2 + (1 : Int))) (wrap64 (x3 + (1 : Int))) x4
            else none)
          else none)
        else none)
      else none)
    else some x2
noncomputable def spec_l4Span.f (k : Nat) (a0 : Config) (a1 : (List Int)) : Option (Int) := if (0 : Int) ≤ (8 : Int) ∧ (8 : Int) ≤ (8 : Int) ∧ (8 : Int) ≤ lim then spec_l4Span.p9 k a1 (List.replicate (8 : Int).toNat false) (0 : Int) (0 : Int) a0
  else none
/-! spec.Holds -/
noncomputable def spec_Holds.f (k : Nat) (a0 : Config) (a1 : (List Int)) : Option (Bool) := (spec_NodesOk.f k a0 a1).bind fun r1 =>
  if r1 = true then ((spec_l4Span.f k a0 a1).bind fun r2 =>
    some (decide (a0.2.1 ≤ r2)))
  else some false
/-! spec.RegOk -/
mutual
noncomputable def spec_RegOk.p8 : Nat → Int → Config → Register → Option (Bool)
  | 0, _, _, _ => none
  | k + 1, x0, x1, x2 => spec_RegOk.p11 k x0 (0 : Int) x1 x2
noncomputable def spec_RegOk.p11 : Nat → Int → Int → Config → Register → Option (Bool)
  | 0, _, _, _, _ => none
  | k + 1, x0, x1, x2, x3 => if x1 < x0 then (if (0 : Int) ≤ x1 ∧ x1 < ((x3.1.length : Nat) : Int) then ((spec_Holds.f k x2 (x3.1.getD x1.toNat (([] : List Int), (false, ((0 : Int), ())))).1).bind fun r4 =>
        if r4 = true then ((spec_l1In.f (x3.1.getD x1.toNat (([] : List Int), (false, ((0 : Int), ())))).2.2.1 (0 : Int) (60 : Int)).bind fun r5 =>
          if r5 = true then (if (x3.1.getD x1.toNat (([] : List Int), (false, ((0 : Int), ())))).2.1 = true then spec_RegOk.p20 k x0 x1 (x3.1.getD x1.toNat (([] : List Int), (false, ((0 : Int), ())))).2.2.1 r5 (!(decide (r5 = true))) (x3.1.getD x1.toNat (([] : List Int), (false, ((0 : Int), ())))).2.1 (!(decide ((x3.1.getD x1.toNat (([] : List Int), (false, ((0 : Int), ())))).2.1 = true))) false false x2 x3 (x3.1.getD x1.toNat (([] : List Int), (false, ((0 : Int), ()))))
            else if (x3.1.getD x1.toNat (([] : List Int), (false, ((0 : Int), ())))).2.2.1 = (0 : Int) then spec_RegOk.p20 k x0 x1 (x3.1.getD x1.toNat (([] : List Int), (false, ((0 : Int), ())))).2.2.1 r5 (!(decide (r5 = true))) (x3.1.getD x1.toNat (([] : List Int), (false, ((0 : Int), ())))).2.1 (!(decide ((x3.1.getD x1.toNat (([] : List Int), (false, ((0 : Int), ())))).2.1 = true))) true (!(decide ((x3.1.getD x1.toNat (([] : List Int), (false, ((0 : Int), ())))).2.2.1 = (0 : Int)))) x2 x3 (x3.1.getD x1.toNat (([] : List Int), (false, ((0 : Int), ()))))
            else some false)
          else some false)
        else some false)
      else none)
    else some true
noncomputable def spec_RegOk.p20 : Nat → Int → Int → Int → Bool → Bool → Bool → Bool → Bool → Bool → Config → Register → Era → Option (Bool)
  | 0, _, _, _, _, _, _, _, _, _, _, _, _ => none
  | k + 1, x0, x1, x2, x3, x4, x5, x6, x7, x8, x9, x10, x11 => if x11.2.1 = true then (if x1 = (wrap64 (x0 - (1 : Int))) then some false
      else if (0 : Int) < x1 then (if (0 : Int) ≤ (wrap64 (x1 - (1 : Int))) ∧ (wrap64 (x1 - (1 : Int))) < ((x10.1.length : Nat) : Int) then (if (x10.1.getD (wrap64 (x1 - (1 : Int))).toNat (([] : List Int), (false, ((0 : Int), ())))).2.1 = true then spec_RegOk.p11 k x0 (wrap64 (x1 + (1 : Int))) x9 x10
          else some false)
        else none)
      else spec_RegOk.p11 k x0 (wrap64 (x1 + (1 : Int))) x9 x10)
    else spec_RegOk.p11 k x0 (wrap64 (x1 + (1 : Int))) x9 x10
end
noncomputable def spec_RegOk.f (k : Nat) (a0 : Config) (a1 : Register) : Option (Bool) := (spec_ConfigOk.f k a0).bind fun r1 =>
  if r1 = true then (if (30 : Int) < ((a1.1.length : Nat) : Int) then some false
    else if a1.2.1 = (0 : Int) then spec_RegOk.p8 k ((a1.1.length : Nat) : Int) a0 a1
    else (spec_PlaceOk.f a1.2.1).bind fun r2 =>
    if r2 = true then ((spec_EpochOf.f a1.2.1).bind fun r3 =>
      if ((a1.1.length : Nat) : Int) < r3 then some false
      else spec_RegOk.p8 k ((a1.1.length : Nat) : Int) a0 a1)
    else some false)
  else some false
/-! spec.l7Copy -/
noncomputable def spec_l7Copy.p7 : Nat → Int → Register → Register → Register → Option (Register)
  | 0, _, _, _, _ => none
  | k + 1, x0, x1, x2, x3 => if x0 < ((x1.1.length : Nat) : Int) then (if (0 : Int) ≤ x0 ∧ x0 < ((x1.1.length : Nat) : Int) then (if (((([] : List Int).length : Nat) : Int) + (((x1.1.getD x0.toNat (([] : List Int), (false, ((0 : Int), ())))).1.length : Nat) : Int)) ≤ lim then (if (((x3.1.length : Nat) : Int) + ((([((([] : List Int) ++ (x1.1.getD x0.toNat (([] : List Int), (false, ((0 : Int), ())))).1), (x1.1.getD x0.toNat (([] : List Int), (false, ((0 : Int), ())))).2)] : List Era).length : Nat) : Int)) ≤ lim then spec_l7Copy.p7 k (wrap64 (x0 + (1 : Int))) x1 x2 ((x3.1 ++ ([((([] : List Int) ++ (x1.1.getD x0.toNat (([] : List Int), (false, ((0 : Int), ())))).1), (x1.1.getD x0.toNat (([] : List Int), (false, ((0 : Int), ())))).2)] : List Era)), x3.2)
          else none)
        else none)
      else none)
    else some x3
noncomputable def spec_l7Copy.f (k : Nat) (a0 : Register) : Option (Register) := spec_l7Copy.p7 k (0 : Int) a0 (([] : List Era), ((0 : Int), ())) (([] : List Era), (a0.2.1, ()))
/-! spec.FirstOpen -/
noncomputable def spec_FirstOpen.p5 : Nat → Int → Register → Option (Int)
  | 0, _, _ => none
  | k + 1, x0, x1 => if x0 < ((x1.1.length : Nat) : Int) then (if (0 : Int) ≤ x0 ∧ x0 < ((x1.1.length : Nat) : Int) then (if (x1.1.getD x0.toNat (([] : List Int), (false, ((0 : Int), ())))).2.1 = true then spec_FirstOpen.p5 k (wrap64 (x0 + (1 : Int))) x1
        else some (wrap64 (x0 + (1 : Int))))
      else none)
    else some (0 : Int)
noncomputable def spec_FirstOpen.f (k : Nat) (a0 : Register) : Option (Int) := spec_FirstOpen.p5 k (0 : Int) a0
/-! spec.RegClose -/
noncomputable def spec_RegClose.f (k : Nat) (a0 : Config) (a1 : Register) (a2 : Int) (a3 : Int) : Option (Register × Bool) := (spec_RegOk.f k a0 a1).bind fun r1 =>
  if r1 = true then ((spec_l7Copy.f k a1).bind fun r2 =>
    (spec_FirstOpen.f k a1).bind fun r3 =>
    if a2 = ((a1.1.length : Nat) : Int) then (if r3 = (0 : Int) then some (r2, false)
      else if a2 = r3 then some (r2, false)
      else (spec_l1In.f a3 (0 : Int) (60 : Int)).bind fun r4 =>
      if r4 = true then (if (0 : Int) ≤ (wrap64 (r3 - (1 : Int))) ∧ (wrap64 (r3 - (1 : Int))) < ((r2.1.length : Nat) : Int) then (if (0 : Int) ≤ (wrap64 (r3 - (1 : Int))) ∧ (wrap64 (r3 - (1 : Int))) < (((r2.1.set (wrap64 (r3 - (1 : Int))).toNat ((r2.1.getD (wrap64 (r3 - (1 : Int))).toNat (([] : List Int), (false, ((0 : Int), ())))).1, (true, (r2.1.getD (wrap64 (r3 - (1 : Int))).toNat (([] : List Int), (false, ((0 : Int), ())))).2.2))).length : Nat) : Int) then some ((((r2.1.set (wrap64 (r3 - (1 : Int))).toNat ((r2.1.getD (wrap64 (r3 - (1 : Int))).toNat (([] : List Int), (false, ((0 : Int), ())))).1, (true, (r2.1.getD (wrap64 (r3 - (1 : Int))).toNat (([] : List Int), (false, ((0 : Int), ())))).2.2))).set (wrap64 (r3 - (1 : Int))).toNat (((r2.1.set (wrap64 (r3 - (1 : Int))).toNat ((r2.1.getD (wrap64 (r3 - (1 : Int))).toNat (([] : List Int), (false, ((0 : Int), ())))).1, (true, (r2.1.getD (wrap64 (r3 - (1 : Int))).toNat (([] : List Int), (false, ((0 : Int), ())))).2.2))).getD (wrap64 (r3 - (1 : Int))).toNat (([] : List Int), (false, ((0 : Int), ())))).1, (((r2.1.set (wrap64 (r3 - (1 : Int))).toNat ((r2.1.getD (wrap64 (r3 - (1 : Int))).toNat (([] : List Int), (false, ((0 : Int), ())))).1, (true, (r2.1.getD (wrap64 (r3 - (1 : Int))).toNat (([] : List Int), (false, ((0 : Int), ())))).2.2))).getD (wrap64 (r3 - (1 : Int))).toNat (([] : List Int), (false, ((0 : Int), ())))).2.1, (a3, ((r2.1.set (wrap64 (r3 - (1 : Int))).toNat ((r2.1.getD (wrap64 (r3 - (1 : Int))).toNat (([] : List Int), (false, ((0 : Int), ())))).1, (true, (r2.1.getD (wrap64 (r3 - (1 : Int))).toNat (([] : List Int), (false, ((0 : Int), ())))).2.2))).getD (wrap64 (r3 - (1 : Int))).toNat (([] : List Int), (false, ((0 : Int), ())))).2.2.2)))), r2.2), true)
          else none)
        else none)
      else some (r2, false))
    else some (r2, false))
  else some ((([] : List Era), ((0 : Int), ())), false)
/-! impl.FirstOpen -/
noncomputable def impl_FirstOpen.p5 : Nat → (List Era) → Int → Int → Option (Int)
  | 0, _, _, _ => none
  | k + 1, x0, x1, x2 => if x2 < x1 then (if (0 : Int) ≤ x2 ∧ x2 < ((x0.length : Nat) : Int) then (if (x0.getD x2.toNat (([] : List Int), (false, ((0 : Int), ())))).2.1 = true then impl_FirstOpen.p5 k x0 x1 (wrap64 (x2 + (1 : Int)))
        else some (wrap64 (x2 + (1 : Int))))
      else none)
    else some (0 : Int)
noncomputable def impl_FirstOpen.f (k : Nat) (a0 : Register) : Option (Int) := impl_FirstOpen.p5 k a0.1 ((a0.1.length : Nat) : Int) (0 : Int)
/-! impl.within -/
noncomputable def impl_within.f (a0 : Int) (a1 : Int) (a2 : Int) : Option (Bool) := if a1 ≤ a0 then some (decide (a0 ≤ a2))
  else some false
/-! impl.ConfigOk -/
noncomputable def impl_ConfigOk.p5 : Nat → (List Int) → Int → Int → Config → Option (Bool)
  | 0, _, _, _, _ => none
  | k + 1, x0, x1, x2, x3 => if x2 < x1 then (if (0 : Int) ≤ x2 ∧ x2 < ((x0.length : Nat) : Int) then ((impl_within.f (x0.getD x2.toNat (0 : Int)) (0 : Int) (7 : Int)).bind fun r1 =>
        if r1 = true then impl_ConfigOk.p5 k x0 x1 (wrap64 (x2 + (1 : Int))) x3
        else some false)
      else none)
    else (impl_within.f ((x3.1.length : Nat) : Int) (1 : Int) (8 : Int)).bind fun r2 =>
    if r2 = true then ((impl_within.f x3.2.1 (1 : Int) (4 : Int)).bind fun r3 =>
      some r3)
    else some false
noncomputable def impl_ConfigOk.f (k : Nat) (a0 : Config) : Option (Bool) := impl_ConfigOk.p5 k a0.1 ((a0.1.length : Nat) : Int) (0 : Int) a0
/-! impl.ascends -/
noncomputable def impl_ascends.p5 : Nat → (List Int) → Int → (List Int) → Int → Int → Option (Bool)
  | 0, _, _, _, _, _ => none
  | k + 1, x0, x1, x2, x3, x4 => if x4 < x3 then (if (0 : Int) ≤ x4 ∧ x4 < ((x2.length : Nat) : Int) then ((impl_within.f (x2.getD x4.toNat (0 : Int)) (0 : Int) x1).bind fun r1 =>
        if r1 = true then (if (0 : Int) < x4 then (if (0 : Int) ≤ (wrap64 (x4 - (1 : Int))) ∧ (wrap64 (x4 - (1 : Int))) < ((x0.length : Nat) : Int) then (if (x2.getD x4.toNat (0 : Int)) ≤ (x0.getD (wrap64 (x4 - (1 : Int))).toNat (0 : Int)) then some false
              else impl_ascends.p5 k x0 x1 x2 x3 (wrap64 (x4 + (1 : Int))))
            else none)
          else impl_ascends.p5 k x0 x1 x2 x3 (wrap64 (x4 + (1 : Int))))
        else some false)
      else none)
    else some true
noncomputable def impl_ascends.f (k : Nat) (a0 : (List Int)) (a1 : Int) : Option (Bool) := impl_ascends.p5 k a0 a1 a0 ((a0.length : Nat) : Int) (0 : Int)
/-! impl.NodesOk -/
noncomputable def impl_NodesOk.f (k : Nat) (a0 : Config) (a1 : (List Int)) : Option (Bool) := (impl_ConfigOk.f k a0).bind fun r1 =>
  if r1 = true then ((impl_ascends.f k a1 (wrap64 (((a0.1.length : Nat) : Int) - (1 : Int)))).bind fun r2 =>
    some r2)
  else some false
/-! slices.Index[[]int,int] -/
noncomputable def slices_Index_int_int.p5 : Nat → (List Int) → Int → Int → Int → Option (Int)
  | 0, _, _, _, _ => none
  | k + 1, x0, x1, x2, x3 => if x3 < x2 then (if (0 : Int) ≤ x3 ∧ x3 < ((x0.length : Nat) : Int) then (if x1 = (x0.getD x3.toNat (0 : Int)) then some x3
        else slices_Index_int_int.p5 k x0 x1 x2 (wrap64 (x3 + (1 : Int))))
      else none)
    else some (-1 : Int)
noncomputable def slices_Index_int_int.f (k : Nat) (a0 : (List Int)) (a1 : Int) : Option (Int) := slices_Index_int_int.p5 k a0 a1 ((a0.length : Nat) : Int) (0 : Int)
/-! slices.Contains[[]int,int] -/
noncomputable def slices_Contains_int_int.f (k : Nat) (a0 : (List Int)) (a1 : Int) : Option (Bool) := (slices_Index_int_int.f k a0 a1).bind fun r1 =>
  some (decide ((0 : Int) ≤ r1))
/-! impl.SpanOf -/
noncomputable def impl_SpanOf.p11 : Nat → (List Int) → (List Int) → Int → Int → Config → Option (Int)
  | 0, _, _, _, _, _ => none
  | k + 1, x0, x1, x2, x3, x4 => if x3 < x2 then (if (0 : Int) ≤ x3 ∧ x3 < ((x1.length : Nat) : Int) then (if (0 : Int) ≤ (x1.getD x3.toNat (0 : Int)) ∧ (x1.getD x3.toNat (0 : Int)) < ((x4.1.length : Nat) : Int) then ((slices_Contains_int_int.f k x0 (x4.1.getD (x1.getD x3.toNat (0 : Int)).toNat (0 : Int))).bind fun r2 =>
          if r2 = true then impl_SpanOf.p11 k x0 x1 x2 (wrap64 (x3 + (1 : Int))) x4
          else if (0 : Int) ≤ (x1.getD x3.toNat (0 : Int)) ∧ (x1.getD x3.toNat (0 : Int)) < ((x4.1.length : Nat) : Int) then (if (((x0.length : Nat) : Int) + ((([(x4.1.getD (x1.getD x3.toNat (0 : Int)).toNat (0 : Int))] : List Int).length : Nat) : Int)) ≤ lim then impl_SpanOf.p11 k (x0 ++ ([(x4.1.getD (x1.getD x3.toNat (0 : Int)).toNat (0 : Int))] : List Int)) x1 x2 (wrap64 (x3 + (1 : Int))) x4
            else none)
          else none)
        else none)
      else none)
    else some ((x0.length : Nat) : Int)
noncomputable def impl_SpanOf.f (k : Nat) (a0 : Config) (a1 : (List Int)) : Option (Int) := (impl_NodesOk.f k a0 a1).bind fun r1 =>
  if r1 = true then impl_SpanOf.p11 k ([] : List Int) a1 ((a1.length : Nat) : Int) (0 : Int) a0
  else some (-1 : Int)
/-! impl.Holds -/
noncomputable def impl_Holds.f (k : Nat) (a0 : Config) (a1 : (List Int)) : Option (Bool) := (impl_NodesOk.f k a0 a1).bind fun r1 =>
  if r1 = true then ((impl_SpanOf.f k a0 a1).bind fun r2 =>
    some (decide (a0.2.1 ≤ r2)))
  else some false
/-! impl.eraOk -/
noncomputable def impl_eraOk.f (k : Nat) (a0 : Config) (a1 : Era) : Option (Bool) := (impl_Holds.f k a0 a1.1).bind fun r1 =>
  if r1 = true then ((impl_within.f a1.2.2.1 (0 : Int) (60 : Int)).bind fun r2 =>
    if r2 = true then (if a1.2.1 = true then some true
      else some (decide (a1.2.2.1 = (0 : Int))))
    else some false)
  else some false
/-! impl.isEpoch -/
noncomputable def impl_isEpoch.f (a0 : Int) : Option (Bool) := (impl_within.f a0 (1 : Int) (30 : Int)).bind fun r1 =>
  some r1
/-! impl.isOff -/
noncomputable def impl_isOff.f (a0 : Int) : Option (Bool) := (impl_within.f a0 (1 : Int) (60 : Int)).bind fun r1 =>
  some r1
/-! impl.PlaceOk -/
noncomputable def impl_PlaceOk.f (a0 : Int) : Option (Bool) := (impl_isEpoch.f (wrap64 ((Int.tdiv a0 (4294967296 : Int))))).bind fun r1 =>
  if r1 = true then ((impl_isOff.f (Int.tmod a0 (4294967296 : Int))).bind fun r2 =>
    some r2)
  else some false
/-! impl.EpochOf -/
noncomputable def impl_EpochOf.f (a0 : Int) : Option (Int) := (impl_PlaceOk.f a0).bind fun r1 =>
  if r1 = true then some (wrap64 ((Int.tdiv a0 (4294967296 : Int))))
  else some (0 : Int)
/-! impl.RegOk -/
mutual
noncomputable def impl_RegOk.p5 : Nat → (List Era) → Int → Int → Config → Register → Option (Bool)
  | 0, _, _, _, _, _ => none
  | k + 1, x0, x1, x2, x3, x4 => if x2 < x1 then (if (0 : Int) ≤ x2 ∧ x2 < ((x0.length : Nat) : Int) then ((impl_eraOk.f k x3 (x0.getD x2.toNat (([] : List Int), (false, ((0 : Int), ()))))).bind fun r1 =>
        if r1 = true then (if (x0.getD x2.toNat (([] : List Int), (false, ((0 : Int), ())))).2.1 = true then (if x2 = (wrap64 (((x4.1.length : Nat) : Int) - (1 : Int))) then some false
            else if (0 : Int) < x2 then (if (0 : Int) ≤ (wrap64 (x2 - (1 : Int))) ∧ (wrap64 (x2 - (1 : Int))) < ((x4.1.length : Nat) : Int) then (if (x4.1.getD (wrap64 (x2 - (1 : Int))).toNat (([] : List Int), (false, ((0 : Int), ())))).2.1 = true then impl_RegOk.p5 k x0 x1 (wrap64 (x2 + (1 : Int))) x3 x4
                else some false)
              else none)
            else impl_RegOk.p5 k x0 x1 (wrap64 (x2 + (1 : Int))) x3 x4)
          else impl_RegOk.p5 k x0 x1 (wrap64 (x2 + (1 : Int))) x3 x4)
        else some false)
      else none)
    else if x4.2.1 = (0 : Int) then impl_RegOk.p16 k true x3 x4
    else (impl_EpochOf.f x4.2.1).bind fun r2 =>
    (impl_within.f r2 (1 : Int) ((x4.1.length : Nat) : Int)).bind fun r3 =>
    impl_RegOk.p16 k r3 x3 x4
noncomputable def impl_RegOk.p16 : Nat → Bool → Config → Register → Option (Bool)
  | 0, _, _, _ => none
  | k + 1, x0, x1, x2 => (impl_ConfigOk.f k x1).bind fun r4 =>
    if r4 = true then (if ((x2.1.length : Nat) : Int) ≤ (30 : Int) then some x0
      else some false)
    else some false
end
noncomputable def impl_RegOk.f (k : Nat) (a0 : Config) (a1 : Register) : Option (Bool) := impl_RegOk.p5 k a1.1 ((a1.1.length : Nat) : Int) (0 : Int) a0 a1
/-! impl.copyInts -/
noncomputable def impl_copyInts.f (a0 : (List Int)) : Option ((List Int)) := if (((([] : List Int).length : Nat) : Int) + ((a0.length : Nat) : Int)) ≤ lim then some (([] : List Int) ++ a0)
  else none
/-! impl.copyRegister -/
noncomputable def impl_copyRegister.p7 : Nat → (List Era) → Int → Int → Register → Register → Option (Register)
  | 0, _, _, _, _, _ => none
  | k + 1, x0, x1, x2, x3, x4 => if x2 < x1 then (if (0 : Int) ≤ x2 ∧ x2 < ((x0.length : Nat) : Int) then ((impl_copyInts.f (x0.getD x2.toNat (([] : List Int), (false, ((0 : Int), ())))).1).bind fun r1 =>
        if (((x4.1.length : Nat) : Int) + ((([(r1, (x0.getD x2.toNat (([] : List Int), (false, ((0 : Int), ())))).2)] : List Era).length : Nat) : Int)) ≤ lim then impl_copyRegister.p7 k x0 x1 (wrap64 (x2 + (1 : Int))) x3 ((x4.1 ++ ([(r1, (x0.getD x2.toNat (([] : List Int), (false, ((0 : Int), ())))).2)] : List Era)), x4.2)
        else none)
      else none)
    else some x4
noncomputable def impl_copyRegister.f (k : Nat) (a0 : Register) : Option (Register) := impl_copyRegister.p7 k a0.1 ((a0.1.length : Nat) : Int) (0 : Int) (([] : List Era), ((0 : Int), ())) (([] : List Era), (a0.2.1, ()))
/-! impl.regAsWas -/
noncomputable def impl_regAsWas.f (k : Nat) (a0 : Config) (a1 : Register) : Option (Register) := (impl_RegOk.f k a0 a1).bind fun r1 =>
  if r1 = true then ((impl_copyRegister.f k a1).bind fun r2 =>
    some r2)
  else some (([] : List Era), ((0 : Int), ()))
/-! impl.RegClose -/
noncomputable def impl_RegClose.f (k : Nat) (a0 : Config) (a1 : Register) (a2 : Int) (a3 : Int) : Option (Register × Bool) := (impl_FirstOpen.f k a1).bind fun r1 =>
  (impl_RegOk.f k a0 a1).bind fun r2 =>
  if r2 = true then (if a2 = ((a1.1.length : Nat) : Int) then (if r1 = a2 then ((impl_regAsWas.f k a0 a1).bind fun r3 =>
        some (r3, false))
      else (impl_within.f a3 (0 : Int) (60 : Int)).bind fun r4 =>
      if r4 = true then ((impl_copyRegister.f k a1).bind fun r5 =>
        if (0 : Int) ≤ (wrap64 (r1 - (1 : Int))) ∧ (wrap64 (r1 - (1 : Int))) < ((r5.1.length : Nat) : Int) then (if (0 : Int) ≤ (wrap64 (r1 - (1 : Int))) ∧ (wrap64 (r1 - (1 : Int))) < (((r5.1.set (wrap64 (r1 - (1 : Int))).toNat ((r5.1.getD (wrap64 (r1 - (1 : Int))).toNat (([] : List Int), (false, ((0 : Int), ())))).1, (true, (r5.1.getD (wrap64 (r1 - (1 : Int))).toNat (([] : List Int), (false, ((0 : Int), ())))).2.2))).length : Nat) : Int) then some ((((r5.1.set (wrap64 (r1 - (1 : Int))).toNat ((r5.1.getD (wrap64 (r1 - (1 : Int))).toNat (([] : List Int), (false, ((0 : Int), ())))).1, (true, (r5.1.getD (wrap64 (r1 - (1 : Int))).toNat (([] : List Int), (false, ((0 : Int), ())))).2.2))).set (wrap64 (r1 - (1 : Int))).toNat (((r5.1.set (wrap64 (r1 - (1 : Int))).toNat ((r5.1.getD (wrap64 (r1 - (1 : Int))).toNat (([] : List Int), (false, ((0 : Int), ())))).1, (true, (r5.1.getD (wrap64 (r1 - (1 : Int))).toNat (([] : List Int), (false, ((0 : Int), ())))).2.2))).getD (wrap64 (r1 - (1 : Int))).toNat (([] : List Int), (false, ((0 : Int), ())))).1, (((r5.1.set (wrap64 (r1 - (1 : Int))).toNat ((r5.1.getD (wrap64 (r1 - (1 : Int))).toNat (([] : List Int), (false, ((0 : Int), ())))).1, (true, (r5.1.getD (wrap64 (r1 - (1 : Int))).toNat (([] : List Int), (false, ((0 : Int), ())))).2.2))).getD (wrap64 (r1 - (1 : Int))).toNat (([] : List Int), (false, ((0 : Int), ())))).2.1, (a3, ((r5.1.set (wrap64 (r1 - (1 : Int))).toNat ((r5.1.getD (wrap64 (r1 - (1 : Int))).toNat (([] : List Int), (false, ((0 : Int), ())))).1, (true, (r5.1.getD (wrap64 (r1 - (1 : Int))).toNat (([] : List Int), (false, ((0 : Int), ())))).2.2))).getD (wrap64 (r1 - (1 : Int))).toNat (([] : List Int), (false, ((0 : Int), ())))).2.2.2)))), r5.2), true)
          else none)
        else none)
      else (impl_regAsWas.f k a0 a1).bind fun r6 =>
      some (r6, false))
    else (impl_regAsWas.f k a0 a1).bind fun r7 =>
    some (r7, false))
  else (impl_regAsWas.f k a0 a1).bind fun r8 =>
  some (r8, false)
/-! laws.eqIntS -/
noncomputable def laws_eqIntS.p9 : Nat → (List Int) → (List Int) → Int → Option (Bool)
  | 0, _, _, _ => none
  | k + 1, x0, x1, x2 => if x2 < ((x0.length : Nat) : Int) then (if (0 : Int) ≤ x2 ∧ x2 < ((x0.length : Nat) : Int) then (if (0 : Int) ≤ x2 ∧ x2 < ((x1.length : Nat) : Int) then (if (x0.getD x2.toNat (0 : Int)) = (x1.getD x2.toNat (0 : Int)) then laws_eqIntS.p9 k x0 x1 (wrap64 (x2 + (1 : Int)))
          else some false)
        else none)
      else none)
    else some true
noncomputable def laws_eqIntS.f (k : Nat) (a0 : (List Int)) (a1 : (List Int)) : Option (Bool) := if ((a0.length : Nat) : Int) = ((a1.length : Nat) : Int) then laws_eqIntS.p9 k a0 a1 (0 : Int)
  else some false
/-! laws.eqEra -/
noncomputable def laws_eqEra.f (k : Nat) (a0 : Era) (a1 : Era) : Option (Bool) := (laws_eqIntS.f k a0.1 a1.1).bind fun r1 =>
  if r1 = true then (if a0.2.1 = a1.2.1 then (if a0.2.2.1 = a1.2.2.1 then some true
      else some false)
    else some false)
  else some false
/-! laws.eqEraS -/
noncomputable def laws_eqEraS.p9 : Nat → (List Era) → (List Era) → Int → Option (Bool)
  | 0, _, _, _ => none
  | k + 1, x0, x1, x2 => if x2 < ((x0.length : Nat) : Int) then (if (0 : Int) ≤ x2 ∧ x2 < ((x0.length : Nat) : Int) then (if (0 : Int) ≤ x2 ∧ x2 < ((x1.length : Nat) : Int) then ((laws_eqEra.f k (x0.getD x2.toNat (([] : List Int), (false, ((0 : Int), ())))) (x1.getD x2.toNat (([] : List Int), (false, ((0 : Int), ()))))).bind fun r1 =>
          if r1 = true then laws_eqEraS.p9 k x0 x1 (wrap64 (x2 + (1 : Int)))
          else some false)
        else none)
      else none)
    else some true
noncomputable def laws_eqEraS.f (k : Nat) (a0 : (List Era)) (a1 : (List Era)) : Option (Bool) := if ((a0.length : Nat) : Int) = ((a1.length : Nat) : Int) then laws_eqEraS.p9 k a0 a1 (0 : Int)
  else some false
/-! laws.eqRegister -/
noncomputable def laws_eqRegister.f (k : Nat) (a0 : Register) (a1 : Register) : Option (Bool) := (laws_eqEraS.f k a0.1 a1.1).bind fun r1 =>
  if r1 = true then (if a0.2.1 = a1.2.1 then some true
    else some false)
  else some false
/-! laws.eqConfig -/
noncomputable def laws_eqConfig.f (k : Nat) (a0 : Config) (a1 : Config) : Option (Bool) := (laws_eqIntS.f k a0.1 a1.1).bind fun r1 =>
  if r1 = true then (if a0.2.1 = a1.2.1 then some true
    else some false)
  else some false
/-! laws.markIntS -/
noncomputable def laws_markIntS.p5 : Nat → (List Int) → Int → Int → Option (Int × (List Int))
  | 0, _, _, _ => none
  | k + 1, x0, x1, x2 => if x2 < ((x0.length : Nat) : Int) then (if (0 : Int) ≤ x2 ∧ x2 < ((x0.length : Nat) : Int) then laws_markIntS.p5 k (x0.set x2.toNat x1) (wrap64 (x1 + (1 : Int))) (wrap64 (x2 + (1 : Int)))
      else none)
    else some (x1, x0)
noncomputable def laws_markIntS.f (k : Nat) (a0 : (List Int)) (a1 : Int) : Option (Int × (List Int)) := laws_markIntS.p5 k a0 a1 (0 : Int)
/-! laws.markConfig -/
noncomputable def laws_markConfig.f (k : Nat) (a0 : Config) (a1 : Int) : Option (Int × Config) := (laws_markIntS.f k a0.1 a1).bind fun r1 =>
  some (r1.1, (r1.2, a0.2))
/-! laws.markEraS -/
noncomputable def laws_markEraS.p5 : Nat → (List Era) → Int → Int → Option (Int × (List Era))
  | 0, _, _, _ => none
  | k + 1, x0, x1, x2 => if x2 < ((x0.length : Nat) : Int) then (if (0 : Int) ≤ x2 ∧ x2 < ((x0.length : Nat) : Int) then ((laws_markIntS.f k (x0.getD x2.toNat (([] : List Int), (false, ((0 : Int), ())))).1 x1).bind fun r1 =>
        if (0 : Int) ≤ x2 ∧ x2 < (((x0.set x2.toNat (r1.2, (x0.getD x2.toNat (([] : List Int), (false, ((0 : Int), ())))).2)).length : Nat) : Int) then (if (0 : Int) ≤ x2 ∧ x2 < ((((x0.set x2.toNat (r1.2, (x0.getD x2.toNat (([] : List Int), (false, ((0 : Int), ())))).2)).set x2.toNat (((x0.set x2.toNat (r1.2, (x0.getD x2.toNat (([] : List Int), (false, ((0 : Int), ())))).2)).getD x2.toNat (([] : List Int), (false, ((0 : Int), ())))).1, ((decide ((Int.tmod r1.1 (3 : Int)) = (0 : Int))), ((x0.set x2.toNat (r1.2, (x0.getD x2.toNat (([] : List Int), (false, ((0 : Int), ())))).2)).getD x2.toNat (([] : List Int), (false, ((0 : Int), ())))).2.2))).length : Nat) : Int) then laws_markEraS.p5 k (((x0.set x2.toNat (r1.2, (x0.getD x2.toNat (([] : List Int), (false, ((0 : Int), ())))).2)).set x2.toNat (((x0.set x2.toNat (r1.2, (x0.getD x2.toNat (([] : List Int), (false, ((0 : Int), ())))).2)).getD x2.toNat (([] : List Int), (false, ((0 : Int), ())))).1, ((decide ((Int.tmod r1.1 (3 : Int)) = (0 : Int))), ((x0.set x2.toNat (r1.2, (x0.getD x2.toNat (([] : List Int), (false, ((0 : Int), ())))).2)).getD x2.toNat (([] : List Int), (false, ((0 : Int), ())))).2.2))).set x2.toNat ((((x0.set x2.toNat (r1.2, (x0.getD x2.toNat (([] : List Int), (false, ((0 : Int), ())))).2)).set x2.toNat (((x0.set x2.toNat (r1.2, (x0.getD x2.toNat (([] : List Int), (false, ((0 : Int), ())))).2)).getD x2.toNat (([] : List Int), (false, ((0 : Int), ())))).1, ((decide ((Int.tmod r1.1 (3 : Int)) = (0 : Int))), ((x0.set x2.toNat (r1.2, (x0.getD x2.toNat (([] : List Int), (false, ((0 : Int), ())))).2)).getD x2.toNat (([] : List Int), (false, ((0 : Int), ())))).2.2))).getD x2.toNat (([] : List Int), (false, ((0 : Int), ())))).1, ((((x0.set x2.toNat (r1.2, (x0.getD x2.toNat (([] : List Int), (false, ((0 : Int), ())))).2)).set x2.toNat (((x0.set x2.toNat (r1.2, (x0.getD x2.toNat (([] : List Int), (false, ((0 : Int), ())))).2)).getD x2.toNat (([] : List Int), (false, ((0 : Int), ())))).1, ((decide ((Int.tmod r1.1 (3 : Int)) = (0 : Int))), ((x0.set x2.toNat (r1.2, (x0.getD x2.toNat (([] : List Int), (false, ((0 : Int), ())))).2)).getD x2.toNat (([] : List Int), (false, ((0 : Int), ())))).2.2))).getD x2.toNat (([] : List Int), (false, ((0 : Int), ())))).2.1, ((wrap64 (r1.1 + (1 : Int))), (((x0.set x2.toNat (r1.2, (x0.getD x2.toNat (([] : List Int), (false, ((0 : Int), ())))).2)).set x2.toNat (((x0.set x2.toNat (r1.2, (x0.getD x2.toNat (([] : List Int), (false, ((0 : Int), ())))).2)).getD x2.toNat (([] : List Int), (false, ((0 : Int), ())))).1, ((decide ((Int.tmod r1.1 (3 : Int)) = (0 : Int))), ((x0.set x2.toNat (r1.2, (x0.getD x2.toNat (([] : List Int), (false, ((0 : Int), ())))).2)).getD x2.toNat (([] : List Int), (false, ((0 : Int), ())))).2.2))).getD x2.toNat (([] : List Int), (false, ((0 : Int), ())))).2.2.2)))) (wrap64 ((wrap64 (r1.1 + (1 : Int))) + (1 : Int))) (wrap64 (x2 + (1 : Int)))
          else none)
        else none)
      else none)
    else some (x1, x0)
noncomputable def laws_markEraS.f (k : Nat) (a0 : (List Era)) (a1 : Int) : Option (Int × (List Era)) := laws_markEraS.p5 k a0 a1 (0 : Int)
/-! laws.markRegister -/
noncomputable def laws_markRegister.f (k : Nat) (a0 : Register) (a1 : Int) : Option (Int × Register) := (laws_markEraS.f k a0.1 a1).bind fun r1 =>
  some (r1.1, (r1.2, a0.2))
/-! laws.heldIntS -/
noncomputable def laws_heldIntS.p5 : Nat → (List Int) → Int → Int → Option (Int)
  | 0, _, _, _ => none
  | k + 1, x0, x1, x2 => if x2 < ((x0.length : Nat) : Int) then (if (0 : Int) ≤ x2 ∧ x2 < ((x0.length : Nat) : Int) then (if (x0.getD x2.toNat (0 : Int)) = x1 then laws_heldIntS.p5 k x0 (wrap64 (x1 + (1 : Int))) (wrap64 (x2 + (1 : Int)))
        else some (-1 : Int))
      else none)
    else some x1
noncomputable def laws_heldIntS.f (k : Nat) (a0 : (List Int)) (a1 : Int) : Option (Int) := laws_heldIntS.p5 k a0 a1 (0 : Int)
/-! laws.heldEraS -/
noncomputable def laws_heldEraS.p5 : Nat → (List Era) → Int → Int → Option (Int)
  | 0, _, _, _ => none
  | k + 1, x0, x1, x2 => if x2 < ((x0.length : Nat) : Int) then (if (0 : Int) ≤ x2 ∧ x2 < ((x0.length : Nat) : Int) then ((laws_heldIntS.f k (x0.getD x2.toNat (([] : List Int), (false, ((0 : Int), ())))).1 x1).bind fun r1 =>
        if r1 < (0 : Int) then some (-1 : Int)
        else if (0 : Int) ≤ x2 ∧ x2 < ((x0.length : Nat) : Int) then (if (x0.getD x2.toNat (([] : List Int), (false, ((0 : Int), ())))).2.1 = (decide ((Int.tmod r1 (3 : Int)) = (0 : Int))) then (if (0 : Int) ≤ x2 ∧ x2 < ((x0.length : Nat) : Int) then (if (x0.getD x2.toNat (([] : List Int), (false, ((0 : Int), ())))).2.2.1 = (wrap64 (r1 + (1 : Int))) then laws_heldEraS.p5 k x0 (wrap64 ((wrap64 (r1 + (1 : Int))) + (1 : Int))) (wrap64 (x2 + (1 : Int)))
              else some (-1 : Int))
            else none)
          else some (-1 : Int))
        else none)
      else none)
    else some x1
noncomputable def laws_heldEraS.f (k : Nat) (a0 : (List Era)) (a1 : Int) : Option (Int) := laws_heldEraS.p5 k a0 a1 (0 : Int)
/-! laws.heldRegister -/
noncomputable def laws_heldRegister.f (k : Nat) (a0 : Register) (a1 : Int) : Option (Int) := (laws_heldEraS.f k a0.1 a1).bind fun r1 =>
  if r1 < (0 : Int) then some (-1 : Int)
  else some r1
/-! laws.FnExactRegClose -/
noncomputable def laws_FnExactRegClose.f (k : Nat) (a0 : Config) (a1 : Register) (a2 : Int) (a3 : Int) : Option (Bool) := (laws_szConfig.f a0 (1048576 : Int)).bind fun r1 =>
  if r1 < (0 : Int) then some true
  else (laws_szRegister.f k a1 r1).bind fun r2 =>
  if r2 < (0 : Int) then some true
  else (laws_toConfig.f k a0).bind fun r3 =>
  (laws_toRegister.f k a1).bind fun r4 =>
  (spec_RegClose.f k r3 r4 a2 a3).bind fun r5 =>
  (laws_toConfig.f k a0).bind fun r6 =>
  (laws_toRegister.f k a1).bind fun r7 =>
  (impl_RegClose.f k r6 r7 a2 a3).bind fun r8 =>
  (laws_eqRegister.f k r8.1 r5.1).bind fun r9 =>
  if r9 = true then (if r8.2 = r5.2 then ((laws_toConfig.f k a0).bind fun r10 =>
      (laws_eqConfig.f k r6 r10).bind fun r11 =>
      if r11 = true then ((laws_toRegister.f k a1).bind fun r12 =>
        (laws_eqRegister.f k r7 r12).bind fun r13 =>
        if r13 = true then ((laws_markConfig.f k r6 (1 : Int)).bind fun r14 =>
          (laws_markRegister.f k r7 r14.1).bind fun r15 =>
          if r15.1 < (0 : Int) then some false
          else (laws_eqRegister.f k r8.1 r5.1).bind fun r16 =>
          if r16 = true then (if r8.2 = r5.2 then ((laws_markRegister.f k r8.1 (1 : Int)).bind fun r17 =>
              (laws_heldRegister.f k r17.2 (1 : Int)).bind fun r18 =>
              if r18 < (0 : Int) then some false
              else if r18 = r17.1 then ((laws_toConfig.f k a0).bind fun r19 =>
                (laws_toRegister.f k a1).bind fun r20 =>
                (impl_RegClose.f k r19 r20 a2 a3).bind fun r21 =>
                (laws_eqRegister.f k r21.1 r5.1).bind fun r22 =>
                if r22 = true then (if r21.2 = r5.2 then ((laws_heldRegister.f k r17.2 (1 : Int)).bind fun r23 =>
                    if r23 < (0 : Int) then some false
                    else if r23 = r17.1 then some true
                    else some false)
                  else some false)
                else some false)
              else some false)
            else some false)
          else some false)
        else some false)
      else some false)
    else some false)
  else some false
end Go.Proofs.Ytllmifioelbleaa.OmFnExactRegClose
