import Derived.Test.YtdkdhciogedoiaaOmD
set_option maxRecDepth 1000000
set_option linter.unusedVariables false
namespace Go.Proofs.Ytdkdhciogedoiaa.OmFnExactEraNodes
open Go Go.OM
@[reducible] noncomputable def tEra : Ty := .pair (.sl (.int .i64)) (.pair .bool (.pair (.int .i64) (.unit)))
@[reducible] noncomputable def Era : Type := (List Int) × Bool × Int × Unit
@[reducible] noncomputable def tRegister : Ty := .pair (.sl tEra) (.pair (.int .i64) (.unit))
@[reducible] noncomputable def Register : Type := (List Era) × Int × Unit
@[reducible] noncomputable def tEntry : Ty := .pair (.int .i64) (.pair (.int .i64) (.pair .bool (.pair .str (.unit))))
@[reducible] noncomputable def Entry : Type := Int × Int × Bool × ByteArray × Unit
@[reducible] noncomputable def tMend : Ty := .pair (.int .i64) (.pair (.int .i64) (.pair (.sl (.int .i64)) (.pair (.sl tEntry) (.pair .bool (.pair (.sl (.sl (.int .i64))) (.unit))))))
@[reducible] noncomputable def Mend : Type := Int × Int × (List Int) × (List Entry) × Bool × (List (List Int)) × Unit
@[reducible] noncomputable def tWord : Ty := .pair .str (.pair (.sl (.int .i64)) (.pair .bool (.unit)))
@[reducible] noncomputable def Word : Type := ByteArray × (List Int) × Bool × Unit
@[reducible] noncomputable def tWriter : Ty := .pair (.int .i64) (.pair (.sl tWord) (.unit))
@[reducible] noncomputable def Writer : Type := Int × (List Word) × Unit
@[reducible] noncomputable def tConfig : Ty := .pair (.sl (.int .i64)) (.pair (.int .i64) (.unit))
@[reducible] noncomputable def Config : Type := (List Int) × Int × Unit
@[reducible] noncomputable def tl1Cur : Ty := .pair (.sl (.int .u8)) (.pair (.int .i64) (.pair (.int .i64) (.unit)))
@[reducible] noncomputable def l1Cur : Type := (List Int) × Int × Int × Unit
@[reducible] noncomputable def tStore : Ty := .pair (.sl tEntry) (.pair (.sl tEntry) (.pair (.int .i64) (.unit)))
@[reducible] noncomputable def Store : Type := (List Entry) × (List Entry) × Int × Unit
/-! laws.szIntS -/
noncomputable def laws_szIntS.f (a0 : (List Int)) (a1 : Int) : Option (Int) := if (wrap64 (a1 - ((a0.length : Nat) : Int))) < (0 : Int) then some (-1 : Int)
  else some (wrap64 (a1 - ((a0.length : Nat) : Int)))
/-! laws.szEra -/
noncomputable def laws_szEra.f (a0 : Era) (a1 : Int) : Option (Int) := (laws_szIntS.f a0.1 a1).bind fun r1 =>
  if r1 < (0 : Int) then some (-1 : Int)
  else some r1
/-! laws.szEraS -/
noncomputable def laws_szEraS.p11 : Nat → (List Era) → Int → Int → Option (Int)
  | 0, _, _, _ => none
  | k + 1, x0, x1, x2 => if x2 < ((x0.length : Nat) : Int) then (if (0 : Int) ≤ x2 ∧ x2 < ((x0.length : Nat) : Int) then ((laws_szEra.f (x0.getD x2.toNat (([] : List Int), (false, ((0 : Int), ())))) x1).bind fun r1 =>
        if r1 < (0 : Int) then some (-1 : Int)
        else laws_szEraS.p11 k x0 r1 (wrap64 (x2 + (1 : Int))))
      else none)
    else some x1
noncomputable def laws_szEraS.f (k : Nat) (a0 : (List Era)) (a1 : Int) : Option (Int) := if (wrap64 (a1 - ((a0.length : Nat) : Int))) < (0 : Int) then some (-1 : Int)
  else laws_szEraS.p11 k a0 (wrap64 (a1 - ((a0.length : Nat) : Int))) (0 : Int)
/-! laws.szRegister -/
noncomputable def laws_szRegister.f (k : Nat) (a0 : Register) (a1 : Int) : Option (Int) := (laws_szEraS.f k a0.1 a1).bind fun r1 =>
  if r1 < (0 : Int) then some (-1 : Int)
  else some r1
/-! laws.toIntS -/
noncomputable def laws_toIntS.p7 : Nat → (List Int) → (List Int) → Int → Option ((List Int))
  | 0, _, _, _ => none
  | k + 1, x0, x1, x2 => if x2 < ((x0.length : Nat) : Int) then (if (0 : Int) ≤ x2 ∧ x2 < ((x0.length : Nat) : Int) then (if (0 : Int) ≤ x2 ∧ x2 < ((x1.length : Nat) : Int) then laws_toIntS.p7 k x0 (x1.set x2.toNat (x0.getD x2.toNat (0 : Int))) (wrap64 (x2 + (1 : Int)))
        else none)
      else none)
    else some x1
noncomputable def laws_toIntS.f (k : Nat) (a0 : (List Int)) : Option ((List Int)) := if (0 : Int) ≤ ((a0.length : Nat) : Int) ∧ ((a0.length : Nat) : Int) ≤ ((a0.length : Nat) : Int) ∧ ((a0.length : Nat) : Int) ≤ lim then laws_toIntS.p7 k a0 (List.replicate ((a0.length : Nat) : Int).toNat (0 : Int)) (0 : Int)
  else none
/-! laws.toEra -/
noncomputable def laws_toEra.f (k : Nat) (a0 : Era) : Option (Era) := (laws_toIntS.f k a0.1).bind fun r1 =>
  some (r1, (a0.2.1, (a0.2.2.1, ())))
/-! laws.toEraS -/
noncomputable def laws_toEraS.p7 : Nat → (List Era) → (List Era) → Int → Option ((List Era))
  | 0, _, _, _ => none
  | k + 1, x0, x1, x2 => if x2 < ((x0.length : Nat) : Int) then (if (0 : Int) ≤ x2 ∧ x2 < ((x0.length : Nat) : Int) then ((laws_toEra.f k (x0.getD x2.toNat (([] : List Int), (false, ((0 : Int), ()))))).bind fun r1 =>
        if (0 : Int) ≤ x2 ∧ x2 < ((x1.length : Nat) : Int) then laws_toEraS.p7 k x0 (x1.set x2.toNat r1) (wrap64 (x2 + (1 : Int)))
        else none)
      else none)
    else some x1
noncomputable def laws_toEraS.f (k : Nat) (a0 : (List Era)) : Option ((List Era)) := if (0 : Int) ≤ ((a0.length : Nat) : Int) ∧ ((a0.length : Nat) : Int) ≤ ((a0.length : Nat) : Int) ∧ ((a0.length : Nat) : Int) ≤ lim then laws_toEraS.p7 k a0 (List.replicate ((a0.length : Nat) : Int).toNat (([] : List Int), (false, ((0 : Int), ())))) (0 : Int)
  else none
/-! laws.toRegister -/
noncomputable def laws_toRegister.f (k : Nat) (a0 : Register) : Option (Register) := (laws_toEraS.f k a0.1).bind fun r1 =>
  some (r1, (a0.2.1, ()))
/-! spec.l1In -/
noncomputable def spec_l1In.f (a0 : Int) (a1 : Int) (a2 : Int) : Option (Bool) := if a1 ≤ a0 then some (decide (a0 ≤ a2))
  else some false
/-! spec.EraNodes -/
noncomputable def spec_EraNodes.f (a0 : Register) (a1 : Int) : Option ((List Int)) := (spec_l1In.f a1 (1 : Int) ((a0.1.length : Nat) : Int)).bind fun r1 =>
  if r1 = true then (if (0 : Int) ≤ (wrap64 (a1 - (1 : Int))) ∧ (wrap64 (a1 - (1 : Int))) < ((a0.1.length : Nat) : Int) then (if (((([] : List Int).length : Nat) : Int) + (((a0.1.getD (wrap64 (a1 - (1 : Int))).toNat (([] : List Int), (false, ((0 : Int), ())))).1.length : Nat) : Int)) ≤ lim then some (([] : List Int) ++ (a0.1.getD (wrap64 (a1 - (1 : Int))).toNat (([] : List Int), (false, ((0 : Int), ())))).1)
      else none)
    else none)
  else some ([] : List Int)
/-! impl.within -/
noncomputable def impl_within.f (a0 : Int) (a1 : Int) (a2 : Int) : Option (Bool) := if a1 ≤ a0 then some (decide (a0 ≤ a2))
  else some false
/-! impl.copyInts -/
noncomputable def impl_copyInts.f (a0 : (List Int)) : Option ((List Int)) := if (((([] : List Int).length : Nat) : Int) + ((a0.length : Nat) : Int)) ≤ lim then some (([] : List Int) ++ a0)
  else none
/-! impl.EraNodes -/
noncomputable def impl_EraNodes.f (a0 : Register) (a1 : Int) : Option ((List Int)) := (impl_within.f a1 (1 : Int) ((a0.1.length : Nat) : Int)).bind fun r1 =>
  if r1 = true then (if (0 : Int) ≤ (wrap64 (a1 - (1 : Int))) ∧ (wrap64 (a1 - (1 : Int))) < ((a0.1.length : Nat) : Int) then ((impl_copyInts.f (a0.1.getD (wrap64 (a1 - (1 : Int))).toNat (([] : List Int), (false, ((0 : Int), ())))).1).bind fun r2 =>
      some r2)
    else none)
  else some ([] : List Int)
/-! laws.eqIntS -/
noncomputable def laws_eqIntS.p9 : Nat → (List Int) → (List Int) → Int → Option (Bool)
  | 0, _, _, _ => none
  | k + 1, x0, x1, x2 => if x2 < ((x0.length : Nat) : Int) then (if (0 : Int) ≤ x2 ∧ x2 < ((x0.length : Nat) : Int) then (if (0 : Int) ≤ x2 ∧ x2 < ((x1.length : Nat) : Int) then (if (x0.getD x2.toNat (0 : Int)) = (x1.getD x2.toNat (0 : Int)) then laws_eqIntS.p9 k x0 x1 (wrap64 (x2 + (1 : Int)))
          else some false)
        else none)
      else none)
    else some true
noncomputable def laws_eqIntS.f (k : Nat) (a0 : (List Int)) (a1 : (List Int)) : Option (Bool) := if ((a0.length : Nat) : Int) = ((a1.length : Nat) : Int) then laws_eqIntS.p9 k a0 a1 (0 : Int)
  else some false
/-! laws.eqEra -/
noncomputable def laws_eqEra.f (k : Nat) (a0 : Era) (a1 : Era) : Option (Bool) := (laws_eqIntS.f k a0.1 a1.1).bind fun r1 =>
  if r1 = true then (if a0.2.1 = a1.2.1 then (if a0.2.2.1 = a1.2.2.1 then some true
      else some false)
    else some false)
  else some false
/-! laws.eqEraS -/
noncomputable def laws_eqEraS.p9 : Nat → (List Era) → (List Era) → Int → Option (Bool)
  | 0, _, _, _ => none
  | k + 1, x0, x1, x2 => if x2 < ((x0.length : Nat) : Int) then (if (0 : Int) ≤ x2 ∧ x2 < ((x0.length : Nat) : Int) then (if (0 : Int) ≤ x2 ∧ x2 < ((x1.length : Nat) : Int) then ((laws_eqEra.f k (x0.getD x2.toNat (([] : List Int), (false, ((0 : Int), ())))) (x1.getD x2.toNat (([] : List Int), (false, ((0 : Int), ()))))).bind fun r1 =>
          if r1 = true then laws_eqEraS.p9 k x0 x1 (wrap64 (x2 + (1 : Int)))
          else some false)
        else none)
      else none)
    else some true
noncomputable def laws_eqEraS.f (k : Nat) (a0 : (List Era)) (a1 : (List Era)) : Option (Bool) := if ((a0.length : Nat) : Int) = ((a1.length : Nat) : Int) then laws_eqEraS.p9 k a0 a1 (0 : Int)
  else some false
/-! laws.eqRegister -/
noncomputable def laws_eqRegister.f (k : Nat) (a0 : Register) (a1 : Register) : Option (Bool) := (laws_eqEraS.f k a0.1 a1.1).bind fun r1 =>
  if r1 = true then (if a0.2.1 = a1.2.1 then some true
    else some false)
  else some false
/-! laws.markIntS -/
noncomputable def laws_markIntS.p5 : Nat → (List Int) → Int → Int → Option (Int × (List Int))
  | 0, _, _, _ => none
  | k + 1, x0, x1, x2 => if x2 < ((x0.length : Nat) : Int) then (if (0 : Int) ≤ x2 ∧ x2 < ((x0.length : Nat) : Int) then laws_markIntS.p5 k (x0.set x2.toNat x1) (wrap64 (x1 + (1 : Int))) (wrap64 (x2 + (1 : Int)))
      else none)
    else some (x1, x0)
noncomputable def laws_markIntS.f (k : Nat) (a0 : (List Int)) (a1 : Int) : Option (Int × (List Int)) := laws_markIntS.p5 k a0 a1 (0 : Int)
/-! laws.markEraS -/
noncomputable def laws_markEraS.p5 : Nat → (List Era) → Int → Int → Option (Int × (List Era))
  | 0, _, _, _ => none
  | k + 1, x0, x1, x2 => if x2 < ((x0.length : Nat) : Int) then (if (0 : Int) ≤ x2 ∧ x2 < ((x0.length : Nat) : Int) then ((laws_markIntS.f k (x0.getD x2.toNat (([] : List Int), (false, ((0 : Int), ())))).1 x1).bind fun r1 =>
        if (0 : Int) ≤ x2 ∧ x2 < (((x0.set x2.toNat (r1.2, (x0.getD x2.toNat (([] : List Int), (false, ((0 : Int), ())))).2)).length : Nat) : Int) then (if (0 : Int) ≤ x2 ∧ x2 < ((((x0.set x2.toNat (r1.2, (x0.getD x2.toNat (([] : List Int), (false, ((0 : Int), ())))).2)).set x2.toNat (((x0.set x2.toNat (r1.2, (x0.getD x2.toNat (([] : List Int), (false, ((0 : Int), ())))).2)).getD x2.toNat (([] : List Int), (false, ((0 : Int), ())))).1, ((decide ((Int.tmod r1.1 (3 : Int)) = (0 : Int))), ((x0.set x2.toNat (r1.2, (x0.getD x2.toNat (([] : List Int), (false, ((0 : Int), ())))).2)).getD x2.toNat (([] : List Int), (false, ((0 : Int), ())))).2.2))).length : Nat) : Int) then laws_markEraS.p5 k (((x0.set x2.toNat (r1.2, (x0.getD x2.toNat (([] : List Int), (false, ((0 : Int), ())))).2)).set x2.toNat (((x0.set x2.toNat (r1.2, (x0.getD x2.toNat (([] : List Int), (false, ((0 : Int), ())))).2)).getD x2.toNat (([] : List Int), (false, ((0 : Int), ())))).1, ((decide ((Int.tmod r1.1 (3 : Int)) = (0 : Int))), ((x0.set x2.toNat (r1.2, (x0.getD x2.toNat (([] : List Int), (false, ((0 : Int), ())))).2)).getD x2.toNat (([] : List Int), (false, ((0 : Int), ())))).2.2))).set x2.toNat ((((x0.set x2.toNat (r1.2, (x0.getD x2.toNat (([] : List Int), (false, ((0 : Int), ())))).2)).set x2.toNat (((x0.set x2.toNat (r1.2, (x0.getD x2.toNat (([] : List Int), (false, ((0 : Int), ())))).2)).getD x2.toNat (([] : List Int), (false, ((0 : Int), ())))).1, ((decide ((Int.tmod r1.1 (3 : Int)) = (0 : Int))), ((x0.set x2.toNat (r1.2, (x0.getD x2.toNat (([] : List Int), (false, ((0 : Int), ())))).2)).getD x2.toNat (([] : List Int), (false, ((0 : Int), ())))).2.2))).getD x2.toNat (([] : List Int), (false, ((0 : Int), ())))).1, ((((x0.set x2.toNat (r1.2, (x0.getD x2.toNat (([] : List Int), (false, ((0 : Int), ())))).2)).set x2.toNat (((x0.set x2.toNat (r1.2, (x0.getD x2.toNat (([] : List Int), (false, ((0 : Int), ())))).2)).getD x2.toNat (([] : List Int), (false, ((0 : Int), ())))).1, ((decide ((Int.tmod r1.1 (3 : Int)) = (0 : Int))), ((x0.set x2.toNat (r1.2, (x0.getD x2.toNat (([] : List Int), (false, ((0 : Int), ())))).2)).getD x2.toNat (([] : List Int), (false, ((0 : Int), ())))).2.2))).getD x2.toNat (([] : List Int), (false, ((0 : Int), ())))).2.1, ((wrap64 (r1.1 + (1 : Int))), (((x0.set x2.toNat (r1.2, (x0.getD x2.toNat (([] : List Int), (false, ((0 : Int), ())))).2)).set x2.toNat (((x0.set x2.toNat (r1.2, (x0.getD x2.toNat (([] : List Int), (false, ((0 : Int), ())))).2)).getD x2.toNat (([] : List Int), (false, ((0 : Int), ())))).1, ((decide ((Int.tmod r1.1 (3 : Int)) = (0 : Int))), ((x0.set x2.toNat (r1.2, (x0.getD x2.toNat (([] : List Int), (false, ((0 : Int), ())))).2)).getD x2.toNat (([] : List Int), (false, ((0 : Int), ())))).2.2))).getD x2.toNat (([] : List Int), (false, ((0 : Int), ())))).2.2.2)))) (wrap64 ((wrap64 (r1.1 + (1 : Int))) + (1 : Int))) (wrap64 (x2 + (1 : Int)))
          else none)
        else none)
      else none)
    else some (x1, x0)
noncomputable def laws_markEraS.f (k : Nat) (a0 : (List Era)) (a1 : Int) : Option (Int × (List Era)) := laws_markEraS.p5 k a0 a1 (0 : Int)
/-! laws.markRegister -/
noncomputable def laws_markRegister.f (k : Nat) (a0 : Register) (a1 : Int) : Option (Int × Register) := (laws_markEraS.f k a0.1 a1).bind fun r1 =>
  some (r1.1, (r1.2, a0.2))
/-! laws.heldIntS -/
noncomputable def laws_heldIntS.p5 : Nat → (List Int) → Int → Int → Option (Int)
  | 0, _, _, _ => none
  | k + 1, x0, x1, x2 => if x2 < ((x0.length : Nat) : Int) then (if (0 : Int) ≤ x2 ∧ x2 < ((x0.length : Nat) : Int) then (if (x0.getD x2.toNat (0 : Int)) = x1 then laws_heldIntS.p5 k x0 (wrap64 (x1 + (1 : Int))) (wrap64 (x2 + (1 : Int)))
        else some (-1 : Int))
      else none)
    else some x1
noncomputable def laws_heldIntS.f (k : Nat) (a0 : (List Int)) (a1 : Int) : Option (Int) := laws_heldIntS.p5 k a0 a1 (0 : Int)
/-! laws.FnExactEraNodes -/
noncomputable def laws_FnExactEraNodes.f (k : Nat) (a0 : Register) (a1 : Int) : Option (Bool) := (laws_szRegister.f k a0 (1048576 : Int)).bind fun r1 =>
  if r1 < (0 : Int) then some true
  else (laws_toRegister.f k a0).bind fun r2 =>
  (spec_EraNodes.f r2 a1).bind fun r3 =>
  (laws_toRegister.f k a0).bind fun r4 =>
  (impl_EraNodes.f r4 a1).bind fun r5 =>
  (laws_eqIntS.f k r5 r3).bind fun r6 =>
  if r6 = true then ((laws_toRegister.f k a0).bind fun r7 =>
    (laws_eqRegister.f k r4 r7).bind fun r8 =>
    if r8 = true then ((laws_markRegister.f k r4 (1 : Int)).bind fun r9 =>
      if r9.1 < (0 : Int) then some false
      else (laws_eqIntS.f k r5 r3).bind fun r10 =>
      if r10 = true then ((laws_markIntS.f k r5 (1 : Int)).bind fun r11 =>
        (laws_heldIntS.f k r11.2 (1 : Int)).bind fun r12 =>
        if r12 < (0 : Int) then some false
        else if r12 = r11.1 then ((laws_toRegister.f k a0).bind fun r13 =>
          (impl_EraNodes.f r13 a1).bind fun r14 =>
          (laws_eqIntS.f k r14 r3).bind fun r15 =>
          if r15 = true then ((laws_heldIntS.f k r11.2 (1 : Int)).bind fun r16 =>
            if r16 < (0 : Int) then some false
            else if r16 = r11.1 then some true
            else some false)
          else some false)
        else some false)
      else some false)
    else some false)
  else some false
end Go.Proofs.Ytdkdhciogedoiaa.OmFnExactEraNodes
