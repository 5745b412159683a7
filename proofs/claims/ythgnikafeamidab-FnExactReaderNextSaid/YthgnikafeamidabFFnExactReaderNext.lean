import Derived.Test.YthgnikafeamidabOmD
set_option maxRecDepth 1000000
set_option linter.unusedVariables false
namespace Go.Proofs.Ythgnikafeamidab.OmFnExactReaderNext
open Go Go.OM
@[reducible] noncomputable def tConfig : Ty := .pair (.sl (.int .i64)) (.pair (.int .i64) (.unit))
@[reducible] noncomputable def Config : Type := (List Int) × Int × Unit
@[reducible] noncomputable def tEntry : Ty := .pair (.int .i64) (.pair (.int .i64) (.pair .bool (.pair .str (.unit))))
@[reducible] noncomputable def Entry : Type := Int × Int × Bool × ByteArray × Unit
@[reducible] noncomputable def tMend : Ty := .pair (.int .i64) (.pair (.int .i64) (.pair (.sl (.int .i64)) (.pair (.sl tEntry) (.pair .bool (.pair (.sl (.sl (.int .i64))) (.unit))))))
@[reducible] noncomputable def Mend : Type := Int × Int × (List Int) × (List Entry) × Bool × (List (List Int)) × Unit
@[reducible] noncomputable def tEra : Ty := .pair (.sl (.int .i64)) (.pair .bool (.pair (.int .i64) (.unit)))
@[reducible] noncomputable def Era : Type := (List Int) × Bool × Int × Unit
@[reducible] noncomputable def tRegister : Ty := .pair (.sl tEra) (.pair (.int .i64) (.unit))
@[reducible] noncomputable def Register : Type := (List Era) × Int × Unit
@[reducible] noncomputable def tEvent : Ty := .pair (.int .i64) (.pair (.int .i64) (.pair .str (.unit)))
@[reducible] noncomputable def Event : Type := Int × Int × ByteArray × Unit
@[reducible] noncomputable def tReader : Ty := .pair (.int .i64) (.pair (.int .i64) (.pair (.sl tEvent) (.unit)))
@[reducible] noncomputable def Reader : Type := Int × Int × (List Event) × Unit
@[reducible] noncomputable def tAnswer : Ty := .pair (.int .i64) (.pair .bool (.pair tEntry (.unit)))
@[reducible] noncomputable def Answer : Type := Int × Bool × Entry × Unit
@[reducible] noncomputable def tl1Cur : Ty := .pair (.sl (.int .u8)) (.pair (.int .i64) (.pair (.int .i64) (.unit)))
@[reducible] noncomputable def l1Cur : Type := (List Int) × Int × Int × Unit
@[reducible] noncomputable def tStore : Ty := .pair (.sl tEntry) (.pair (.sl tEntry) (.pair (.int .i64) (.unit)))
@[reducible] noncomputable def Store : Type := (List Entry) × (List Entry) × Int × Unit
/-! laws.szIntS -/
noncomputable def laws_szIntS.f (a0 : (List Int)) (a1 : Int) : Option (Int) := if (wrap64 (a1 - ((a0.length : Nat) : Int))) < (0 : Int) then some (-1 : Int)
  else some (wrap64 (a1 - ((a0.length : Nat) : Int)))
/-! laws.szConfig -/
noncomputable def laws_szConfig.f (a0 : Config) (a1 : Int) : Option (Int) := (laws_szIntS.f a0.1 a1).bind fun r1 =>
  if r1 < (0 : Int) then some (-1 : Int)
  else some r1
/-! laws.szEra -/
noncomputable def laws_szEra.f (a0 : Era) (a1 : Int) : Option (Int) := (laws_szIntS.f a0.1 a1).bind fun r1 =>
  if r1 < (0 : Int) then some (-1 : Int)
  else some r1
/-! laws.szEraS -/
noncomputable def laws_szEraS.p11 : Nat → (List Era) → Int → Int → Option (Int)
  | 0, _, _, _ => none
  | k + 1, x0, x1, x2 => if x2 < ((x0.length : Nat) : Int) then (if (0 : Int) ≤ x2 ∧ x2 < ((x0.length : Nat) : Int) then ((laws_szEra.f (x0.getD x2.toNat (([] : List Int), (false, ((0 : Int), ())))) x1).bind fun r1 =>
        if r1 < (0 : Int) then some (-1 : Int)
        else laws_szEraS.p11 k x0 r1 (wrap64 (x2 + (1 : Int))))
      else none)
    else some x1
noncomputable def laws_szEraS.f (k : Nat) (a0 : (List Era)) (a1 : Int) : Option (Int) := if (wrap64 (a1 - ((a0.length : Nat) : Int))) < (0 : Int) then some (-1 : Int)
  else laws_szEraS.p11 k a0 (wrap64 (a1 - ((a0.length : Nat) : Int))) (0 : Int)
/-! laws.szRegister -/
noncomputable def laws_szRegister.f (k : Nat) (a0 : Register) (a1 : Int) : Option (Int) := (laws_szEraS.f k a0.1 a1).bind fun r1 =>
  if r1 < (0 : Int) then some (-1 : Int)
  else some r1
/-! laws.szEvent -/
noncomputable def laws_szEvent.f (a0 : Event) (a1 : Int) : Option (Int) := if (wrap64 (a1 - ((a0.2.2.1.size : Nat) : Int))) < (0 : Int) then some (-1 : Int)
  else some (wrap64 (a1 - ((a0.2.2.1.size : Nat) : Int)))
/-! laws.szEventS -/
noncomputable def laws_szEventS.p11 : Nat → (List Event) → Int → Int → Option (Int)
  | 0, _, _, _ => none
  | k + 1, x0, x1, x2 => if x2 < ((x0.length : Nat) : Int) then (if (0 : Int) ≤ x2 ∧ x2 < ((x0.length : Nat) : Int) then ((laws_szEvent.f (x0.getD x2.toNat ((0 : Int), ((0 : Int), ((⟨#[]⟩ : ByteArray), ())))) x1).bind fun r1 =>
        if r1 < (0 : Int) then some (-1 : Int)
        else laws_szEventS.p11 k x0 r1 (wrap64 (x2 + (1 : Int))))
      else none)
    else some x1
noncomputable def laws_szEventS.f (k : Nat) (a0 : (List Event)) (a1 : Int) : Option (Int) := if (wrap64 (a1 - ((a0.length : Nat) : Int))) < (0 : Int) then some (-1 : Int)
  else laws_szEventS.p11 k a0 (wrap64 (a1 - ((a0.length : Nat) : Int))) (0 : Int)
/-! laws.szReader -/
noncomputable def laws_szReader.f (k : Nat) (a0 : Reader) (a1 : Int) : Option (Int) := (laws_szEventS.f k a0.2.2.1 a1).bind fun r1 =>
  if r1 < (0 : Int) then some (-1 : Int)
  else some r1
/-! laws.szEntry -/
noncomputable def laws_szEntry.f (a0 : Entry) (a1 : Int) : Option (Int) := if (wrap64 (a1 - ((a0.2.2.2.1.size : Nat) : Int))) < (0 : Int) then some (-1 : Int)
  else some (wrap64 (a1 - ((a0.2.2.2.1.size : Nat) : Int)))
/-! laws.szAnswer -/
noncomputable def laws_szAnswer.f (a0 : Answer) (a1 : Int) : Option (Int) := (laws_szEntry.f a0.2.2.1 a1).bind fun r1 =>
  if r1 < (0 : Int) then some (-1 : Int)
  else some r1
/-! laws.szAnswerS -/
noncomputable def laws_szAnswerS.p11 : Nat → (List Answer) → Int → Int → Option (Int)
  | 0, _, _, _ => none
  | k + 1, x0, x1, x2 => if x2 < ((x0.length : Nat) : Int) then (if (0 : Int) ≤ x2 ∧ x2 < ((x0.length : Nat) : Int) then ((laws_szAnswer.f (x0.getD x2.toNat ((0 : Int), (false, (((0 : Int), ((0 : Int), (false, ((⟨#[]⟩ : ByteArray), ())))), ())))) x1).bind fun r1 =>
        if r1 < (0 : Int) then some (-1 : Int)
        else laws_szAnswerS.p11 k x0 r1 (wrap64 (x2 + (1 : Int))))
      else none)
    else some x1
noncomputable def laws_szAnswerS.f (k : Nat) (a0 : (List Answer)) (a1 : Int) : Option (Int) := if (wrap64 (a1 - ((a0.length : Nat) : Int))) < (0 : Int) then some (-1 : Int)
  else laws_szAnswerS.p11 k a0 (wrap64 (a1 - ((a0.length : Nat) : Int))) (0 : Int)
/-! laws.toIntS -/
noncomputable def laws_toIntS.p7 : Nat → (List Int) → (List Int) → Int → Option ((List Int))
  | 0, _, _, _ => none
  | k + 1, x0, x1, x2 => if x2 < ((x0.length : Nat) : Int) then (if (0 : Int) ≤ x2 ∧ x2 < ((x0.length : Nat) : Int) then (if (0 : Int) ≤ x2 ∧ x2 < ((x1.length : Nat) : Int) then laws_toIntS.p7 k x0 (x1.set x2.toNat (x0.getD x2.toNat (0 : Int))) (wrap64 (x2 + (1 : Int)))
        else none)
      else none)
    else some x1
noncomputable def laws_toIntS.f (k : Nat) (a0 : (List Int)) : Option ((List Int)) := if (0 : Int) ≤ ((a0.length : Nat) : Int) ∧ ((a0.length : Nat) : Int) ≤ ((a0.length : Nat) : Int) ∧ ((a0.length : Nat) : Int) ≤ lim then laws_toIntS.p7 k a0 (List.replicate ((a0.length : Nat) : Int).toNat (0 : Int)) (0 : Int)
  else none
/-! laws.toConfig -/
noncomputable def laws_toConfig.f (k : Nat) (a0 : Config) : Option (Config) := (laws_toIntS.f k a0.1).bind fun r1 =>
  some (r1, (a0.2.1, ()))
/-! laws.toEra -/
noncomputable def laws_toEra.f (k : Nat) (a0 : Era) : Option (Era) := (laws_toIntS.f k a0.1).bind fun r1 =>
  some (r1, (a0.2.1, (a0.2.2.1, ())))
/-! laws.toEraS -/
noncomputable def laws_toEraS.p7 : Nat → (List Era) → (List Era) → Int → Option ((List Era))
  | 0, _, _, _ => none
  | k + 1, x0, x1, x2 => if x2 < ((x0.length : Nat) : Int) then (if (0 : Int) ≤ x2 ∧ x2 < ((x0.length : Nat) : Int) then ((laws_toEra.f k (x0.getD x2.toNat (([] : List Int), (false, ((0 : Int), ()))))).bind fun r1 =>
        if (0 : Int) ≤ x2 ∧ x2 < ((x1.length : Nat) : Int) then laws_toEraS.p7 k x0 (x1.set x2.toNat r1) (wrap64 (x2 + (1 : Int)))
        else none)
      else none)
    else some x1
noncomputable def laws_toEraS.f (k : Nat) (a0 : (List Era)) : Option ((List Era)) := if (0 : Int) ≤ ((a0.length : Nat) : Int) ∧ ((a0.length : Nat) : Int) ≤ ((a0.length : Nat) : Int) ∧ ((a0.length : Nat) : Int) ≤ lim then laws_toEraS.p7 k a0 (List.replicate ((a0.length : Nat) : Int).toNat (([] : List Int), (false, ((0 : Int), ())))) (0 : Int)
  else none
/-! laws.toRegister -/
noncomputable def laws_toRegister.f (k : Nat) (a0 : Register) : Option (Register) := (laws_toEraS.f k a0.1).bind fun r1 =>
  some (r1, (a0.2.1, ()))
/-! laws.toEvent -/
noncomputable def laws_toEvent.f (a0 : Event) : Option (Event) := some (a0.1, (a0.2.1, (a0.2.2.1, ())))
/-! laws.toEventS -/
noncomputable def laws_toEventS.p7 : Nat → (List Event) → (List Event) → Int → Option ((List Event))
  | 0, _, _, _ => none
  | k + 1, x0, x1, x2 => if x2 < ((x0.length : Nat) : Int) then (if (0 : Int) ≤ x2 ∧ x2 < ((x0.length : Nat) : Int) then ((laws_toEvent.f (x0.getD x2.toNat ((0 : Int), ((0 : Int), ((⟨#[]⟩ : ByteArray), ()))))).bind fun r1 =>
        if (0 : Int) ≤ x2 ∧ x2 < ((x1.length : Nat) : Int) then laws_toEventS.p7 k x0 (x1.set x2.toNat r1) (wrap64 (x2 + (1 : Int)))
        else none)
      else none)
    else some x1
noncomputable def laws_toEventS.f (k : Nat) (a0 : (List Event)) : Option ((List Event)) := if (0 : Int) ≤ ((a0.length : Nat) : Int) ∧ ((a0.length : Nat) : Int) ≤ ((a0.length : Nat) : Int) ∧ ((a0.length : Nat) : Int) ≤ lim then laws_toEventS.p7 k a0 (List.replicate ((a0.length : Nat) : Int).toNat ((0 : Int), ((0 : Int), ((⟨#[]⟩ : ByteArray), ())))) (0 : Int)
  else none
/-! laws.toReader -/
noncomputable def laws_toReader.f (k : Nat) (a0 : Reader) : Option (Reader) := (laws_toEventS.f k a0.2.2.1).bind fun r1 =>
  some (a0.1, (a0.2.1, (r1, ())))
/-! laws.toEntry -/
noncomputable def laws_toEntry.f (a0 : Entry) : Option (Entry) := some (a0.1, (a0.2.1, (a0.2.2.1, (a0.2.2.2.1, ()))))
/-! laws.toAnswer -/
noncomputable def laws_toAnswer.f (a0 : Answer) : Option (Answer) := (laws_toEntry.f a0.2.2.1).bind fun r1 =>
  some (a0.1, (a0.2.1, (r1, ())))
/-! laws.toAnswerS -/
noncomputable def laws_toAnswerS.p7 : Nat → (List Answer) → (List Answer) → Int → Option ((List Answer))
  | 0, _, _, _ => none
  | k + 1, x0, x1, x2 => if x2 < ((x0.length : Nat) : Int) then (if (0 : Int) ≤ x2 ∧ x2 < ((x0.length : Nat) : Int) then ((laws_toAnswer.f (x0.getD x2.toNat ((0 : Int), (false, (((0 : Int), ((0 : Int), (false, ((⟨#[]⟩ : ByteArray), ())))), ()))))).bind fun r1 =>
        if (0 : Int) ≤ x2 ∧ x2 < ((x1.length : Nat) : Int) then laws_toAnswerS.p7 k x0 (x1.set x2.toNat r1) (wrap64 (x2 + (1 : Int)))
        else none)
      else none)
    else some x1
noncomputable def laws_toAnswerS.f (k : Nat) (a0 : (List Answer)) : Option ((List Answer)) := if (0 : Int) ≤ ((a0.length : Nat) : Int) ∧ ((a0.length : Nat) : Int) ≤ ((a0.length : Nat) : Int) ∧ ((a0.length : Nat) : Int) ≤ lim then laws_toAnswerS.p7 k a0 (List.replicate ((a0.length : Nat) : Int).toNat ((0 : Int), (false, (((0 : Int), ((0 : Int), (false, ((⟨#[]⟩ : ByteArray), ())))), ())))) (0 : Int)
  else none
/-! spec.l1In -/
noncomputable def spec_l1In.f (a0 : Int) (a1 : Int) (a2 : Int) : Option (Bool) := if a1 ≤ a0 then some (decide (a0 ≤ a2))
  else some false
/-! spec.ConfigOk -/
noncomputable def spec_ConfigOk.p9 : Nat → Int → Config → Option (Bool)
  | 0, _, _ => none
  | k + 1, x0, x1 => if x0 < ((x1.1.length : Nat) : Int) then (if (0 : Int) ≤ x0 ∧ x0 < ((x1.1.length : Nat) : Int) then ((spec_l1In.f (x1.1.getD x0.toNat (0 : Int)) (0 : Int) (7 : Int)).bind fun r3 =>
        if r3 = true then spec_ConfigOk.p9 k (wrap64 (x0 + (1 : Int))) x1
        else some false)
      else none)
    else some true
noncomputable def spec_ConfigOk.f (k : Nat) (a0 : Config) : Option (Bool) := (spec_l1In.f ((a0.1.length : Nat) : Int) (1 : Int) (8 : Int)).bind fun r1 =>
  if r1 = true then ((spec_l1In.f a0.2.1 (1 : Int) (4 : Int)).bind fun r2 =>
    if r2 = true then spec_ConfigOk.p9 k (0 : Int) a0
    else some false)
  else some false
/-! spec.l4Asc -/
noncomputable def spec_l4Asc.p5 : Nat → (List Int) → Int → Int → Int → Option (Bool)
  | 0, _, _, _, _ => none
  | k + 1, x0, x1, x2, x3 => if x3 < ((x0.length : Nat) : Int) then (if (0 : Int) ≤ x3 ∧ x3 < ((x0.length : Nat) : Int) then ((spec_l1In.f (x0.getD x3.toNat (0 : Int)) x1 x2).bind fun r1 =>
        if r1 = true then (if (0 : Int) < x3 then (if (0 : Int) ≤ (wrap64 (x3 - (1 : Int))) ∧ (wrap64 (x3 - (1 : Int))) < ((x0.length : Nat) : Int) then (if (0 : Int) ≤ x3 ∧ x3 < ((x0.length : Nat) : Int) then (if (x0.getD x3.toNat (0 : Int)) ≤ (x0.getD (wrap64 (x3 - (1 : Int))).toNat (0 : Int)) then some false
                else spec_l4Asc.p5 k x0 x1 x2 (wrap64 (x3 + (1 : Int))))
              else none)
            else none)
          else spec_l4Asc.p5 k x0 x1 x2 (wrap64 (x3 + (1 : Int))))
        else some false)
      else none)
    else some true
noncomputable def spec_l4Asc.f (k : Nat) (a0 : (List Int)) (a1 : Int) (a2 : Int) : Option (Bool) := spec_l4Asc.p5 k a0 a1 a2 (0 : Int)
/-! spec.NodesOk -/
noncomputable def spec_NodesOk.f (k : Nat) (a0 : Config) (a1 : (List Int)) : Option (Bool) := (spec_ConfigOk.f k a0).bind fun r1 =>
  if r1 = true then ((spec_l4Asc.f k a1 (0 : Int) (wrap64 (((a0.1.length : Nat) : Int) - (1 : Int)))).bind fun r2 =>
    some r2)
  else some false
/-! spec.l10Nodes -/
noncomputable def spec_l10Nodes.p7 : Nat → (List Answer) → (List Int) → Int → Config → Option ((List Int) × Bool)
  | 0, _, _, _, _ => none
  | k + 1, x0, x1, x2, x3 => if x2 < ((x0.length : Nat) : Int) then (if (0 : Int) ≤ x2 ∧ x2 < ((x0.length : Nat) : Int) then (if (((x1.length : Nat) : Int) + ((([(x0.getD x2.toNat ((0 : Int), (false, (((0 : Int), ((0 : Int), (false, ((⟨#[]⟩ : ByteArray), ())))), ())))).1] : List Int).length : Nat) : Int)) ≤ lim then spec_l10Nodes.p7 k x0 (x1 ++ ([(x0.getD x2.toNat ((0 : Int), (false, (((0 : Int), ((0 : Int), (false, ((⟨#[]⟩ : ByteArray), ())))), ())))).1] : List Int)) (wrap64 (x2 + (1 : Int))) x3
        else none)
      else none)
    else (spec_NodesOk.f k x3 x1).bind fun r1 =>
    some (x1, r1)
noncomputable def spec_l10Nodes.f (k : Nat) (a0 : Config) (a1 : (List Answer)) : Option ((List Int) × Bool) := spec_l10Nodes.p7 k a1 ([] : List Int) (0 : Int) a0
/-! spec.PlaceOk -/
noncomputable def spec_PlaceOk.f (a0 : Int) : Option (Bool) := if (0 : Int) < a0 then ((spec_l1In.f (wrap64 ((Int.tdiv a0 (4294967296 : Int)))) (1 : Int) (30 : Int)).bind fun r1 =>
    if r1 = true then ((spec_l1In.f (Int.tmod a0 (4294967296 : Int)) (1 : Int) (60 : Int)).bind fun r2 =>
      some r2)
    else some false)
  else some false
/-! spec.EpochOf -/
noncomputable def spec_EpochOf.f (a0 : Int) : Option (Int) := (spec_PlaceOk.f a0).bind fun r1 =>
  if r1 = true then some (wrap64 ((Int.tdiv a0 (4294967296 : Int))))
  else some (0 : Int)
/-! spec.l4Span -/
noncomputable def spec_l4Span.p9 : Nat → (List Int) → (List Bool) → Int → Int → Config → Option (Int)
  | 0, _, _, _, _, _ => none
  | k + 1, x0, x1, x2, x3, x4 => if x3 < ((x0.length : Nat) : Int) then (if (0 : Int) ≤ x3 ∧ x3 < ((x0.length : Nat) : Int) then (if (0 : Int) ≤ (x0.getD x3.toNat (0 : Int)) ∧ (x0.getD x3.toNat (0 : Int)) < ((x4.1.length : Nat) : Int) then (if (0 : Int) ≤ (x4.1.getD (x0.getD x3.toNat (0 : Int)).toNat (0 : Int)) ∧ (x4.1.getD (x0.getD x3.toNat (0 : Int)).toNat (0 : Int)) < ((x1.length : Nat) : Int) then (if (x1.getD (x4.1.getD (x0.getD x3.toNat (0 : Int)).toNat (0 : Int)).toNat false) = true then spec_l4Span.p9 k x0 x1 x2 (wrap64 (x3 + (1 : Int))) x4
            else if (0 : Int) ≤ (x4.1.getD (x0.getD x3.toNat (0 : Int)).toNat (0 : Int)) ∧ (x4.1.getD (x0.getD x3.toNat (0 : Int)).toNat (0 : Int)) < ((x1.length : Nat) : Int) then spec_l4Span.p9 k x0 (x1.set (x4.1.getD (x0.getD x3.toNat (0 : Int)).toNat (0 : Int)).toNat true) (wrap64 (x2 + (1 : Int))) (wrap64 (x3 + (1 : Int))) x4
            else none)
          else none)
        else none)
      else none)
    else some x2
noncomputable def spec_l4Span.f (k : Nat) (a0 : Config) (a1 : (List Int)) : Option (Int) := if (0 : Int) ≤ (8 : Int) ∧ (8 : Int) ≤ (8 : Int) ∧ (8 : Int) ≤ lim then spec_l4Span.p9 k a1 (List.replicate (8 : Int).toNat false) (0 : Int) (0 : Int) a0
  else none
/-! spec.Holds -/
noncomputable def spec_Holds.f (k : Nat) (a0 : Config) (a1 : (List Int)) : Option (Bool) := (spec_NodesOk.f k a0 a1).bind fun r1 =>
  if r1 = true then ((spec_l4Span.f k a0 a1).bind fun r2 =>
    some (decide (a0.2.1 ≤ r2)))
  else some false
/-! spec.RegOk -/
mutual
noncomputable def spec_RegOk.p8 : Nat → Int → Config → Register → Option (Bool)
  | 0, _, _, _ => none
  | k + 1, x0, x1, x2 => spec_RegOk.p11 k x0 (0 : Int) x1 x2
noncomputable def spec_RegOk.p11 : Nat → Int → Int → Config → Register → Option (Bool)
  | 0, _, _, _, _ => none
  | k + 1, x0, x1, x2, x3 => if x1 < x0 then (if (0 : Int) ≤ x1 ∧ x1 < ((x3.1.length : Nat) : Int) then ((spec_Holds.f k x2 (x3.1.getD x1.toNat (([] : List Int), (false, ((0 : Int), ())))).1).bind fun r4 =>
        if r4 = true then ((spec_l1In.f (x3.1.getD x1.toNat (([] : List Int), (false, ((0 : Int), ())))).2.2.1 (0 : Int) (60 : Int)).bind fun r5 =>
          if r5 = true then (if (x3.1.getD x1.toNat (([] : List Int), (false, ((0 : Int), ())))).2.1 = true then spec_RegOk.p20 k x0 x1 (x3.1.getD x1.toNat (([] : List Int), (false, ((0 : Int), ())))).2.2.1 r5 (!(decide (r5 = true))) (x3.1.getD x1.toNat (([] : List Int), (false, ((0 : Int), ())))).2.1 (!(decide ((x3.1.getD x1.toNat (([] : List Int), (false, ((0 : Int), ())))).2.1 = true))) false false x2 x3 (x3.1.getD x1.toNat (([] : List Int), (false, ((0 : Int), ()))))
            else if (x3.1.getD x1.toNat (([] : List Int), (false, ((0 : Int), ())))).2.2.1 = (0 : Int) then spec_RegOk.p20 k x0 x1 (x3.1.getD x1.toNat (([] : List Int), (false, ((0 : Int), ())))).2.2.1 r5 (!(decide (r5 = true))) (x3.1.getD x1.toNat (([] : List Int), (false, ((0 : Int), ())))).2.1 (!(decide ((x3.1.getD x1.toNat (([] : List Int), (false, ((0 : Int), ())))).2.1 = true))) true (!(decide ((x3.1.getD x1.toNat (([] : List Int), (false, ((0 : Int), ())))).2.2.1 = (0 : Int)))) x2 x3 (x3.1.getD x1.toNat (([] : List Int), (false, ((0 : Int), ()))))
            else some false)
          else some false)
        else some false)
      else none)
    else some true
noncomputable def spec_RegOk.p20 : Nat → Int → Int → Int → Bool → Bool → Bool → Bool → Bool → Bool → Config → Register → Era → Option (Bool)
  | 0, _, _, _, _, _, _, _, _, _, _, _, _ => none
  | k + 1, x0, x1, x2, x3, x4, x5, x6, x7, x8, x9, x10, x11 => if x11.2.1 = true then (if x1 = (wrap64 (x0 - (1 : Int))) then some false
      else if (0 : Int) < x1 then (if (0 : Int) ≤ (wrap64 (x1 - (1 : Int))) ∧ (wrap64 (x1 - (1 : Int))) < ((x10.1.length : Nat) : Int) then (if (x10.1.getD (wrap64 (x1 - (1 : Int))).toNat (([] : List Int), (false, ((0 : Int), ())))).2.1 = true then spec_RegOk.p11 k x0 (wrap64 (x1 + (1 : Int))) x9 x10
          else some false)
        else none)
      else spec_RegOk.p11 k x0 (wrap64 (x1 + (1 : Int))) x9 x10)
    else spec_RegOk.p11 k x0 (wrap64 (x1 + (1 : Int))) x9 x10
end
noncomputable def spec_RegOk.f (k : Nat) (a0 : Config) (a1 : Register) : Option (Bool) := (spec_ConfigOk.f k a0).bind fun r1 =>
  if r1 = true then (if (30 : Int) < ((a1.1.length : Nat) : Int) then some false
    else if a1.2.1 = (0 : Int) then spec_RegOk.p8 k ((a1.1.length : Nat) : Int) a0 a1
    else (spec_PlaceOk.f a1.2.1).bind fun r2 =>
    if r2 = true then ((spec_EpochOf.f a1.2.1).bind fun r3 =>
      if ((a1.1.length : Nat) : Int) < r3 then some false
      else spec_RegOk.p8 k ((a1.1.length : Nat) : Int) a0 a1)
    else some false)
  else some false
/-! spec.ReaderOk -/
noncomputable def spec_ReaderOk.f (a0 : Reader) : Option (Bool) := (spec_l1In.f a0.1 (1 : Int) (31 : Int)).bind fun r1 =>
  if r1 = true then ((spec_l1In.f a0.2.1 (1 : Int) (61 : Int)).bind fun r2 =>
    if r2 = true then some (decide (((a0.2.2.1.length : Nat) : Int) ≤ (120 : Int)))
    else some false)
  else some false
/-! spec.l10Copy -/
noncomputable def spec_l10Copy.f (a0 : Reader) : Option (Reader) := if (((([] : List Event).length : Nat) : Int) + ((a0.2.2.1.length : Nat) : Int)) ≤ lim then some (a0.1, (a0.2.1, ((([] : List Event) ++ a0.2.2.1), a0.2.2.2)))
  else none
/-! spec.l1Place -/
noncomputable def spec_l1Place.f (a0 : Int) (a1 : Int) : Option (Int) := some (wrap64 ((wrap64 ((4294967296 : Int) * a0)) + a1))
/-! spec.OffOf -/
noncomputable def spec_OffOf.f (a0 : Int) : Option (Int) := (spec_PlaceOk.f a0).bind fun r1 =>
  if r1 = true then some (Int.tmod a0 (4294967296 : Int))
  else some (0 : Int)
/-! spec.l10Tell -/
noncomputable def spec_l10Tell.f (a0 : Reader) (a1 : Event) (a2 : Int) (a3 : Int) : Option (Reader) := (spec_l10Copy.f a0).bind fun r1 =>
  if (((r1.2.2.1.length : Nat) : Int) + ((([a1] : List Event).length : Nat) : Int)) ≤ lim then some (a2, (a3, ((r1.2.2.1 ++ ([a1] : List Event)), r1.2.2.2)))
  else none
/-! spec.l4Has -/
noncomputable def spec_l4Has.p5 : Nat → (List Int) → Int → Int → Option (Bool)
  | 0, _, _, _ => none
  | k + 1, x0, x1, x2 => if x2 < ((x0.length : Nat) : Int) then (if (0 : Int) ≤ x2 ∧ x2 < ((x0.length : Nat) : Int) then (if (x0.getD x2.toNat (0 : Int)) = x1 then some true
        else spec_l4Has.p5 k x0 x1 (wrap64 (x2 + (1 : Int))))
      else none)
    else some false
noncomputable def spec_l4Has.f (k : Nat) (a0 : (List Int)) (a1 : Int) : Option (Bool) := spec_l4Has.p5 k a0 a1 (0 : Int)
/-! spec.l4Less -/
noncomputable def spec_l4Less.p7 : Nat → (List Int) → (List Int) → (List Int) → Int → Option ((List Int))
  | 0, _, _, _, _ => none
  | k + 1, x0, x1, x2, x3 => if x3 < ((x0.length : Nat) : Int) then (if (0 : Int) ≤ x3 ∧ x3 < ((x0.length : Nat) : Int) then ((spec_l4Has.f k x1 (x0.getD x3.toNat (0 : Int))).bind fun r1 =>
        if r1 = true then spec_l4Less.p7 k x0 x1 x2 (wrap64 (x3 + (1 : Int)))
        else if (0 : Int) ≤ x3 ∧ x3 < ((x0.length : Nat) : Int) then (if (((x2.length : Nat) : Int) + ((([(x0.getD x3.toNat (0 : Int))] : List Int).length : Nat) : Int)) ≤ lim then spec_l4Less.p7 k x0 x1 (x2 ++ ([(x0.getD x3.toNat (0 : Int))] : List Int)) (wrap64 (x3 + (1 : Int)))
          else none)
        else none)
      else none)
    else some x2
noncomputable def spec_l4Less.f (k : Nat) (a0 : (List Int)) (a1 : (List Int)) : Option ((List Int)) := spec_l4Less.p7 k a0 a1 ([] : List Int) (0 : Int)
/-! spec.l9Both -/
noncomputable def spec_l9Both.f (k : Nat) (a0 : (List Int)) (a1 : (List Int)) : Option ((List Int)) := (spec_l4Less.f k a0 a1).bind fun r1 =>
  (spec_l4Less.f k a0 r1).bind fun r2 =>
  some r2
/-! spec.Enough -/
noncomputable def spec_Enough.f (k : Nat) (a0 : Config) (a1 : (List Int)) (a2 : (List Int)) : Option (Bool) := (spec_Holds.f k a0 a1).bind fun r1 =>
  if r1 = true then ((spec_NodesOk.f k a0 a2).bind fun r2 =>
    if r2 = true then ((spec_l4Less.f k a2 a1).bind fun r3 =>
      if (0 : Int) < ((r3.length : Nat) : Int) then some false
      else (spec_l4Less.f k a1 a2).bind fun r4 =>
      (spec_l4Span.f k a0 r4).bind fun r5 =>
      some (decide (r5 < a0.2.1)))
    else some false)
  else some false
/-! spec.EntryOk -/
noncomputable def spec_EntryOk.p6 : Nat → Entry → Option (Bool)
  | 0, _ => none
  | k + 1, x0 => if x0.2.2.1 = true then (if (0 : Int) < x0.2.1 then some (decide (x0.2.2.2.1 = (⟨#[]⟩ : ByteArray)))
      else some false)
    else some true
noncomputable def spec_EntryOk.f (k : Nat) (a0 : Entry) : Option (Bool) := (spec_PlaceOk.f a0.1).bind fun r1 =>
  if r1 = true then ((spec_l1In.f a0.2.1 (0 : Int) (30 : Int)).bind fun r2 =>
    if r2 = true then (if (0 : Int) < a0.2.1 then ((spec_EpochOf.f a0.1).bind fun r3 =>
        if a0.2.1 ≤ r3 then some false
        else if (40 : Int) < ((a0.2.2.2.1.size : Nat) : Int) then some false
        else spec_EntryOk.p6 k a0)
      else if (40 : Int) < ((a0.2.2.2.1.size : Nat) : Int) then some false
      else spec_EntryOk.p6 k a0)
    else some false)
  else some false
/-! spec.Better -/
noncomputable def spec_Better.f (a0 : Entry) (a1 : Entry) : Option (Entry) := if a0.2.1 < a1.2.1 then some a1
  else some a0
/-! spec.l10Best -/
noncomputable def spec_l10Best.p9 : Nat → (List Int) → Int → (List Answer) → Bool → Int → Event → Entry → Option (Event)
  | 0, _, _, _, _, _, _, _ => none
  | k + 1, x0, x1, x2, x3, x4, x5, x6 => if x4 < ((x2.length : Nat) : Int) then (if (0 : Int) ≤ x4 ∧ x4 < ((x2.length : Nat) : Int) then (if (x2.getD x4.toNat ((0 : Int), (false, (((0 : Int), ((0 : Int), (false, ((⟨#[]⟩ : ByteArray), ())))), ())))).2.1 = true then ((spec_l4Has.f k x0 (x2.getD x4.toNat ((0 : Int), (false, (((0 : Int), ((0 : Int), (false, ((⟨#[]⟩ : ByteArray), ())))), ())))).1).bind fun r1 =>
          if r1 = true then ((spec_EntryOk.f k (x2.getD x4.toNat ((0 : Int), (false, (((0 : Int), ((0 : Int), (false, ((⟨#[]⟩ : ByteArray), ())))), ())))).2.2.1).bind fun r2 =>
            if r2 = true then (if (x2.getD x4.toNat ((0 : Int), (false, (((0 : Int), ((0 : Int), (false, ((⟨#[]⟩ : ByteArray), ())))), ())))).2.2.1.1 = x1 then (if x3 = true then ((spec_Better.f x6 (x2.getD x4.toNat ((0 : Int), (false, (((0 : Int), ((0 : Int), (false, ((⟨#[]⟩ : ByteArray), ())))), ())))).2.2.1).bind fun r3 =>
                  spec_l10Best.p9 k x0 x1 x2 true (wrap64 (x4 + (1 : Int))) x5 r3)
                else (spec_Better.f (x2.getD x4.toNat ((0 : Int), (false, (((0 : Int), ((0 : Int), (false, ((⟨#[]⟩ : ByteArray), ())))), ())))).2.2.1 (x2.getD x4.toNat ((0 : Int), (false, (((0 : Int), ((0 : Int), (false, ((⟨#[]⟩ : ByteArray), ())))), ())))).2.2.1).bind fun r4 =>
                spec_l10Best.p9 k x0 x1 x2 true (wrap64 (x4 + (1 : Int))) x5 r4)
              else spec_l10Best.p9 k x0 x1 x2 x3 (wrap64 (x4 + (1 : Int))) x5 x6)
            else spec_l10Best.p9 k x0 x1 x2 x3 (wrap64 (x4 + (1 : Int))) x5 x6)
          else spec_l10Best.p9 k x0 x1 x2 x3 (wrap64 (x4 + (1 : Int))) x5 x6)
        else spec_l10Best.p9 k x0 x1 x2 x3 (wrap64 (x4 + (1 : Int))) x5 x6)
      else none)
    else if x3 = true then (if x6.2.2.1 = true then some ((2 : Int), (x1, ((⟨#[]⟩ : ByteArray), ())))
      else some ((1 : Int), (x1, (x6.2.2.2.1, ()))))
    else some ((3 : Int), (x1, ((⟨#[]⟩ : ByteArray), ())))
noncomputable def spec_l10Best.f (k : Nat) (a0 : (List Int)) (a1 : Int) (a2 : (List Answer)) : Option (Event) := spec_l10Best.p9 k a0 a1 a2 false (0 : Int) ((0 : Int), ((0 : Int), ((⟨#[]⟩ : ByteArray), ()))) ((0 : Int), ((0 : Int), (false, ((⟨#[]⟩ : ByteArray), ()))))
/-! spec.ReaderNext -/
noncomputable def spec_ReaderNext.p32 : Nat → (List Answer) → Int → Reader → Reader → Era → Option (Reader × Int)
  | 0, _, _, _, _, _ => none
  | k + 1, x0, x1, x2, x3, x4 => (spec_l10Best.f k x4.1 x1 x0).bind fun r29 =>
    (spec_l10Tell.f x2 r29 x2.1 (wrap64 (x2.2.1 + (1 : Int)))).bind fun r30 =>
    some (r30, (0 : Int))
noncomputable def spec_ReaderNext.f (k : Nat) (a0 : Config) (a1 : Register) (a2 : Int) (a3 : Reader) (a4 : (List Answer)) : Option (Reader × Int) := (spec_l10Nodes.f k a0 a4).bind fun r1 =>
  (spec_RegOk.f k a0 a1).bind fun r2 =>
  if r2 = true then ((spec_ReaderOk.f a3).bind fun r3 =>
    if r3 = true then (if r1.2 = true then (if ((a1.1.length : Nat) : Int) < a3.1 then ((spec_l10Copy.f a3).bind fun r4 =>
          some (r4, (2 : Int)))
        else if ((a3.2.2.1.length : Nat) : Int) = (120 : Int) then ((spec_l10Copy.f a3).bind fun r5 =>
          some (r5, (2 : Int)))
        else if (0 : Int) ≤ (wrap64 (a3.1 - (1 : Int))) ∧ (wrap64 (a3.1 - (1 : Int))) < ((a1.1.length : Nat) : Int) then ((spec_l1Place.f a3.1 a3.2.1).bind fun r6 =>
          if r6 ≤ a1.2.1 then ((spec_EpochOf.f a1.2.1).bind fun r7 =>
            (spec_OffOf.f a1.2.1).bind fun r8 =>
            (spec_l10Tell.f a3 ((5 : Int), (a1.2.1, ((⟨#[]⟩ : ByteArray), ()))) r7 (wrap64 (r8 + (1 : Int)))).bind fun r9 =>
            some (r9, (0 : Int)))
          else if (a1.1.getD (wrap64 (a3.1 - (1 : Int))).toNat (([] : List Int), (false, ((0 : Int), ())))).2.1 = true then (if (a1.1.getD (wrap64 (a3.1 - (1 : Int))).toNat (([] : List Int), (false, ((0 : Int), ())))).2.2.1 < a3.2.1 then ((spec_l10Tell.f a3 ((4 : Int), ((wrap64 (a3.1 + (1 : Int))), ((⟨#[]⟩ : ByteArray), ()))) (wrap64 (a3.1 + (1 : Int))) (1 : Int)).bind fun r10 =>
              some (r10, (0 : Int)))
            else if (a1.1.getD (wrap64 (a3.1 - (1 : Int))).toNat (([] : List Int), (false, ((0 : Int), ())))).2.1 = true then (if (60 : Int) < a3.2.1 then ((spec_l10Copy.f a3).bind fun r11 =>
                some (r11, (2 : Int)))
              else (spec_l9Both.f k r1.1 (a1.1.getD (wrap64 (a3.1 - (1 : Int))).toNat (([] : List Int), (false, ((0 : Int), ())))).1).bind fun r12 =>
              (spec_Enough.f k a0 (a1.1.getD (wrap64 (a3.1 - (1 : Int))).toNat (([] : List Int), (false, ((0 : Int), ())))).1 r12).bind fun r13 =>
              if r13 = true then spec_ReaderNext.p32 k a4 r6 a3 ((0 : Int), ((0 : Int), (([] : List Event), ()))) (a1.1.getD (wrap64 (a3.1 - (1 : Int))).toNat (([] : List Int), (false, ((0 : Int), ()))))
              else (spec_l10Copy.f a3).bind fun r14 =>
              some (r14, (3 : Int)))
            else if a2 < a3.2.1 then ((spec_l10Copy.f a3).bind fun r15 =>
              some (r15, (2 : Int)))
            else if (60 : Int) < a3.2.1 then ((spec_l10Copy.f a3).bind fun r16 =>
              some (r16, (2 : Int)))
            else (spec_l9Both.f k r1.1 (a1.1.getD (wrap64 (a3.1 - (1 : Int))).toNat (([] : List Int), (false, ((0 : Int), ())))).1).bind fun r17 =>
            (spec_Enough.f k a0 (a1.1.getD (wrap64 (a3.1 - (1 : Int))).toNat (([] : List Int), (false, ((0 : Int), ())))).1 r17).bind fun r18 =>
            if r18 = true then spec_ReaderNext.p32 k a4 r6 a3 ((0 : Int), ((0 : Int), (([] : List Event), ()))) (a1.1.getD (wrap64 (a3.1 - (1 : Int))).toNat (([] : List Int), (false, ((0 : Int), ()))))
            else (spec_l10Copy.f a3).bind fun r19 =>
            some (r19, (3 : Int)))
          else if (a1.1.getD (wrap64 (a3.1 - (1 : Int))).toNat (([] : List Int), (false, ((0 : Int), ())))).2.1 = true then (if (60 : Int) < a3.2.1 then ((spec_l10Copy.f a3).bind fun r20 =>
              some (r20, (2 : Int)))
            else (spec_l9Both.f k r1.1 (a1.1.getD (wrap64 (a3.1 - (1 : Int))).toNat (([] : List Int), (false, ((0 : Int), ())))).1).bind fun r21 =>
            (spec_Enough.f k a0 (a1.1.getD (wrap64 (a3.1 - (1 : Int))).toNat (([] : List Int), (false, ((0 : Int), ())))).1 r21).bind fun r22 =>
            if r22 = true then spec_ReaderNext.p32 k a4 r6 a3 ((0 : Int), ((0 : Int), (([] : List Event), ()))) (a1.1.getD (wrap64 (a3.1 - (1 : Int))).toNat (([] : List Int), (false, ((0 : Int), ()))))
            else (spec_l10Copy.f a3).bind fun r23 =>
            some (r23, (3 : Int)))
          else if a2 < a3.2.1 then ((spec_l10Copy.f a3).bind fun r24 =>
            some (r24, (2 : Int)))
          else if (60 : Int) < a3.2.1 then ((spec_l10Copy.f a3).bind fun r25 =>
            some (r25, (2 : Int)))
          else (spec_l9Both.f k r1.1 (a1.1.getD (wrap64 (a3.1 - (1 : Int))).toNat (([] : List Int), (false, ((0 : Int), ())))).1).bind fun r26 =>
          (spec_Enough.f k a0 (a1.1.getD (wrap64 (a3.1 - (1 : Int))).toNat (([] : List Int), (false, ((0 : Int), ())))).1 r26).bind fun r27 =>
          if r27 = true then spec_ReaderNext.p32 k a4 r6 a3 ((0 : Int), ((0 : Int), (([] : List Event), ()))) (a1.1.getD (wrap64 (a3.1 - (1 : Int))).toNat (([] : List Int), (false, ((0 : Int), ()))))
          else (spec_l10Copy.f a3).bind fun r28 =>
          some (r28, (3 : Int)))
        else none)
      else some (((0 : Int), ((0 : Int), (([] : List Event), ()))), (1 : Int)))
    else some (((0 : Int), ((0 : Int), (([] : List Event), ()))), (1 : Int)))
  else some (((0 : Int), ((0 : Int), (([] : List Event), ()))), (1 : Int))
/-! impl.within -/
noncomputable def impl_within.f (a0 : Int) (a1 : Int) (a2 : Int) : Option (Bool) := if a1 ≤ a0 then some (decide (a0 ≤ a2))
  else some false
/-! impl.ConfigOk -/
noncomputable def impl_ConfigOk.p5 : Nat → (List Int) → Int → Int → Config → Option (Bool)
  | 0, _, _, _, _ => none
  | k + 1, x0, x1, x2, x3 => if x2 < x1 then (if (0 : Int) ≤ x2 ∧ x2 < ((x0.length : Nat) : Int) then ((impl_within.f (x0.getD x2.toNat (0 : Int)) (0 : Int) (7 : Int)).bind fun r1 =>
        if r1 = true then impl_ConfigOk.p5 k x0 x1 (wrap64 (x2 + (1 : Int))) x3
        else some false)
      else none)
    else (impl_within.f ((x3.1.length : Nat) : Int) (1 : Int) (8 : Int)).bind fun r2 =>
    if r2 = true then ((impl_within.f x3.2.1 (1 : Int) (4 : Int)).bind fun r3 =>
      some r3)
    else some false
noncomputable def impl_ConfigOk.f (k : Nat) (a0 : Config) : Option (Bool) := impl_ConfigOk.p5 k a0.1 ((a0.1.length : Nat) : Int) (0 : Int) a0
/-! impl.ascends -/
noncomputable def impl_ascends.p5 : Nat → (List Int) → Int → (List Int) → Int → Int → Option (Bool)
  | 0, _, _, _, _, _ => none
  | k + 1, x0, x1, x2, x3, x4 => if x4 < x3 then (if (0 : Int) ≤ x4 ∧ x4 < ((x2.length : Nat) : Int) then ((impl_within.f (x2.getD x4.toNat (0 : Int)) (0 : Int) x1).bind fun r1 =>
        if r1 = true then (if (0 : Int) < x4 then (if (0 : Int) ≤ (wrap64 (x4 - (1 : Int))) ∧ (wrap64 (x4 - (1 : Int))) < ((x0.length : Nat) : Int) then (if (x2.getD x4.toNat (0 : Int)) ≤ (x0.getD (wrap64 (x4 - (1 : Int))).toNat (0 : Int)) then some false
              else impl_ascends.p5 k x0 x1 x2 x3 (wrap64 (x4 + (1 : Int))))
            else none)
          else impl_ascends.p5 k x0 x1 x2 x3 (wrap64 (x4 + (1 : Int))))
        else some false)
      else none)
    else some true
noncomputable def impl_ascends.f (k : Nat) (a0 : (List Int)) (a1 : Int) : Option (Bool) := impl_ascends.p5 k a0 a1 a0 ((a0.length : Nat) : Int) (0 : Int)
/-! impl.NodesOk -/
noncomputable def impl_NodesOk.f (k : Nat) (a0 : Config) (a1 : (List Int)) : Option (Bool) := (impl_ConfigOk.f k a0).bind fun r1 =>
  if r1 = true then ((impl_ascends.f k a1 (wrap64 (((a0.1.length : Nat) : Int) - (1 : Int)))).bind fun r2 =>
    some r2)
  else some false
/-! slices.Index[[]int,int] -/
noncomputable def slices_Index_int_int.p5 : Nat → (List Int) → Int → Int → Int → Option (Int)
  | 0, _, _, _, _ => none
  | k + 1, x0, x1, x2, x3 => if x3 < x2 then (if (0 : Int) ≤ x3 ∧ x3 < ((x0.length : Nat) : Int) then (if x1 = (x0.getD x3.toNat (0 : Int)) then some x3
        else slices_Index_int_int.p5 k x0 x1 x2 (wrap64 (x3 + (1 : Int))))
      else none)
    else some (-1 : Int)
noncomputable def slices_Index_int_int.f (k : Nat) (a0 : (List Int)) (a1 : Int) : Option (Int) := slices_Index_int_int.p5 k a0 a1 ((a0.length : Nat) : Int) (0 : Int)
/-! slices.Contains[[]int,int] -/
noncomputable def slices_Contains_int_int.f (k : Nat) (a0 : (List Int)) (a1 : Int) : Option (Bool) := (slices_Index_int_int.f k a0 a1).bind fun r1 =>
  some (decide ((0 : Int) ≤ r1))
/-! impl.SpanOf -/
noncomputable def impl_SpanOf.p11 : Nat → (List Int) → (List Int) → Int → Int → Config → Option (Int)
  | 0, _, _, _, _, _ => none
  | k + 1, x0, x1, x2, x3, x4 => if x3 < x2 then (if (0 : Int) ≤ x3 ∧ x3 < ((x1.length : Nat) : Int) then (if (0 : Int) ≤ (x1.getD x3.toNat (0 : Int)) ∧ (x1.getD x3.toNat (0 : Int)) < ((x4.1.length : Nat) : Int) then ((slices_Contains_int_int.f k x0 (x4.1.getD (x1.getD x3.toNat (0 : Int)).toNat (0 : Int))).bind fun r2 =>
          if r2 = true then impl_SpanOf.p11 k x0 x1 x2 (wrap64 (x3 + (1 : Int))) x4
          else if (0 : Int) ≤ (x1.getD x3.toNat (0 : Int)) ∧ (x1.getD x3.toNat (0 : Int)) < ((x4.1.length : Nat) : Int) then (if (((x0.length : Nat) : Int) + ((([(x4.1.getD (x1.getD x3.toNat (0 : Int)).toNat (0 : Int))] : List Int).length : Nat) : Int)) ≤ lim then impl_SpanOf.p11 k (x0 ++ ([(x4.1.getD (x1.getD x3.toNat (0 : Int)).toNat (0 : Int))] : List Int)) x1 x2 (wrap64 (x3 + (1 : Int))) x4
            else none)
          else none)
        else none)
      else none)
    else some ((x0.length : Nat) : Int)
noncomputable def impl_SpanOf.f (k : Nat) (a0 : Config) (a1 : (List Int)) : Option (Int) := (impl_NodesOk.f k a0 a1).bind fun r1 =>
  if r1 = true then impl_SpanOf.p11 k ([] : List Int) a1 ((a1.length : Nat) : Int) (0 : Int) a0
  else some (-1 : Int)
/-! impl.Holds -/
noncomputable def impl_Holds.f (k : Nat) (a0 : Config) (a1 : (List Int)) : Option (Bool) := (impl_NodesOk.f k a0 a1).bind fun r1 =>
  if r1 = true then ((impl_SpanOf.f k a0 a1).bind fun r2 =>
    some (decide (a0.2.1 ≤ r2)))
  else some false
/-! impl.eraOk -/
noncomputable def impl_eraOk.f (k : Nat) (a0 : Config) (a1 : Era) : Option (Bool) := (impl_Holds.f k a0 a1.1).bind fun r1 =>
  if r1 = true then ((impl_within.f a1.2.2.1 (0 : Int) (60 : Int)).bind fun r2 =>
    if r2 = true then (if a1.2.1 = true then some true
      else some (decide (a1.2.2.1 = (0 : Int))))
    else some false)
  else some false
/-! impl.isEpoch -/
noncomputable def impl_isEpoch.f (a0 : Int) : Option (Bool) := (impl_within.f a0 (1 : Int) (30 : Int)).bind fun r1 =>
  some r1
/-! impl.isOff -/
noncomputable def impl_isOff.f (a0 : Int) : Option (Bool) := (impl_within.f a0 (1 : Int) (60 : Int)).bind fun r1 =>
  some r1
/-! impl.PlaceOk -/
noncomputable def impl_PlaceOk.f (a0 : Int) : Option (Bool) := (impl_isEpoch.f (wrap64 ((Int.tdiv a0 (4294967296 : Int))))).bind fun r1 =>
  if r1 = true then ((impl_isOff.f (Int.tmod a0 (4294967296 : Int))).bind fun r2 =>
    some r2)
  else some false
/-! impl.EpochOf -/
noncomputable def impl_EpochOf.f (a0 : Int) : Option (Int) := (impl_PlaceOk.f a0).bind fun r1 =>
  if r1 = true then some (wrap64 ((Int.tdiv a0 (4294967296 : Int))))
  else some (0 : Int)
/-! impl.RegOk -/
mutual
noncomputable def impl_RegOk.p5 : Nat → (List Era) → Int → Int → Config → Register → Option (Bool)
  | 0, _, _, _, _, _ => none
  | k + 1, x0, x1, x2, x3, x4 => if x2 < x1 then (if (0 : Int) ≤ x2 ∧ x2 < ((x0.length : Nat) : Int) then ((impl_eraOk.f k x3 (x0.getD x2.toNat (([] : List Int), (false, ((0 : Int), ()))))).bind fun r1 =>
        if r1 = true then (if (x0.getD x2.toNat (([] : List Int), (false, ((0 : Int), ())))).2.1 = true then (if x2 = (wrap64 (((x4.1.length : Nat) : Int) - (1 : Int))) then some false
            else if (0 : Int) < x2 then (if (0 : Int) ≤ (wrap64 (x2 - (1 : Int))) ∧ (wrap64 (x2 - (1 : Int))) < ((x4.1.length : Nat) : Int) then (if (x4.1.getD (wrap64 (x2 - (1 : Int))).toNat (([] : List Int), (false, ((0 : Int), ())))).2.1 = true then impl_RegOk.p5 k x0 x1 (wrap64 (x2 + (1 : Int))) x3 x4
                else some false)
              else none)
            else impl_RegOk.p5 k x0 x1 (wrap64 (x2 + (1 : Int))) x3 x4)
          else impl_RegOk.p5 k x0 x1 (wrap64 (x2 + (1 : Int))) x3 x4)
        else some false)
      else none)
    else if x4.2.1 = (0 : Int) then impl_RegOk.p16 k true x3 x4
    else (impl_EpochOf.f x4.2.1).bind fun r2 =>
    (impl_within.f r2 (1 : Int) ((x4.1.length : Nat) : Int)).bind fun r3 =>
    impl_RegOk.p16 k r3 x3 x4
noncomputable def impl_RegOk.p16 : Nat → Bool → Config → Register → Option (Bool)
  | 0, _, _, _ => none
  | k + 1, x0, x1, x2 => (impl_ConfigOk.f k x1).bind fun r4 =>
    if r4 = true then (if ((x2.1.length : Nat) : Int) ≤ (30 : Int) then some x0
      else some false)
    else some false
end
noncomputable def impl_RegOk.f (k : Nat) (a0 : Config) (a1 : Register) : Option (Bool) := impl_RegOk.p5 k a1.1 ((a1.1.length : Nat) : Int) (0 : Int) a0 a1
/-! impl.ReaderOk -/
noncomputable def impl_ReaderOk.f (a0 : Reader) : Option (Bool) := (impl_within.f a0.1 (1 : Int) (31 : Int)).bind fun r1 =>
  if r1 = true then ((impl_within.f a0.2.1 (1 : Int) (61 : Int)).bind fun r2 =>
    if r2 = true then some (decide (((a0.2.2.1.length : Nat) : Int) ≤ (120 : Int)))
    else some false)
  else some false
/-! impl.nodesOf -/
noncomputable def impl_nodesOf.p7 : Nat → (List Int) → (List Answer) → Int → Int → Option ((List Int))
  | 0, _, _, _, _ => none
  | k + 1, x0, x1, x2, x3 => if x3 < x2 then (if (0 : Int) ≤ x3 ∧ x3 < ((x1.length : Nat) : Int) then (if (((x0.length : Nat) : Int) + ((([(x1.getD x3.toNat ((0 : Int), (false, (((0 : Int), ((0 : Int), (false, ((⟨#[]⟩ : ByteArray), ())))), ())))).1] : List Int).length : Nat) : Int)) ≤ lim then impl_nodesOf.p7 k (x0 ++ ([(x1.getD x3.toNat ((0 : Int), (false, (((0 : Int), ((0 : Int), (false, ((⟨#[]⟩ : ByteArray), ())))), ())))).1] : List Int)) x1 x2 (wrap64 (x3 + (1 : Int)))
        else none)
      else none)
    else some x0
noncomputable def impl_nodesOf.f (k : Nat) (a0 : (List Answer)) : Option ((List Int)) := impl_nodesOf.p7 k ([] : List Int) a0 ((a0.length : Nat) : Int) (0 : Int)
/-! impl.copyReader -/
noncomputable def impl_copyReader.f (a0 : Reader) : Option (Reader) := if (((([] : List Event).length : Nat) : Int) + ((a0.2.2.1.length : Nat) : Int)) ≤ lim then some (a0.1, (a0.2.1, ((([] : List Event) ++ a0.2.2.1), a0.2.2.2)))
  else none
/-! impl.OffOf -/
noncomputable def impl_OffOf.f (a0 : Int) : Option (Int) := (impl_PlaceOk.f a0).bind fun r1 =>
  if r1 = true then some (Int.tmod a0 (4294967296 : Int))
  else some (0 : Int)
/-! impl.isAhead -/
noncomputable def impl_isAhead.f (a0 : Int) (a1 : Reader) : Option (Bool) := (impl_EpochOf.f a0).bind fun r1 =>
  if r1 < a1.1 then some true
  else if r1 = a1.1 then ((impl_OffOf.f a0).bind fun r2 =>
    some (decide (r2 < a1.2.1)))
  else some false
/-! impl.copyInts -/
noncomputable def impl_copyInts.f (a0 : (List Int)) : Option ((List Int)) := if (((([] : List Int).length : Nat) : Int) + ((a0.length : Nat) : Int)) ≤ lim then some (([] : List Int) ++ a0)
  else none
/-! slices.DeleteFunc[[]int,int] at impl.both$1 -/
def slices_DeleteFunc_int_int_impl_both_1.okp (y : ((List Int) × Unit)) : Prop := y.1.length ≤ 1073741824
instance : DecidablePred slices_DeleteFunc_int_int_impl_both_1.okp := fun y => by unfold slices_DeleteFunc_int_int_impl_both_1.okp; infer_instance
def slices_DeleteFunc_int_int_impl_both_1.pred (y : ((List Int) × Unit)) (v : Int) : Bool := !(y.1.any fun u => decide (v = u))
noncomputable def slices_DeleteFunc_int_int_impl_both_1.f (a0 : List Int) (a1 : ((List Int) × Unit)) : Option (List Int) := if ((List.length a0 : Nat) : Int) ≤ lim ∧ slices_DeleteFunc_int_int_impl_both_1.okp a1 then some (List.filter (fun v => !slices_DeleteFunc_int_int_impl_both_1.pred a1 v) a0) else none

/-! impl.both -/
noncomputable def impl_both.f (a0 : (List Int)) (a1 : (List Int)) : Option ((List Int)) := (impl_copyInts.f a0).bind fun r1 =>
  (slices_DeleteFunc_int_int_impl_both_1.f r1 (a1, ())).bind fun r2 =>
  some r2
/-! impl.Reader).tell -/
noncomputable def impl_Reader_tell.f (a0 : Reader) (a1 : Event) : Option (Reader) := if (((a0.2.2.1.length : Nat) : Int) + ((([a1] : List Event).length : Nat) : Int)) ≤ lim then some (a0.1, (a0.2.1, ((a0.2.2.1 ++ ([a1] : List Event)), a0.2.2.2)))
  else none
/-! impl.Rest -/
noncomputable def impl_Rest.p11 : Nat → (List Int) → (List Int) → (List Int) → Int → Int → Option ((List Int))
  | 0, _, _, _, _, _ => none
  | k + 1, x0, x1, x2, x3, x4 => if x4 < x3 then (if (0 : Int) ≤ x4 ∧ x4 < ((x2.length : Nat) : Int) then ((slices_Contains_int_int.f k x0 (x2.getD x4.toNat (0 : Int))).bind fun r3 =>
        if r3 = true then impl_Rest.p11 k x0 x1 x2 x3 (wrap64 (x4 + (1 : Int)))
        else if (((x1.length : Nat) : Int) + ((([(x2.getD x4.toNat (0 : Int))] : List Int).length : Nat) : Int)) ≤ lim then impl_Rest.p11 k x0 (x1 ++ ([(x2.getD x4.toNat (0 : Int))] : List Int)) x2 x3 (wrap64 (x4 + (1 : Int)))
        else none)
      else none)
    else some x1
noncomputable def impl_Rest.f (k : Nat) (a0 : Config) (a1 : (List Int)) (a2 : (List Int)) : Option ((List Int)) := (impl_NodesOk.f k a0 a1).bind fun r1 =>
  if r1 = true then ((impl_NodesOk.f k a0 a2).bind fun r2 =>
    if r2 = true then impl_Rest.p11 k a2 ([] : List Int) a1 ((a1.length : Nat) : Int) (0 : Int)
    else some ([] : List Int))
  else some ([] : List Int)
/-! impl.Enough -/
noncomputable def impl_Enough.f (k : Nat) (a0 : Config) (a1 : (List Int)) (a2 : (List Int)) : Option (Bool) := (impl_NodesOk.f k a0 a2).bind fun r1 =>
  if r1 = true then ((impl_Holds.f k a0 a1).bind fun r2 =>
    if r2 = true then ((impl_both.f a2 a1).bind fun r3 =>
      if ((r3.length : Nat) : Int) = ((a2.length : Nat) : Int) then ((impl_Rest.f k a0 a1 a2).bind fun r4 =>
        (impl_Holds.f k a0 r4).bind fun r5 =>
        some (!(decide (r5 = true))))
      else some false)
    else some false)
  else some false
/-! impl.PlaceMake -/
noncomputable def impl_PlaceMake.f (a0 : Int) (a1 : Int) : Option (Int × Bool) := (impl_isEpoch.f a0).bind fun r1 =>
  if r1 = true then ((impl_isOff.f a1).bind fun r2 =>
    if r2 = true then some ((wrap64 ((wrap64 ((4294967296 : Int) * a0)) + a1)), true)
    else some ((0 : Int), false))
  else some ((0 : Int), false)
/-! impl.dataOk -/
noncomputable def impl_dataOk.f (a0 : ByteArray) : Option (Bool) := some (decide (((a0.size : Nat) : Int) ≤ (40 : Int)))
/-! impl.EntryOk -/
mutual
noncomputable def impl_EntryOk.p4 : Nat → Bool → Entry → Option (Bool)
  | 0, _, _ => none
  | k + 1, x0, x1 => if x1.2.2.1 = true then (if (0 : Int) < x1.2.1 then impl_EntryOk.p6 k x0 (decide (x1.2.2.2.1 = (⟨#[]⟩ : ByteArray))) x1
      else impl_EntryOk.p6 k x0 false x1)
    else impl_EntryOk.p6 k x0 true x1
noncomputable def impl_EntryOk.p6 : Nat → Bool → Bool → Entry → Option (Bool)
  | 0, _, _, _ => none
  | k + 1, x0, x1, x2 => (impl_PlaceOk.f x2.1).bind fun r3 =>
    if r3 = true then (if x0 = true then (if x1 = true then ((impl_dataOk.f x2.2.2.2.1).bind fun r4 =>
          some r4)
        else some false)
      else some false)
    else some false
end
noncomputable def impl_EntryOk.f (k : Nat) (a0 : Entry) : Option (Bool) := (impl_within.f a0.2.1 (0 : Int) (30 : Int)).bind fun r1 =>
  if r1 = true then (if a0.2.1 = (0 : Int) then impl_EntryOk.p4 k true a0
    else (impl_EpochOf.f a0.1).bind fun r2 =>
    impl_EntryOk.p4 k (decide (r2 < a0.2.1)) a0)
  else impl_EntryOk.p4 k false a0
/-! impl.Better -/
noncomputable def impl_Better.f (a0 : Entry) (a1 : Entry) : Option (Entry) := if a0.2.1 < a1.2.1 then some a1
  else some a0
/-! impl.bestOf -/
noncomputable def impl_bestOf.p7 : Nat → (List Int) → Int → Bool → (List Answer) → Int → Int → Entry → Entry → Option (Entry × Bool)
  | 0, _, _, _, _, _, _, _, _ => none
  | k + 1, x0, x1, x2, x3, x4, x5, x6, x7 => if x5 < x4 then (if (0 : Int) ≤ x5 ∧ x5 < ((x3.length : Nat) : Int) then (if (x3.getD x5.toNat ((0 : Int), (false, (((0 : Int), ((0 : Int), (false, ((⟨#[]⟩ : ByteArray), ())))), ())))).2.1 = true then ((slices_Contains_int_int.f k x0 (x3.getD x5.toNat ((0 : Int), (false, (((0 : Int), ((0 : Int), (false, ((⟨#[]⟩ : ByteArray), ())))), ())))).1).bind fun r1 =>
          if r1 = true then ((impl_EntryOk.f k (x3.getD x5.toNat ((0 : Int), (false, (((0 : Int), ((0 : Int), (false, ((⟨#[]⟩ : ByteArray), ())))), ())))).2.2.1).bind fun r2 =>
            if r2 = true then (if (x3.getD x5.toNat ((0 : Int), (false, (((0 : Int), ((0 : Int), (false, ((⟨#[]⟩ : ByteArray), ())))), ())))).2.2.1.1 = x1 then (if x2 = true then ((impl_Better.f x7 (x3.getD x5.toNat ((0 : Int), (false, (((0 : Int), ((0 : Int), (false, ((⟨#[]⟩ : ByteArray), ())))), ())))).2.2.1).bind fun r3 =>
                  impl_bestOf.p7 k x0 x1 true x3 x4 (wrap64 (x5 + (1 : Int))) x6 r3)
                else (impl_Better.f (x3.getD x5.toNat ((0 : Int), (false, (((0 : Int), ((0 : Int), (false, ((⟨#[]⟩ : ByteArray), ())))), ())))).2.2.1 (x3.getD x5.toNat ((0 : Int), (false, (((0 : Int), ((0 : Int), (false, ((⟨#[]⟩ : ByteArray), ())))), ())))).2.2.1).bind fun r4 =>
                impl_bestOf.p7 k x0 x1 true x3 x4 (wrap64 (x5 + (1 : Int))) x6 r4)
              else impl_bestOf.p7 k x0 x1 x2 x3 x4 (wrap64 (x5 + (1 : Int))) x6 x7)
            else impl_bestOf.p7 k x0 x1 x2 x3 x4 (wrap64 (x5 + (1 : Int))) x6 x7)
          else impl_bestOf.p7 k x0 x1 x2 x3 x4 (wrap64 (x5 + (1 : Int))) x6 x7)
        else impl_bestOf.p7 k x0 x1 x2 x3 x4 (wrap64 (x5 + (1 : Int))) x6 x7)
      else none)
    else some (x7, x2)
noncomputable def impl_bestOf.f (k : Nat) (a0 : (List Answer)) (a1 : (List Int)) (a2 : Int) : Option (Entry × Bool) := impl_bestOf.p7 k a1 a2 false a0 ((a0.length : Nat) : Int) (0 : Int) ((0 : Int), ((0 : Int), (false, ((⟨#[]⟩ : ByteArray), ())))) ((0 : Int), ((0 : Int), (false, ((⟨#[]⟩ : ByteArray), ()))))
/-! impl.Reader).found -/
noncomputable def impl_Reader_found.f (k : Nat) (a0 : Reader) (a1 : (List Answer)) (a2 : (List Int)) : Option (Reader) := (impl_PlaceMake.f a0.1 a0.2.1).bind fun r1 =>
  (impl_bestOf.f k a1 a2 r1.1).bind fun r2 =>
  if r2.2 = true then (if r2.1.2.2.1 = true then ((impl_Reader_tell.f a0 ((2 : Int), (r1.1, ((⟨#[]⟩ : ByteArray), ())))).bind fun r3 =>
      some (r3.1, ((wrap64 (r3.2.1 + (1 : Int))), r3.2.2)))
    else (impl_Reader_tell.f a0 ((1 : Int), (r1.1, (r2.1.2.2.2.1, ())))).bind fun r4 =>
    some (r4.1, ((wrap64 (r4.2.1 + (1 : Int))), r4.2.2)))
  else (impl_Reader_tell.f a0 ((3 : Int), (r1.1, ((⟨#[]⟩ : ByteArray), ())))).bind fun r5 =>
  some (r5.1, ((wrap64 (r5.2.1 + (1 : Int))), r5.2.2))
/-! impl.ReaderNext -/
noncomputable def impl_ReaderNext.p20 : Nat → Int → (List Answer) → Config → Register → Reader → Reader → Reader → Option (Reader × Int)
  | 0, _, _, _, _, _, _, _ => none
  | k + 1, x0, x1, x2, x3, x4, x5, x6 => if (0 : Int) ≤ (wrap64 (x4.1 - (1 : Int))) ∧ (wrap64 (x4.1 - (1 : Int))) < ((x3.1.length : Nat) : Int) then ((impl_nodesOf.f k x1).bind fun r10 =>
      (impl_both.f r10 (x3.1.getD (wrap64 (x4.1 - (1 : Int))).toNat (([] : List Int), (false, ((0 : Int), ())))).1).bind fun r11 =>
      if (x3.1.getD (wrap64 (x4.1 - (1 : Int))).toNat (([] : List Int), (false, ((0 : Int), ())))).2.1 = true then (if (x3.1.getD (wrap64 (x4.1 - (1 : Int))).toNat (([] : List Int), (false, ((0 : Int), ())))).2.2.1 < x4.2.1 then ((impl_Reader_tell.f x6 ((4 : Int), ((wrap64 (x4.1 + (1 : Int))), ((⟨#[]⟩ : ByteArray), ())))).bind fun r12 =>
          some (((wrap64 (x4.1 + (1 : Int))), ((1 : Int), r12.2.2)), (0 : Int)))
        else if (x3.1.getD (wrap64 (x4.1 - (1 : Int))).toNat (([] : List Int), (false, ((0 : Int), ())))).2.1 = true then (if (60 : Int) < x4.2.1 then some (x6, (2 : Int))
          else (impl_Enough.f k x2 (x3.1.getD (wrap64 (x4.1 - (1 : Int))).toNat (([] : List Int), (false, ((0 : Int), ())))).1 r11).bind fun r13 =>
          if r13 = true then ((impl_Reader_found.f k x6 x1 r11).bind fun r14 =>
            some (r14, (0 : Int)))
          else some (x6, (3 : Int)))
        else if x0 < x4.2.1 then some (x6, (2 : Int))
        else if (60 : Int) < x4.2.1 then some (x6, (2 : Int))
        else (impl_Enough.f k x2 (x3.1.getD (wrap64 (x4.1 - (1 : Int))).toNat (([] : List Int), (false, ((0 : Int), ())))).1 r11).bind fun r15 =>
        if r15 = true then ((impl_Reader_found.f k x6 x1 r11).bind fun r16 =>
          some (r16, (0 : Int)))
        else some (x6, (3 : Int)))
      else if (x3.1.getD (wrap64 (x4.1 - (1 : Int))).toNat (([] : List Int), (false, ((0 : Int), ())))).2.1 = true then (if (60 : Int) < x4.2.1 then some (x6, (2 : Int))
        else (impl_Enough.f k x2 (x3.1.getD (wrap64 (x4.1 - (1 : Int))).toNat (([] : List Int), (false, ((0 : Int), ())))).1 r11).bind fun r17 =>
        if r17 = true then ((impl_Reader_found.f k x6 x1 r11).bind fun r18 =>
          some (r18, (0 : Int)))
        else some (x6, (3 : Int)))
      else if x0 < x4.2.1 then some (x6, (2 : Int))
      else if (60 : Int) < x4.2.1 then some (x6, (2 : Int))
      else (impl_Enough.f k x2 (x3.1.getD (wrap64 (x4.1 - (1 : Int))).toNat (([] : List Int), (false, ((0 : Int), ())))).1 r11).bind fun r19 =>
      if r19 = true then ((impl_Reader_found.f k x6 x1 r11).bind fun r20 =>
        some (r20, (0 : Int)))
      else some (x6, (3 : Int)))
    else none
noncomputable def impl_ReaderNext.f (k : Nat) (a0 : Config) (a1 : Register) (a2 : Int) (a3 : Reader) (a4 : (List Answer)) : Option (Reader × Int) := (impl_RegOk.f k a0 a1).bind fun r1 =>
  if r1 = true then ((impl_ReaderOk.f a3).bind fun r2 =>
    if r2 = true then ((impl_nodesOf.f k a4).bind fun r3 =>
      (impl_NodesOk.f k a0 r3).bind fun r4 =>
      if r4 = true then ((impl_copyReader.f a3).bind fun r5 =>
        if ((a1.1.length : Nat) : Int) < a3.1 then some (r5, (2 : Int))
        else if ((a3.2.2.1.length : Nat) : Int) = (120 : Int) then some (r5, (2 : Int))
        else if (0 : Int) < a1.2.1 then ((impl_isAhead.f a1.2.1 a3).bind fun r6 =>
          if r6 = true then impl_ReaderNext.p20 k a2 a4 a0 a1 a3 ((0 : Int), ((0 : Int), (([] : List Event), ()))) r5
          else (impl_Reader_tell.f r5 ((5 : Int), (a1.2.1, ((⟨#[]⟩ : ByteArray), ())))).bind fun r7 =>
          (impl_EpochOf.f a1.2.1).bind fun r8 =>
          (impl_OffOf.f a1.2.1).bind fun r9 =>
          some ((r8, ((wrap64 (r9 + (1 : Int))), r7.2.2)), (0 : Int)))
        else impl_ReaderNext.p20 k a2 a4 a0 a1 a3 ((0 : Int), ((0 : Int), (([] : List Event), ()))) r5)
      else some (((0 : Int), ((0 : Int), (([] : List Event), ()))), (1 : Int)))
    else some (((0 : Int), ((0 : Int), (([] : List Event), ()))), (1 : Int)))
  else some (((0 : Int), ((0 : Int), (([] : List Event), ()))), (1 : Int))
/-! laws.eqEvent -/
noncomputable def laws_eqEvent.f (a0 : Event) (a1 : Event) : Option (Bool) := if a0.1 = a1.1 then (if a0.2.1 = a1.2.1 then (if a0.2.2.1 = a1.2.2.1 then some true
      else some false)
    else some false)
  else some false
/-! laws.eqEventS -/
noncomputable def laws_eqEventS.p9 : Nat → (List Event) → (List Event) → Int → Option (Bool)
  | 0, _, _, _ => none
  | k + 1, x0, x1, x2 => if x2 < ((x0.length : Nat) : Int) then (if (0 : Int) ≤ x2 ∧ x2 < ((x0.length : Nat) : Int) then (if (0 : Int) ≤ x2 ∧ x2 < ((x1.length : Nat) : Int) then ((laws_eqEvent.f (x0.getD x2.toNat ((0 : Int), ((0 : Int), ((⟨#[]⟩ : ByteArray), ())))) (x1.getD x2.toNat ((0 : Int), ((0 : Int), ((⟨#[]⟩ : ByteArray), ()))))).bind fun r1 =>
          if r1 = true then laws_eqEventS.p9 k x0 x1 (wrap64 (x2 + (1 : Int)))
          else some false)
        else none)
      else none)
    else some true
noncomputable def laws_eqEventS.f (k : Nat) (a0 : (List Event)) (a1 : (List Event)) : Option (Bool) := if ((a0.length : Nat) : Int) = ((a1.length : Nat) : Int) then laws_eqEventS.p9 k a0 a1 (0 : Int)
  else some false
/-! laws.eqReader -/
noncomputable def laws_eqReader.f (k : Nat) (a0 : Reader) (a1 : Reader) : Option (Bool) := if a0.1 = a1.1 then (if a0.2.1 = a1.2.1 then ((laws_eqEventS.f k a0.2.2.1 a1.2.2.1).bind fun r1 =>
      if r1 = true then some true
      else some false)
    else some false)
  else some false
/-! laws.eqIntS -/
noncomputable def laws_eqIntS.p9 : Nat → (List Int) → (List Int) → Int → Option (Bool)
  | 0, _, _, _ => none
  | k + 1, x0, x1, x2 => if x2 < ((x0.length : Nat) : Int) then (if (0 : Int) ≤ x2 ∧ x2 < ((x0.length : Nat) : Int) then (if (0 : Int) ≤ x2 ∧ x2 < ((x1.length : Nat) : Int) then (if (x0.getD x2.toNat (0 : Int)) = (x1.getD x2.toNat (0 : Int)) then laws_eqIntS.p9 k x0 x1 (wrap64 (x2 + (1 : Int)))
          else some false)
        else none)
      else none)
    else some true
noncomputable def laws_eqIntS.f (k : Nat) (a0 : (List Int)) (a1 : (List Int)) : Option (Bool) := if ((a0.length : Nat) : Int) = ((a1.length : Nat) : Int) then laws_eqIntS.p9 k a0 a1 (0 : Int)
  else some false
/-! laws.eqConfig -/
noncomputable def laws_eqConfig.f (k : Nat) (a0 : Config) (a1 : Config) : Option (Bool) := (laws_eqIntS.f k a0.1 a1.1).bind fun r1 =>
  if r1 = true then (if a0.2.1 = a1.2.1 then some true
    else some false)
  else some false
/-! laws.eqEra -/
noncomputable def laws_eqEra.f (k : Nat) (a0 : Era) (a1 : Era) : Option (Bool) := (laws_eqIntS.f k a0.1 a1.1).bind fun r1 =>
  if r1 = true then (if a0.2.1 = a1.2.1 then (if a0.2.2.1 = a1.2.2.1 then some true
      else some false)
    else some false)
  else some false
/-! laws.eqEraS -/
noncomputable def laws_eqEraS.p9 : Nat → (List Era) → (List Era) → Int → Option (Bool)
  | 0, _, _, _ => none
  | k + 1, x0, x1, x2 => if x2 < ((x0.length : Nat) : Int) then (if (0 : Int) ≤ x2 ∧ x2 < ((x0.length : Nat) : Int) then (if (0 : Int) ≤ x2 ∧ x2 < ((x1.length : Nat) : Int) then ((laws_eqEra.f k (x0.getD x2.toNat (([] : List Int), (false, ((0 : Int), ())))) (x1.getD x2.toNat (([] : List Int), (false, ((0 : Int), ()))))).bind fun r1 =>
          if r1 = true then laws_eqEraS.p9 k x0 x1 (wrap64 (x2 + (1 : Int)))
          else some false)
        else none)
      else none)
    else some true
noncomputable def laws_eqEraS.f (k : Nat) (a0 : (List Era)) (a1 : (List Era)) : Option (Bool) := if ((a0.length : Nat) : Int) = ((a1.length : Nat) : Int) then laws_eqEraS.p9 k a0 a1 (0 : Int)
  else some false
/-! laws.eqRegister -/
noncomputable def laws_eqRegister.f (k : Nat) (a0 : Register) (a1 : Register) : Option (Bool) := (laws_eqEraS.f k a0.1 a1.1).bind fun r1 =>
  if r1 = true then (if a0.2.1 = a1.2.1 then some true
    else some false)
  else some false
/-! laws.eqEntry -/
noncomputable def laws_eqEntry.f (a0 : Entry) (a1 : Entry) : Option (Bool) := if a0.1 = a1.1 then (if a0.2.1 = a1.2.1 then (if a0.2.2.1 = a1.2.2.1 then (if a0.2.2.2.1 = a1.2.2.2.1 then some true
        else some false)
      else some false)
    else some false)
  else some false
/-! laws.eqAnswer -/
noncomputable def laws_eqAnswer.f (a0 : Answer) (a1 : Answer) : Option (Bool) := if a0.1 = a1.1 then (if a0.2.1 = a1.2.1 then ((laws_eqEntry.f a0.2.2.1 a1.2.2.1).bind fun r1 =>
      if r1 = true then some true
      else some false)
    else some false)
  else some false
/-! laws.eqAnswerS -/
noncomputable def laws_eqAnswerS.p9 : Nat → (List Answer) → (List Answer) → Int → Option (Bool)
  | 0, _, _, _ => none
  | k + 1, x0, x1, x2 => if x2 < ((x0.length : Nat) : Int) then (if (0 : Int) ≤ x2 ∧ x2 < ((x0.length : Nat) : Int) then (if (0 : Int) ≤ x2 ∧ x2 < ((x1.length : Nat) : Int) then ((laws_eqAnswer.f (x0.getD x2.toNat ((0 : Int), (false, (((0 : Int), ((0 : Int), (false, ((⟨#[]⟩ : ByteArray), ())))), ())))) (x1.getD x2.toNat ((0 : Int), (false, (((0 : Int), ((0 : Int), (false, ((⟨#[]⟩ : ByteArray), ())))), ()))))).bind fun r1 =>
          if r1 = true then laws_eqAnswerS.p9 k x0 x1 (wrap64 (x2 + (1 : Int)))
          else some false)
        else none)
      else none)
    else some true
noncomputable def laws_eqAnswerS.f (k : Nat) (a0 : (List Answer)) (a1 : (List Answer)) : Option (Bool) := if ((a0.length : Nat) : Int) = ((a1.length : Nat) : Int) then laws_eqAnswerS.p9 k a0 a1 (0 : Int)
  else some false
/-! laws.markIntS -/
noncomputable def laws_markIntS.p5 : Nat → (List Int) → Int → Int → Option (Int × (List Int))
  | 0, _, _, _ => none
  | k + 1, x0, x1, x2 => if x2 < ((x0.length : Nat) : Int) then (if (0 : Int) ≤ x2 ∧ x2 < ((x0.length : Nat) : Int) then laws_markIntS.p5 k (x0.set x2.toNat x1) (wrap64 (x1 + (1 : Int))) (wrap64 (x2 + (1 : Int)))
      else none)
    else some (x1, x0)
noncomputable def laws_markIntS.f (k : Nat) (a0 : (List Int)) (a1 : Int) : Option (Int × (List Int)) := laws_markIntS.p5 k a0 a1 (0 : Int)
/-! laws.markConfig -/
noncomputable def laws_markConfig.f (k : Nat) (a0 : Config) (a1 : Int) : Option (Int × Config) := (laws_markIntS.f k a0.1 a1).bind fun r1 =>
  some (r1.1, (r1.2, a0.2))
/-! laws.markEraS -/
noncomputable def laws_markEraS.p5 : Nat → (List Era) → Int → Int → Option (Int × (List Era))
  | 0, _, _, _ => none
  | k + 1, x0, x1, x2 => if x2 < ((x0.length : Nat) : Int) then (if (0 : Int) ≤ x2 ∧ x2 < ((x0.length : Nat) : Int) then ((laws_markIntS.f k (x0.getD x2.toNat (([] : List Int), (false, ((0 : Int), ())))).1 x1).bind fun r1 =>
        if (0 : Int) ≤ x2 ∧ x2 < (((x0.set x2.toNat (r1.2, (x0.getD x2.toNat (([] : List Int), (false, ((0 : Int), ())))).2)).length : Nat) : Int) then (if (0 : Int) ≤ x2 ∧ x2 < ((((x0.set x2.toNat (r1.2, (x0.getD x2.toNat (([] : List Int), (false, ((0 : Int), ())))).2)).set x2.toNat (((x0.set x2.toNat (r1.2, (x0.getD x2.toNat (([] : List Int), (false, ((0 : Int), ())))).2)).getD x2.toNat (([] : List Int), (false, ((0 : Int), ())))).1, ((decide ((Int.tmod r1.1 (3 : Int)) = (0 : Int))), ((x0.set x2.toNat (r1.2, (x0.getD x2.toNat (([] : List Int), (false, ((0 : Int), ())))).2)).getD x2.toNat (([] : List Int), (false, ((0 : Int), ())))).2.2))).length : Nat) : Int) then laws_markEraS.p5 k (((x0.set x2.toNat (r1.2, (x0.getD x2.toNat (([] : List Int), (false, ((0 : Int), ())))).2)).set x2.toNat (((x0.set x2.toNat (r1.2, (x0.getD x2.toNat (([] : List Int), (false, ((0 : Int), ())))).2)).getD x2.toNat (([] : List Int), (false, ((0 : Int), ())))).1, ((decide ((Int.tmod r1.1 (3 : Int)) = (0 : Int))), ((x0.set x2.toNat (r1.2, (x0.getD x2.toNat (([] : List Int), (false, ((0 : Int), ())))).2)).getD x2.toNat (([] : List Int), (false, ((0 : Int), ())))).2.2))).set x2.toNat ((((x0.set x2.toNat (r1.2, (x0.getD x2.toNat (([] : List Int), (false, ((0 : Int), ())))).2)).set x2.toNat (((x0.set x2.toNat (r1.2, (x0.getD x2.toNat (([] : List Int), (false, ((0 : Int), ())))).2)).getD x2.toNat (([] : List Int), (false, ((0 : Int), ())))).1, ((decide ((Int.tmod r1.1 (3 : Int)) = (0 : Int))), ((x0.set x2.toNat (r1.2, (x0.getD x2.toNat (([] : List Int), (false, ((0 : Int), ())))).2)).getD x2.toNat (([] : List Int), (false, ((0 : Int), ())))).2.2))).getD x2.toNat (([] : List Int), (false, ((0 : Int), ())))).1, ((((x0.set x2.toNat (r1.2, (x0.getD x2.toNat (([] : List Int), (false, ((0 : Int), ())))).2)).set x2.toNat (((x0.set x2.toNat (r1.2, (x0.getD x2.toNat (([] : List Int), (false, ((0 : Int), ())))).2)).getD x2.toNat (([] : List Int), (false, ((0 : Int), ())))).1, ((decide ((Int.tmod r1.1 (3 : Int)) = (0 : Int))), ((x0.set x2.toNat (r1.2, (x0.getD x2.toNat (([] : List Int), (false, ((0 : Int), ())))).2)).getD x2.toNat (([] : List Int), (false, ((0 : Int), ())))).2.2))).getD x2.toNat (([] : List Int), (false, ((0 : Int), ())))).2.1, ((wrap64 (r1.1 + (1 : Int))), (((x0.set x2.toNat (r1.2, (x0.getD x2.toNat (([] : List Int), (false, ((0 : Int), ())))).2)).set x2.toNat (((x0.set x2.toNat (r1.2, (x0.getD x2.toNat (([] : List Int), (false, ((0 : Int), ())))).2)).getD x2.toNat (([] : List Int), (false, ((0 : Int), ())))).1, ((decide ((Int.tmod r1.1 (3 : Int)) = (0 : Int))), ((x0.set x2.toNat (r1.2, (x0.getD x2.toNat (([] : List Int), (false, ((0 : Int), ())))).2)).getD x2.toNat (([] : List Int), (false, ((0 : Int), ())))).2.2))).getD x2.toNat (([] : List Int), (false, ((0 : Int), ())))).2.2.2)))) (wrap64 ((wrap64 (r1.1 + (1 : Int))) + (1 : Int))) (wrap64 (x2 + (1 : Int)))
          else none)
        else none)
      else none)
    else some (x1, x0)
noncomputable def laws_markEraS.f (k : Nat) (a0 : (List Era)) (a1 : Int) : Option (Int × (List Era)) := laws_markEraS.p5 k a0 a1 (0 : Int)
/-! laws.markRegister -/
noncomputable def laws_markRegister.f (k : Nat) (a0 : Register) (a1 : Int) : Option (Int × Register) := (laws_markEraS.f k a0.1 a1).bind fun r1 =>
  some (r1.1, (r1.2, a0.2))
/-! laws.markText -/
noncomputable def laws_markText.p9 : Nat → Int → ByteArray → Option (ByteArray)
  | 0, _, _ => none
  | k + 1, x0, x1 => if (0 : Int) < x0 then (if ((((bytesOf ([(IntKind.wrap .u8 ((wrap64 ((48 : Int) + (Int.tmod x0 (10 : Int))))))] : List Int)).size : Nat) : Int) + ((x1.size : Nat) : Int)) ≤ (9223372036854775807 : Int) then laws_markText.p9 k (wrap64 ((Int.tdiv x0 (10 : Int)))) ((bytesOf ([(IntKind.wrap .u8 ((wrap64 ((48 : Int) + (Int.tmod x0 (10 : Int))))))] : List Int)) ++ x1)
      else none)
    else if ((((⟨#[109]⟩ : ByteArray).size : Nat) : Int) + ((x1.size : Nat) : Int)) ≤ (9223372036854775807 : Int) then some ((⟨#[109]⟩ : ByteArray) ++ x1)
    else none
noncomputable def laws_markText.f (k : Nat) (a0 : Int) : Option (ByteArray) := if a0 ≤ (0 : Int) then some (⟨#[109, 48]⟩ : ByteArray)
  else laws_markText.p9 k a0 (⟨#[]⟩ : ByteArray)
/-! laws.markEventS -/
noncomputable def laws_markEventS.p5 : Nat → (List Event) → Int → Int → Option (Int × (List Event))
  | 0, _, _, _ => none
  | k + 1, x0, x1, x2 => if x2 < ((x0.length : Nat) : Int) then (if (0 : Int) ≤ x2 ∧ x2 < ((x0.length : Nat) : Int) then (if (0 : Int) ≤ x2 ∧ x2 < (((x0.set x2.toNat (x1, (x0.getD x2.toNat ((0 : Int), ((0 : Int), ((⟨#[]⟩ : ByteArray), ())))).2)).length : Nat) : Int) then ((laws_markText.f k (wrap64 ((wrap64 (x1 + (1 : Int))) + (1 : Int)))).bind fun r1 =>
          if (0 : Int) ≤ x2 ∧ x2 < ((((x0.set x2.toNat (x1, (x0.getD x2.toNat ((0 : Int), ((0 : Int), ((⟨#[]⟩ : ByteArray), ())))).2)).set x2.toNat (((x0.set x2.toNat (x1, (x0.getD x2.toNat ((0 : Int), ((0 : Int), ((⟨#[]⟩ : ByteArray), ())))).2)).getD x2.toNat ((0 : Int), ((0 : Int), ((⟨#[]⟩ : ByteArray), ())))).1, ((wrap64 (x1 + (1 : Int))), ((x0.set x2.toNat (x1, (x0.getD x2.toNat ((0 : Int), ((0 : Int), ((⟨#[]⟩ : ByteArray), ())))).2)).getD x2.toNat ((0 : Int), ((0 : Int), ((⟨#[]⟩ : ByteArray), ())))).2.2))).length : Nat) : Int) then laws_markEventS.p5 k (((x0.set x2.toNat (x1, (x0.getD x2.toNat ((0 : Int), ((0 : Int), ((⟨#[]⟩ : ByteArray), ())))).2)).set x2.toNat (((x0.set x2.toNat (x1, (x0.getD x2.toNat ((0 : Int), ((0 : Int), ((⟨#[]⟩ : ByteArray), ())))).2)).getD x2.toNat ((0 : Int), ((0 : Int), ((⟨#[]⟩ : ByteArray), ())))).1, ((wrap64 (x1 + (1 : Int))), ((x0.set x2.toNat (x1, (x0.getD x2.toNat ((0 : Int), ((0 : Int), ((⟨#[]⟩ : ByteArray), ())))).2)).getD x2.toNat ((0 : Int), ((0 : Int), ((⟨#[]⟩ : ByteArray), ())))).2.2))).set x2.toNat ((((x0.set x2.toNat (x1, (x0.getD x2.toNat ((0 : Int), ((0 : Int), ((⟨#[]⟩ : ByteArray), ())))).2)).set x2.toNat (((x0.set x2.toNat (x1, (x0.getD x2.toNat ((0 : Int), ((0 : Int), ((⟨#[]⟩ : ByteArray), ())))).2)).getD x2.toNat ((0 : Int), ((0 : Int), ((⟨#[]⟩ : ByteArray), ())))).1, ((wrap64 (x1 + (1 : Int))), ((x0.set x2.toNat (x1, (x0.getD x2.toNat ((0 : Int), ((0 : Int), ((⟨#[]⟩ : ByteArray), ())))).2)).getD x2.toNat ((0 : Int), ((0 : Int), ((⟨#[]⟩ : ByteArray), ())))).2.2))).getD x2.toNat ((0 : Int), ((0 : Int), ((⟨#[]⟩ : ByteArray), ())))).1, ((((x0.set x2.toNat (x1, (x0.getD x2.toNat ((0 : Int), ((0 : Int), ((⟨#[]⟩ : ByteArray), ())))).2)).set x2.toNat (((x0.set x2.toNat (x1, (x0.getD x2.toNat ((0 : Int), ((0 : Int), ((⟨#[]⟩ : ByteArray), ())))).2)).getD x2.toNat ((0 : Int), ((0 : Int), ((⟨#[]⟩ : ByteArray), ())))).1, ((wrap64 (x1 + (1 : Int))), ((x0.set x2.toNat (x1, (x0.getD x2.toNat ((0 : Int), ((0 : Int), ((⟨#[]⟩ : ByteArray), ())))).2)).getD x2.toNat ((0 : Int), ((0 : Int), ((⟨#[]⟩ : ByteArray), ())))).2.2))).getD x2.toNat ((0 : Int), ((0 : Int), ((⟨#[]⟩ : ByteArray), ())))).2.1, (r1, (((x0.set x2.toNat (x1, (x0.getD x2.toNat ((0 : Int), ((0 : Int), ((⟨#[]⟩ : ByteArray), ())))).2)).set x2.toNat (((x0.set x2.toNat (x1, (x0.getD x2.toNat ((0 : Int), ((0 : Int), ((⟨#[]⟩ : ByteArray), ())))).2)).getD x2.toNat ((0 : Int), ((0 : Int), ((⟨#[]⟩ : ByteArray), ())))).1, ((wrap64 (x1 + (1 : Int))), ((x0.set x2.toNat (x1, (x0.getD x2.toNat ((0 : Int), ((0 : Int), ((⟨#[]⟩ : ByteArray), ())))).2)).getD x2.toNat ((0 : Int), ((0 : Int), ((⟨#[]⟩ : ByteArray), ())))).2.2))).getD x2.toNat ((0 : Int), ((0 : Int), ((⟨#[]⟩ : ByteArray), ())))).2.2.2)))) (wrap64 ((wrap64 ((wrap64 (x1 + (1 : Int))) + (1 : Int))) + (1 : Int))) (wrap64 (x2 + (1 : Int)))
          else none)
        else none)
      else none)
    else some (x1, x0)
noncomputable def laws_markEventS.f (k : Nat) (a0 : (List Event)) (a1 : Int) : Option (Int × (List Event)) := laws_markEventS.p5 k a0 a1 (0 : Int)
/-! laws.markReader -/
noncomputable def laws_markReader.f (k : Nat) (a0 : Reader) (a1 : Int) : Option (Int × Reader) := (laws_markEventS.f k a0.2.2.1 a1).bind fun r1 =>
  some (r1.1, (a0.1, (a0.2.1, (r1.2, a0.2.2.2))))
/-! laws.markAnswerS -/
noncomputable def laws_markAnswerS.p5 : Nat → (List Answer) → Int → Int → Option (Int × (List Answer))
  | 0, _, _, _ => none
  | k + 1, x0, x1, x2 => if x2 < ((x0.length : Nat) : Int) then (if (0 : Int) ≤ x2 ∧ x2 < ((x0.length : Nat) : Int) then (if (0 : Int) ≤ x2 ∧ x2 < (((x0.set x2.toNat (x1, (x0.getD x2.toNat ((0 : Int), (false, (((0 : Int), ((0 : Int), (false, ((⟨#[]⟩ : ByteArray), ())))), ())))).2)).length : Nat) : Int) then (if (0 : Int) ≤ x2 ∧ x2 < ((((x0.set x2.toNat (x1, (x0.getD x2.toNat ((0 : Int), (false, (((0 : Int), ((0 : Int), (false, ((⟨#[]⟩ : ByteArray), ())))), ())))).2)).set x2.toNat (((x0.set x2.toNat (x1, (x0.getD x2.toNat ((0 : Int), (false, (((0 : Int), ((0 : Int), (false, ((⟨#[]⟩ : ByteArray), ())))), ())))).2)).getD x2.toNat ((0 : Int), (false, (((0 : Int), ((0 : Int), (false, ((⟨#[]⟩ : ByteArray), ())))), ())))).1, ((decide ((Int.tmod (wrap64 (x1 + (1 : Int))) (3 : Int)) = (0 : Int))), ((x0.set x2.toNat (x1, (x0.getD x2.toNat ((0 : Int), (false, (((0 : Int), ((0 : Int), (false, ((⟨#[]⟩ : ByteArray), ())))), ())))).2)).getD x2.toNat ((0 : Int), (false, (((0 : Int), ((0 : Int), (false, ((⟨#[]⟩ : ByteArray), ())))), ())))).2.2))).length : Nat) : Int) then (if (0 : Int) ≤ x2 ∧ x2 < (((((x0.set x2.toNat (x1, (x0.getD x2.toNat ((0 : Int), (false, (((0 : Int), ((0 : Int), (false, ((⟨#[]⟩ : ByteArray), ())))), ())))).2)).set x2.toNat (((x0.set x2.toNat (x1, (x0.getD x2.toNat ((0 : Int), (false, (((0 : Int), ((0 : Int), (false, ((⟨#[]⟩ : ByteArray), ())))), ())))).2)).getD x2.toNat ((0 : Int), (false, (((0 : Int), ((0 : Int), (false, ((⟨#[]⟩ : ByteArray), ())))), ())))).1, ((decide ((Int.tmod (wrap64 (x1 + (1 : Int))) (3 : Int)) = (0 : Int))), ((x0.set x2.toNat (x1, (x0.getD x2.toNat ((0 : Int), (false, (((0 : Int), ((0 : Int), (false, ((⟨#[]⟩ : ByteArray), ())))), ())))).2)).getD x2.toNat ((0 : Int), (false, (((0 : Int), ((0 : Int), (false, ((⟨#[]⟩ : ByteArray), ())))), ())))).2.2))).set x2.toNat ((((x0.set x2.toNat (x1, (x0.getD x2.toNat ((0 : Int), (false, (((0 : Int), ((0 : Int), (false, ((⟨#[]⟩ : ByteArray), ())))), ())))).2)).set x2.toNat (((x0.set x2.toNat (x1, (x0.getD x2.toNat ((0 : Int), (false, (((0 : Int), ((0 : Int), (false, ((⟨#[]⟩ : ByteArray), ())))), ())))).2)).getD x2.toNat ((0 : Int), (false, (((0 : Int), ((0 : Int), (false, ((⟨#[]⟩ : ByteArray), ())))), ())))).1, ((decide ((Int.tmod (wrap64 (x1 + (1 : Int))) (3 : Int)) = (0 : Int))), ((x0.set x2.toNat (x1, (x0.getD x2.toNat ((0 : Int), (false, (((0 : Int), ((0 : Int), (false, ((⟨#[]⟩ : ByteArray), ())))), ())))).2)).getD x2.toNat ((0 : Int), (false, (((0 : Int), ((0 : Int), (false, ((⟨#[]⟩ : ByteArray), ())))), ())))).2.2))).getD x2.toNat ((0 : Int), (false, (((0 : Int), ((0 : Int), (false, ((⟨#[]⟩ : ByteArray), ())))), ())))).1, ((((x0.set x2.toNat (x1, (x0.getD x2.toNat ((0 : Int), (false, (((0 : Int), ((0 : Int), (false, ((⟨#[]⟩ : ByteArray), ())))), ())))).2)).set x2.toNat (((x0.set x2.toNat (x1, (x0.getD x2.toNat ((0 : Int), (false, (((0 : Int), ((0 : Int), (false, ((⟨#[]⟩ : ByteArray), ())))), ())))).2)).getD x2.toNat ((0 : Int), (false, (((0 : Int), ((0 : Int), (false, ((⟨#[]⟩ : ByteArray), ())))), ())))).1, ((decide ((Int.tmod (wrap64 (x1 + (1 : Int))) (3 : Int)) = (0 : Int))), ((x0.set x2.toNat (x1, (x0.getD x2.toNat ((0 : Int), (false, (((0 : Int), ((0 : Int), (false, ((⟨#[]⟩ : ByteArray), ())))), ())))).2)).getD x2.toNat ((0 : Int), (false, (((0 : Int), ((0 : Int), (false, ((⟨#[]⟩ : ByteArray), ())))), ())))).2.2))).getD x2.toNat ((0 : Int), (false, (((0 : Int), ((0 : Int), (false, ((⟨#[]⟩ : ByteArray), ())))), ())))).2.1, (((wrap64 ((wrap64 (x1 + (1 : Int))) + (1 : Int))), (((x0.set x2.toNat (x1, (x0.getD x2.toNat ((0 : Int), (false, (((0 : Int), ((0 : Int), (false, ((⟨#[]⟩ : ByteArray), ())))), ())))).2)).set x2.toNat (((x0.set x2.toNat (x1, (x0.getD x2.toNat ((0 : Int), (false, (((0 : Int), ((0 : Int), (false, ((⟨#[]⟩ : ByteArray), ())))), ())))).2)).getD x2.toNat ((0 : Int), (false, (((0 : Int), ((0 : Int), (false, ((⟨#[]⟩ : ByteArray), ())))), ())))).1, ((decide ((Int.tmod (wrap64 (x1 + (1 : Int))) (3 : Int)) = (0 : Int))), ((x0.set x2.toNat (x1, (x0.getD x2.toNat ((0 : Int), (false, (((0 : Int), ((0 : Int), (false, ((⟨#[]⟩ : ByteArray), ())))), ())))).2)).getD x2.toNat ((0 : Int), (false, (((0 : Int), ((0 : Int), (false, ((⟨#[]⟩ : ByteArray), ())))), ())))).2.2))).getD x2.toNat ((0 : Int), (false, (((0 : Int), ((0 : Int), (false, ((⟨#[]⟩ : ByteArray), ())))), ())))).2.2.1.2), (((x0.set x2.toNat (x1, (x0.getD x2.toNat ((0 : Int), (false, (((0 : Int), ((0 : Int), (false, ((⟨#[]⟩ : ByteArray), ())))), ())))).2)).set x2.toNat (((x0.set x2.toNat (x1, (x0.getD x2.toNat ((0 : Int), (false, (((0 : Int), ((0 : Int), (false, ((⟨#[]⟩ : ByteArray), ())))), ())))).2)).getD x2.toNat ((0 : Int), (false, (((0 : Int), ((0 : Int), (false, ((⟨#[]⟩ : ByteArray), ())))), ())))).1, ((decide ((Int.tmod (wrap64 (x1 + (1 : Int))) (3 : Int)) = (0 : Int))), ((x0.set x2.toNat (x1, (x0.getD x2.toNat ((0 : Int), (false, (((0 : Int), ((0 : Int), (false, ((⟨#[]⟩ : ByteArray), ())))), ())))).2)).getD x2.toNat ((0 : Int), (false, (((0 : Int), ((0 : Int), (false, ((⟨#[]⟩ : ByteArray), ())))), ())))).2.2))).getD x2.toNat ((0 : Int), (false, (((0 : Int), ((0 : Int), (false, ((⟨#[]⟩ : ByteArray), ())))), ())))).2.2.2)))).length : Nat) : Int) then (let y1 := ((((x0.set x2.toNat (x1, (x0.getD x2.toNat ((0 : Int), (false, (((0 : Int), ((0 : Int), (false, ((⟨#[]⟩ : ByteArray), ())))), ())))).2)).set x2.toNat (((x0.set x2.toNat (x1, (x0.getD x2.toNat ((0 : Int), (false, (((0 : Int), ((0 : Int), (false, ((⟨#[]⟩ : ByteArray), ())))), ())))).2)).getD x2.toNat ((0 : Int), (false, (((0 : Int), ((0 : Int), (false, ((⟨#[]⟩ : ByteArray), ())))), ())))).1, ((decide ((Int.tmod (wrap64 (x1 + (1 : Int))) (3 : Int)) = (0 : Int))), ((x0.set x2.toNat (x1, (x0.getD x2.toNat ((0 : Int), (false, (((0 : Int), ((0 : Int), (false, ((⟨#[]⟩ : ByteArray), ())))), ())))).2)).getD x2.toNat ((0 : Int), (false, (((0 : Int), ((0 : Int), (false, ((⟨#[]⟩ : ByteArray), ())))), ())))).2.2))).set x2.toNat ((((x0.set x2.toNat (x1, (x0.getD x2.toNat ((0 : Int), (false, (((0 : Int), ((0 : Int), (false, ((⟨#[]⟩ : ByteArray), ())))), ())))).2)).set x2.toNat (((x0.set x2.toNat (x1, (x0.getD x2.toNat ((0 : Int), (false, (((0 : Int), ((0 : Int), (false, ((⟨#[]⟩ : ByteArray), ())))), ())))).2)).getD x2.toNat ((0 : Int), (false, (((0 : Int), ((0 : Int), (false, ((⟨#[]⟩ : ByteArray), ())))), ())))).1, ((decide ((Int.tmod (wrap64 (x1 + (1 : Int))) (3 : Int)) = (0 : Int))), ((x0.set x2.toNat (x1, (x0.getD x2.toNat ((0 : Int), (false, (((0 : Int), ((0 : Int), (false, ((⟨#[]⟩ : ByteArray), ())))), ())))).2)).getD x2.toNat ((0 : Int), (false, (((0 : Int), ((0 : Int), (false, ((⟨#[]⟩ : ByteArray), ())))), ())))).2.2))).getD x2.toNat ((0 : Int), (false, (((0 : Int), ((0 : Int), (false, ((⟨#[]⟩ : ByteArray), ())))), ())))).1, ((((x0.set x2.toNat (x1, (x0.getD x2.toNat ((0 : Int), (false, (((0 : Int), ((0 : Int), (false, ((⟨#[]⟩ : ByteArray), ())))), ())))).2)).set x2.toNat (((x0.set x2.toNat (x1, (x0.getD x2.toNat ((0 : Int), (false, (((0 : Int), ((0 : Int), (false, ((⟨#[]⟩ : ByteArray), ())))), ())))).2)).getD x2.toNat ((0 : Int), (false, (((0 : Int), ((0 : Int), (false, ((⟨#[]⟩ : ByteArray), ())))), ())))).1, ((decide ((Int.tmod (wrap64 (x1 + (1 : Int))) (3 : Int)) = (0 : Int))), ((x0.set x2.toNat (x1, (x0.getD x2.toNat ((0 : Int), (false, (((0 : Int), ((0 : Int), (false, ((⟨#[]⟩ : ByteArray), ())))), ())))).2)).getD x2.toNat ((0 : Int), (false, (((0 : Int), ((0 : Int), (false, ((⟨#[]⟩ : ByteArray), ())))), ())))).2.2))).getD x2.toNat ((0 : Int), (false, (((0 : Int), ((0 : Int), (false, ((⟨#[]⟩ : ByteArray), ())))), ())))).2.1, (((wrap64 ((wrap64 (x1 + (1 : Int))) + (1 : Int))), (((x0.set x2.toNat (x1, (x0.getD x2.toNat ((0 : Int), (false, (((0 : Int), ((0 : Int), (false, ((⟨#[]⟩ : ByteArray), ())))), ())))).2)).set x2.toNat (((x0.set x2.toNat (x1, (x0.getD x2.toNat ((0 : Int), (false, (((0 : Int), ((0 : Int), (false, ((⟨#[]⟩ : ByteArray), ())))), ())))).2)).getD x2.toNat ((0 : Int), (false, (((0 : Int), ((0 : Int), (false, ((⟨#[]⟩ : ByteArray), ())))), ())))).1, ((decide ((Int.tmod (wrap64 (x1 + (1 : Int))) (3 : Int)) = (0 : Int))), ((x0.set x2.toNat (x1, (x0.getD x2.toNat ((0 : Int), (false, (((0 : Int), ((0 : Int), (false, ((⟨#[]⟩ : ByteArray), ())))), ())))).2)).getD x2.toNat ((0 : Int), (false, (((0 : Int), ((0 : Int), (false, ((⟨#[]⟩ : ByteArray), ())))), ())))).2.2))).getD x2.toNat ((0 : Int), (false, (((0 : Int), ((0 : Int), (false, ((⟨#[]⟩ : ByteArray), ())))), ())))).2.2.1.2), (((x0.set x2.toNat (x1, (x0.getD x2.toNat ((0 : Int), (false, (((0 : Int), ((0 : Int), (false, ((⟨#[]⟩ : ByteArray), ())))), ())))).2)).set x2.toNat (((x0.set x2.toNat (x1, (x0.getD x2.toNat ((0 : Int), (false, (((0 : Int), ((0 : Int), (false, ((⟨#[]⟩ : ByteArray), ())))), ())))).2)).getD x2.toNat ((0 : Int), (false, (((0 : Int), ((0 : Int), (false, ((⟨#[]⟩ : ByteArray), ())))), ())))).1, ((decide ((Int.tmod (wrap64 (x1 + (1 : Int))) (3 : Int)) = (0 : Int))), ((x0.set x2.toNat (x1, (x0.getD x2.toNat ((0 : Int), (false, (((0 : Int), ((0 : Int), (false, ((⟨#[]⟩ : ByteArray), ())))), ())))).2)).getD x2.toNat ((0 : Int), (false, (((0 : Int), ((0 : Int), (false, ((⟨#[]⟩ : ByteArray), ())))), ())))).2.2))).getD x2.toNat ((0 : Int), (false, (((0 : Int), ((0 : Int), (false, ((⟨#[]⟩ : ByteArray), ())))), ())))).2.2.2)))).set x2.toNat (((((x0.set x2.toNat (x1, (x0.getD x2.toNat ((0 : Int), (false, (((0 : Int), ((0 : Int), (false, ((⟨#[]⟩ : ByteArray), ())))), ())))).2)).set x2.toNat (((x0.set x2.toNat (x1, (x0.getD x2.toNat ((0 : Int), (false, (((0 : Int), ((0 : Int), (false, ((⟨#[]⟩ : ByteArray), ())))), ())))).2)).getD x2.toNat ((0 : Int), (false, (((0 : Int), ((0 : Int), (false, ((⟨#[]⟩ : ByteArray), ())))), ())))).1, ((decide ((Int.tmod (wrap64 (x1 + (1 : Int))) (3 : Int)) = (0 : Int))), ((x0.set x2.toNat (x1, (x0.getD x2.toNat ((0 : Int), (false, (((0 : Int), ((0 : Int), (false, ((⟨#[]⟩ : ByteArray), ())))), ())))).2)).getD x2.toNat ((0 : Int), (false, (((0 : Int), ((0 : Int), (false, ((⟨#[]⟩ : ByteArray), ())))), ())))).2.2))).set x2.toNat ((((x0.set x2.toNat (x1, (x0.getD x2.toNat ((0 : Int), (false, (((0 : Int), ((0 : Int), (false, ((⟨#[]⟩ : ByteArray), ())))), ())))).2)).set x2.toNat (((x0.set x2.toNat (x1, (x0.getD x2.toNat ((0 : Int), (false, (((0 : Int), ((0 : Int), (false, ((⟨#[]⟩ : ByteArray), ())))), ())))).2)).getD x2.toNat ((0 : Int), (false, (((0 : Int), ((0 : Int), (false, ((⟨#[]⟩ : ByteArray), ())))), ())))).1, ((decide ((Int.tmod (wrap64 (x1 + (1 : Int))) (3 : Int)) = (0 : Int))), ((x0.set x2.toNat (x1, (x0.getD x2.toNat ((0 : Int), (false, (((0 : Int), ((0 : Int), (false, ((⟨#[]⟩ : ByteArray), ())))), ())))).2)).getD x2.toNat ((0 : Int), (false, (((0 : Int), ((0 : Int), (false, ((⟨#[]⟩ : ByteArray), ())))), ())))).2.2))).getD x2.toNat ((0 : Int), (false, (((0 : Int), ((0 : Int), (false, ((⟨#[]⟩ : ByteArray), ())))), ())))).1, ((((x0.set x2.toNat (x1, (x0.getD x2.toNat ((0 : Int), (false, (((0 : Int), ((0 : Int), (false, ((⟨#[]⟩ : ByteArray), ())))), ())))).2)).set x2.toNat (((x0.set x2.toNat (x1, (x0.getD x2.toNat ((0 : Int), (false, (((0 : Int), ((0 : Int), (false, ((⟨#[]⟩ : ByteArray), ())))), ())))).2)).getD x2.toNat ((0 : Int), (false, (((0 : Int), ((0 : Int), (false, ((⟨#[]⟩ : ByteArray), ())))), ())))).1, ((decide ((Int.tmod (wrap64 (x1 + (1 : Int))) (3 : Int)) = (0 : Int))), ((x0.set x2.toNat (x1, (x0.getD x2.toNat ((0 : Int), (false, (((0 : Int), ((0 : Int), (false, ((⟨#[]⟩ : ByteArray), ())))), ())))).2)).getD x2.toNat ((0 : Int), (false, (((0 : Int), ((0 : Int), (false, ((⟨#[]⟩ : ByteArray), ())))), ())))).2.2))).getD x2.toNat ((0 : Int), (false, (((0 : Int), ((0 : Int), (false, ((⟨#[]⟩ : ByteArray), ())))), ())))).2.1, (((wrap64 ((wrap64 (x1 + (1 : Int))) + (1 : Int))), (((x0.set x2.toNat (x1, (x0.getD x2.toNat ((0 : Int), (false, (((0 : Int), ((0 : Int), (false, ((⟨#[]⟩ : ByteArray), ())))), ())))).2)).set x2.toNat (((x0.set x2.toNat (x1, (x0.getD x2.toNat ((0 : Int), (false, (((0 : Int), ((0 : Int), (false, ((⟨#[]⟩ : ByteArray), ())))), ())))).2)).getD x2.toNat ((0 : Int), (false, (((0 : Int), ((0 : Int), (false, ((⟨#[]⟩ : ByteArray), ())))), ())))).1, ((decide ((Int.tmod (wrap64 (x1 + (1 : Int))) (3 : Int)) = (0 : Int))), ((x0.set x2.toNat (x1, (x0.getD x2.toNat ((0 : Int), (false, (((0 : Int), ((0 : Int), (false, ((⟨#[]⟩ : ByteArray), ())))), ())))).2)).getD x2.toNat ((0 : Int), (false, (((0 : Int), ((0 : Int), (false, ((⟨#[]⟩ : ByteArray), ())))), ())))).2.2))).getD x2.toNat ((0 : Int), (false, (((0 : Int), ((0 : Int), (false, ((⟨#[]⟩ : ByteArray), ())))), ())))).2.2.1.2), (((x0.set x2.toNat (x1, (x0.getD x2.toNat ((0 : Int), (false, (((0 : Int), ((0 : Int), (false, ((⟨#[]⟩ : ByteArray), ())))), ())))).2)).set x2.toNat (((x0.set x2.toNat (x1, (x0.getD x2.toNat ((0 : Int), (false, (((0 : Int), ((0 : Int), (false, ((⟨#[]⟩ : ByteArray), ())))), ())))).2)).getD x2.toNat ((0 : Int), (false, (((0 : Int), ((0 : Int), (false, ((⟨#[]⟩ : ByteArray), ())))), ())))).1, ((decide ((Int.tmod (wrap64 (x1 + (1 : Int))) (3 : Int)) = (0 : Int))), ((x0.set x2.toNat (x1, (x0.getD x2.toNat ((0 : Int), (false, (((0 : Int), ((0 : Int), (false, ((⟨#[]⟩ : ByteArray), ())))), ())))).2)).getD x2.toNat ((0 : Int), (false, (((0 : Int), ((0 : Int), (false, ((⟨#[]⟩ : ByteArray), ())))), ())))).2.2))).getD x2.toNat ((0 : Int), (false, (((0 : Int), ((0 : Int), (false, ((⟨#[]⟩ : ByteArray), ())))), ())))).2.2.2)))).getD x2.toNat ((0 : Int), (false, (((0 : Int), ((0 : Int), (false, ((⟨#[]⟩ : ByteArray), ())))), ())))).1, (((((x0.set x2.toNat (x1, (x0.getD x2.toNat ((0 : Int), (false, (((0 : Int), ((0 : Int), (false, ((⟨#[]⟩ : ByteArray), ())))), ())))).2)).set x2.toNat (((x0.set x2.toNat (x1, (x0.getD x2.toNat ((0 : Int), (false, (((0 : Int), ((0 : Int), (false, ((⟨#[]⟩ : ByteArray), ())))), ())))).2)).getD x2.toNat ((0 : Int), (false, (((0 : Int), ((0 : Int), (false, ((⟨#[]⟩ : ByteArray), ())))), ())))).1, ((decide ((Int.tmod (wrap64 (x1 + (1 : Int))) (3 : Int)) = (0 : Int))), ((x0.set x2.toNat (x1, (x0.getD x2.toNat ((0 : Int), (false, (((0 : Int), ((0 : Int), (false, ((⟨#[]⟩ : ByteArray), ())))), ())))).2)).getD x2.toNat ((0 : Int), (false, (((0 : Int), ((0 : Int), (false, ((⟨#[]⟩ : ByteArray), ())))), ())))).2.2))).set x2.toNat ((((x0.set x2.toNat (x1, (x0.getD x2.toNat ((0 : Int), (false, (((0 : Int), ((0 : Int), (false, ((⟨#[]⟩ : ByteArray), ())))), ())))).2)).set x2.toNat (((x0.set x2.toNat (x1, (x0.getD x2.toNat ((0 : Int), (false, (((0 : Int), ((0 : Int), (false, ((⟨#[]⟩ : ByteArray), ())))), ())))).2)).getD x2.toNat ((0 : Int), (false, (((0 : Int), ((0 : Int), (false, ((⟨#[]⟩ : ByteArray), ())))), ())))).1, ((decide ((Int.tmod (wrap64 (x1 + (1 : Int))) (3 : Int)) = (0 : Int))), ((x0.set x2.toNat (x1, (x0.getD x2.toNat ((0 : Int), (false, (((0 : Int), ((0 : Int), (false, ((⟨#[]⟩ : ByteArray), ())))), ())))).2)).getD x2.toNat ((0 : Int), (false, (((0 : Int), ((0 : Int), (false, ((⟨#[]⟩ : ByteArray), ())))), ())))).2.2))).getD x2.toNat ((0 : Int), (false, (((0 : Int), ((0 : Int), (false, ((⟨#[]⟩ : ByteArray), ())))), ())))).1, ((((x0.set x2.toNat (x1, (x0.getD x2.toNat ((0 : Int), (false, (((0 : Int), ((0 : Int), (false, ((⟨#[]⟩ : ByteArray), ())))), ())))).2)).set x2.toNat (((x0.set x2.toNat (x1, (x0.getD x2.toNat ((0 : Int), (false, (((0 : Int), ((0 : Int), (false, ((⟨#[]⟩ : ByteArray), ())))), ())))).2)).getD x2.toNat ((0 : Int), (false, (((0 : Int), ((0 : Int), (false, ((⟨#[]⟩ : ByteArray), ())))), ())))).1, ((decide ((Int.tmod (wrap64 (x1 + (1 : Int))) (3 : Int)) = (0 : Int))), ((x0.set x2.toNat (x1, (x0.getD x2.toNat ((0 : Int), (false, (((0 : Int), ((0 : Int), (false, ((⟨#[]⟩ : ByteArray), ())))), ())))).2)).getD x2.toNat ((0 : Int), (false, (((0 : Int), ((0 : Int), (false, ((⟨#[]⟩ : ByteArray), ())))), ())))).2.2))).getD x2.toNat ((0 : Int), (false, (((0 : Int), ((0 : Int), (false, ((⟨#[]⟩ : ByteArray), ())))), ())))).2.1, (((wrap64 ((wrap64 (x1 + (1 : Int))) + (1 : Int))), (((x0.set x2.toNat (x1, (x0.getD x2.toNat ((0 : Int), (false, (((0 : Int), ((0 : Int), (false, ((⟨#[]⟩ : ByteArray), ())))), ())))).2)).set x2.toNat (((x0.set x2.toNat (x1, (x0.getD x2.toNat ((0 : Int), (false, (((0 : Int), ((0 : Int), (false, ((⟨#[]⟩ : ByteArray), ())))), ())))).2)).getD x2.toNat ((0 : Int), (false, (((0 : Int), ((0 : Int), (false, ((⟨#[]⟩ : ByteArray), ())))), ())))).1, ((decide ((Int.tmod (wrap64 (x1 + (1 : Int))) (3 : Int)) = (0 : Int))), ((x0.set x2.toNat (x1, (x0.getD x2.toNat ((0 : Int), (false, (((0 : Int), ((0 : Int), (false, ((⟨#[]⟩ : ByteArray), ())))), ())))).2)).getD x2.toNat ((0 : Int), (false, (((0 : Int), ((0 : Int), (false, ((⟨#[]⟩ : ByteArray), ())))), ())))).2.2))).getD x2.toNat ((0 : Int), (false, (((0 : Int), ((0 : Int), (false, ((⟨#[]⟩ : ByteArray), ())))), ())))).2.2.1.2), (((x0.set x2.toNat (x1, (x0.getD x2.toNat ((0 : Int), (false, (((0 : Int), ((0 : Int), (false, ((⟨#[]⟩ : ByteArray), ())))), ())))).2)).set x2.toNat (((x0.set x2.toNat (x1, (x0.getD x2.toNat ((0 : Int), (false, (((0 : Int), ((0 : Int), (false, ((⟨#[]⟩ : ByteArray), ())))), ())))).2)).getD x2.toNat ((0 : Int), (false, (((0 : Int), ((0 : Int), (false, ((⟨#[]⟩ : ByteArray), ())))), ())))).1, ((decide ((Int.tmod (wrap64 (x1 + (1 : Int))) (3 : Int)) = (0 : Int))), ((x0.set x2.toNat (x1, (x0.getD x2.toNat ((0 : Int), (false, (((0 : Int), ((0 : Int), (false, ((⟨#[]⟩ : ByteArray), ())))), ())))).2)).getD x2.toNat ((0 : Int), (false, (((0 : Int), ((0 : Int), (false, ((⟨#[]⟩ : ByteArray), ())))), ())))).2.2))).getD x2.toNat ((0 : Int), (false, (((0 : Int), ((0 : Int), (false, ((⟨#[]⟩ : ByteArray), ())))), ())))).2.2.2)))).getD x2.toNat ((0 : Int), (false, (((0 : Int), ((0 : Int), (false, ((⟨#[]⟩ : ByteArray), ())))), ())))).2.1, ((((((x0.set x2.toNat (x1, (x0.getD x2.toNat ((0 : Int), (false, (((0 : Int), ((0 : Int), (false, ((⟨#[]⟩ : ByteArray), ())))), ())))).2)).set x2.toNat (((x0.set x2.toNat (x1, (x0.getD x2.toNat ((0 : Int), (false, (((0 : Int), ((0 : Int), (false, ((⟨#[]⟩ : ByteArray), ())))), ())))).2)).getD x2.toNat ((0 : Int), (false, (((0 : Int), ((0 : Int), (false, ((⟨#[]⟩ : ByteArray), ())))), ())))).1, ((decide ((Int.tmod (wrap64 (x1 + (1 : Int))) (3 : Int)) = (0 : Int))), ((x0.set x2.toNat (x1, (x0.getD x2.toNat ((0 : Int), (false, (((0 : Int), ((0 : Int), (false, ((⟨#[]⟩ : ByteArray), ())))), ())))).2)).getD x2.toNat ((0 : Int), (false, (((0 : Int), ((0 : Int), (false, ((⟨#[]⟩ : ByteArray), ())))), ())))).2.2))).set x2.toNat ((((x0.set x2.toNat (x1, (x0.getD x2.toNat ((0 : Int), (false, (((0 : Int), ((0 : Int), (false, ((⟨#[]⟩ : ByteArray), ())))), ())))).2)).set x2.toNat (((x0.set x2.toNat (x1, (x0.getD x2.toNat ((0 : Int), (false, (((0 : Int), ((0 : Int), (false, ((⟨#[]⟩ : ByteArray), ())))), ())))).2)).getD x2.toNat ((0 : Int), (false, (((0 : Int), ((0 : Int), (false, ((⟨#[]⟩ : ByteArray), ())))), ())))).1, ((decide ((Int.tmod (wrap64 (x1 + (1 : Int))) (3 : Int)) = (0 : Int))), ((x0.set x2.toNat (x1, (x0.getD x2.toNat ((0 : Int), (false, (((0 : Int), ((0 : Int), (false, ((⟨#[]⟩ : ByteArray), ())))), ())))).2)).getD x2.toNat ((0 : Int), (false, (((0 : Int), ((0 : Int), (false, ((⟨#[]⟩ : ByteArray), ())))), ())))).2.2))).getD x2.toNat ((0 : Int), (false, (((0 : Int), ((0 : Int), (false, ((⟨#[]⟩ : ByteArray), ())))), ())))).1, ((((x0.set x2.toNat (x1, (x0.getD x2.toNat ((0 : Int), (false, (((0 : Int), ((0 : Int), (false, ((⟨#[]⟩ : ByteArray), ())))), ())))).2)).set x2.toNat (((x0.set x2.toNat (x1, (x0.getD x2.toNat ((0 : Int), (false, (((0 : Int), ((0 : Int), (false, ((⟨#[]⟩ : ByteArray), ())))), ())))).2)).getD x2.toNat ((0 : Int), (false, (((0 : Int), ((0 : Int), (false, ((⟨#[]⟩ : ByteArray), ())))), ())))).1, ((decide ((Int.tmod (wrap64 (x1 + (1 : Int))) (3 : Int)) = (0 : Int))), ((x0.set x2.toNat (x1, (x0.getD x2.toNat ((0 : Int), (false, (((0 : Int), ((0 : Int), (false, ((⟨#[]⟩ : ByteArray), ())))), ())))).2)).getD x2.toNat ((0 : Int), (false, (((0 : Int), ((0 : Int), (false, ((⟨#[]⟩ : ByteArray), ())))), ())))).2.2))).getD x2.toNat ((0 : Int), (false, (((0 : Int), ((0 : Int), (false, ((⟨#[]⟩ : ByteArray), ())))), ())))).2.1, (((wrap64 ((wrap64 (x1 + (1 : Int))) + (1 : Int))), (((x0.set x2.toNat (x1, (x0.getD x2.toNat ((0 : Int), (false, (((0 : Int), ((0 : Int), (false, ((⟨#[]⟩ : ByteArray), ())))), ())))).2)).set x2.toNat (((x0.set x2.toNat (x1, (x0.getD x2.toNat ((0 : Int), (false, (((0 : Int), ((0 : Int), (false, ((⟨#[]⟩ : ByteArray), ())))), ())))).2)).getD x2.toNat ((0 : Int), (false, (((0 : Int), ((0 : Int), (false, ((⟨#[]⟩ : ByteArray), ())))), ())))).1, ((decide ((Int.tmod (wrap64 (x1 + (1 : Int))) (3 : Int)) = (0 : Int))), ((x0.set x2.toNat (x1, (x0.getD x2.toNat ((0 : Int), (false, (((0 : Int), ((0 : Int), (false, ((⟨#[]⟩ : ByteArray), ())))), ())))).2)).getD x2.toNat ((0 : Int), (false, (((0 : Int), ((0 : Int), (false, ((⟨#[]⟩ : ByteArray), ())))), ())))).2.2))).getD x2.toNat ((0 : Int), (false, (((0 : Int), ((0 : Int), (false, ((⟨#[]⟩ : ByteArray), ())))), ())))).2.2.1.2), (((x0.set x2.toNat (x1, (x0.getD x2.toNat ((0 : Int), (false, (((0 : Int), ((0 : Int), (false, ((⟨#[]⟩ : ByteArray), ())))), ())))).2)).set x2.toNat (((x0.set x2.toNat (x1, (x0.getD x2.toNat ((0 : Int), (false, (((0 : Int), ((0 : Int), (false, ((⟨#[]⟩ : ByteArray), ())))), ())))).2)).getD x2.toNat ((0 : Int), (false, (((0 : Int), ((0 : Int), (false, ((⟨#[]⟩ : ByteArray), ())))), ())))).1, ((decide ((Int.tmod (wrap64 (x1 + (1 : Int))) (3 : Int)) = (0 : Int))), ((x0.set x2.toNat (x1, (x0.getD x2.toNat ((0 : Int), (false, (((0 : Int), ((0 : Int), (false, ((⟨#[]⟩ : ByteArray), ())))), ())))).2)).getD x2.toNat ((0 : Int), (false, (((0 : Int), ((0 : Int), (false, ((⟨#[]⟩ : ByteArray), ())))), ())))).2.2))).getD x2.toNat ((0 : Int), (false, (((0 : Int), ((0 : Int), (false, ((⟨#[]⟩ : ByteArray), ())))), ())))).2.2.2)))).getD x2.toNat ((0 : Int), (false, (((0 : Int), ((0 : Int), (false, ((⟨#[]⟩ : ByteArray), ())))), ())))).2.2.1.1, ((wrap64 ((wrap64 ((wrap64 (x1 + (1 : Int))) + (1 : Int))) + (1 : Int))), ((((x0.set x2.toNat (x1, (x0.getD x2.toNat ((0 : Int), (false, (((0 : Int), ((0 : Int), (false, ((⟨#[]⟩ : ByteArray), ())))), ())))).2)).set x2.toNat (((x0.set x2.toNat (x1, (x0.getD x2.toNat ((0 : Int), (false, (((0 : Int), ((0 : Int), (false, ((⟨#[]⟩ : ByteArray), ())))), ())))).2)).getD x2.toNat ((0 : Int), (false, (((0 : Int), ((0 : Int), (false, ((⟨#[]⟩ : ByteArray), ())))), ())))).1, ((decide ((Int.tmod (wrap64 (x1 + (1 : Int))) (3 : Int)) = (0 : Int))), ((x0.set x2.toNat (x1, (x0.getD x2.toNat ((0 : Int), (false, (((0 : Int), ((0 : Int), (false, ((⟨#[]⟩ : ByteArray), ())))), ())))).2)).getD x2.toNat ((0 : Int), (false, (((0 : Int), ((0 : Int), (false, ((⟨#[]⟩ : ByteArray), ())))), ())))).2.2))).set x2.toNat ((((x0.set x2.toNat (x1, (x0.getD x2.toNat ((0 : Int), (false, (((0 : Int), ((0 : Int), (false, ((⟨#[]⟩ : ByteArray), ())))), ())))).2)).set x2.toNat (((x0.set x2.toNat (x1, (x0.getD x2.toNat ((0 : Int), (false, (((0 : Int), ((0 : Int), (false, ((⟨#[]⟩ : ByteArray), ())))), ())))).2)).getD x2.toNat ((0 : Int), (false, (((0 : Int), ((0 : Int), (false, ((⟨#[]⟩ : ByteArray), ())))), ())))).1, ((decide ((Int.tmod (wrap64 (x1 + (1 : Int))) (3 : Int)) = (0 : Int))), ((x0.set x2.toNat (x1, (x0.getD x2.toNat ((0 : Int), (false, (((0 : Int), ((0 : Int), (false, ((⟨#[]⟩ : ByteArray), ())))), ())))).2)).getD x2.toNat ((0 : Int), (false, (((0 : Int), ((0 : Int), (false, ((⟨#[]⟩ : ByteArray), ())))), ())))).2.2))).getD x2.toNat ((0 : Int), (false, (((0 : Int), ((0 : Int), (false, ((⟨#[]⟩ : ByteArray), ())))), ())))).1, ((((x0.set x2.toNat (x1, (x0.getD x2.toNat ((0 : Int), (false, (((0 : Int), ((0 : Int), (false, ((⟨#[]⟩ : ByteArray), ())))), ())))).2)).set x2.toNat (((x0.set x2.toNat (x1, (x0.getD x2.toNat ((0 : Int), (false, (((0 : Int), ((0 : Int), (false, ((⟨#[]⟩ : ByteArray), ())))), ())))).2)).getD x2.toNat ((0 : Int), (false, (((0 : Int), ((0 : Int), (false, ((⟨#[]⟩ : ByteArray), ())))), ())))).1, ((decide ((Int.tmod (wrap64 (x1 + (1 : Int))) (3 : Int)) = (0 : Int))), ((x0.set x2.toNat (x1, (x0.getD x2.toNat ((0 : Int), (false, (((0 : Int), ((0 : Int), (false, ((⟨#[]⟩ : ByteArray), ())))), ())))).2)).getD x2.toNat ((0 : Int), (false, (((0 : Int), ((0 : Int), (false, ((⟨#[]⟩ : ByteArray), ())))), ())))).2.2))).getD x2.toNat ((0 : Int), (false, (((0 : Int), ((0 : Int), (false, ((⟨#[]⟩ : ByteArray), ())))), ())))).2.1, (((wrap64 ((wrap64 (x1 + (1 : Int))) + (1 : Int))), (((x0.set x2.toNat (x1, (x0.getD x2.toNat ((0 : Int), (false, (((0 : Int), ((0 : Int), (false, ((⟨#[]⟩ : ByteArray), ())))), ())))).2)).set x2.toNat (((x0.set x2.toNat (x1, (x0.getD x2.toNat ((0 : Int), (false, (((0 : Int), ((0 : Int), (false, ((⟨#[]⟩ : ByteArray), ())))), ())))).2)).getD x2.toNat ((0 : Int), (false, (((0 : Int), ((0 : Int), (false, ((⟨#[]⟩ : ByteArray), ())))), ())))).1, ((decide ((Int.tmod (wrap64 (x1 + (1 : Int))) (3 : Int)) = (0 : Int))), ((x0.set x2.toNat (x1, (x0.getD x2.toNat ((0 : Int), (false, (((0 : Int), ((0 : Int), (false, ((⟨#[]⟩ : ByteArray), ())))), ())))).2)).getD x2.toNat ((0 : Int), (false, (((0 : Int), ((0 : Int), (false, ((⟨#[]⟩ : ByteArray), ())))), ())))).2.2))).getD x2.toNat ((0 : Int), (false, (((0 : Int), ((0 : Int), (false, ((⟨#[]⟩ : ByteArray), ())))), ())))).2.2.1.2), (((x0.set x2.toNat (x1, (x0.getD x2.toNat ((0 : Int), (false, (((0 : Int), ((0 : Int), (false, ((⟨#[]⟩ : ByteArray), ())))), ())))).2)).set x2.toNat (((x0.set x2.toNat (x1, (x0.getD x2.toNat ((0 : Int), (false, (((0 : Int), ((0 : Int), (false, ((⟨#[]⟩ : ByteArray), ())))), ())))).2)).getD x2.toNat ((0 : Int), (false, (((0 : Int), ((0 : Int), (false, ((⟨#[]⟩ : ByteArray), ())))), ())))).1, ((decide ((Int.tmod (wrap64 (x1 + (1 : Int))) (3 : Int)) = (0 : Int))), ((x0.set x2.toNat (x1, (x0.getD x2.toNat ((0 : Int), (false, (((0 : Int), ((0 : Int), (false, ((⟨#[]⟩ : ByteArray), ())))), ())))).2)).getD x2.toNat ((0 : Int), (false, (((0 : Int), ((0 : Int), (false, ((⟨#[]⟩ : ByteArray), ())))), ())))).2.2))).getD x2.toNat ((0 : Int), (false, (((0 : Int), ((0 : Int), (false, ((⟨#[]⟩ : ByteArray), ())))), ())))).2.2.2)))).getD x2.toNat ((0 : Int), (false, (((0 : Int), ((0 : Int), (false, ((⟨#[]⟩ : ByteArray), ())))), ())))).2.2.1.2.2)), ((((x0.set x2.toNat (x1, (x0.getD x2.toNat ((0 : Int), (false, (((0 : Int), ((0 : Int), (false, ((⟨#[]⟩ : ByteArray), ())))), ())))).2)).set x2.toNat (((x0.set x2.toNat (x1, (x0.getD x2.toNat ((0 : Int), (false, (((0 : Int), ((0 : Int), (false, ((⟨#[]⟩ : ByteArray), ())))), ())))).2)).getD x2.toNat ((0 : Int), (false, (((0 : Int), ((0 : Int), (false, ((⟨#[]⟩ : ByteArray), ())))), ())))).1, ((decide ((Int.tmod (wrap64 (x1 + (1 : Int))) (3 : Int)) = (0 : Int))), ((x0.set x2.toNat (x1, (x0.getD x2.toNat ((0 : Int), (false, (((0 : Int), ((0 : Int), (false, ((⟨#[]⟩ : ByteArray), ())))), ())))).2)).getD x2.toNat ((0 : Int), (false, (((0 : Int), ((0 : Int), (false, ((⟨#[]⟩ : ByteArray), ())))), ())))).2.2))).set x2.toNat ((((x0.set x2.toNat (x1, (x0.getD x2.toNat ((0 : Int), (false, (((0 : Int), ((0 : Int), (false, ((⟨#[]⟩ : ByteArray), ())))), ())))).2)).set x2.toNat (((x0.set x2.toNat (x1, (x0.getD x2.toNat ((0 : Int), (false, (((0 : Int), ((0 : Int), (false, ((⟨#[]⟩ : ByteArray), ())))), ())))).2)).getD x2.toNat ((0 : Int), (false, (((0 : Int), ((0 : Int), (false, ((⟨#[]⟩ : ByteArray), ())))), ())))).1, ((decide ((Int.tmod (wrap64 (x1 + (1 : Int))) (3 : Int)) = (0 : Int))), ((x0.set x2.toNat (x1, (x0.getD x2.toNat ((0 : Int), (false, (((0 : Int), ((0 : Int), (false, ((⟨#[]⟩ : ByteArray), ())))), ())))).2)).getD x2.toNat ((0 : Int), (false, (((0 : Int), ((0 : Int), (false, ((⟨#[]⟩ : ByteArray), ())))), ())))).2.2))).getD x2.toNat ((0 : Int), (false, (((0 : Int), ((0 : Int), (false, ((⟨#[]⟩ : ByteArray), ())))), ())))).1, ((((x0.set x2.toNat (x1, (x0.getD x2.toNat ((0 : Int), (false, (((0 : Int), ((0 : Int), (false, ((⟨#[]⟩ : ByteArray), ())))), ())))).2)).set x2.toNat (((x0.set x2.toNat (x1, (x0.getD x2.toNat ((0 : Int), (false, (((0 : Int), ((0 : Int), (false, ((⟨#[]⟩ : ByteArray), ())))), ())))).2)).getD x2.toNat ((0 : Int), (false, (((0 : Int), ((0 : Int), (false, ((⟨#[]⟩ : ByteArray), ())))), ())))).1, ((decide ((Int.tmod (wrap64 (x1 + (1 : Int))) (3 : Int)) = (0 : Int))), ((x0.set x2.toNat (x1, (x0.getD x2.toNat ((0 : Int), (false, (((0 : Int), ((0 : Int), (false, ((⟨#[]⟩ : ByteArray), ())))), ())))).2)).getD x2.toNat ((0 : Int), (false, (((0 : Int), ((0 : Int), (false, ((⟨#[]⟩ : ByteArray), ())))), ())))).2.2))).getD x2.toNat ((0 : Int), (false, (((0 : Int), ((0 : Int), (false, ((⟨#[]⟩ : ByteArray), ())))), ())))).2.1, (((wrap64 ((wrap64 (x1 + (1 : Int))) + (1 : Int))), (((x0.set x2.toNat (x1, (x0.getD x2.toNat ((0 : Int), (false, (((0 : Int), ((0 : Int), (false, ((⟨#[]⟩ : ByteArray), ())))), ())))).2)).set x2.toNat (((x0.set x2.toNat (x1, (x0.getD x2.toNat ((0 : Int), (false, (((0 : Int), ((0 : Int), (false, ((⟨#[]⟩ : ByteArray), ())))), ())))).2)).getD x2.toNat ((0 : Int), (false, (((0 : Int), ((0 : Int), (false, ((⟨#[]⟩ : ByteArray), ())))), ())))).1, ((decide ((Int.tmod (wrap64 (x1 + (1 : Int))) (3 : Int)) = (0 : Int))), ((x0.set x2.toNat (x1, (x0.getD x2.toNat ((0 : Int), (false, (((0 : Int), ((0 : Int), (false, ((⟨#[]⟩ : ByteArray), ())))), ())))).2)).getD x2.toNat ((0 : Int), (false, (((0 : Int), ((0 : Int), (false, ((⟨#[]⟩ : ByteArray), ())))), ())))).2.2))).getD x2.toNat ((0 : Int), (false, (((0 : Int), ((0 : Int), (false, ((⟨#[]⟩ : ByteArray), ())))), ())))).2.2.1.2), (((x0.set x2.toNat (x1, (x0.getD x2.toNat ((0 : Int), (false, (((0 : Int), ((0 : Int), (false, ((⟨#[]⟩ : ByteArray), ())))), ())))).2)).set x2.toNat (((x0.set x2.toNat (x1, (x0.getD x2.toNat ((0 : Int), (false, (((0 : Int), ((0 : Int), (false, ((⟨#[]⟩ : ByteArray), ())))), ())))).2)).getD x2.toNat ((0 : Int), (false, (((0 : Int), ((0 : Int), (false, ((⟨#[]⟩ : ByteArray), ())))), ())))).1, ((decide ((Int.tmod (wrap64 (x1 + (1 : Int))) (3 : Int)) = (0 : Int))), ((x0.set x2.toNat (x1, (x0.getD x2.toNat ((0 : Int), (false, (((0 : Int), ((0 : Int), (false, ((⟨#[]⟩ : ByteArray), ())))), ())))).2)).getD x2.toNat ((0 : Int), (false, (((0 : Int), ((0 : Int), (false, ((⟨#[]⟩ : ByteArray), ())))), ())))).2.2))).getD x2.toNat ((0 : Int), (false, (((0 : Int), ((0 : Int), (false, ((⟨#[]⟩ : ByteArray), ())))), ())))).2.2.2)))).getD x2.toNat ((0 : Int), (false, (((0 : Int), ((0 : Int), (false, ((⟨#[]⟩ : ByteArray), ())))), ())))).2.2.2))))
              if (0 : Int) ≤ x2 ∧ x2 < ((y1.length : Nat) : Int) then ((laws_markText.f k (wrap64 ((wrap64 ((wrap64 ((wrap64 ((wrap64 (x1 + (1 : Int))) + (1 : Int))) + (1 : Int))) + (1 : Int))) + (1 : Int)))).bind fun r1 =>
                if (0 : Int) ≤ x2 ∧ x2 < (((y1.set x2.toNat ((y1.getD x2.toNat ((0 : Int), (false, (((0 : Int), ((0 : Int), (false, ((⟨#[]⟩ : ByteArray), ())))), ())))).1, ((y1.getD x2.toNat ((0 : Int), (false, (((0 : Int), ((0 : Int), (false, ((⟨#[]⟩ : ByteArray), ())))), ())))).2.1, (((y1.getD x2.toNat ((0 : Int), (false, (((0 : Int), ((0 : Int), (false, ((⟨#[]⟩ : ByteArray), ())))), ())))).2.2.1.1, ((y1.getD x2.toNat ((0 : Int), (false, (((0 : Int), ((0 : Int), (false, ((⟨#[]⟩ : ByteArray), ())))), ())))).2.2.1.2.1, ((decide ((Int.tmod (wrap64 ((wrap64 ((wrap64 ((wrap64 (x1 + (1 : Int))) + (1 : Int))) + (1 : Int))) + (1 : Int))) (3 : Int)) = (0 : Int))), (y1.getD x2.toNat ((0 : Int), (false, (((0 : Int), ((0 : Int), (false, ((⟨#[]⟩ : ByteArray), ())))), ())))).2.2.1.2.2.2))), (y1.getD x2.toNat ((0 : Int), (false, (((0 : Int), ((0 : Int), (false, ((⟨#[]⟩ : ByteArray), ())))), ())))).2.2.2)))).length : Nat) : Int) then laws_markAnswerS.p5 k ((y1.set x2.toNat ((y1.getD x2.toNat ((0 : Int), (false, (((0 : Int), ((0 : Int), (false, ((⟨#[]⟩ : ByteArray), ())))), ())))).1, ((y1.getD x2.toNat ((0 : Int), (false, (((0 : Int), ((0 : Int), (false, ((⟨#[]⟩ : ByteArray), ())))), ())))).2.1, (((y1.getD x2.toNat ((0 : Int), (false, (((0 : Int), ((0 : Int), (false, ((⟨#[]⟩ : ByteArray), ())))), ())))).2.2.1.1, ((y1.getD x2.toNat ((0 : Int), (false, (((0 : Int), ((0 : Int), (false, ((⟨#[]⟩ : ByteArray), ())))), ())))).2.2.1.2.1, ((decide ((Int.tmod (wrap64 ((wrap64 ((wrap64 ((wrap64 (x1 + (1 : Int))) + (1 : Int))) + (1 : Int))) + (1 : Int))) (3 : Int)) = (0 : Int))), (y1.getD x2.toNat ((0 : Int), (false, (((0 : Int), ((0 : Int), (false, ((⟨#[]⟩ : ByteArray), ())))), ())))).2.2.1.2.2.2))), (y1.getD x2.toNat ((0 : Int), (false, (((0 : Int), ((0 : Int), (false, ((⟨#[]⟩ : ByteArray), ())))), ())))).2.2.2)))).set x2.toNat (((y1.set x2.toNat ((y1.getD x2.toNat ((0 : Int), (false, (((0 : Int), ((0 : Int), (false, ((⟨#[]⟩ : ByteArray), ())))), ())))).1, ((y1.getD x2.toNat ((0 : Int), (false, (((0 : Int), ((0 : Int), (false, ((⟨#[]⟩ : ByteArray), ())))), ())))).2.1, (((y1.getD x2.toNat ((0 : Int), (false, (((0 : Int), ((0 : Int), (false, ((⟨#[]⟩ : ByteArray), ())))), ())))).2.2.1.1, ((y1.getD x2.toNat ((0 : Int), (false, (((0 : Int), ((0 : Int), (false, ((⟨#[]⟩ : ByteArray), ())))), ())))).2.2.1.2.1, ((decide ((Int.tmod (wrap64 ((wrap64 ((wrap64 ((wrap64 (x1 + (1 : Int))) + (1 : Int))) + (1 : Int))) + (1 : Int))) (3 : Int)) = (0 : Int))), (y1.getD x2.toNat ((0 : Int), (false, (((0 : Int), ((0 : Int), (false, ((⟨#[]⟩ : ByteArray), ())))), ())))).2.2.1.2.2.2))), (y1.getD x2.toNat ((0 : Int), (false, (((0 : Int), ((0 : Int), (false, ((⟨#[]⟩ : ByteArray), ())))), ())))).2.2.2)))).getD x2.toNat ((0 : Int), (false, (((0 : Int), ((0 : Int), (false, ((⟨#[]⟩ : ByteArray), ())))), ())))).1, (((y1.set x2.toNat ((y1.getD x2.toNat ((0 : Int), (false, (((0 : Int), ((0 : Int), (false, ((⟨#[]⟩ : ByteArray), ())))), ())))).1, ((y1.getD x2.toNat ((0 : Int), (false, (((0 : Int), ((0 : Int), (false, ((⟨#[]⟩ : ByteArray), ())))), ())))).2.1, (((y1.getD x2.toNat ((0 : Int), (false, (((0 : Int), ((0 : Int), (false, ((⟨#[]⟩ : ByteArray), ())))), ())))).2.2.1.1, ((y1.getD x2.toNat ((0 : Int), (false, (((0 : Int), ((0 : Int), (false, ((⟨#[]⟩ : ByteArray), ())))), ())))).2.2.1.2.1, ((decide ((Int.tmod (wrap64 ((wrap64 ((wrap64 ((wrap64 (x1 + (1 : Int))) + (1 : Int))) + (1 : Int))) + (1 : Int))) (3 : Int)) = (0 : Int))), (y1.getD x2.toNat ((0 : Int), (false, (((0 : Int), ((0 : Int), (false, ((⟨#[]⟩ : ByteArray), ())))), ())))).2.2.1.2.2.2))), (y1.getD x2.toNat ((0 : Int), (false, (((0 : Int), ((0 : Int), (false, ((⟨#[]⟩ : ByteArray), ())))), ())))).2.2.2)))).getD x2.toNat ((0 : Int), (false, (((0 : Int), ((0 : Int), (false, ((⟨#[]⟩ : ByteArray), ())))), ())))).2.1, ((((y1.set x2.toNat ((y1.getD x2.toNat ((0 : Int), (false, (((0 : Int), ((0 : Int), (false, ((⟨#[]⟩ : ByteArray), ())))), ())))).1, ((y1.getD x2.toNat ((0 : Int), (false, (((0 : Int), ((0 : Int), (false, ((⟨#[]⟩ : ByteArray), ())))), ())))).2.1, (((y1.getD x2.toNat ((0 : Int), (false, (((0 : Int), ((0 : Int), (false, ((⟨#[]⟩ : ByteArray), ())))), ())))).2.2.1.1, ((y1.getD x2.toNat ((0 : Int), (false, (((0 : Int), ((0 : Int), (false, ((⟨#[]⟩ : ByteArray), ())))), ())))).2.2.1.2.1, ((decide ((Int.tmod (wrap64 ((wrap64 ((wrap64 ((wrap64 (x1 + (1 : Int))) + (1 : Int))) + (1 : Int))) + (1 : Int))) (3 : Int)) = (0 : Int))), (y1.getD x2.toNat ((0 : Int), (false, (((0 : Int), ((0 : Int), (false, ((⟨#[]⟩ : ByteArray), ())))), ())))).2.2.1.2.2.2))), (y1.getD x2.toNat ((0 : Int), (false, (((0 : Int), ((0 : Int), (false, ((⟨#[]⟩ : ByteArray), ())))), ())))).2.2.2)))).getD x2.toNat ((0 : Int), (false, (((0 : Int), ((0 : Int), (false, ((⟨#[]⟩ : ByteArray), ())))), ())))).2.2.1.1, (((y1.set x2.toNat ((y1.getD x2.toNat ((0 : Int), (false, (((0 : Int), ((0 : Int), (false, ((⟨#[]⟩ : ByteArray), ())))), ())))).1, ((y1.getD x2.toNat ((0 : Int), (false, (((0 : Int), ((0 : Int), (false, ((⟨#[]⟩ : ByteArray), ())))), ())))).2.1, (((y1.getD x2.toNat ((0 : Int), (false, (((0 : Int), ((0 : Int), (false, ((⟨#[]⟩ : ByteArray), ())))), ())))).2.2.1.1, ((y1.getD x2.toNat ((0 : Int), (false, (((0 : Int), ((0 : Int), (false, ((⟨#[]⟩ : ByteArray), ())))), ())))).2.2.1.2.1, ((decide ((Int.tmod (wrap64 ((wrap64 ((wrap64 ((wrap64 (x1 + (1 : Int))) + (1 : Int))) + (1 : Int))) + (1 : Int))) (3 : Int)) = (0 : Int))), (y1.getD x2.toNat ((0 : Int), (false, (((0 : Int), ((0 : Int), (false, ((⟨#[]⟩ : ByteArray), ())))), ())))).2.2.1.2.2.2))), (y1.getD x2.toNat ((0 : Int), (false, (((0 : Int), ((0 : Int), (false, ((⟨#[]⟩ : ByteArray), ())))), ())))).2.2.2)))).getD x2.toNat ((0 : Int), (false, (((0 : Int), ((0 : Int), (false, ((⟨#[]⟩ : ByteArray), ())))), ())))).2.2.1.2.1, (((y1.set x2.toNat ((y1.getD x2.toNat ((0 : Int), (false, (((0 : Int), ((0 : Int), (false, ((⟨#[]⟩ : ByteArray), ())))), ())))).1, ((y1.getD x2.toNat ((0 : Int), (false, (((0 : Int), ((0 : Int), (false, ((⟨#[]⟩ : ByteArray), ())))), ())))).2.1, (((y1.getD x2.toNat ((0 : Int), (false, (((0 : Int), ((0 : Int), (false, ((⟨#[]⟩ : ByteArray), ())))), ())))).2.2.1.1, ((y1.getD x2.toNat ((0 : Int), (false, (((0 : Int), ((0 : Int), (false, ((⟨#[]⟩ : ByteArray), ())))), ())))).2.2.1.2.1, ((decide ((Int.tmod (wrap64 ((wrap64 ((wrap64 ((wrap64 (x1 + (1 : Int))) + (1 : Int))) + (1 : Int))) + (1 : Int))) (3 : Int)) = (0 : Int))), (y1.getD x2.toNat ((0 : Int), (false, (((0 : Int), ((0 : Int), (false, ((⟨#[]⟩ : ByteArray), ())))), ())))).2.2.1.2.2.2))), (y1.getD x2.toNat ((0 : Int), (false, (((0 : Int), ((0 : Int), (false, ((⟨#[]⟩ : ByteArray), ())))), ())))).2.2.2)))).getD x2.toNat ((0 : Int), (false, (((0 : Int), ((0 : Int), (false, ((⟨#[]⟩ : ByteArray), ())))), ())))).2.2.1.2.2.1, (r1, ((y1.set x2.toNat ((y1.getD x2.toNat ((0 : Int), (false, (((0 : Int), ((0 : Int), (false, ((⟨#[]⟩ : ByteArray), ())))), ())))).1, ((y1.getD x2.toNat ((0 : Int), (false, (((0 : Int), ((0 : Int), (false, ((⟨#[]⟩ : ByteArray), ())))), ())))).2.1, (((y1.getD x2.toNat ((0 : Int), (false, (((0 : Int), ((0 : Int), (false, ((⟨#[]⟩ : ByteArray), ())))), ())))).2.2.1.1, ((y1.getD x2.toNat ((0 : Int), (false, (((0 : Int), ((0 : Int), (false, ((⟨#[]⟩ : ByteArray), ())))), ())))).2.2.1.2.1, ((decide ((Int.tmod (wrap64 ((wrap64 ((wrap64 ((wrap64 (x1 + (1 : Int))) + (1 : Int))) + (1 : Int))) + (1 : Int))) (3 : Int)) = (0 : Int))), (y1.getD x2.toNat ((0 : Int), (false, (((0 : Int), ((0 : Int), (false, ((⟨#[]⟩ : ByteArray), ())))), ())))).2.2.1.2.2.2))), (y1.getD x2.toNat ((0 : Int), (false, (((0 : Int), ((0 : Int), (false, ((⟨#[]⟩ : ByteArray), ())))), ())))).2.2.2)))).getD x2.toNat ((0 : Int), (false, (((0 : Int), ((0 : Int), (false, ((⟨#[]⟩ : ByteArray), ())))), ())))).2.2.1.2.2.2.2)))), ((y1.set x2.toNat ((y1.getD x2.toNat ((0 : Int), (false, (((0 : Int), ((0 : Int), (false, ((⟨#[]⟩ : ByteArray), ())))), ())))).1, ((y1.getD x2.toNat ((0 : Int), (false, (((0 : Int), ((0 : Int), (false, ((⟨#[]⟩ : ByteArray), ())))), ())))).2.1, (((y1.getD x2.toNat ((0 : Int), (false, (((0 : Int), ((0 : Int), (false, ((⟨#[]⟩ : ByteArray), ())))), ())))).2.2.1.1, ((y1.getD x2.toNat ((0 : Int), (false, (((0 : Int), ((0 : Int), (false, ((⟨#[]⟩ : ByteArray), ())))), ())))).2.2.1.2.1, ((decide ((Int.tmod (wrap64 ((wrap64 ((wrap64 ((wrap64 (x1 + (1 : Int))) + (1 : Int))) + (1 : Int))) + (1 : Int))) (3 : Int)) = (0 : Int))), (y1.getD x2.toNat ((0 : Int), (false, (((0 : Int), ((0 : Int), (false, ((⟨#[]⟩ : ByteArray), ())))), ())))).2.2.1.2.2.2))), (y1.getD x2.toNat ((0 : Int), (false, (((0 : Int), ((0 : Int), (false, ((⟨#[]⟩ : ByteArray), ())))), ())))).2.2.2)))).getD x2.toNat ((0 : Int), (false, (((0 : Int), ((0 : Int), (false, ((⟨#[]⟩ : ByteArray), ())))), ())))).2.2.2)))) (wrap64 ((wrap64 ((wrap64 ((wrap64 ((wrap64 ((wrap64 (x1 + (1 : Int))) + (1 : Int))) + (1 : Int))) + (1 : Int))) + (1 : Int))) + (1 : Int))) (wrap64 (x2 + (1 : Int)))
                else none)
              else none)
            else none)
          else none)
        else none)
      else none)
    else some (x1, x0)
noncomputable def laws_markAnswerS.f (k : Nat) (a0 : (List Answer)) (a1 : Int) : Option (Int × (List Answer)) := laws_markAnswerS.p5 k a0 a1 (0 : Int)
/-! laws.heldEventS -/
noncomputable def laws_heldEventS.p5 : Nat → (List Event) → Int → Int → Option (Int)
  | 0, _, _, _ => none
  | k + 1, x0, x1, x2 => if x2 < ((x0.length : Nat) : Int) then (if (0 : Int) ≤ x2 ∧ x2 < ((x0.length : Nat) : Int) then (if (x0.getD x2.toNat ((0 : Int), ((0 : Int), ((⟨#[]⟩ : ByteArray), ())))).1 = x1 then (if (0 : Int) ≤ x2 ∧ x2 < ((x0.length : Nat) : Int) then (if (x0.getD x2.toNat ((0 : Int), ((0 : Int), ((⟨#[]⟩ : ByteArray), ())))).2.1 = (wrap64 (x1 + (1 : Int))) then (if (0 : Int) ≤ x2 ∧ x2 < ((x0.length : Nat) : Int) then ((laws_markText.f k (wrap64 ((wrap64 (x1 + (1 : Int))) + (1 : Int)))).bind fun r1 =>
                if (x0.getD x2.toNat ((0 : Int), ((0 : Int), ((⟨#[]⟩ : ByteArray), ())))).2.2.1 = r1 then laws_heldEventS.p5 k x0 (wrap64 ((wrap64 ((wrap64 (x1 + (1 : Int))) + (1 : Int))) + (1 : Int))) (wrap64 (x2 + (1 : Int)))
                else some (-1 : Int))
              else none)
            else some (-1 : Int))
          else none)
        else some (-1 : Int))
      else none)
    else some x1
noncomputable def laws_heldEventS.f (k : Nat) (a0 : (List Event)) (a1 : Int) : Option (Int) := laws_heldEventS.p5 k a0 a1 (0 : Int)
/-! laws.heldReader -/
noncomputable def laws_heldReader.f (k : Nat) (a0 : Reader) (a1 : Int) : Option (Int) := (laws_heldEventS.f k a0.2.2.1 a1).bind fun r1 =>
  if r1 < (0 : Int) then some (-1 : Int)
  else some r1
/-! laws.FnExactReaderNext -/
noncomputable def laws_FnExactReaderNext.f (k : Nat) (a0 : Config) (a1 : Register) (a2 : Int) (a3 : Reader) (a4 : (List Answer)) : Option (Bool) := (laws_szConfig.f a0 (1048576 : Int)).bind fun r1 =>
  if r1 < (0 : Int) then some true
  else (laws_szRegister.f k a1 r1).bind fun r2 =>
  if r2 < (0 : Int) then some true
  else (laws_szReader.f k a3 r2).bind fun r3 =>
  if r3 < (0 : Int) then some true
  else (laws_szAnswerS.f k a4 r3).bind fun r4 =>
  if r4 < (0 : Int) then some true
  else (laws_toConfig.f k a0).bind fun r5 =>
  (laws_toRegister.f k a1).bind fun r6 =>
  (laws_toReader.f k a3).bind fun r7 =>
  (laws_toAnswerS.f k a4).bind fun r8 =>
  (spec_ReaderNext.f k r5 r6 a2 r7 r8).bind fun r9 =>
  (laws_toConfig.f k a0).bind fun r10 =>
  (laws_toRegister.f k a1).bind fun r11 =>
  (laws_toReader.f k a3).bind fun r12 =>
  (laws_toAnswerS.f k a4).bind fun r13 =>
  (impl_ReaderNext.f k r10 r11 a2 r12 r13).bind fun r14 =>
  (laws_eqReader.f k r14.1 r9.1).bind fun r15 =>
  if r15 = true then (if r14.2 = r9.2 then ((laws_toConfig.f k a0).bind fun r16 =>
      (laws_eqConfig.f k r10 r16).bind fun r17 =>
      if r17 = true then ((laws_toRegister.f k a1).bind fun r18 =>
        (laws_eqRegister.f k r11 r18).bind fun r19 =>
        if r19 = true then ((laws_toReader.f k a3).bind fun r20 =>
          (laws_eqReader.f k r12 r20).bind fun r21 =>
          if r21 = true then ((laws_toAnswerS.f k a4).bind fun r22 =>
            (laws_eqAnswerS.f k r13 r22).bind fun r23 =>
            if r23 = true then ((laws_markConfig.f k r10 (1 : Int)).bind fun r24 =>
              (laws_markRegister.f k r11 r24.1).bind fun r25 =>
              (laws_markReader.f k r12 r25.1).bind fun r26 =>
              (laws_markAnswerS.f k r13 r26.1).bind fun r27 =>
              if r27.1 < (0 : Int) then some false
              else (laws_eqReader.f k r14.1 r9.1).bind fun r28 =>
              if r28 = true then (if r14.2 = r9.2 then ((laws_markReader.f k r14.1 (1 : Int)).bind fun r29 =>
                  (laws_heldReader.f k r29.2 (1 : Int)).bind fun r30 =>
                  if r30 < (0 : Int) then some false
                  else if r30 = r29.1 then ((laws_toConfig.f k a0).bind fun r31 =>
                    (laws_toRegister.f k a1).bind fun r32 =>
                    (laws_toReader.f k a3).bind fun r33 =>
                    (laws_toAnswerS.f k a4).bind fun r34 =>
                    (impl_ReaderNext.f k r31 r32 a2 r33 r34).bind fun r35 =>
                    (laws_eqReader.f k r35.1 r9.1).bind fun r36 =>
                    if r36 = true then (if r35.2 = r9.2 then ((laws_heldReader.f k r29.2 (1 : Int)).bind fun r37 =>
                        if r37 < (0 : Int) then some false
                        else if r37 = r29.1 then some true
                        else some false)
                      else some false)
                    else some false)
                  else some false)
                else some false)
              else some false)
            else some false)
          else some false)
        else some false)
      else some false)
    else some false)
  else some false
end Go.Proofs.Ythgnikafeamidab.OmFnExactReaderNext
