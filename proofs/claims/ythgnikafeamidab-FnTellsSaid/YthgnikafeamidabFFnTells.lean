import Derived.Test.YthgnikafeamidabOmD
set_option maxRecDepth 1000000
set_option linter.unusedVariables false
namespace Go.Proofs.Ythgnikafeamidab.OmFnTells
open Go Go.OM
@[reducible] noncomputable def tConfig : Ty := .pair (.sl (.int .i64)) (.pair (.int .i64) (.unit))
@[reducible] noncomputable def Config : Type := (List Int) × Int × Unit
@[reducible] noncomputable def tEntry : Ty := .pair (.int .i64) (.pair (.int .i64) (.pair .bool (.pair .str (.unit))))
@[reducible] noncomputable def Entry : Type := Int × Int × Bool × ByteArray × Unit
@[reducible] noncomputable def tMend : Ty := .pair (.int .i64) (.pair (.int .i64) (.pair (.sl (.int .i64)) (.pair (.sl tEntry) (.pair .bool (.pair (.sl (.sl (.int .i64))) (.unit))))))
@[reducible] noncomputable def Mend : Type := Int × Int × (List Int) × (List Entry) × Bool × (List (List Int)) × Unit
@[reducible] noncomputable def tEra : Ty := .pair (.sl (.int .i64)) (.pair .bool (.pair (.int .i64) (.unit)))
@[reducible] noncomputable def Era : Type := (List Int) × Bool × Int × Unit
@[reducible] noncomputable def tRegister : Ty := .pair (.sl tEra) (.pair (.int .i64) (.unit))
@[reducible] noncomputable def Register : Type := (List Era) × Int × Unit
@[reducible] noncomputable def tEvent : Ty := .pair (.int .i64) (.pair (.int .i64) (.pair .str (.unit)))
@[reducible] noncomputable def Event : Type := Int × Int × ByteArray × Unit
@[reducible] noncomputable def tReader : Ty := .pair (.int .i64) (.pair (.int .i64) (.pair (.sl tEvent) (.unit)))
@[reducible] noncomputable def Reader : Type := Int × Int × (List Event) × Unit
@[reducible] noncomputable def tAnswer : Ty := .pair (.int .i64) (.pair .bool (.pair tEntry (.unit)))
@[reducible] noncomputable def Answer : Type := Int × Bool × Entry × Unit
@[reducible] noncomputable def tl1Cur : Ty := .pair (.sl (.int .u8)) (.pair (.int .i64) (.pair (.int .i64) (.unit)))
@[reducible] noncomputable def l1Cur : Type := (List Int) × Int × Int × Unit
@[reducible] noncomputable def tStore : Ty := .pair (.sl tEntry) (.pair (.sl tEntry) (.pair (.int .i64) (.unit)))
@[reducible] noncomputable def Store : Type := (List Entry) × (List Entry) × Int × Unit
/-! laws.big -/
noncomputable def laws_big.f (a0 : (List Int)) : Option (Bool) := some (decide ((1048576 : Int) < ((a0.length : Nat) : Int)))
/-! spec.l1New -/
noncomputable def spec_l1New.p7 : Nat → (List Int) → Int → Int → Option (l1Cur)
  | 0, _, _, _ => none
  | k + 1, x0, x1, x2 => if x2 < ((x0.length : Nat) : Int) then (if x2 < (4000 : Int) then (if (0 : Int) ≤ x2 ∧ x2 < ((x0.length : Nat) : Int) then spec_l1New.p7 k x0 (andK .i64 (wrap64 ((wrap64 ((wrap64 (x1 * (131 : Int))) + (wrap64 ((x0.getD x2.toNat (0 : Int)))))) + (7 : Int))) (1073741823 : Int)) (wrap64 (x2 + (1 : Int)))
        else none)
      else some (x0, ((0 : Int), (x1, ()))))
    else some (x0, ((0 : Int), (x1, ())))
noncomputable def spec_l1New.f (k : Nat) (a0 : (List Int)) : Option (l1Cur) := spec_l1New.p7 k a0 (wrap64 ((17817 : Int) + ((a0.length : Nat) : Int))) (0 : Int)
/-! spec.l1Byte -/
noncomputable def spec_l1Byte.f (a0 : l1Cur) : Option (Int × l1Cur) := if a0.2.1 < ((a0.1.length : Nat) : Int) then (if (0 : Int) ≤ a0.2.1 ∧ a0.2.1 < ((a0.1.length : Nat) : Int) then some ((andK .i64 (wrap64 ((andK .i64 (xorK .i64 (shrK .i64 (wrap64 ((wrap64 (a0.2.2.1 * (6364136223846793005 : Int))) + (1442695040888963407 : Int))) (33 : Int)) (shrK .i64 (wrap64 ((wrap64 (a0.2.2.1 * (6364136223846793005 : Int))) + (1442695040888963407 : Int))) (45 : Int))) (255 : Int)) + (wrap64 ((a0.1.getD a0.2.1.toNat (0 : Int)))))) (255 : Int)), (a0.1, ((wrap64 (a0.2.1 + (1 : Int))), ((wrap64 ((wrap64 (a0.2.2.1 * (6364136223846793005 : Int))) + (1442695040888963407 : Int))), a0.2.2.2))))
    else none)
  else some ((andK .i64 (xorK .i64 (shrK .i64 (wrap64 ((wrap64 (a0.2.2.1 * (6364136223846793005 : Int))) + (1442695040888963407 : Int))) (33 : Int)) (shrK .i64 (wrap64 ((wrap64 (a0.2.2.1 * (6364136223846793005 : Int))) + (1442695040888963407 : Int))) (45 : Int))) (255 : Int)), (a0.1, (a0.2.1, ((wrap64 ((wrap64 (a0.2.2.1 * (6364136223846793005 : Int))) + (1442695040888963407 : Int))), a0.2.2.2))))
/-! spec.l1Below -/
noncomputable def spec_l1Below.f (a0 : l1Cur) (a1 : Int) : Option (Int × l1Cur) := if a1 ≤ (0 : Int) then some ((0 : Int), a0)
  else if a1 ≤ (256 : Int) then ((spec_l1Byte.f a0).bind fun r1 =>
    if a1 = (0 : Int) then none
    else some ((Int.tmod r1.1 a1), r1.2))
  else (spec_l1Byte.f a0).bind fun r2 =>
  (spec_l1Byte.f r2.2).bind fun r3 =>
  (spec_l1Byte.f r3.2).bind fun r4 =>
  (spec_l1Byte.f r4.2).bind fun r5 =>
  if a1 = (0 : Int) then none
  else some ((Int.tmod (wrap64 ((wrap64 ((wrap64 ((wrap64 (r2.1 * (16777216 : Int))) + (wrap64 (r3.1 * (65536 : Int))))) + (wrap64 (r4.1 * (256 : Int))))) + r5.1)) a1), r5.2)
/-! spec.l1Once -/
noncomputable def spec_l1Once.f (a0 : l1Cur) (a1 : Int) : Option (Bool × l1Cur) := (spec_l1Below.f a0 a1).bind fun r1 =>
  some ((decide (r1.1 = (0 : Int))), r1.2)
/-! spec.l4DrawRight -/
noncomputable def spec_l4DrawRight.p9 : Nat → Int → Int → Config → Config → l1Cur → Option (Config × l1Cur)
  | 0, _, _, _, _, _ => none
  | k + 1, x0, x1, x2, x3, x4 => if x1 < x0 then ((spec_l1Below.f x4 (5 : Int)).bind fun r3 =>
      if (((x3.1.length : Nat) : Int) + ((([r3.1] : List Int).length : Nat) : Int)) ≤ lim then spec_l4DrawRight.p9 k x0 (wrap64 (x1 + (1 : Int))) x2 ((x3.1 ++ ([r3.1] : List Int)), x3.2) r3.2
      else none)
    else (spec_l1Once.f x4 (2 : Int)).bind fun r4 =>
    if r4.1 = true then some ((x3.1, ((2 : Int), x3.2.2)), r4.2)
    else some (x3, r4.2)
noncomputable def spec_l4DrawRight.f (k : Nat) (a0 : l1Cur) : Option (Config × l1Cur) := (spec_l1Below.f a0 (3 : Int)).bind fun r1 =>
  (spec_l1Below.f r1.2 (5 : Int)).bind fun r2 =>
  spec_l4DrawRight.p9 k (wrap64 ((3 : Int) + r2.1)) (0 : Int) (([] : List Int), ((0 : Int), ())) (([] : List Int), ((wrap64 ((1 : Int) + r1.1)), ())) r2.2
/-! spec.l1Max -/
noncomputable def spec_l1Max.f (a0 : Int) (a1 : Int) : Option (Int) := if a1 < a0 then some a0
  else some a1
/-! spec.l4Has -/
noncomputable def spec_l4Has.p5 : Nat → (List Int) → Int → Int → Option (Bool)
  | 0, _, _, _ => none
  | k + 1, x0, x1, x2 => if x2 < ((x0.length : Nat) : Int) then (if (0 : Int) ≤ x2 ∧ x2 < ((x0.length : Nat) : Int) then (if (x0.getD x2.toNat (0 : Int)) = x1 then some true
        else spec_l4Has.p5 k x0 x1 (wrap64 (x2 + (1 : Int))))
      else none)
    else some false
noncomputable def spec_l4Has.f (k : Nat) (a0 : (List Int)) (a1 : Int) : Option (Bool) := spec_l4Has.p5 k a0 a1 (0 : Int)
/-! spec.l4Put -/
noncomputable def spec_l4Put.p9 : Nat → (List Int) → Int → (List Int) → Bool → Int → Option ((List Int))
  | 0, _, _, _, _, _ => none
  | k + 1, x0, x1, x2, x3, x4 => if x4 < ((x0.length : Nat) : Int) then (if x3 = true then (if (0 : Int) ≤ x4 ∧ x4 < ((x0.length : Nat) : Int) then (if (((x2.length : Nat) : Int) + ((([(x0.getD x4.toNat (0 : Int))] : List Int).length : Nat) : Int)) ≤ lim then spec_l4Put.p9 k x0 x1 (x2 ++ ([(x0.getD x4.toNat (0 : Int))] : List Int)) x3 (wrap64 (x4 + (1 : Int)))
          else none)
        else none)
      else if (0 : Int) ≤ x4 ∧ x4 < ((x0.length : Nat) : Int) then (if x1 < (x0.getD x4.toNat (0 : Int)) then (if (((x2.length : Nat) : Int) + ((([x1] : List Int).length : Nat) : Int)) ≤ lim then (if (0 : Int) ≤ x4 ∧ x4 < ((x0.length : Nat) : Int) then (if ((((x2 ++ ([x1] : List Int)).length : Nat) : Int) + ((([(x0.getD x4.toNat (0 : Int))] : List Int).length : Nat) : Int)) ≤ lim then spec_l4Put.p9 k x0 x1 ((x2 ++ ([x1] : List Int)) ++ ([(x0.getD x4.toNat (0 : Int))] : List Int)) true (wrap64 (x4 + (1 : Int)))
              else none)
            else none)
          else none)
        else if (0 : Int) ≤ x4 ∧ x4 < ((x0.length : Nat) : Int) then (if (((x2.length : Nat) : Int) + ((([(x0.getD x4.toNat (0 : Int))] : List Int).length : Nat) : Int)) ≤ lim then spec_l4Put.p9 k x0 x1 (x2 ++ ([(x0.getD x4.toNat (0 : Int))] : List Int)) x3 (wrap64 (x4 + (1 : Int)))
          else none)
        else none)
      else none)
    else if x3 = true then some x2
    else if (((x2.length : Nat) : Int) + ((([x1] : List Int).length : Nat) : Int)) ≤ lim then some (x2 ++ ([x1] : List Int))
    else none
noncomputable def spec_l4Put.f (k : Nat) (a0 : (List Int)) (a1 : Int) : Option ((List Int)) := (spec_l4Has.f k a0 a1).bind fun r1 =>
  spec_l4Put.p9 k a0 a1 ([] : List Int) r1 (0 : Int)
/-! spec.l1PickInt -/
noncomputable def spec_l1PickInt.f (a0 : l1Cur) (a1 : (List Int)) : Option (Int × l1Cur) := (spec_l1Below.f a0 ((a1.length : Nat) : Int)).bind fun r1 =>
  if (0 : Int) ≤ r1.1 ∧ r1.1 < ((a1.length : Nat) : Int) then some ((a1.getD r1.1.toNat (0 : Int)), r1.2)
  else none
/-! spec.l4DrawNodes -/
noncomputable def spec_l4DrawNodes.p9 : Nat → (List Int) → Int → Int → Config → l1Cur → Option ((List Int) × l1Cur)
  | 0, _, _, _, _, _ => none
  | k + 1, x0, x1, x2, x3, x4 => if x2 < x1 then ((spec_l1Max.f ((x3.1.length : Nat) : Int) (1 : Int)).bind fun r2 =>
      (spec_l1Below.f x4 r2).bind fun r3 =>
      (spec_l4Put.f k x0 r3.1).bind fun r4 =>
      spec_l4DrawNodes.p9 k r4 x1 (wrap64 (x2 + (1 : Int))) x3 r3.2)
    else (spec_l1Once.f x4 (20 : Int)).bind fun r5 =>
    if r5.1 = true then ((spec_l1PickInt.f r5.2 ([(-1 : Int), (0 : Int), ((x3.1.length : Nat) : Int)] : List Int)).bind fun r6 =>
      if (((x0.length : Nat) : Int) + ((([r6.1] : List Int).length : Nat) : Int)) ≤ lim then some ((x0 ++ ([r6.1] : List Int)), r6.2)
      else none)
    else some (x0, r5.2)
noncomputable def spec_l4DrawNodes.f (k : Nat) (a0 : l1Cur) (a1 : Config) : Option ((List Int) × l1Cur) := (spec_l1Below.f a0 (wrap64 (((a1.1.length : Nat) : Int) + (2 : Int)))).bind fun r1 =>
  spec_l4DrawNodes.p9 k ([] : List Int) r1.1 (0 : Int) a1 r1.2
/-! spec.l1In -/
noncomputable def spec_l1In.f (a0 : Int) (a1 : Int) (a2 : Int) : Option (Bool) := if a1 ≤ a0 then some (decide (a0 ≤ a2))
  else some false
/-! spec.ConfigOk -/
noncomputable def spec_ConfigOk.p9 : Nat → Int → Config → Option (Bool)
  | 0, _, _ => none
  | k + 1, x0, x1 => if x0 < ((x1.1.length : Nat) : Int) then (if (0 : Int) ≤ x0 ∧ x0 < ((x1.1.length : Nat) : Int) then ((spec_l1In.f (x1.1.getD x0.toNat (0 : Int)) (0 : Int) (7 : Int)).bind fun r3 =>
        if r3 = true then spec_ConfigOk.p9 k (wrap64 (x0 + (1 : Int))) x1
        else some false)
      else none)
    else some true
noncomputable def spec_ConfigOk.f (k : Nat) (a0 : Config) : Option (Bool) := (spec_l1In.f ((a0.1.length : Nat) : Int) (1 : Int) (8 : Int)).bind fun r1 =>
  if r1 = true then ((spec_l1In.f a0.2.1 (1 : Int) (4 : Int)).bind fun r2 =>
    if r2 = true then spec_ConfigOk.p9 k (0 : Int) a0
    else some false)
  else some false
/-! spec.l4Asc -/
noncomputable def spec_l4Asc.p5 : Nat → (List Int) → Int → Int → Int → Option (Bool)
  | 0, _, _, _, _ => none
  | k + 1, x0, x1, x2, x3 => if x3 < ((x0.length : Nat) : Int) then (if (0 : Int) ≤ x3 ∧ x3 < ((x0.length : Nat) : Int) then ((spec_l1In.f (x0.getD x3.toNat (0 : Int)) x1 x2).bind fun r1 =>
        if r1 = true then (if (0 : Int) < x3 then (if (0 : Int) ≤ (wrap64 (x3 - (1 : Int))) ∧ (wrap64 (x3 - (1 : Int))) < ((x0.length : Nat) : Int) then (if (0 : Int) ≤ x3 ∧ x3 < ((x0.length : Nat) : Int) then (if (x0.getD x3.toNat (0 : Int)) ≤ (x0.getD (wrap64 (x3 - (1 : Int))).toNat (0 : Int)) then some false
                else spec_l4Asc.p5 k x0 x1 x2 (wrap64 (x3 + (1 : Int))))
              else none)
            else none)
          else spec_l4Asc.p5 k x0 x1 x2 (wrap64 (x3 + (1 : Int))))
        else some false)
      else none)
    else some true
noncomputable def spec_l4Asc.f (k : Nat) (a0 : (List Int)) (a1 : Int) (a2 : Int) : Option (Bool) := spec_l4Asc.p5 k a0 a1 a2 (0 : Int)
/-! spec.NodesOk -/
noncomputable def spec_NodesOk.f (k : Nat) (a0 : Config) (a1 : (List Int)) : Option (Bool) := (spec_ConfigOk.f k a0).bind fun r1 =>
  if r1 = true then ((spec_l4Asc.f k a1 (0 : Int) (wrap64 (((a0.1.length : Nat) : Int) - (1 : Int)))).bind fun r2 =>
    some r2)
  else some false
/-! spec.l4Span -/
noncomputable def spec_l4Span.p9 : Nat → (List Int) → (List Bool) → Int → Int → Config → Option (Int)
  | 0, _, _, _, _, _ => none
  | k + 1, x0, x1, x2, x3, x4 => if x3 < ((x0.length : Nat) : Int) then (if (0 : Int) ≤ x3 ∧ x3 < ((x0.length : Nat) : Int) then (if (0 : Int) ≤ (x0.getD x3.toNat (0 : Int)) ∧ (x0.getD x3.toNat (0 : Int)) < ((x4.1.length : Nat) : Int) then (if (0 : Int) ≤ (x4.1.getD (x0.getD x3.toNat (0 : Int)).toNat (0 : Int)) ∧ (x4.1.getD (x0.getD x3.toNat (0 : Int)).toNat (0 : Int)) < ((x1.length : Nat) : Int) then (if (x1.getD (x4.1.getD (x0.getD x3.toNat (0 : Int)).toNat (0 : Int)).toNat false) = true then spec_l4Span.p9 k x0 x1 x2 (wrap64 (x3 + (1 : Int))) x4
            else if (0 : Int) ≤ (x4.1.getD (x0.getD x3.toNat (0 : Int)).toNat (0 : Int)) ∧ (x4.1.getD (x0.getD x3.toNat (0 : Int)).toNat (0 : Int)) < ((x1.length : Nat) : Int) then spec_l4Span.p9 k x0 (x1.set (x4.1.getD (x0.getD x3.toNat (0 : Int)).toNat (0 : Int)).toNat true) (wrap64 (x2 + (1 : Int))) (wrap64 (x3 + (1 : Int))) x4
            else none)
          else none)
        else none)
      else none)
    else some x2
noncomputable def spec_l4Span.f (k : Nat) (a0 : Config) (a1 : (List Int)) : Option (Int) := if (0 : Int) ≤ (8 : Int) ∧ (8 : Int) ≤ (8 : Int) ∧ (8 : Int) ≤ lim then spec_l4Span.p9 k a1 (List.replicate (8 : Int).toNat false) (0 : Int) (0 : Int) a0
  else none
/-! spec.Holds -/
noncomputable def spec_Holds.f (k : Nat) (a0 : Config) (a1 : (List Int)) : Option (Bool) := (spec_NodesOk.f k a0 a1).bind fun r1 =>
  if r1 = true then ((spec_l4Span.f k a0 a1).bind fun r2 =>
    some (decide (a0.2.1 ≤ r2)))
  else some false
/-! spec.l7DrawSet -/
noncomputable def spec_l7DrawSet.p7 : Nat → (List Int) → Int → Config → l1Cur → Option ((List Int) × l1Cur)
  | 0, _, _, _, _ => none
  | k + 1, x0, x1, x2, x3 => if x1 < ((x2.1.length : Nat) : Int) then ((spec_Holds.f k x2 x0).bind fun r2 =>
      if r2 = true then some (x0, x3)
      else (spec_l4Put.f k x0 x1).bind fun r3 =>
      spec_l7DrawSet.p7 k r3 (wrap64 (x1 + (1 : Int))) x2 x3)
    else some (x0, x3)
noncomputable def spec_l7DrawSet.f (k : Nat) (a0 : l1Cur) (a1 : Config) : Option ((List Int) × l1Cur) := (spec_l4DrawNodes.f k a0 a1).bind fun r1 =>
  spec_l7DrawSet.p7 k r1.1 (0 : Int) a1 r1.2
/-! spec.PlaceOk -/
noncomputable def spec_PlaceOk.f (a0 : Int) : Option (Bool) := if (0 : Int) < a0 then ((spec_l1In.f (wrap64 ((Int.tdiv a0 (4294967296 : Int)))) (1 : Int) (30 : Int)).bind fun r1 =>
    if r1 = true then ((spec_l1In.f (Int.tmod a0 (4294967296 : Int)) (1 : Int) (60 : Int)).bind fun r2 =>
      some r2)
    else some false)
  else some false
/-! spec.EpochOf -/
noncomputable def spec_EpochOf.f (a0 : Int) : Option (Int) := (spec_PlaceOk.f a0).bind fun r1 =>
  if r1 = true then some (wrap64 ((Int.tdiv a0 (4294967296 : Int))))
  else some (0 : Int)
/-! spec.RegOk -/
mutual
noncomputable def spec_RegOk.p8 : Nat → Int → Config → Register → Option (Bool)
  | 0, _, _, _ => none
  | k + 1, x0, x1, x2 => spec_RegOk.p11 k x0 (0 : Int) x1 x2
noncomputable def spec_RegOk.p11 : Nat → Int → Int → Config → Register → Option (Bool)
  | 0, _, _, _, _ => none
  | k + 1, x0, x1, x2, x3 => if x1 < x0 then (if (0 : Int) ≤ x1 ∧ x1 < ((x3.1.length : Nat) : Int) then ((spec_Holds.f k x2 (x3.1.getD x1.toNat (([] : List Int), (false, ((0 : Int), ())))).1).bind fun r4 =>
        if r4 = true then ((spec_l1In.f (x3.1.getD x1.toNat (([] : List Int), (false, ((0 : Int), ())))).2.2.1 (0 : Int) (60 : Int)).bind fun r5 =>
          if r5 = true then (if (x3.1.getD x1.toNat (([] : List Int), (false, ((0 : Int), ())))).2.1 = true then spec_RegOk.p20 k x0 x1 (x3.1.getD x1.toNat (([] : List Int), (false, ((0 : Int), ())))).2.2.1 r5 (!(decide (r5 = true))) (x3.1.getD x1.toNat (([] : List Int), (false, ((0 : Int), ())))).2.1 (!(decide ((x3.1.getD x1.toNat (([] : List Int), (false, ((0 : Int), ())))).2.1 = true))) false false x2 x3 (x3.1.getD x1.toNat (([] : List Int), (false, ((0 : Int), ()))))
            else if (x3.1.getD x1.toNat (([] : List Int), (false, ((0 : Int), ())))).2.2.1 = (0 : Int) then spec_RegOk.p20 k x0 x1 (x3.1.getD x1.toNat (([] : List Int), (false, ((0 : Int), ())))).2.2.1 r5 (!(decide (r5 = true))) (x3.1.getD x1.toNat (([] : List Int), (false, ((0 : Int), ())))).2.1 (!(decide ((x3.1.getD x1.toNat (([] : List Int), (false, ((0 : Int), ())))).2.1 = true))) true (!(decide ((x3.1.getD x1.toNat (([] : List Int), (false, ((0 : Int), ())))).2.2.1 = (0 : Int)))) x2 x3 (x3.1.getD x1.toNat (([] : List Int), (false, ((0 : Int), ()))))
            else some false)
          else some false)
        else some false)
      else none)
    else some true
noncomputable def spec_RegOk.p20 : Nat → Int → Int → Int → Bool → Bool → Bool → Bool → Bool → Bool → Config → Register → Era → Option (Bool)
  | 0, _, _, _, _, _, _, _, _, _, _, _, _ => none
  | k + 1, x0, x1, x2, x3, x4, x5, x6, x7, x8, x9, x10, x11 => if x11.2.1 = true then (if x1 = (wrap64 (x0 - (1 : Int))) then some false
      else if (0 : Int) < x1 then (if (0 : Int) ≤ (wrap64 (x1 - (1 : Int))) ∧ (wrap64 (x1 - (1 : Int))) < ((x10.1.length : Nat) : Int) then (if (x10.1.getD (wrap64 (x1 - (1 : Int))).toNat (([] : List Int), (false, ((0 : Int), ())))).2.1 = true then spec_RegOk.p11 k x0 (wrap64 (x1 + (1 : Int))) x9 x10
          else some false)
        else none)
      else spec_RegOk.p11 k x0 (wrap64 (x1 + (1 : Int))) x9 x10)
    else spec_RegOk.p11 k x0 (wrap64 (x1 + (1 : Int))) x9 x10
end
noncomputable def spec_RegOk.f (k : Nat) (a0 : Config) (a1 : Register) : Option (Bool) := (spec_ConfigOk.f k a0).bind fun r1 =>
  if r1 = true then (if (30 : Int) < ((a1.1.length : Nat) : Int) then some false
    else if a1.2.1 = (0 : Int) then spec_RegOk.p8 k ((a1.1.length : Nat) : Int) a0 a1
    else (spec_PlaceOk.f a1.2.1).bind fun r2 =>
    if r2 = true then ((spec_EpochOf.f a1.2.1).bind fun r3 =>
      if ((a1.1.length : Nat) : Int) < r3 then some false
      else spec_RegOk.p8 k ((a1.1.length : Nat) : Int) a0 a1)
    else some false)
  else some false
/-! spec.l7Copy -/
noncomputable def spec_l7Copy.p7 : Nat → Int → Register → Register → Register → Option (Register)
  | 0, _, _, _, _ => none
  | k + 1, x0, x1, x2, x3 => if x0 < ((x1.1.length : Nat) : Int) then (if (0 : Int) ≤ x0 ∧ x0 < ((x1.1.length : Nat) : Int) then (if (((([] : List Int).length : Nat) : Int) + (((x1.1.getD x0.toNat (([] : List Int), (false, ((0 : Int), ())))).1.length : Nat) : Int)) ≤ lim then (if (((x3.1.length : Nat) : Int) + ((([((([] : List Int) ++ (x1.1.getD x0.toNat (([] : List Int), (false, ((0 : Int), ())))).1), (x1.1.getD x0.toNat (([] : List Int), (false, ((0 : Int), ())))).2)] : List Era).length : Nat) : Int)) ≤ lim then spec_l7Copy.p7 k (wrap64 (x0 + (1 : Int))) x1 x2 ((x3.1 ++ ([((([] : List Int) ++ (x1.1.getD x0.toNat (([] : List Int), (false, ((0 : Int), ())))).1), (x1.1.getD x0.toNat (([] : List Int), (false, ((0 : Int), ())))).2)] : List Era)), x3.2)
          else none)
        else none)
      else none)
    else some x3
noncomputable def spec_l7Copy.f (k : Nat) (a0 : Register) : Option (Register) := spec_l7Copy.p7 k (0 : Int) a0 (([] : List Era), ((0 : Int), ())) (([] : List Era), (a0.2.1, ()))
/-! spec.RegOpen -/
noncomputable def spec_RegOpen.f (k : Nat) (a0 : Config) (a1 : Register) (a2 : (List Int)) : Option (Register × Int × Bool) := (spec_RegOk.f k a0 a1).bind fun r1 =>
  if r1 = true then ((spec_l7Copy.f k a1).bind fun r2 =>
    (spec_Holds.f k a0 a2).bind fun r3 =>
    if r3 = true then (if ((a1.1.length : Nat) : Int) = (30 : Int) then some (r2, (0 : Int), false)
      else if (((([] : List Int).length : Nat) : Int) + ((a2.length : Nat) : Int)) ≤ lim then (if (((r2.1.length : Nat) : Int) + ((([((([] : List Int) ++ a2), (false, ((0 : Int), ())))] : List Era).length : Nat) : Int)) ≤ lim then some (((r2.1 ++ ([((([] : List Int) ++ a2), (false, ((0 : Int), ())))] : List Era)), r2.2), (((r2.1 ++ ([((([] : List Int) ++ a2), (false, ((0 : Int), ())))] : List Era)).length : Nat) : Int), true)
        else none)
      else none)
    else some (r2, (0 : Int), false))
  else some ((([] : List Era), ((0 : Int), ())), (0 : Int), false)
/-! spec.FirstOpen -/
noncomputable def spec_FirstOpen.p5 : Nat → Int → Register → Option (Int)
  | 0, _, _ => none
  | k + 1, x0, x1 => if x0 < ((x1.1.length : Nat) : Int) then (if (0 : Int) ≤ x0 ∧ x0 < ((x1.1.length : Nat) : Int) then (if (x1.1.getD x0.toNat (([] : List Int), (false, ((0 : Int), ())))).2.1 = true then spec_FirstOpen.p5 k (wrap64 (x0 + (1 : Int))) x1
        else some (wrap64 (x0 + (1 : Int))))
      else none)
    else some (0 : Int)
noncomputable def spec_FirstOpen.f (k : Nat) (a0 : Register) : Option (Int) := spec_FirstOpen.p5 k (0 : Int) a0
/-! spec.RegClose -/
noncomputable def spec_RegClose.f (k : Nat) (a0 : Config) (a1 : Register) (a2 : Int) (a3 : Int) : Option (Register × Bool) := (spec_RegOk.f k a0 a1).bind fun r1 =>
  if r1 = true then ((spec_l7Copy.f k a1).bind fun r2 =>
    (spec_FirstOpen.f k a1).bind fun r3 =>
    if a2 = ((a1.1.length : Nat) : Int) then (if r3 = (0 : Int) then some (r2, false)
      else if a2 = r3 then some (r2, false)
      else (spec_l1In.f a3 (0 : Int) (60 : Int)).bind fun r4 =>
      if r4 = true then (if (0 : Int) ≤ (wrap64 (r3 - (1 : Int))) ∧ (wrap64 (r3 - (1 : Int))) < ((r2.1.length : Nat) : Int) then (if (0 : Int) ≤ (wrap64 (r3 - (1 : Int))) ∧ (wrap64 (r3 - (1 : Int))) < (((r2.1.set (wrap64 (r3 - (1 : Int))).toNat ((r2.1.getD (wrap64 (r3 - (1 : Int))).toNat (([] : List Int), (false, ((0 : Int), ())))).1, (true, (r2.1.getD (wrap64 (r3 - (1 : Int))).toNat (([] : List Int), (false, ((0 : Int), ())))).2.2))).length : Nat) : Int) then some ((((r2.1.set (wrap64 (r3 - (1 : Int))).toNat ((r2.1.getD (wrap64 (r3 - (1 : Int))).toNat (([] : List Int), (false, ((0 : Int), ())))).1, (true, (r2.1.getD (wrap64 (r3 - (1 : Int))).toNat (([] : List Int), (false, ((0 : Int), ())))).2.2))).set (wrap64 (r3 - (1 : Int))).toNat (((r2.1.set (wrap64 (r3 - (1 : Int))).toNat ((r2.1.getD (wrap64 (r3 - (1 : Int))).toNat (([] : List Int), (false, ((0 : Int), ())))).1, (true, (r2.1.getD (wrap64 (r3 - (1 : Int))).toNat (([] : List Int), (false, ((0 : Int), ())))).2.2))).getD (wrap64 (r3 - (1 : Int))).toNat (([] : List Int), (false, ((0 : Int), ())))).1, (((r2.1.set (wrap64 (r3 - (1 : Int))).toNat ((r2.1.getD (wrap64 (r3 - (1 : Int))).toNat (([] : List Int), (false, ((0 : Int), ())))).1, (true, (r2.1.getD (wrap64 (r3 - (1 : Int))).toNat (([] : List Int), (false, ((0 : Int), ())))).2.2))).getD (wrap64 (r3 - (1 : Int))).toNat (([] : List Int), (false, ((0 : Int), ())))).2.1, (a3, ((r2.1.set (wrap64 (r3 - (1 : Int))).toNat ((r2.1.getD (wrap64 (r3 - (1 : Int))).toNat (([] : List Int), (false, ((0 : Int), ())))).1, (true, (r2.1.getD (wrap64 (r3 - (1 : Int))).toNat (([] : List Int), (false, ((0 : Int), ())))).2.2))).getD (wrap64 (r3 - (1 : Int))).toNat (([] : List Int), (false, ((0 : Int), ())))).2.2.2)))), r2.2), true)
          else none)
        else none)
      else some (r2, false))
    else some (r2, false))
  else some ((([] : List Era), ((0 : Int), ())), false)
/-! spec.l1Place -/
noncomputable def spec_l1Place.f (a0 : Int) (a1 : Int) : Option (Int) := some (wrap64 ((wrap64 ((4294967296 : Int) * a0)) + a1))
/-! spec.RegTrim -/
noncomputable def spec_RegTrim.f (k : Nat) (a0 : Config) (a1 : Register) (a2 : Int) : Option (Register × Bool) := (spec_RegOk.f k a0 a1).bind fun r1 =>
  if r1 = true then ((spec_l7Copy.f k a1).bind fun r2 =>
    (spec_PlaceOk.f a2).bind fun r3 =>
    if r3 = true then ((spec_EpochOf.f a2).bind fun r4 =>
      if ((a1.1.length : Nat) : Int) < r4 then some (r2, false)
      else (spec_l1Max.f r2.2.1 a2).bind fun r5 =>
      some ((r2.1, (r5, r2.2.2)), true))
    else some (r2, false))
  else some ((([] : List Era), ((0 : Int), ())), false)
/-! spec.l7DrawRight -/
noncomputable def spec_l7DrawRight.p7 : Nat → Int → Config → Register → Register → l1Cur → Option (Register × l1Cur)
  | 0, _, _, _, _, _ => none
  | k + 1, x0, x1, x2, x3, x4 => (spec_l1Below.f x4 (7 : Int)).bind fun r1 =>
    if x0 < r1.1 then ((spec_l7DrawSet.f k r1.2 x1).bind fun r2 =>
      (spec_RegOpen.f k x1 x3 r2.1).bind fun r3 =>
      (spec_l1Below.f r2.2 (4 : Int)).bind fun r4 =>
      if r4.1 = (0 : Int) then ((spec_l1Below.f r4.2 (5 : Int)).bind fun r5 =>
        (spec_RegClose.f k x1 x3 ((x3.1.length : Nat) : Int) r5.1).bind fun r6 =>
        if r6.2 = true then spec_l7DrawRight.p7 k (wrap64 (x0 + (1 : Int))) x1 x2 r6.1 r5.2
        else spec_l7DrawRight.p7 k (wrap64 (x0 + (1 : Int))) x1 x2 x3 r5.2)
      else if r4.1 = (1 : Int) then ((spec_l1Below.f r4.2 (2 : Int)).bind fun r7 =>
        (spec_l1Below.f r7.2 (4 : Int)).bind fun r8 =>
        (spec_l1Place.f (wrap64 ((1 : Int) + r7.1)) (wrap64 ((1 : Int) + r8.1))).bind fun r9 =>
        (spec_RegTrim.f k x1 x3 r9).bind fun r10 =>
        if r10.2 = true then spec_l7DrawRight.p7 k (wrap64 (x0 + (1 : Int))) x1 x2 r10.1 r8.2
        else spec_l7DrawRight.p7 k (wrap64 (x0 + (1 : Int))) x1 x2 x3 r8.2)
      else if r3.2.2 = true then spec_l7DrawRight.p7 k (wrap64 (x0 + (1 : Int))) x1 x2 r3.1 r4.2
      else spec_l7DrawRight.p7 k (wrap64 (x0 + (1 : Int))) x1 x2 x3 r4.2)
    else some (x3, r1.2)
noncomputable def spec_l7DrawRight.f (k : Nat) (a0 : l1Cur) (a1 : Config) : Option (Register × l1Cur) := spec_l7DrawRight.p7 k (0 : Int) a1 (([] : List Era), ((0 : Int), ())) (([] : List Era), ((0 : Int), ())) a0
/-! spec.l1DrawPlace -/
noncomputable def spec_l1DrawPlace.f (a0 : l1Cur) : Option (Int × l1Cur) := (spec_l1Below.f a0 (3 : Int)).bind fun r1 =>
  (spec_l1Below.f r1.2 (6 : Int)).bind fun r2 =>
  (spec_l1Place.f (wrap64 ((1 : Int) + r1.1)) (wrap64 ((1 : Int) + r2.1))).bind fun r3 =>
  (spec_l1Below.f r2.2 (15 : Int)).bind fun r4 =>
  if r4.1 = (0 : Int) then ((spec_l1PickInt.f r4.2 ([(0 : Int), (-1 : Int), (4294967296 : Int), (4294967297 : Int), (9223372036854775807 : Int), (-9223372036854775808 : Int)] : List Int)).bind fun r5 =>
    some (r5.1, r5.2))
  else if r4.1 = (1 : Int) then ((spec_l1PickInt.f r4.2 ([(0 : Int), (30 : Int), (31 : Int)] : List Int)).bind fun r6 =>
    (spec_l1PickInt.f r6.2 ([(0 : Int), (60 : Int), (61 : Int)] : List Int)).bind fun r7 =>
    (spec_l1Place.f r6.1 r7.1).bind fun r8 =>
    some (r8, r7.2))
  else some (r3, r4.2)
/-! spec.l7Draw -/
noncomputable def spec_l7Draw.p35 : Nat → (List Int) → Register → Register → l1Cur → Option (Register × l1Cur)
  | 0, _, _, _, _ => none
  | k + 1, x0, x1, x2, x3 => (spec_l1Below.f x3 (2 : Int)).bind fun r7 =>
    if ((x2.1.length : Nat) : Int) < (wrap64 ((30 : Int) + r7.1)) then (if (((x2.1.length : Nat) : Int) + ((([(x0, (false, ((0 : Int), ())))] : List Era).length : Nat) : Int)) ≤ lim then spec_l7Draw.p35 k x0 x1 ((x2.1 ++ ([(x0, (false, ((0 : Int), ())))] : List Era)), x2.2) r7.2
      else none)
    else some (x2, r7.2)
noncomputable def spec_l7Draw.f (k : Nat) (a0 : l1Cur) (a1 : Config) : Option (Register × l1Cur) := (spec_l7DrawRight.f k a0 a1).bind fun r1 =>
  (spec_l1Below.f r1.2 (25 : Int)).bind fun r2 =>
  if r2.1 = (0 : Int) then ((spec_l1DrawPlace.f r2.2).bind fun r3 =>
    some ((r1.1.1, (r3.1, r1.1.2.2)), r3.2))
  else if r2.1 = (1 : Int) then (if (0 : Int) < ((r1.1.1.length : Nat) : Int) then (if (0 : Int) ≤ (wrap64 (((r1.1.1.length : Nat) : Int) - (1 : Int))) ∧ (wrap64 (((r1.1.1.length : Nat) : Int) - (1 : Int))) < ((r1.1.1.length : Nat) : Int) then some (((r1.1.1.set (wrap64 (((r1.1.1.length : Nat) : Int) - (1 : Int))).toNat ((r1.1.1.getD (wrap64 (((r1.1.1.length : Nat) : Int) - (1 : Int))).toNat (([] : List Int), (false, ((0 : Int), ())))).1, (true, (r1.1.1.getD (wrap64 (((r1.1.1.length : Nat) : Int) - (1 : Int))).toNat (([] : List Int), (false, ((0 : Int), ())))).2.2))), r1.1.2), r2.2)
      else none)
    else some (r1.1, r2.2))
  else if r2.1 = (2 : Int) then (if (0 : Int) < ((r1.1.1.length : Nat) : Int) then ((spec_l1PickInt.f r2.2 ([(-1 : Int), (1 : Int), (60 : Int), (61 : Int)] : List Int)).bind fun r4 =>
      if (0 : Int) ≤ (0 : Int) ∧ (0 : Int) < ((r1.1.1.length : Nat) : Int) then some (((r1.1.1.set (0 : Int).toNat ((r1.1.1.getD (0 : Int).toNat (([] : List Int), (false, ((0 : Int), ())))).1, ((r1.1.1.getD (0 : Int).toNat (([] : List Int), (false, ((0 : Int), ())))).2.1, (r4.1, (r1.1.1.getD (0 : Int).toNat (([] : List Int), (false, ((0 : Int), ())))).2.2.2)))), r1.1.2), r4.2)
      else none)
    else some (r1.1, r2.2))
  else if r2.1 = (3 : Int) then (if (0 : Int) < ((r1.1.1.length : Nat) : Int) then ((spec_l4DrawNodes.f k r2.2 a1).bind fun r5 =>
      if (0 : Int) ≤ (0 : Int) ∧ (0 : Int) < ((r1.1.1.length : Nat) : Int) then some (((r1.1.1.set (0 : Int).toNat (r5.1, (r1.1.1.getD (0 : Int).toNat (([] : List Int), (false, ((0 : Int), ())))).2)), r1.1.2), r5.2)
      else none)
    else some (r1.1, r2.2))
  else if r2.1 = (4 : Int) then ((spec_l7DrawSet.f k r2.2 a1).bind fun r6 =>
    spec_l7Draw.p35 k r6.1 (([] : List Era), ((0 : Int), ())) r1.1 r6.2)
  else some (r1.1, r2.2)
/-! spec.l10DrawReader -/
noncomputable def spec_l10DrawReader.p7 : Nat → Int → Reader → Reader → l1Cur → Option (Reader × l1Cur)
  | 0, _, _, _, _ => none
  | k + 1, x0, x1, x2, x3 => (spec_l1Below.f x3 (4 : Int)).bind fun r3 =>
    if x0 < r3.1 then ((spec_l1Below.f r3.2 (5 : Int)).bind fun r4 =>
      (spec_l1DrawPlace.f r4.2).bind fun r5 =>
      if (((x2.2.2.1.length : Nat) : Int) + ((([((wrap64 ((1 : Int) + r4.1)), (r5.1, ((⟨#[]⟩ : ByteArray), ())))] : List Event).length : Nat) : Int)) ≤ lim then spec_l10DrawReader.p7 k (wrap64 (x0 + (1 : Int))) x1 (x2.1, (x2.2.1, ((x2.2.2.1 ++ ([((wrap64 ((1 : Int) + r4.1)), (r5.1, ((⟨#[]⟩ : ByteArray), ())))] : List Event)), x2.2.2.2))) r5.2
      else none)
    else (spec_l1Below.f r3.2 (25 : Int)).bind fun r6 =>
    if r6.1 = (0 : Int) then ((spec_l1PickInt.f r6.2 ([(0 : Int), (31 : Int), (32 : Int)] : List Int)).bind fun r7 =>
      some ((r7.1, x2.2), r7.2))
    else if r6.1 = (1 : Int) then ((spec_l1PickInt.f r6.2 ([(0 : Int), (60 : Int), (61 : Int), (62 : Int)] : List Int)).bind fun r8 =>
      some ((x2.1, (r8.1, x2.2.2)), r8.2))
    else if r6.1 = (2 : Int) then ((spec_l1Below.f r6.2 (2 : Int)).bind fun r9 =>
      if (0 : Int) ≤ (wrap64 ((120 : Int) + r9.1)) ∧ (wrap64 ((120 : Int) + r9.1)) ≤ (wrap64 ((120 : Int) + r9.1)) ∧ (wrap64 ((120 : Int) + r9.1)) ≤ lim then some ((x2.1, (x2.2.1, ((List.replicate (wrap64 ((120 : Int) + r9.1)).toNat ((0 : Int), ((0 : Int), ((⟨#[]⟩ : ByteArray), ())))), x2.2.2.2))), r9.2)
      else none)
    else some (x2, r6.2)
noncomputable def spec_l10DrawReader.f (k : Nat) (a0 : l1Cur) : Option (Reader × l1Cur) := (spec_l1Below.f a0 (3 : Int)).bind fun r1 =>
  (spec_l1Below.f r1.2 (5 : Int)).bind fun r2 =>
  spec_l10DrawReader.p7 k (0 : Int) ((0 : Int), ((0 : Int), (([] : List Event), ()))) ((wrap64 ((1 : Int) + r1.1)), ((wrap64 ((1 : Int) + r2.1)), (([] : List Event), ()))) r2.2
/-! spec.l1Pick -/
noncomputable def spec_l1Pick.f (a0 : l1Cur) (a1 : (List ByteArray)) : Option (ByteArray × l1Cur) := (spec_l1Below.f a0 ((a1.length : Nat) : Int)).bind fun r1 =>
  if (0 : Int) ≤ r1.1 ∧ r1.1 < ((a1.length : Nat) : Int) then some ((a1.getD r1.1.toNat (⟨#[]⟩ : ByteArray)), r1.2)
  else none
/-! spec.l3DrawRight -/
noncomputable def spec_l3DrawRight.f (a0 : l1Cur) : Option (Entry × l1Cur) := (spec_l1Below.f a0 (3 : Int)).bind fun r1 =>
  (spec_l1Below.f r1.2 (6 : Int)).bind fun r2 =>
  (spec_l1Place.f (wrap64 ((1 : Int) + r1.1)) (wrap64 ((1 : Int) + r2.1))).bind fun r3 =>
  (spec_l1Pick.f r2.2 ([(⟨#[]⟩ : ByteArray), (⟨#[97]⟩ : ByteArray), (⟨#[98, 99]⟩ : ByteArray), (⟨#[0]⟩ : ByteArray), (⟨#[119, 111, 114, 100]⟩ : ByteArray)] : List ByteArray)).bind fun r4 =>
  (spec_l1Once.f r4.2 (3 : Int)).bind fun r5 =>
  if r5.1 = true then ((spec_EpochOf.f r3).bind fun r6 =>
    (spec_l1Below.f r5.2 (3 : Int)).bind fun r7 =>
    (spec_l1Once.f r7.2 (2 : Int)).bind fun r8 =>
    if r8.1 = true then some ((r3, ((wrap64 ((wrap64 (r6 + (1 : Int))) + r7.1)), (true, ((⟨#[]⟩ : ByteArray), ())))), r8.2)
    else some ((r3, ((wrap64 ((wrap64 (r6 + (1 : Int))) + r7.1)), (false, (r4.1, ())))), r8.2))
  else some ((r3, ((0 : Int), (false, (r4.1, ())))), r5.2)
/-! spec.l3Draw -/
noncomputable def spec_l3Draw.f (a0 : l1Cur) : Option (Entry × l1Cur) := (spec_l3DrawRight.f a0).bind fun r1 =>
  (spec_l1Below.f r1.2 (15 : Int)).bind fun r2 =>
  if r2.1 = (0 : Int) then ((spec_l1DrawPlace.f r2.2).bind fun r3 =>
    some ((r3.1, r1.1.2), r3.2))
  else if r2.1 = (1 : Int) then ((spec_l1PickInt.f r2.2 ([(-1 : Int), (1 : Int), (30 : Int), (31 : Int)] : List Int)).bind fun r4 =>
    some ((r1.1.1, (r4.1, r1.1.2.2)), r4.2))
  else if r2.1 = (2 : Int) then some ((r1.1.1, (r1.1.2.1, (true, r1.1.2.2.2))), r2.2)
  else if r2.1 = (3 : Int) then ((spec_l1Below.f r2.2 (2 : Int)).bind fun r5 =>
    if (0 : Int) ≤ (wrap64 ((40 : Int) + r5.1)) ∧ (wrap64 ((40 : Int) + r5.1)) ≤ (wrap64 ((40 : Int) + r5.1)) ∧ (wrap64 ((40 : Int) + r5.1)) ≤ lim then some ((r1.1.1, (r1.1.2.1, (r1.1.2.2.1, ((bytesOf (List.replicate (wrap64 ((40 : Int) + r5.1)).toNat (0 : Int))), r1.1.2.2.2.2)))), r5.2)
    else none)
  else some (r1.1, r2.2)
/-! spec.DrawReaderNext -/
mutual
noncomputable def spec_DrawReaderNext.p14 : Nat → Config → Register → Reader → Config → Register → Reader → l1Cur → Option (Config × Register × Int × Reader × (List Answer))
  | 0, _, _, _, _, _, _, _ => none
  | k + 1, x0, x1, x2, x3, x4, x5, x6 => spec_DrawReaderNext.p19 k ([] : List Answer) (0 : Int) x0 x1 x2 x3 x4 x5 x6
noncomputable def spec_DrawReaderNext.p19 : Nat → (List Answer) → Int → Config → Register → Reader → Config → Register → Reader → l1Cur → Option (Config × Register × Int × Reader × (List Answer))
  | 0, _, _, _, _, _, _, _, _, _ => none
  | k + 1, x0, x1, x2, x3, x4, x5, x6, x7, x8 => if x1 < ((x5.1.length : Nat) : Int) then ((spec_l1Once.f x8 (5 : Int)).bind fun r7 =>
      if r7.1 = true then spec_DrawReaderNext.p19 k x0 (wrap64 (x1 + (1 : Int))) x2 x3 x4 x5 x6 x7 r7.2
      else (spec_l1Once.f r7.2 (2 : Int)).bind fun r8 =>
      (spec_l3Draw.f r8.2).bind fun r9 =>
      (spec_PlaceOk.f r9.1.1).bind fun r10 =>
      if r10 = true then ((spec_l1Once.f r9.2 (6 : Int)).bind fun r11 =>
        if r11.1 = true then (if (((x0.length : Nat) : Int) + ((([(x1, (r8.1, (r9.1, ())))] : List Answer).length : Nat) : Int)) ≤ lim then spec_DrawReaderNext.p19 k (x0 ++ ([(x1, (r8.1, (r9.1, ())))] : List Answer)) (wrap64 (x1 + (1 : Int))) x2 x3 x4 x5 x6 x7 r11.2
          else none)
        else (spec_l1Place.f x7.1 x7.2.1).bind fun r12 =>
        if (((x0.length : Nat) : Int) + ((([(x1, (r8.1, ((r12, r9.1.2), ())))] : List Answer).length : Nat) : Int)) ≤ lim then spec_DrawReaderNext.p19 k (x0 ++ ([(x1, (r8.1, ((r12, r9.1.2), ())))] : List Answer)) (wrap64 (x1 + (1 : Int))) x2 x3 x4 x5 x6 x7 r11.2
        else none)
      else if (((x0.length : Nat) : Int) + ((([(x1, (r8.1, (r9.1, ())))] : List Answer).length : Nat) : Int)) ≤ lim then spec_DrawReaderNext.p19 k (x0 ++ ([(x1, (r8.1, (r9.1, ())))] : List Answer)) (wrap64 (x1 + (1 : Int))) x2 x3 x4 x5 x6 x7 r9.2
      else none)
    else (spec_l1Once.f x8 (15 : Int)).bind fun r13 =>
    if r13.1 = true then ((spec_l1Below.f r13.2 (10 : Int)).bind fun r14 =>
      if (((x0.length : Nat) : Int) + ((([((wrap64 (r14.1 - (1 : Int))), (false, (((0 : Int), ((0 : Int), (false, ((⟨#[]⟩ : ByteArray), ())))), ())))] : List Answer).length : Nat) : Int)) ≤ lim then spec_DrawReaderNext.p36 k (x0 ++ ([((wrap64 (r14.1 - (1 : Int))), (false, (((0 : Int), ((0 : Int), (false, ((⟨#[]⟩ : ByteArray), ())))), ())))] : List Answer)) x2 x3 x4 x5 x6 x7 r14.2
      else none)
    else spec_DrawReaderNext.p36 k x0 x2 x3 x4 x5 x6 x7 r13.2
noncomputable def spec_DrawReaderNext.p36 : Nat → (List Answer) → Config → Register → Reader → Config → Register → Reader → l1Cur → Option (Config × Register × Int × Reader × (List Answer))
  | 0, _, _, _, _, _, _, _, _ => none
  | k + 1, x0, x1, x2, x3, x4, x5, x6, x7 => (spec_l1Below.f x7 (8 : Int)).bind fun r15 =>
    some (x4, x5, r15.1, x6, x0)
end
noncomputable def spec_DrawReaderNext.f (k : Nat) (a0 : (List Int)) : Option (Config × Register × Int × Reader × (List Answer)) := (spec_l1New.f k a0).bind fun r1 =>
  (spec_l4DrawRight.f k r1).bind fun r2 =>
  (spec_l7Draw.f k r2.2 r2.1).bind fun r3 =>
  (spec_l10DrawReader.f k r3.2).bind fun r4 =>
  if (0 : Int) < ((r3.1.1.length : Nat) : Int) then ((spec_l1Once.f r4.2 (4 : Int)).bind fun r5 =>
    if r5.1 = true then spec_DrawReaderNext.p14 k (([] : List Int), ((0 : Int), ())) (([] : List Era), ((0 : Int), ())) ((0 : Int), ((0 : Int), (([] : List Event), ()))) r2.1 r3.1 r4.1 r5.2
    else (spec_l1Below.f r5.2 ((r3.1.1.length : Nat) : Int)).bind fun r6 =>
    spec_DrawReaderNext.p14 k (([] : List Int), ((0 : Int), ())) (([] : List Era), ((0 : Int), ())) ((0 : Int), ((0 : Int), (([] : List Event), ()))) r2.1 r3.1 ((wrap64 ((1 : Int) + r6.1)), r4.1.2) r6.2)
  else spec_DrawReaderNext.p14 k (([] : List Int), ((0 : Int), ())) (([] : List Era), ((0 : Int), ())) ((0 : Int), ((0 : Int), (([] : List Event), ()))) r2.1 r3.1 r4.1 r4.2
/-! impl.within -/
noncomputable def impl_within.f (a0 : Int) (a1 : Int) (a2 : Int) : Option (Bool) := if a1 ≤ a0 then some (decide (a0 ≤ a2))
  else some false
/-! impl.ConfigOk -/
noncomputable def impl_ConfigOk.p5 : Nat → (List Int) → Int → Int → Config → Option (Bool)
  | 0, _, _, _, _ => none
  | k + 1, x0, x1, x2, x3 => if x2 < x1 then (if (0 : Int) ≤ x2 ∧ x2 < ((x0.length : Nat) : Int) then ((impl_within.f (x0.getD x2.toNat (0 : Int)) (0 : Int) (7 : Int)).bind fun r1 =>
        if r1 = true then impl_ConfigOk.p5 k x0 x1 (wrap64 (x2 + (1 : Int))) x3
        else some false)
      else none)
    else (impl_within.f ((x3.1.length : Nat) : Int) (1 : Int) (8 : Int)).bind fun r2 =>
    if r2 = true then ((impl_within.f x3.2.1 (1 : Int) (4 : Int)).bind fun r3 =>
      some r3)
    else some false
noncomputable def impl_ConfigOk.f (k : Nat) (a0 : Config) : Option (Bool) := impl_ConfigOk.p5 k a0.1 ((a0.1.length : Nat) : Int) (0 : Int) a0
/-! impl.ascends -/
noncomputable def impl_ascends.p5 : Nat → (List Int) → Int → (List Int) → Int → Int → Option (Bool)
  | 0, _, _, _, _, _ => none
  | k + 1, x0, x1, x2, x3, x4 => if x4 < x3 then (if (0 : Int) ≤ x4 ∧ x4 < ((x2.length : Nat) : Int) then ((impl_within.f (x2.getD x4.toNat (0 : Int)) (0 : Int) x1).bind fun r1 =>
        if r1 = true then (if (0 : Int) < x4 then (if (0 : Int) ≤ (wrap64 (x4 - (1 : Int))) ∧ (wrap64 (x4 - (1 : Int))) < ((x0.length : Nat) : Int) then (if (x2.getD x4.toNat (0 : Int)) ≤ (x0.getD (wrap64 (x4 - (1 : Int))).toNat (0 : Int)) then some false
              else impl_ascends.p5 k x0 x1 x2 x3 (wrap64 (x4 + (1 : Int))))
            else none)
          else impl_ascends.p5 k x0 x1 x2 x3 (wrap64 (x4 + (1 : Int))))
        else some false)
      else none)
    else some true
noncomputable def impl_ascends.f (k : Nat) (a0 : (List Int)) (a1 : Int) : Option (Bool) := impl_ascends.p5 k a0 a1 a0 ((a0.length : Nat) : Int) (0 : Int)
/-! impl.NodesOk -/
noncomputable def impl_NodesOk.f (k : Nat) (a0 : Config) (a1 : (List Int)) : Option (Bool) := (impl_ConfigOk.f k a0).bind fun r1 =>
  if r1 = true then ((impl_ascends.f k a1 (wrap64 (((a0.1.length : Nat) : Int) - (1 : Int)))).bind fun r2 =>
    some r2)
  else some false
/-! slices.Index[[]int,int] -/
noncomputable def slices_Index_int_int.p5 : Nat → (List Int) → Int → Int → Int → Option (Int)
  | 0, _, _, _, _ => none
  | k + 1, x0, x1, x2, x3 => if x3 < x2 then (if (0 : Int) ≤ x3 ∧ x3 < ((x0.length : Nat) : Int) then (if x1 = (x0.getD x3.toNat (0 : Int)) then some x3
        else slices_Index_int_int.p5 k x0 x1 x2 (wrap64 (x3 + (1 : Int))))
      else none)
    else some (-1 : Int)
noncomputable def slices_Index_int_int.f (k : Nat) (a0 : (List Int)) (a1 : Int) : Option (Int) := slices_Index_int_int.p5 k a0 a1 ((a0.length : Nat) : Int) (0 : Int)
/-! slices.Contains[[]int,int] -/
noncomputable def slices_Contains_int_int.f (k : Nat) (a0 : (List Int)) (a1 : Int) : Option (Bool) := (slices_Index_int_int.f k a0 a1).bind fun r1 =>
  some (decide ((0 : Int) ≤ r1))
/-! impl.SpanOf -/
noncomputable def impl_SpanOf.p11 : Nat → (List Int) → (List Int) → Int → Int → Config → Option (Int)
  | 0, _, _, _, _, _ => none
  | k + 1, x0, x1, x2, x3, x4 => if x3 < x2 then (if (0 : Int) ≤ x3 ∧ x3 < ((x1.length : Nat) : Int) then (if (0 : Int) ≤ (x1.getD x3.toNat (0 : Int)) ∧ (x1.getD x3.toNat (0 : Int)) < ((x4.1.length : Nat) : Int) then ((slices_Contains_int_int.f k x0 (x4.1.getD (x1.getD x3.toNat (0 : Int)).toNat (0 : Int))).bind fun r2 =>
          if r2 = true then impl_SpanOf.p11 k x0 x1 x2 (wrap64 (x3 + (1 : Int))) x4
          else if (0 : Int) ≤ (x1.getD x3.toNat (0 : Int)) ∧ (x1.getD x3.toNat (0 : Int)) < ((x4.1.length : Nat) : Int) then (if (((x0.length : Nat) : Int) + ((([(x4.1.getD (x1.getD x3.toNat (0 : Int)).toNat (0 : Int))] : List Int).length : Nat) : Int)) ≤ lim then impl_SpanOf.p11 k (x0 ++ ([(x4.1.getD (x1.getD x3.toNat (0 : Int)).toNat (0 : Int))] : List Int)) x1 x2 (wrap64 (x3 + (1 : Int))) x4
            else none)
          else none)
        else none)
      else none)
    else some ((x0.length : Nat) : Int)
noncomputable def impl_SpanOf.f (k : Nat) (a0 : Config) (a1 : (List Int)) : Option (Int) := (impl_NodesOk.f k a0 a1).bind fun r1 =>
  if r1 = true then impl_SpanOf.p11 k ([] : List Int) a1 ((a1.length : Nat) : Int) (0 : Int) a0
  else some (-1 : Int)
/-! impl.Holds -/
noncomputable def impl_Holds.f (k : Nat) (a0 : Config) (a1 : (List Int)) : Option (Bool) := (impl_NodesOk.f k a0 a1).bind fun r1 =>
  if r1 = true then ((impl_SpanOf.f k a0 a1).bind fun r2 =>
    some (decide (a0.2.1 ≤ r2)))
  else some false
/-! impl.eraOk -/
noncomputable def impl_eraOk.f (k : Nat) (a0 : Config) (a1 : Era) : Option (Bool) := (impl_Holds.f k a0 a1.1).bind fun r1 =>
  if r1 = true then ((impl_within.f a1.2.2.1 (0 : Int) (60 : Int)).bind fun r2 =>
    if r2 = true then (if a1.2.1 = true then some true
      else some (decide (a1.2.2.1 = (0 : Int))))
    else some false)
  else some false
/-! impl.isEpoch -/
noncomputable def impl_isEpoch.f (a0 : Int) : Option (Bool) := (impl_within.f a0 (1 : Int) (30 : Int)).bind fun r1 =>
  some r1
/-! impl.isOff -/
noncomputable def impl_isOff.f (a0 : Int) : Option (Bool) := (impl_within.f a0 (1 : Int) (60 : Int)).bind fun r1 =>
  some r1
/-! impl.PlaceOk -/
noncomputable def impl_PlaceOk.f (a0 : Int) : Option (Bool) := (impl_isEpoch.f (wrap64 ((Int.tdiv a0 (4294967296 : Int))))).bind fun r1 =>
  if r1 = true then ((impl_isOff.f (Int.tmod a0 (4294967296 : Int))).bind fun r2 =>
    some r2)
  else some false
/-! impl.EpochOf -/
noncomputable def impl_EpochOf.f (a0 : Int) : Option (Int) := (impl_PlaceOk.f a0).bind fun r1 =>
  if r1 = true then some (wrap64 ((Int.tdiv a0 (4294967296 : Int))))
  else some (0 : Int)
/-! impl.RegOk -/
mutual
noncomputable def impl_RegOk.p5 : Nat → (List Era) → Int → Int → Config → Register → Option (Bool)
  | 0, _, _, _, _, _ => none
  | k + 1, x0, x1, x2, x3, x4 => if x2 < x1 then (if (0 : Int) ≤ x2 ∧ x2 < ((x0.length : Nat) : Int) then ((impl_eraOk.f k x3 (x0.getD x2.toNat (([] : List Int), (false, ((0 : Int), ()))))).bind fun r1 =>
        if r1 = true then (if (x0.getD x2.toNat (([] : List Int), (false, ((0 : Int), ())))).2.1 = true then (if x2 = (wrap64 (((x4.1.length : Nat) : Int) - (1 : Int))) then some false
            else if (0 : Int) < x2 then (if (0 : Int) ≤ (wrap64 (x2 - (1 : Int))) ∧ (wrap64 (x2 - (1 : Int))) < ((x4.1.length : Nat) : Int) then (if (x4.1.getD (wrap64 (x2 - (1 : Int))).toNat (([] : List Int), (false, ((0 : Int), ())))).2.1 = true then impl_RegOk.p5 k x0 x1 (wrap64 (x2 + (1 : Int))) x3 x4
                else some false)
              else none)
            else impl_RegOk.p5 k x0 x1 (wrap64 (x2 + (1 : Int))) x3 x4)
          else impl_RegOk.p5 k x0 x1 (wrap64 (x2 + (1 : Int))) x3 x4)
        else some false)
      else none)
    else if x4.2.1 = (0 : Int) then impl_RegOk.p16 k true x3 x4
    else (impl_EpochOf.f x4.2.1).bind fun r2 =>
    (impl_within.f r2 (1 : Int) ((x4.1.length : Nat) : Int)).bind fun r3 =>
    impl_RegOk.p16 k r3 x3 x4
noncomputable def impl_RegOk.p16 : Nat → Bool → Config → Register → Option (Bool)
  | 0, _, _, _ => none
  | k + 1, x0, x1, x2 => (impl_ConfigOk.f k x1).bind fun r4 =>
    if r4 = true then (if ((x2.1.length : Nat) : Int) ≤ (30 : Int) then some x0
      else some false)
    else some false
end
noncomputable def impl_RegOk.f (k : Nat) (a0 : Config) (a1 : Register) : Option (Bool) := impl_RegOk.p5 k a1.1 ((a1.1.length : Nat) : Int) (0 : Int) a0 a1
/-! impl.ReaderOk -/
noncomputable def impl_ReaderOk.f (a0 : Reader) : Option (Bool) := (impl_within.f a0.1 (1 : Int) (31 : Int)).bind fun r1 =>
  if r1 = true then ((impl_within.f a0.2.1 (1 : Int) (61 : Int)).bind fun r2 =>
    if r2 = true then some (decide (((a0.2.2.1.length : Nat) : Int) ≤ (120 : Int)))
    else some false)
  else some false
/-! impl.nodesOf -/
noncomputable def impl_nodesOf.p7 : Nat → (List Int) → (List Answer) → Int → Int → Option ((List Int))
  | 0, _, _, _, _ => none
  | k + 1, x0, x1, x2, x3 => if x3 < x2 then (if (0 : Int) ≤ x3 ∧ x3 < ((x1.length : Nat) : Int) then (if (((x0.length : Nat) : Int) + ((([(x1.getD x3.toNat ((0 : Int), (false, (((0 : Int), ((0 : Int), (false, ((⟨#[]⟩ : ByteArray), ())))), ())))).1] : List Int).length : Nat) : Int)) ≤ lim then impl_nodesOf.p7 k (x0 ++ ([(x1.getD x3.toNat ((0 : Int), (false, (((0 : Int), ((0 : Int), (false, ((⟨#[]⟩ : ByteArray), ())))), ())))).1] : List Int)) x1 x2 (wrap64 (x3 + (1 : Int)))
        else none)
      else none)
    else some x0
noncomputable def impl_nodesOf.f (k : Nat) (a0 : (List Answer)) : Option ((List Int)) := impl_nodesOf.p7 k ([] : List Int) a0 ((a0.length : Nat) : Int) (0 : Int)
/-! impl.copyReader -/
noncomputable def impl_copyReader.f (a0 : Reader) : Option (Reader) := if (((([] : List Event).length : Nat) : Int) + ((a0.2.2.1.length : Nat) : Int)) ≤ lim then some (a0.1, (a0.2.1, ((([] : List Event) ++ a0.2.2.1), a0.2.2.2)))
  else none
/-! impl.OffOf -/
noncomputable def impl_OffOf.f (a0 : Int) : Option (Int) := (impl_PlaceOk.f a0).bind fun r1 =>
  if r1 = true then some (Int.tmod a0 (4294967296 : Int))
  else some (0 : Int)
/-! impl.isAhead -/
noncomputable def impl_isAhead.f (a0 : Int) (a1 : Reader) : Option (Bool) := (impl_EpochOf.f a0).bind fun r1 =>
  if r1 < a1.1 then some true
  else if r1 = a1.1 then ((impl_OffOf.f a0).bind fun r2 =>
    some (decide (r2 < a1.2.1)))
  else some false
/-! impl.copyInts -/
noncomputable def impl_copyInts.f (a0 : (List Int)) : Option ((List Int)) := if (((([] : List Int).length : Nat) : Int) + ((a0.length : Nat) : Int)) ≤ lim then some (([] : List Int) ++ a0)
  else none
/-! slices.DeleteFunc[[]int,int] at impl.both$1 -/
def slices_DeleteFunc_int_int_impl_both_1.okp (y : ((List Int) × Unit)) : Prop := y.1.length ≤ 1073741824
instance : DecidablePred slices_DeleteFunc_int_int_impl_both_1.okp := fun y => by unfold slices_DeleteFunc_int_int_impl_both_1.okp; infer_instance
def slices_DeleteFunc_int_int_impl_both_1.pred (y : ((List Int) × Unit)) (v : Int) : Bool := !(y.1.any fun u => decide (v = u))
noncomputable def slices_DeleteFunc_int_int_impl_both_1.f (a0 : List Int) (a1 : ((List Int) × Unit)) : Option (List Int) := if ((List.length a0 : Nat) : Int) ≤ lim ∧ slices_DeleteFunc_int_int_impl_both_1.okp a1 then some (List.filter (fun v => !slices_DeleteFunc_int_int_impl_both_1.pred a1 v) a0) else none

/-! impl.both -/
noncomputable def impl_both.f (a0 : (List Int)) (a1 : (List Int)) : Option ((List Int)) := (impl_copyInts.f a0).bind fun r1 =>
  (slices_DeleteFunc_int_int_impl_both_1.f r1 (a1, ())).bind fun r2 =>
  some r2
/-! impl.Reader).tell -/
noncomputable def impl_Reader_tell.f (a0 : Reader) (a1 : Event) : Option (Reader) := if (((a0.2.2.1.length : Nat) : Int) + ((([a1] : List Event).length : Nat) : Int)) ≤ lim then some (a0.1, (a0.2.1, ((a0.2.2.1 ++ ([a1] : List Event)), a0.2.2.2)))
  else none
/-! impl.Rest -/
noncomputable def impl_Rest.p11 : Nat → (List Int) → (List Int) → (List Int) → Int → Int → Option ((List Int))
  | 0, _, _, _, _, _ => none
  | k + 1, x0, x1, x2, x3, x4 => if x4 < x3 then (if (0 : Int) ≤ x4 ∧ x4 < ((x2.length : Nat) : Int) then ((slices_Contains_int_int.f k x0 (x2.getD x4.toNat (0 : Int))).bind fun r3 =>
        if r3 = true then impl_Rest.p11 k x0 x1 x2 x3 (wrap64 (x4 + (1 : Int)))
        else if (((x1.length : Nat) : Int) + ((([(x2.getD x4.toNat (0 : Int))] : List Int).length : Nat) : Int)) ≤ lim then impl_Rest.p11 k x0 (x1 ++ ([(x2.getD x4.toNat (0 : Int))] : List Int)) x2 x3 (wrap64 (x4 + (1 : Int)))
        else none)
      else none)
    else some x1
noncomputable def impl_Rest.f (k : Nat) (a0 : Config) (a1 : (List Int)) (a2 : (List Int)) : Option ((List Int)) := (impl_NodesOk.f k a0 a1).bind fun r1 =>
  if r1 = true then ((impl_NodesOk.f k a0 a2).bind fun r2 =>
    if r2 = true then impl_Rest.p11 k a2 ([] : List Int) a1 ((a1.length : Nat) : Int) (0 : Int)
    else some ([] : List Int))
  else some ([] : List Int)
/-! impl.Enough -/
noncomputable def impl_Enough.f (k : Nat) (a0 : Config) (a1 : (List Int)) (a2 : (List Int)) : Option (Bool) := (impl_NodesOk.f k a0 a2).bind fun r1 =>
  if r1 = true then ((impl_Holds.f k a0 a1).bind fun r2 =>
    if r2 = true then ((impl_both.f a2 a1).bind fun r3 =>
      if ((r3.length : Nat) : Int) = ((a2.length : Nat) : Int) then ((impl_Rest.f k a0 a1 a2).bind fun r4 =>
        (impl_Holds.f k a0 r4).bind fun r5 =>
        some (!(decide (r5 = true))))
      else some false)
    else some false)
  else some false
/-! impl.PlaceMake -/
noncomputable def impl_PlaceMake.f (a0 : Int) (a1 : Int) : Option (Int × Bool) := (impl_isEpoch.f a0).bind fun r1 =>
  if r1 = true then ((impl_isOff.f a1).bind fun r2 =>
    if r2 = true then some ((wrap64 ((wrap64 ((4294967296 : Int) * a0)) + a1)), true)
    else some ((0 : Int), false))
  else some ((0 : Int), false)
/-! impl.dataOk -/
noncomputable def impl_dataOk.f (a0 : ByteArray) : Option (Bool) := some (decide (((a0.size : Nat) : Int) ≤ (40 : Int)))
/-! impl.EntryOk -/
mutual
noncomputable def impl_EntryOk.p4 : Nat → Bool → Entry → Option (Bool)
  | 0, _, _ => none
  | k + 1, x0, x1 => if x1.2.2.1 = true then (if (0 : Int) < x1.2.1 then impl_EntryOk.p6 k x0 (decide (x1.2.2.2.1 = (⟨#[]⟩ : ByteArray))) x1
      else impl_EntryOk.p6 k x0 false x1)
    else impl_EntryOk.p6 k x0 true x1
noncomputable def impl_EntryOk.p6 : Nat → Bool → Bool → Entry → Option (Bool)
  | 0, _, _, _ => none
  | k + 1, x0, x1, x2 => (impl_PlaceOk.f x2.1).bind fun r3 =>
    if r3 = true then (if x0 = true then (if x1 = true then ((impl_dataOk.f x2.2.2.2.1).bind fun r4 =>
          some r4)
        else some false)
      else some false)
    else some false
end
noncomputable def impl_EntryOk.f (k : Nat) (a0 : Entry) : Option (Bool) := (impl_within.f a0.2.1 (0 : Int) (30 : Int)).bind fun r1 =>
  if r1 = true then (if a0.2.1 = (0 : Int) then impl_EntryOk.p4 k true a0
    else (impl_EpochOf.f a0.1).bind fun r2 =>
    impl_EntryOk.p4 k (decide (r2 < a0.2.1)) a0)
  else impl_EntryOk.p4 k false a0
/-! impl.Better -/
noncomputable def impl_Better.f (a0 : Entry) (a1 : Entry) : Option (Entry) := if a0.2.1 < a1.2.1 then some a1
  else some a0
/-! impl.bestOf -/
noncomputable def impl_bestOf.p7 : Nat → (List Int) → Int → Bool → (List Answer) → Int → Int → Entry → Entry → Option (Entry × Bool)
  | 0, _, _, _, _, _, _, _, _ => none
  | k + 1, x0, x1, x2, x3, x4, x5, x6, x7 => if x5 < x4 then (if (0 : Int) ≤ x5 ∧ x5 < ((x3.length : Nat) : Int) then (if (x3.getD x5.toNat ((0 : Int), (false, (((0 : Int), ((0 : Int), (false, ((⟨#[]⟩ : ByteArray), ())))), ())))).2.1 = true then ((slices_Contains_int_int.f k x0 (x3.getD x5.toNat ((0 : Int), (false, (((0 : Int), ((0 : Int), (false, ((⟨#[]⟩ : ByteArray), ())))), ())))).1).bind fun r1 =>
          if r1 = true then ((impl_EntryOk.f k (x3.getD x5.toNat ((0 : Int), (false, (((0 : Int), ((0 : Int), (false, ((⟨#[]⟩ : ByteArray), ())))), ())))).2.2.1).bind fun r2 =>
            if r2 = true then (if (x3.getD x5.toNat ((0 : Int), (false, (((0 : Int), ((0 : Int), (false, ((⟨#[]⟩ : ByteArray), ())))), ())))).2.2.1.1 = x1 then (if x2 = true then ((impl_Better.f x7 (x3.getD x5.toNat ((0 : Int), (false, (((0 : Int), ((0 : Int), (false, ((⟨#[]⟩ : ByteArray), ())))), ())))).2.2.1).bind fun r3 =>
                  impl_bestOf.p7 k x0 x1 true x3 x4 (wrap64 (x5 + (1 : Int))) x6 r3)
                else (impl_Better.f (x3.getD x5.toNat ((0 : Int), (false, (((0 : Int), ((0 : Int), (false, ((⟨#[]⟩ : ByteArray), ())))), ())))).2.2.1 (x3.getD x5.toNat ((0 : Int), (false, (((0 : Int), ((0 : Int), (false, ((⟨#[]⟩ : ByteArray), ())))), ())))).2.2.1).bind fun r4 =>
                impl_bestOf.p7 k x0 x1 true x3 x4 (wrap64 (x5 + (1 : Int))) x6 r4)
              else impl_bestOf.p7 k x0 x1 x2 x3 x4 (wrap64 (x5 + (1 : Int))) x6 x7)
            else impl_bestOf.p7 k x0 x1 x2 x3 x4 (wrap64 (x5 + (1 : Int))) x6 x7)
          else impl_bestOf.p7 k x0 x1 x2 x3 x4 (wrap64 (x5 + (1 : Int))) x6 x7)
        else impl_bestOf.p7 k x0 x1 x2 x3 x4 (wrap64 (x5 + (1 : Int))) x6 x7)
      else none)
    else some (x7, x2)
noncomputable def impl_bestOf.f (k : Nat) (a0 : (List Answer)) (a1 : (List Int)) (a2 : Int) : Option (Entry × Bool) := impl_bestOf.p7 k a1 a2 false a0 ((a0.length : Nat) : Int) (0 : Int) ((0 : Int), ((0 : Int), (false, ((⟨#[]⟩ : ByteArray), ())))) ((0 : Int), ((0 : Int), (false, ((⟨#[]⟩ : ByteArray), ()))))
/-! impl.Reader).found -/
noncomputable def impl_Reader_found.f (k : Nat) (a0 : Reader) (a1 : (List Answer)) (a2 : (List Int)) : Option (Reader) := (impl_PlaceMake.f a0.1 a0.2.1).bind fun r1 =>
  (impl_bestOf.f k a1 a2 r1.1).bind fun r2 =>
  if r2.2 = true then (if r2.1.2.2.1 = true then ((impl_Reader_tell.f a0 ((2 : Int), (r1.1, ((⟨#[]⟩ : ByteArray), ())))).bind fun r3 =>
      some (r3.1, ((wrap64 (r3.2.1 + (1 : Int))), r3.2.2)))
    else (impl_Reader_tell.f a0 ((1 : Int), (r1.1, (r2.1.2.2.2.1, ())))).bind fun r4 =>
    some (r4.1, ((wrap64 (r4.2.1 + (1 : Int))), r4.2.2)))
  else (impl_Reader_tell.f a0 ((3 : Int), (r1.1, ((⟨#[]⟩ : ByteArray), ())))).bind fun r5 =>
  some (r5.1, ((wrap64 (r5.2.1 + (1 : Int))), r5.2.2))
/-! impl.ReaderNext -/
noncomputable def impl_ReaderNext.p20 : Nat → Int → (List Answer) → Config → Register → Reader → Reader → Reader → Option (Reader × Int)
  | 0, _, _, _, _, _, _, _ => none
  | k + 1, x0, x1, x2, x3, x4, x5, x6 => if (0 : Int) ≤ (wrap64 (x4.1 - (1 : Int))) ∧ (wrap64 (x4.1 - (1 : Int))) < ((x3.1.length : Nat) : Int) then ((impl_nodesOf.f k x1).bind fun r10 =>
      (impl_both.f r10 (x3.1.getD (wrap64 (x4.1 - (1 : Int))).toNat (([] : List Int), (false, ((0 : Int), ())))).1).bind fun r11 =>
      if (x3.1.getD (wrap64 (x4.1 - (1 : Int))).toNat (([] : List Int), (false, ((0 : Int), ())))).2.1 = true then (if (x3.1.getD (wrap64 (x4.1 - (1 : Int))).toNat (([] : List Int), (false, ((0 : Int), ())))).2.2.1 < x4.2.1 then ((impl_Reader_tell.f x6 ((4 : Int), ((wrap64 (x4.1 + (1 : Int))), ((⟨#[]⟩ : ByteArray), ())))).bind fun r12 =>
          some (((wrap64 (x4.1 + (1 : Int))), ((1 : Int), r12.2.2)), (0 : Int)))
        else if (x3.1.getD (wrap64 (x4.1 - (1 : Int))).toNat (([] : List Int), (false, ((0 : Int), ())))).2.1 = true then (if (60 : Int) < x4.2.1 then some (x6, (2 : Int))
          else (impl_Enough.f k x2 (x3.1.getD (wrap64 (x4.1 - (1 : Int))).toNat (([] : List Int), (false, ((0 : Int), ())))).1 r11).bind fun r13 =>
          if r13 = true then ((impl_Reader_found.f k x6 x1 r11).bind fun r14 =>
            some (r14, (0 : Int)))
          else some (x6, (3 : Int)))
        else if x0 < x4.2.1 then some (x6, (2 : Int))
        else if (60 : Int) < x4.2.1 then some (x6, (2 : Int))
        else (impl_Enough.f k x2 (x3.1.getD (wrap64 (x4.1 - (1 : Int))).toNat (([] : List Int), (false, ((0 : Int), ())))).1 r11).bind fun r15 =>
        if r15 = true then ((impl_Reader_found.f k x6 x1 r11).bind fun r16 =>
          some (r16, (0 : Int)))
        else some (x6, (3 : Int)))
      else if (x3.1.getD (wrap64 (x4.1 - (1 : Int))).toNat (([] : List Int), (false, ((0 : Int), ())))).2.1 = true then (if (60 : Int) < x4.2.1 then some (x6, (2 : Int))
        else (impl_Enough.f k x2 (x3.1.getD (wrap64 (x4.1 - (1 : Int))).toNat (([] : List Int), (false, ((0 : Int), ())))).1 r11).bind fun r17 =>
        if r17 = true then ((impl_Reader_found.f k x6 x1 r11).bind fun r18 =>
          some (r18, (0 : Int)))
        else some (x6, (3 : Int)))
      else if x0 < x4.2.1 then some (x6, (2 : Int))
      else if (60 : Int) < x4.2.1 then some (x6, (2 : Int))
      else (impl_Enough.f k x2 (x3.1.getD (wrap64 (x4.1 - (1 : Int))).toNat (([] : List Int), (false, ((0 : Int), ())))).1 r11).bind fun r19 =>
      if r19 = true then ((impl_Reader_found.f k x6 x1 r11).bind fun r20 =>
        some (r20, (0 : Int)))
      else some (x6, (3 : Int)))
    else none
noncomputable def impl_ReaderNext.f (k : Nat) (a0 : Config) (a1 : Register) (a2 : Int) (a3 : Reader) (a4 : (List Answer)) : Option (Reader × Int) := (impl_RegOk.f k a0 a1).bind fun r1 =>
  if r1 = true then ((impl_ReaderOk.f a3).bind fun r2 =>
    if r2 = true then ((impl_nodesOf.f k a4).bind fun r3 =>
      (impl_NodesOk.f k a0 r3).bind fun r4 =>
      if r4 = true then ((impl_copyReader.f a3).bind fun r5 =>
        if ((a1.1.length : Nat) : Int) < a3.1 then some (r5, (2 : Int))
        else if ((a3.2.2.1.length : Nat) : Int) = (120 : Int) then some (r5, (2 : Int))
        else if (0 : Int) < a1.2.1 then ((impl_isAhead.f a1.2.1 a3).bind fun r6 =>
          if r6 = true then impl_ReaderNext.p20 k a2 a4 a0 a1 a3 ((0 : Int), ((0 : Int), (([] : List Event), ()))) r5
          else (impl_Reader_tell.f r5 ((5 : Int), (a1.2.1, ((⟨#[]⟩ : ByteArray), ())))).bind fun r7 =>
          (impl_EpochOf.f a1.2.1).bind fun r8 =>
          (impl_OffOf.f a1.2.1).bind fun r9 =>
          some ((r8, ((wrap64 (r9 + (1 : Int))), r7.2.2)), (0 : Int)))
        else impl_ReaderNext.p20 k a2 a4 a0 a1 a3 ((0 : Int), ((0 : Int), (([] : List Event), ()))) r5)
      else some (((0 : Int), ((0 : Int), (([] : List Event), ()))), (1 : Int)))
    else some (((0 : Int), ((0 : Int), (([] : List Event), ()))), (1 : Int)))
  else some (((0 : Int), ((0 : Int), (([] : List Event), ()))), (1 : Int))
/-! spec.l10Nodes -/
noncomputable def spec_l10Nodes.p7 : Nat → (List Answer) → (List Int) → Int → Config → Option ((List Int) × Bool)
  | 0, _, _, _, _ => none
  | k + 1, x0, x1, x2, x3 => if x2 < ((x0.length : Nat) : Int) then (if (0 : Int) ≤ x2 ∧ x2 < ((x0.length : Nat) : Int) then (if (((x1.length : Nat) : Int) + ((([(x0.getD x2.toNat ((0 : Int), (false, (((0 : Int), ((0 : Int), (false, ((⟨#[]⟩ : ByteArray), ())))), ())))).1] : List Int).length : Nat) : Int)) ≤ lim then spec_l10Nodes.p7 k x0 (x1 ++ ([(x0.getD x2.toNat ((0 : Int), (false, (((0 : Int), ((0 : Int), (false, ((⟨#[]⟩ : ByteArray), ())))), ())))).1] : List Int)) (wrap64 (x2 + (1 : Int))) x3
        else none)
      else none)
    else (spec_NodesOk.f k x3 x1).bind fun r1 =>
    some (x1, r1)
noncomputable def spec_l10Nodes.f (k : Nat) (a0 : Config) (a1 : (List Answer)) : Option ((List Int) × Bool) := spec_l10Nodes.p7 k a1 ([] : List Int) (0 : Int) a0
/-! spec.ReaderOk -/
noncomputable def spec_ReaderOk.f (a0 : Reader) : Option (Bool) := (spec_l1In.f a0.1 (1 : Int) (31 : Int)).bind fun r1 =>
  if r1 = true then ((spec_l1In.f a0.2.1 (1 : Int) (61 : Int)).bind fun r2 =>
    if r2 = true then some (decide (((a0.2.2.1.length : Nat) : Int) ≤ (120 : Int)))
    else some false)
  else some false
/-! spec.l10Copy -/
noncomputable def spec_l10Copy.f (a0 : Reader) : Option (Reader) := if (((([] : List Event).length : Nat) : Int) + ((a0.2.2.1.length : Nat) : Int)) ≤ lim then some (a0.1, (a0.2.1, ((([] : List Event) ++ a0.2.2.1), a0.2.2.2)))
  else none
/-! spec.OffOf -/
noncomputable def spec_OffOf.f (a0 : Int) : Option (Int) := (spec_PlaceOk.f a0).bind fun r1 =>
  if r1 = true then some (Int.tmod a0 (4294967296 : Int))
  else some (0 : Int)
/-! spec.l10Tell -/
noncomputable def spec_l10Tell.f (a0 : Reader) (a1 : Event) (a2 : Int) (a3 : Int) : Option (Reader) := (spec_l10Copy.f a0).bind fun r1 =>
  if (((r1.2.2.1.length : Nat) : Int) + ((([a1] : List Event).length : Nat) : Int)) ≤ lim then some (a2, (a3, ((r1.2.2.1 ++ ([a1] : List Event)), r1.2.2.2)))
  else none
/-! spec.l4Less -/
noncomputable def spec_l4Less.p7 : Nat → (List Int) → (List Int) → (List Int) → Int → Option ((List Int))
  | 0, _, _, _, _ => none
  | k + 1, x0, x1, x2, x3 => if x3 < ((x0.length : Nat) : Int) then (if (0 : Int) ≤ x3 ∧ x3 < ((x0.length : Nat) : Int) then ((spec_l4Has.f k x1 (x0.getD x3.toNat (0 : Int))).bind fun r1 =>
        if r1 = true then spec_l4Less.p7 k x0 x1 x2 (wrap64 (x3 + (1 : Int)))
        else if (0 : Int) ≤ x3 ∧ x3 < ((x0.length : Nat) : Int) then (if (((x2.length : Nat) : Int) + ((([(x0.getD x3.toNat (0 : Int))] : List Int).length : Nat) : Int)) ≤ lim then spec_l4Less.p7 k x0 x1 (x2 ++ ([(x0.getD x3.toNat (0 : Int))] : List Int)) (wrap64 (x3 + (1 : Int)))
          else none)
        else none)
      else none)
    else some x2
noncomputable def spec_l4Less.f (k : Nat) (a0 : (List Int)) (a1 : (List Int)) : Option ((List Int)) := spec_l4Less.p7 k a0 a1 ([] : List Int) (0 : Int)
/-! spec.l9Both -/
noncomputable def spec_l9Both.f (k : Nat) (a0 : (List Int)) (a1 : (List Int)) : Option ((List Int)) := (spec_l4Less.f k a0 a1).bind fun r1 =>
  (spec_l4Less.f k a0 r1).bind fun r2 =>
  some r2
/-! spec.Enough -/
noncomputable def spec_Enough.f (k : Nat) (a0 : Config) (a1 : (List Int)) (a2 : (List Int)) : Option (Bool) := (spec_Holds.f k a0 a1).bind fun r1 =>
  if r1 = true then ((spec_NodesOk.f k a0 a2).bind fun r2 =>
    if r2 = true then ((spec_l4Less.f k a2 a1).bind fun r3 =>
      if (0 : Int) < ((r3.length : Nat) : Int) then some false
      else (spec_l4Less.f k a1 a2).bind fun r4 =>
      (spec_l4Span.f k a0 r4).bind fun r5 =>
      some (decide (r5 < a0.2.1)))
    else some false)
  else some false
/-! spec.EntryOk -/
noncomputable def spec_EntryOk.p6 : Nat → Entry → Option (Bool)
  | 0, _ => none
  | k + 1, x0 => if x0.2.2.1 = true then (if (0 : Int) < x0.2.1 then some (decide (x0.2.2.2.1 = (⟨#[]⟩ : ByteArray)))
      else some false)
    else some true
noncomputable def spec_EntryOk.f (k : Nat) (a0 : Entry) : Option (Bool) := (spec_PlaceOk.f a0.1).bind fun r1 =>
  if r1 = true then ((spec_l1In.f a0.2.1 (0 : Int) (30 : Int)).bind fun r2 =>
    if r2 = true then (if (0 : Int) < a0.2.1 then ((spec_EpochOf.f a0.1).bind fun r3 =>
        if a0.2.1 ≤ r3 then some false
        else if (40 : Int) < ((a0.2.2.2.1.size : Nat) : Int) then some false
        else spec_EntryOk.p6 k a0)
      else if (40 : Int) < ((a0.2.2.2.1.size : Nat) : Int) then some false
      else spec_EntryOk.p6 k a0)
    else some false)
  else some false
/-! spec.Better -/
noncomputable def spec_Better.f (a0 : Entry) (a1 : Entry) : Option (Entry) := if a0.2.1 < a1.2.1 then some a1
  else some a0
/-! spec.l10Best -/
noncomputable def spec_l10Best.p9 : Nat → (List Int) → Int → (List Answer) → Bool → Int → Event → Entry → Option (Event)
  | 0, _, _, _, _, _, _, _ => none
  | k + 1, x0, x1, x2, x3, x4, x5, x6 => if x4 < ((x2.length : Nat) : Int) then (if (0 : Int) ≤ x4 ∧ x4 < ((x2.length : Nat) : Int) then (if (x2.getD x4.toNat ((0 : Int), (false, (((0 : Int), ((0 : Int), (false, ((⟨#[]⟩ : ByteArray), ())))), ())))).2.1 = true then ((spec_l4Has.f k x0 (x2.getD x4.toNat ((0 : Int), (false, (((0 : Int), ((0 : Int), (false, ((⟨#[]⟩ : ByteArray), ())))), ())))).1).bind fun r1 =>
          if r1 = true then ((spec_EntryOk.f k (x2.getD x4.toNat ((0 : Int), (false, (((0 : Int), ((0 : Int), (false, ((⟨#[]⟩ : ByteArray), ())))), ())))).2.2.1).bind fun r2 =>
            if r2 = true then (if (x2.getD x4.toNat ((0 : Int), (false, (((0 : Int), ((0 : Int), (false, ((⟨#[]⟩ : ByteArray), ())))), ())))).2.2.1.1 = x1 then (if x3 = true then ((spec_Better.f x6 (x2.getD x4.toNat ((0 : Int), (false, (((0 : Int), ((0 : Int), (false, ((⟨#[]⟩ : ByteArray), ())))), ())))).2.2.1).bind fun r3 =>
                  spec_l10Best.p9 k x0 x1 x2 true (wrap64 (x4 + (1 : Int))) x5 r3)
                else (spec_Better.f (x2.getD x4.toNat ((0 : Int), (false, (((0 : Int), ((0 : Int), (false, ((⟨#[]⟩ : ByteArray), ())))), ())))).2.2.1 (x2.getD x4.toNat ((0 : Int), (false, (((0 : Int), ((0 : Int), (false, ((⟨#[]⟩ : ByteArray), ())))), ())))).2.2.1).bind fun r4 =>
                spec_l10Best.p9 k x0 x1 x2 true (wrap64 (x4 + (1 : Int))) x5 r4)
              else spec_l10Best.p9 k x0 x1 x2 x3 (wrap64 (x4 + (1 : Int))) x5 x6)
            else spec_l10Best.p9 k x0 x1 x2 x3 (wrap64 (x4 + (1 : Int))) x5 x6)
          else spec_l10Best.p9 k x0 x1 x2 x3 (wrap64 (x4 + (1 : Int))) x5 x6)
        else spec_l10Best.p9 k x0 x1 x2 x3 (wrap64 (x4 + (1 : Int))) x5 x6)
      else none)
    else if x3 = true then (if x6.2.2.1 = true then some ((2 : Int), (x1, ((⟨#[]⟩ : ByteArray), ())))
      else some ((1 : Int), (x1, (x6.2.2.2.1, ()))))
    else some ((3 : Int), (x1, ((⟨#[]⟩ : ByteArray), ())))
noncomputable def spec_l10Best.f (k : Nat) (a0 : (List Int)) (a1 : Int) (a2 : (List Answer)) : Option (Event) := spec_l10Best.p9 k a0 a1 a2 false (0 : Int) ((0 : Int), ((0 : Int), ((⟨#[]⟩ : ByteArray), ()))) ((0 : Int), ((0 : Int), (false, ((⟨#[]⟩ : ByteArray), ()))))
/-! spec.ReaderNext -/
noncomputable def spec_ReaderNext.p32 : Nat → (List Answer) → Int → Reader → Reader → Era → Option (Reader × Int)
  | 0, _, _, _, _, _ => none
  | k + 1, x0, x1, x2, x3, x4 => (spec_l10Best.f k x4.1 x1 x0).bind fun r29 =>
    (spec_l10Tell.f x2 r29 x2.1 (wrap64 (x2.2.1 + (1 : Int)))).bind fun r30 =>
    some (r30, (0 : Int))
noncomputable def spec_ReaderNext.f (k : Nat) (a0 : Config) (a1 : Register) (a2 : Int) (a3 : Reader) (a4 : (List Answer)) : Option (Reader × Int) := (spec_l10Nodes.f k a0 a4).bind fun r1 =>
  (spec_RegOk.f k a0 a1).bind fun r2 =>
  if r2 = true then ((spec_ReaderOk.f a3).bind fun r3 =>
    if r3 = true then (if r1.2 = true then (if ((a1.1.length : Nat) : Int) < a3.1 then ((spec_l10Copy.f a3).bind fun r4 =>
          some (r4, (2 : Int)))
        else if ((a3.2.2.1.length : Nat) : Int) = (120 : Int) then ((spec_l10Copy.f a3).bind fun r5 =>
          some (r5, (2 : Int)))
        else if (0 : Int) ≤ (wrap64 (a3.1 - (1 : Int))) ∧ (wrap64 (a3.1 - (1 : Int))) < ((a1.1.length : Nat) : Int) then ((spec_l1Place.f a3.1 a3.2.1).bind fun r6 =>
          if r6 ≤ a1.2.1 then ((spec_EpochOf.f a1.2.1).bind fun r7 =>
            (spec_OffOf.f a1.2.1).bind fun r8 =>
            (spec_l10Tell.f a3 ((5 : Int), (a1.2.1, ((⟨#[]⟩ : ByteArray), ()))) r7 (wrap64 (r8 + (1 : Int)))).bind fun r9 =>
            some (r9, (0 : Int)))
          else if (a1.1.getD (wrap64 (a3.1 - (1 : Int))).toNat (([] : List Int), (false, ((0 : Int), ())))).2.1 = true then (if (a1.1.getD (wrap64 (a3.1 - (1 : Int))).toNat (([] : List Int), (false, ((0 : Int), ())))).2.2.1 < a3.2.1 then ((spec_l10Tell.f a3 ((4 : Int), ((wrap64 (a3.1 + (1 : Int))), ((⟨#[]⟩ : ByteArray), ()))) (wrap64 (a3.1 + (1 : Int))) (1 : Int)).bind fun r10 =>
              some (r10, (0 : Int)))
            else if (a1.1.getD (wrap64 (a3.1 - (1 : Int))).toNat (([] : List Int), (false, ((0 : Int), ())))).2.1 = true then (if (60 : Int) < a3.2.1 then ((spec_l10Copy.f a3).bind fun r11 =>
                some (r11, (2 : Int)))
              else (spec_l9Both.f k r1.1 (a1.1.getD (wrap64 (a3.1 - (1 : Int))).toNat (([] : List Int), (false, ((0 : Int), ())))).1).bind fun r12 =>
              (spec_Enough.f k a0 (a1.1.getD (wrap64 (a3.1 - (1 : Int))).toNat (([] : List Int), (false, ((0 : Int), ())))).1 r12).bind fun r13 =>
              if r13 = true then spec_ReaderNext.p32 k a4 r6 a3 ((0 : Int), ((0 : Int), (([] : List Event), ()))) (a1.1.getD (wrap64 (a3.1 - (1 : Int))).toNat (([] : List Int), (false, ((0 : Int), ()))))
              else (spec_l10Copy.f a3).bind fun r14 =>
              some (r14, (3 : Int)))
            else if a2 < a3.2.1 then ((spec_l10Copy.f a3).bind fun r15 =>
              some (r15, (2 : Int)))
            else if (60 : Int) < a3.2.1 then ((spec_l10Copy.f a3).bind fun r16 =>
              some (r16, (2 : Int)))
            else (spec_l9Both.f k r1.1 (a1.1.getD (wrap64 (a3.1 - (1 : Int))).toNat (([] : List Int), (false, ((0 : Int), ())))).1).bind fun r17 =>
            (spec_Enough.f k a0 (a1.1.getD (wrap64 (a3.1 - (1 : Int))).toNat (([] : List Int), (false, ((0 : Int), ())))).1 r17).bind fun r18 =>
            if r18 = true then spec_ReaderNext.p32 k a4 r6 a3 ((0 : Int), ((0 : Int), (([] : List Event), ()))) (a1.1.getD (wrap64 (a3.1 - (1 : Int))).toNat (([] : List Int), (false, ((0 : Int), ()))))
            else (spec_l10Copy.f a3).bind fun r19 =>
            some (r19, (3 : Int)))
          else if (a1.1.getD (wrap64 (a3.1 - (1 : Int))).toNat (([] : List Int), (false, ((0 : Int), ())))).2.1 = true then (if (60 : Int) < a3.2.1 then ((spec_l10Copy.f a3).bind fun r20 =>
              some (r20, (2 : Int)))
            else (spec_l9Both.f k r1.1 (a1.1.getD (wrap64 (a3.1 - (1 : Int))).toNat (([] : List Int), (false, ((0 : Int), ())))).1).bind fun r21 =>
            (spec_Enough.f k a0 (a1.1.getD (wrap64 (a3.1 - (1 : Int))).toNat (([] : List Int), (false, ((0 : Int), ())))).1 r21).bind fun r22 =>
            if r22 = true then spec_ReaderNext.p32 k a4 r6 a3 ((0 : Int), ((0 : Int), (([] : List Event), ()))) (a1.1.getD (wrap64 (a3.1 - (1 : Int))).toNat (([] : List Int), (false, ((0 : Int), ()))))
            else (spec_l10Copy.f a3).bind fun r23 =>
            some (r23, (3 : Int)))
          else if a2 < a3.2.1 then ((spec_l10Copy.f a3).bind fun r24 =>
            some (r24, (2 : Int)))
          else if (60 : Int) < a3.2.1 then ((spec_l10Copy.f a3).bind fun r25 =>
            some (r25, (2 : Int)))
          else (spec_l9Both.f k r1.1 (a1.1.getD (wrap64 (a3.1 - (1 : Int))).toNat (([] : List Int), (false, ((0 : Int), ())))).1).bind fun r26 =>
          (spec_Enough.f k a0 (a1.1.getD (wrap64 (a3.1 - (1 : Int))).toNat (([] : List Int), (false, ((0 : Int), ())))).1 r26).bind fun r27 =>
          if r27 = true then spec_ReaderNext.p32 k a4 r6 a3 ((0 : Int), ((0 : Int), (([] : List Event), ()))) (a1.1.getD (wrap64 (a3.1 - (1 : Int))).toNat (([] : List Int), (false, ((0 : Int), ()))))
          else (spec_l10Copy.f a3).bind fun r28 =>
          some (r28, (3 : Int)))
        else none)
      else some (((0 : Int), ((0 : Int), (([] : List Event), ()))), (1 : Int)))
    else some (((0 : Int), ((0 : Int), (([] : List Event), ()))), (1 : Int)))
  else some (((0 : Int), ((0 : Int), (([] : List Event), ()))), (1 : Int))
/-! impl.EraNodes -/
noncomputable def impl_EraNodes.f (a0 : Register) (a1 : Int) : Option ((List Int)) := (impl_within.f a1 (1 : Int) ((a0.1.length : Nat) : Int)).bind fun r1 =>
  if r1 = true then (if (0 : Int) ≤ (wrap64 (a1 - (1 : Int))) ∧ (wrap64 (a1 - (1 : Int))) < ((a0.1.length : Nat) : Int) then ((impl_copyInts.f (a0.1.getD (wrap64 (a1 - (1 : Int))).toNat (([] : List Int), (false, ((0 : Int), ())))).1).bind fun r2 =>
      some r2)
    else none)
  else some ([] : List Int)
/-! laws.within -/
noncomputable def laws_within.p5 : Nat → (List Int) → Int → Int → Option (Bool)
  | 0, _, _, _ => none
  | k + 1, x0, x1, x2 => if x2 < ((x0.length : Nat) : Int) then (if (0 : Int) ≤ x2 ∧ x2 < ((x0.length : Nat) : Int) then (if (x0.getD x2.toNat (0 : Int)) = x1 then some true
        else laws_within.p5 k x0 x1 (wrap64 (x2 + (1 : Int))))
      else none)
    else some false
noncomputable def laws_within.f (k : Nat) (a0 : (List Int)) (a1 : Int) : Option (Bool) := laws_within.p5 k a0 a1 (0 : Int)
/-! laws.FnTells -/
mutual
noncomputable def laws_FnTells.p35 : Nat → (List Answer) → (List Int) → (List Int) → Int → Bool → Int → Config → Reader → Event → Option (Bool)
  | 0, _, _, _, _, _, _, _, _, _ => none
  | k + 1, x0, x1, x2, x3, x4, x5, x6, x7, x8 => if x5 < ((x0.length : Nat) : Int) then (if (0 : Int) ≤ x5 ∧ x5 < ((x0.length : Nat) : Int) then ((laws_within.f k x1 (x0.getD x5.toNat ((0 : Int), (false, (((0 : Int), ((0 : Int), (false, ((⟨#[]⟩ : ByteArray), ())))), ())))).1).bind fun r6 =>
        if r6 = true then (if (((x2.length : Nat) : Int) + ((([(x0.getD x5.toNat ((0 : Int), (false, (((0 : Int), ((0 : Int), (false, ((⟨#[]⟩ : ByteArray), ())))), ())))).1] : List Int).length : Nat) : Int)) ≤ lim then (if (x0.getD x5.toNat ((0 : Int), (false, (((0 : Int), ((0 : Int), (false, ((⟨#[]⟩ : ByteArray), ())))), ())))).2.1 = true then ((impl_EntryOk.f k (x0.getD x5.toNat ((0 : Int), (false, (((0 : Int), ((0 : Int), (false, ((⟨#[]⟩ : ByteArray), ())))), ())))).2.2.1).bind fun r7 =>
              if r7 = true then (if (x0.getD x5.toNat ((0 : Int), (false, (((0 : Int), ((0 : Int), (false, ((⟨#[]⟩ : ByteArray), ())))), ())))).2.2.1.1 = x8.2.1 then (if x8.1 = (3 : Int) then some false
                  else if x3 < (x0.getD x5.toNat ((0 : Int), (false, (((0 : Int), ((0 : Int), (false, ((⟨#[]⟩ : ByteArray), ())))), ())))).2.2.1.2.1 then laws_FnTells.p35 k x0 x1 (x2 ++ ([(x0.getD x5.toNat ((0 : Int), (false, (((0 : Int), ((0 : Int), (false, ((⟨#[]⟩ : ByteArray), ())))), ())))).1] : List Int)) (x0.getD x5.toNat ((0 : Int), (false, (((0 : Int), ((0 : Int), (false, ((⟨#[]⟩ : ByteArray), ())))), ())))).2.2.1.2.1 x4 (wrap64 (x5 + (1 : Int))) x6 x7 x8
                  else laws_FnTells.p35 k x0 x1 (x2 ++ ([(x0.getD x5.toNat ((0 : Int), (false, (((0 : Int), ((0 : Int), (false, ((⟨#[]⟩ : ByteArray), ())))), ())))).1] : List Int)) x3 x4 (wrap64 (x5 + (1 : Int))) x6 x7 x8)
                else laws_FnTells.p35 k x0 x1 (x2 ++ ([(x0.getD x5.toNat ((0 : Int), (false, (((0 : Int), ((0 : Int), (false, ((⟨#[]⟩ : ByteArray), ())))), ())))).1] : List Int)) x3 x4 (wrap64 (x5 + (1 : Int))) x6 x7 x8)
              else laws_FnTells.p35 k x0 x1 (x2 ++ ([(x0.getD x5.toNat ((0 : Int), (false, (((0 : Int), ((0 : Int), (false, ((⟨#[]⟩ : ByteArray), ())))), ())))).1] : List Int)) x3 x4 (wrap64 (x5 + (1 : Int))) x6 x7 x8)
            else laws_FnTells.p35 k x0 x1 (x2 ++ ([(x0.getD x5.toNat ((0 : Int), (false, (((0 : Int), ((0 : Int), (false, ((⟨#[]⟩ : ByteArray), ())))), ())))).1] : List Int)) x3 x4 (wrap64 (x5 + (1 : Int))) x6 x7 x8)
          else none)
        else laws_FnTells.p35 k x0 x1 x2 x3 x4 (wrap64 (x5 + (1 : Int))) x6 x7 x8)
      else none)
    else laws_FnTells.p57 k x0 x1 x2 x3 x4 (0 : Int) x6 x7 x8
noncomputable def laws_FnTells.p57 : Nat → (List Answer) → (List Int) → (List Int) → Int → Bool → Int → Config → Reader → Event → Option (Bool)
  | 0, _, _, _, _, _, _, _, _, _ => none
  | k + 1, x0, x1, x2, x3, x4, x5, x6, x7, x8 => if x5 < ((x0.length : Nat) : Int) then (if (0 : Int) ≤ x5 ∧ x5 < ((x0.length : Nat) : Int) then ((laws_within.f k x1 (x0.getD x5.toNat ((0 : Int), (false, (((0 : Int), ((0 : Int), (false, ((⟨#[]⟩ : ByteArray), ())))), ())))).1).bind fun r8 =>
        if r8 = true then (if (x0.getD x5.toNat ((0 : Int), (false, (((0 : Int), ((0 : Int), (false, ((⟨#[]⟩ : ByteArray), ())))), ())))).2.1 = true then ((impl_EntryOk.f k (x0.getD x5.toNat ((0 : Int), (false, (((0 : Int), ((0 : Int), (false, ((⟨#[]⟩ : ByteArray), ())))), ())))).2.2.1).bind fun r9 =>
            if r9 = true then (if (x0.getD x5.toNat ((0 : Int), (false, (((0 : Int), ((0 : Int), (false, ((⟨#[]⟩ : ByteArray), ())))), ())))).2.2.1.1 = x8.2.1 then (if (x0.getD x5.toNat ((0 : Int), (false, (((0 : Int), ((0 : Int), (false, ((⟨#[]⟩ : ByteArray), ())))), ())))).2.2.1.2.1 = x3 then (if (x0.getD x5.toNat ((0 : Int), (false, (((0 : Int), ((0 : Int), (false, ((⟨#[]⟩ : ByteArray), ())))), ())))).2.2.1.2.2.1 = (decide (x8.1 = (2 : Int))) then (if (x0.getD x5.toNat ((0 : Int), (false, (((0 : Int), ((0 : Int), (false, ((⟨#[]⟩ : ByteArray), ())))), ())))).2.2.1.2.2.2.1 = x8.2.2.1 then laws_FnTells.p57 k x0 x1 x2 x3 true (wrap64 (x5 + (1 : Int))) x6 x7 x8
                    else laws_FnTells.p57 k x0 x1 x2 x3 x4 (wrap64 (x5 + (1 : Int))) x6 x7 x8)
                  else laws_FnTells.p57 k x0 x1 x2 x3 x4 (wrap64 (x5 + (1 : Int))) x6 x7 x8)
                else laws_FnTells.p57 k x0 x1 x2 x3 x4 (wrap64 (x5 + (1 : Int))) x6 x7 x8)
              else laws_FnTells.p57 k x0 x1 x2 x3 x4 (wrap64 (x5 + (1 : Int))) x6 x7 x8)
            else laws_FnTells.p57 k x0 x1 x2 x3 x4 (wrap64 (x5 + (1 : Int))) x6 x7 x8)
          else laws_FnTells.p57 k x0 x1 x2 x3 x4 (wrap64 (x5 + (1 : Int))) x6 x7 x8)
        else laws_FnTells.p57 k x0 x1 x2 x3 x4 (wrap64 (x5 + (1 : Int))) x6 x7 x8)
      else none)
    else if x4 = true then ((impl_Enough.f k x6 x1 x2).bind fun r10 =>
      if r10 = true then ((impl_EpochOf.f x8.2.1).bind fun r11 =>
        if r11 = x7.1 then ((impl_OffOf.f x8.2.1).bind fun r12 =>
          some (decide (r12 = x7.2.1)))
        else some false)
      else some false)
    else some false
end
noncomputable def laws_FnTells.f (k : Nat) (a0 : (List Int)) : Option (Bool) := (laws_big.f a0).bind fun r1 =>
  if r1 = true then some true
  else (spec_DrawReaderNext.f k a0).bind fun r2 =>
  (impl_ReaderNext.f k r2.1 r2.2.1 r2.2.2.1 r2.2.2.2.1 r2.2.2.2.2).bind fun r3 =>
  (spec_ReaderNext.f k r2.1 r2.2.1 r2.2.2.1 r2.2.2.2.1 r2.2.2.2.2).bind fun r4 =>
  if r3.2 = r4.2 then (if r3.2 = (0 : Int) then (if (0 : Int) ≤ (wrap64 (((r3.1.2.2.1.length : Nat) : Int) - (1 : Int))) ∧ (wrap64 (((r3.1.2.2.1.length : Nat) : Int) - (1 : Int))) < ((r3.1.2.2.1.length : Nat) : Int) then (if (r3.1.2.2.1.getD (wrap64 (((r3.1.2.2.1.length : Nat) : Int) - (1 : Int))).toNat ((0 : Int), ((0 : Int), ((⟨#[]⟩ : ByteArray), ())))).1 = (4 : Int) then some true
        else if (r3.1.2.2.1.getD (wrap64 (((r3.1.2.2.1.length : Nat) : Int) - (1 : Int))).toNat ((0 : Int), ((0 : Int), ((⟨#[]⟩ : ByteArray), ())))).1 = (5 : Int) then some true
        else (impl_EraNodes.f r2.2.1 r2.2.2.2.1.1).bind fun r5 =>
        laws_FnTells.p35 k r2.2.2.2.2 r5 ([] : List Int) (-1 : Int) (decide ((r3.1.2.2.1.getD (wrap64 (((r3.1.2.2.1.length : Nat) : Int) - (1 : Int))).toNat ((0 : Int), ((0 : Int), ((⟨#[]⟩ : ByteArray), ())))).1 = (3 : Int))) (0 : Int) r2.1 r2.2.2.2.1 (r3.1.2.2.1.getD (wrap64 (((r3.1.2.2.1.length : Nat) : Int) - (1 : Int))).toNat ((0 : Int), ((0 : Int), ((⟨#[]⟩ : ByteArray), ())))))
      else none)
    else some true)
  else some false
end Go.Proofs.Ythgnikafeamidab.OmFnTells
