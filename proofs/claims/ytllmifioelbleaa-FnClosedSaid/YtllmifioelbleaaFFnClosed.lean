import Derived.Test.YtllmifioelbleaaOmD
set_option maxRecDepth 1000000
set_option linter.unusedVariables false
namespace Go.Proofs.Ytllmifioelbleaa.OmFnClosed
open Go Go.OM
@[reducible] noncomputable def tConfig : Ty := .pair (.sl (.int .i64)) (.pair (.int .i64) (.unit))
@[reducible] noncomputable def Config : Type := (List Int) × Int × Unit
@[reducible] noncomputable def tEntry : Ty := .pair (.int .i64) (.pair (.int .i64) (.pair .bool (.pair .str (.unit))))
@[reducible] noncomputable def Entry : Type := Int × Int × Bool × ByteArray × Unit
@[reducible] noncomputable def tMend : Ty := .pair (.int .i64) (.pair (.int .i64) (.pair (.sl (.int .i64)) (.pair (.sl tEntry) (.pair .bool (.pair (.sl (.sl (.int .i64))) (.unit))))))
@[reducible] noncomputable def Mend : Type := Int × Int × (List Int) × (List Entry) × Bool × (List (List Int)) × Unit
@[reducible] noncomputable def tEra : Ty := .pair (.sl (.int .i64)) (.pair .bool (.pair (.int .i64) (.unit)))
@[reducible] noncomputable def Era : Type := (List Int) × Bool × Int × Unit
@[reducible] noncomputable def tRegister : Ty := .pair (.sl tEra) (.pair (.int .i64) (.unit))
@[reducible] noncomputable def Register : Type := (List Era) × Int × Unit
@[reducible] noncomputable def tStore : Ty := .pair (.sl tEntry) (.pair (.sl tEntry) (.pair (.int .i64) (.unit)))
@[reducible] noncomputable def Store : Type := (List Entry) × (List Entry) × Int × Unit
@[reducible] noncomputable def tWord : Ty := .pair .str (.pair (.sl (.int .i64)) (.pair .bool (.unit)))
@[reducible] noncomputable def Word : Type := ByteArray × (List Int) × Bool × Unit
@[reducible] noncomputable def tWriter : Ty := .pair (.int .i64) (.pair (.sl tWord) (.unit))
@[reducible] noncomputable def Writer : Type := Int × (List Word) × Unit
@[reducible] noncomputable def treader : Ty := .pair (.sl (.int .u8)) (.pair (.int .i64) (.pair .bool (.unit)))
@[reducible] noncomputable def reader : Type := (List Int) × Int × Bool × Unit
@[reducible] noncomputable def tl1Cur : Ty := .pair (.sl (.int .u8)) (.pair (.int .i64) (.pair (.int .i64) (.unit)))
@[reducible] noncomputable def l1Cur : Type := (List Int) × Int × Int × Unit
/-! laws.big -/
noncomputable def laws_big.f (a0 : (List Int)) : Option (Bool) := some (decide ((1048576 : Int) < ((a0.length : Nat) : Int)))
/-! spec.l1New -/
noncomputable def spec_l1New.p7 : Nat → (List Int) → Int → Int → Option (l1Cur)
  | 0, _, _, _ => none
  | k + 1, x0, x1, x2 => if x2 < ((x0.length : Nat) : Int) then (if x2 < (4000 : Int) then (if (0 : Int) ≤ x2 ∧ x2 < ((x0.length : Nat) : Int) then spec_l1New.p7 k x0 (andK .i64 (wrap64 ((wrap64 ((wrap64 (x1 * (131 : Int))) + (wrap64 ((x0.getD x2.toNat (0 : Int)))))) + (7 : Int))) (1073741823 : Int)) (wrap64 (x2 + (1 : Int)))
        else none)
      else some (x0, ((0 : Int), (x1, ()))))
    else some (x0, ((0 : Int), (x1, ())))
noncomputable def spec_l1New.f (k : Nat) (a0 : (List Int)) : Option (l1Cur) := spec_l1New.p7 k a0 (wrap64 ((17817 : Int) + ((a0.length : Nat) : Int))) (0 : Int)
/-! spec.l1Byte -/
noncomputable def spec_l1Byte.f (a0 : l1Cur) : Option (Int × l1Cur) := if a0.2.1 < ((a0.1.length : Nat) : Int) then (if (0 : Int) ≤ a0.2.1 ∧ a0.2.1 < ((a0.1.length : Nat) : Int) then some ((andK .i64 (wrap64 ((andK .i64 (xorK .i64 (shrK .i64 (wrap64 ((wrap64 (a0.2.2.1 * (6364136223846793005 : Int))) + (1442695040888963407 : Int))) (33 : Int)) (shrK .i64 (wrap64 ((wrap64 (a0.2.2.1 * (6364136223846793005 : Int))) + (1442695040888963407 : Int))) (45 : Int))) (255 : Int)) + (wrap64 ((a0.1.getD a0.2.1.toNat (0 : Int)))))) (255 : Int)), (a0.1, ((wrap64 (a0.2.1 + (1 : Int))), ((wrap64 ((wrap64 (a0.2.2.1 * (6364136223846793005 : Int))) + (1442695040888963407 : Int))), a0.2.2.2))))
    else none)
  else some ((andK .i64 (xorK .i64 (shrK .i64 (wrap64 ((wrap64 (a0.2.2.1 * (6364136223846793005 : Int))) + (1442695040888963407 : Int))) (33 : Int)) (shrK .i64 (wrap64 ((wrap64 (a0.2.2.1 * (6364136223846793005 : Int))) + (1442695040888963407 : Int))) (45 : Int))) (255 : Int)), (a0.1, (a0.2.1, ((wrap64 ((wrap64 (a0.2.2.1 * (6364136223846793005 : Int))) + (1442695040888963407 : Int))), a0.2.2.2))))
/-! spec.l1Below -/
noncomputable def spec_l1Below.f (a0 : l1Cur) (a1 : Int) : Option (Int × l1Cur) := if a1 ≤ (0 : Int) then some ((0 : Int), a0)
  else if a1 ≤ (256 : Int) then ((spec_l1Byte.f a0).bind fun r1 =>
    if a1 = (0 : Int) then none
    else some ((Int.tmod r1.1 a1), r1.2))
  else (spec_l1Byte.f a0).bind fun r2 =>
  (spec_l1Byte.f r2.2).bind fun r3 =>
  (spec_l1Byte.f r3.2).bind fun r4 =>
  (spec_l1Byte.f r4.2).bind fun r5 =>
  if a1 = (0 : Int) then none
  else some ((Int.tmod (wrap64 ((wrap64 ((wrap64 ((wrap64 (r2.1 * (16777216 : Int))) + (wrap64 (r3.1 * (65536 : Int))))) + (wrap64 (r4.1 * (256 : Int))))) + r5.1)) a1), r5.2)
/-! spec.l1Once -/
noncomputable def spec_l1Once.f (a0 : l1Cur) (a1 : Int) : Option (Bool × l1Cur) := (spec_l1Below.f a0 a1).bind fun r1 =>
  some ((decide (r1.1 = (0 : Int))), r1.2)
/-! spec.l4DrawRight -/
noncomputable def spec_l4DrawRight.p9 : Nat → Int → Int → Config → Config → l1Cur → Option (Config × l1Cur)
  | 0, _, _, _, _, _ => none
  | k + 1, x0, x1, x2, x3, x4 => if x1 < x0 then ((spec_l1Below.f x4 (5 : Int)).bind fun r3 =>
      if (((x3.1.length : Nat) : Int) + ((([r3.1] : List Int).length : Nat) : Int)) ≤ lim then spec_l4DrawRight.p9 k x0 (wrap64 (x1 + (1 : Int))) x2 ((x3.1 ++ ([r3.1] : List Int)), x3.2) r3.2
      else none)
    else (spec_l1Once.f x4 (2 : Int)).bind fun r4 =>
    if r4.1 = true then some ((x3.1, ((2 : Int), x3.2.2)), r4.2)
    else some (x3, r4.2)
noncomputable def spec_l4DrawRight.f (k : Nat) (a0 : l1Cur) : Option (Config × l1Cur) := (spec_l1Below.f a0 (3 : Int)).bind fun r1 =>
  (spec_l1Below.f r1.2 (5 : Int)).bind fun r2 =>
  spec_l4DrawRight.p9 k (wrap64 ((3 : Int) + r2.1)) (0 : Int) (([] : List Int), ((0 : Int), ())) (([] : List Int), ((wrap64 ((1 : Int) + r1.1)), ())) r2.2
/-! spec.l1PickInt -/
noncomputable def spec_l1PickInt.f (a0 : l1Cur) (a1 : (List Int)) : Option (Int × l1Cur) := (spec_l1Below.f a0 ((a1.length : Nat) : Int)).bind fun r1 =>
  if (0 : Int) ≤ r1.1 ∧ r1.1 < ((a1.length : Nat) : Int) then some ((a1.getD r1.1.toNat (0 : Int)), r1.2)
  else none
/-! spec.l4Draw -/
noncomputable def spec_l4Draw.f (k : Nat) (a0 : l1Cur) : Option (Config × l1Cur) := (spec_l4DrawRight.f k a0).bind fun r1 =>
  (spec_l1Below.f r1.2 (20 : Int)).bind fun r2 =>
  if r2.1 = (0 : Int) then ((spec_l1PickInt.f r2.2 ([(0 : Int), (4 : Int), (5 : Int)] : List Int)).bind fun r3 =>
    some ((r1.1.1, (r3.1, r1.1.2.2)), r3.2))
  else if r2.1 = (1 : Int) then ((spec_l1PickInt.f r2.2 ([(-1 : Int), (7 : Int), (8 : Int)] : List Int)).bind fun r4 =>
    if (0 : Int) ≤ (0 : Int) ∧ (0 : Int) < ((r1.1.1.length : Nat) : Int) then some (((r1.1.1.set (0 : Int).toNat r4.1), r1.1.2), r4.2)
    else none)
  else if r2.1 = (2 : Int) then ((spec_l1PickInt.f r2.2 ([(0 : Int), (8 : Int), (9 : Int)] : List Int)).bind fun r5 =>
    if (0 : Int) ≤ r5.1 ∧ r5.1 ≤ r5.1 ∧ r5.1 ≤ lim then some (((List.replicate r5.1.toNat (0 : Int)), r1.1.2), r5.2)
    else none)
  else some (r1.1, r2.2)
/-! spec.l1Max -/
noncomputable def spec_l1Max.f (a0 : Int) (a1 : Int) : Option (Int) := if a1 < a0 then some a0
  else some a1
/-! spec.l4Has -/
noncomputable def spec_l4Has.p5 : Nat → (List Int) → Int → Int → Option (Bool)
  | 0, _, _, _ => none
  | k + 1, x0, x1, x2 => if x2 < ((x0.length : Nat) : Int) then (if (0 : Int) ≤ x2 ∧ x2 < ((x0.length : Nat) : Int) then (if (x0.getD x2.toNat (0 : Int)) = x1 then some true
        else spec_l4Has.p5 k x0 x1 (wrap64 (x2 + (1 : Int))))
      else none)
    else some false
noncomputable def spec_l4Has.f (k : Nat) (a0 : (List Int)) (a1 : Int) : Option (Bool) := spec_l4Has.p5 k a0 a1 (0 : Int)
/-! spec.l4Put -/
noncomputable def spec_l4Put.p9 : Nat → (List Int) → Int → (List Int) → Bool → Int → Option ((List Int))
  | 0, _, _, _, _, _ => none
  | k + 1, x0, x1, x2, x3, x4 => if x4 < ((x0.length : Nat) : Int) then (if x3 = true then (if (0 : Int) ≤ x4 ∧ x4 < ((x0.length : Nat) : Int) then (if (((x2.length : Nat) : Int) + ((([(x0.getD x4.toNat (0 : Int))] : List Int).length : Nat) : Int)) ≤ lim then spec_l4Put.p9 k x0 x1 (x2 ++ ([(x0.getD x4.toNat (0 : Int))] : List Int)) x3 (wrap64 (x4 + (1 : Int)))
          else none)
        else none)
      else if (0 : Int) ≤ x4 ∧ x4 < ((x0.length : Nat) : Int) then (if x1 < (x0.getD x4.toNat (0 : Int)) then (if (((x2.length : Nat) : Int) + ((([x1] : List Int).length : Nat) : Int)) ≤ lim then (if (0 : Int) ≤ x4 ∧ x4 < ((x0.length : Nat) : Int) then (if ((((x2 ++ ([x1] : List Int)).length : Nat) : Int) + ((([(x0.getD x4.toNat (0 : Int))] : List Int).length : Nat) : Int)) ≤ lim then spec_l4Put.p9 k x0 x1 ((x2 ++ ([x1] : List Int)) ++ ([(x0.getD x4.toNat (0 : Int))] : List Int)) true (wrap64 (x4 + (1 : Int)))
              else none)
            else none)
          else none)
        else if (0 : Int) ≤ x4 ∧ x4 < ((x0.length : Nat) : Int) then (if (((x2.length : Nat) : Int) + ((([(x0.getD x4.toNat (0 : Int))] : List Int).length : Nat) : Int)) ≤ lim then spec_l4Put.p9 k x0 x1 (x2 ++ ([(x0.getD x4.toNat (0 : Int))] : List Int)) x3 (wrap64 (x4 + (1 : Int)))
          else none)
        else none)
      else none)
    else if x3 = true then some x2
    else if (((x2.length : Nat) : Int) + ((([x1] : List Int).length : Nat) : Int)) ≤ lim then some (x2 ++ ([x1] : List Int))
    else none
noncomputable def spec_l4Put.f (k : Nat) (a0 : (List Int)) (a1 : Int) : Option ((List Int)) := (spec_l4Has.f k a0 a1).bind fun r1 =>
  spec_l4Put.p9 k a0 a1 ([] : List Int) r1 (0 : Int)
/-! spec.l4DrawNodes -/
noncomputable def spec_l4DrawNodes.p9 : Nat → (List Int) → Int → Int → Config → l1Cur → Option ((List Int) × l1Cur)
  | 0, _, _, _, _, _ => none
  | k + 1, x0, x1, x2, x3, x4 => if x2 < x1 then ((spec_l1Max.f ((x3.1.length : Nat) : Int) (1 : Int)).bind fun r2 =>
      (spec_l1Below.f x4 r2).bind fun r3 =>
      (spec_l4Put.f k x0 r3.1).bind fun r4 =>
      spec_l4DrawNodes.p9 k r4 x1 (wrap64 (x2 + (1 : Int))) x3 r3.2)
    else (spec_l1Once.f x4 (20 : Int)).bind fun r5 =>
    if r5.1 = true then ((spec_l1PickInt.f r5.2 ([(-1 : Int), (0 : Int), ((x3.1.length : Nat) : Int)] : List Int)).bind fun r6 =>
      if (((x0.length : Nat) : Int) + ((([r6.1] : List Int).length : Nat) : Int)) ≤ lim then some ((x0 ++ ([r6.1] : List Int)), r6.2)
      else none)
    else some (x0, r5.2)
noncomputable def spec_l4DrawNodes.f (k : Nat) (a0 : l1Cur) (a1 : Config) : Option ((List Int) × l1Cur) := (spec_l1Below.f a0 (wrap64 (((a1.1.length : Nat) : Int) + (2 : Int)))).bind fun r1 =>
  spec_l4DrawNodes.p9 k ([] : List Int) r1.1 (0 : Int) a1 r1.2
/-! spec.l1In -/
noncomputable def spec_l1In.f (a0 : Int) (a1 : Int) (a2 : Int) : Option (Bool) := if a1 ≤ a0 then some (decide (a0 ≤ a2))
  else some false
/-! spec.ConfigOk -/
noncomputable def spec_ConfigOk.p9 : Nat → Int → Config → Option (Bool)
  | 0, _, _ => none
  | k + 1, x0, x1 => if x0 < ((x1.1.length : Nat) : Int) then (if (0 : Int) ≤ x0 ∧ x0 < ((x1.1.length : Nat) : Int) then ((spec_l1In.f (x1.1.getD x0.toNat (0 : Int)) (0 : Int) (7 : Int)).bind fun r3 =>
        if r3 = true then spec_ConfigOk.p9 k (wrap64 (x0 + (1 : Int))) x1
        else some false)
      else none)
    else some true
noncomputable def spec_ConfigOk.f (k : Nat) (a0 : Config) : Option (Bool) := (spec_l1In.f ((a0.1.length : Nat) : Int) (1 : Int) (8 : Int)).bind fun r1 =>
  if r1 = true then ((spec_l1In.f a0.2.1 (1 : Int) (4 : Int)).bind fun r2 =>
    if r2 = true then spec_ConfigOk.p9 k (0 : Int) a0
    else some false)
  else some false
/-! spec.l4Asc -/
noncomputable def spec_l4Asc.p5 : Nat → (List Int) → Int → Int → Int → Option (Bool)
  | 0, _, _, _, _ => none
  | k + 1, x0, x1, x2, x3 => if x3 < ((x0.length : Nat) : Int) then (if (0 : Int) ≤ x3 ∧ x3 < ((x0.length : Nat) : Int) then ((spec_l1In.f (x0.getD x3.toNat (0 : Int)) x1 x2).bind fun r1 =>
        if r1 = true then (if (0 : Int) < x3 then (if (0 : Int) ≤ (wrap64 (x3 - (1 : Int))) ∧ (wrap64 (x3 - (1 : Int))) < ((x0.length : Nat) : Int) then (if (0 : Int) ≤ x3 ∧ x3 < ((x0.length : Nat) : Int) then (if (x0.getD x3.toNat (0 : Int)) ≤ (x0.getD (wrap64 (x3 - (1 : Int))).toNat (0 : Int)) then some false
                else spec_l4Asc.p5 k x0 x1 x2 (wrap64 (x3 + (1 : Int))))
              else none)
            else none)
          else spec_l4Asc.p5 k x0 x1 x2 (wrap64 (x3 + (1 : Int))))
        else some false)
      else none)
    else some true
noncomputable def spec_l4Asc.f (k : Nat) (a0 : (List Int)) (a1 : Int) (a2 : Int) : Option (Bool) := spec_l4Asc.p5 k a0 a1 a2 (0 : Int)
/-! spec.NodesOk -/
noncomputable def spec_NodesOk.f (k : Nat) (a0 : Config) (a1 : (List Int)) : Option (Bool) := (spec_ConfigOk.f k a0).bind fun r1 =>
  if r1 = true then ((spec_l4Asc.f k a1 (0 : Int) (wrap64 (((a0.1.length : Nat) : Int) - (1 : Int)))).bind fun r2 =>
    some r2)
  else some false
/-! spec.l4Span -/
noncomputable def spec_l4Span.p9 : Nat → (List Int) → (List Bool) → Int → Int → Config → Option (Int)
  | 0, _, _, _, _, _ => none
  | k + 1, x0, x1, x2, x3, x4 => if x3 < ((x0.length : Nat) : Int) then (if (0 : Int) ≤ x3 ∧ x3 < ((x0.length : Nat) : Int) then (if (0 : Int) ≤ (x0.getD x3.toNat (0 : Int)) ∧ (x0.getD x3.toNat (0 : Int)) < ((x4.1.length : Nat) : Int) then (if (0 : Int) ≤ (x4.1.getD (x0.getD x3.toNat (0 : Int)).toNat (0 : Int)) ∧ (x4.1.getD (x0.getD x3.toNat (0 : Int)).toNat (0 : Int)) < ((x1.length : Nat) : Int) then (if (x1.getD (x4.1.getD (x0.getD x3.toNat (0 : Int)).toNat (0 : Int)).toNat false) = true then spec_l4Span.p9 k x0 x1 x2 (wrap64 (x3 + (1 : Int))) x4
            else if (0 : Int) ≤ (x4.1.getD (x0.getD x3.toNat (0 : Int)).toNat (0 : Int)) ∧ (x4.1.getD (x0.getD x3.toNat (0 : Int)).toNat (0 : Int)) < ((x1.length : Nat) : Int) then spec_l4Span.p9 k x0 (x1.set (x4.1.getD (x0.getD x3.toNat (0 : Int)).toNat (0 : Int)).toNat true) (wrap64 (x2 + (1 : Int))) (wrap64 (x3 + (1 : Int))) x4
            else none)
          else none)
        else none)
      else none)
    else some x2
noncomputable def spec_l4Span.f (k : Nat) (a0 : Config) (a1 : (List Int)) : Option (Int) := if (0 : Int) ≤ (8 : Int) ∧ (8 : Int) ≤ (8 : Int) ∧ (8 : Int) ≤ lim then spec_l4Span.p9 k a1 (List.replicate (8 : Int).toNat false) (0 : Int) (0 : Int) a0
  else none
/-! spec.Holds -/
noncomputable def spec_Holds.f (k : Nat) (a0 : Config) (a1 : (List Int)) : Option (Bool) := (spec_NodesOk.f k a0 a1).bind fun r1 =>
  if r1 = true then ((spec_l4Span.f k a0 a1).bind fun r2 =>
    some (decide (a0.2.1 ≤ r2)))
  else some false
/-! spec.l7DrawSet -/
noncomputable def spec_l7DrawSet.p7 : Nat → (List Int) → Int → Config → l1Cur → Option ((List Int) × l1Cur)
  | 0, _, _, _, _ => none
  | k + 1, x0, x1, x2, x3 => if x1 < ((x2.1.length : Nat) : Int) then ((spec_Holds.f k x2 x0).bind fun r2 =>
      if r2 = true then some (x0, x3)
      else (spec_l4Put.f k x0 x1).bind fun r3 =>
      spec_l7DrawSet.p7 k r3 (wrap64 (x1 + (1 : Int))) x2 x3)
    else some (x0, x3)
noncomputable def spec_l7DrawSet.f (k : Nat) (a0 : l1Cur) (a1 : Config) : Option ((List Int) × l1Cur) := (spec_l4DrawNodes.f k a0 a1).bind fun r1 =>
  spec_l7DrawSet.p7 k r1.1 (0 : Int) a1 r1.2
/-! spec.PlaceOk -/
noncomputable def spec_PlaceOk.f (a0 : Int) : Option (Bool) := if (0 : Int) < a0 then ((spec_l1In.f (wrap64 ((Int.tdiv a0 (4294967296 : Int)))) (1 : Int) (30 : Int)).bind fun r1 =>
    if r1 = true then ((spec_l1In.f (Int.tmod a0 (4294967296 : Int)) (1 : Int) (60 : Int)).bind fun r2 =>
      some r2)
    else some false)
  else some false
/-! spec.EpochOf -/
noncomputable def spec_EpochOf.f (a0 : Int) : Option (Int) := (spec_PlaceOk.f a0).bind fun r1 =>
  if r1 = true then some (wrap64 ((Int.tdiv a0 (4294967296 : Int))))
  else some (0 : Int)
/-! spec.RegOk -/
mutual
noncomputable def spec_RegOk.p8 : Nat → Int → Config → Register → Option (Bool)
  | 0, _, _, _ => none
  | k + 1, x0, x1, x2 => spec_RegOk.p11 k x0 (0 : Int) x1 x2
noncomputable def spec_RegOk.p11 : Nat → Int → Int → Config → Register → Option (Bool)
  | 0, _, _, _, _ => none
  | k + 1, x0, x1, x2, x3 => if x1 < x0 then (if (0 : Int) ≤ x1 ∧ x1 < ((x3.1.length : Nat) : Int) then ((spec_Holds.f k x2 (x3.1.getD x1.toNat (([] : List Int), (false, ((0 : Int), ())))).1).bind fun r4 =>
        if r4 = true then ((spec_l1In.f (x3.1.getD x1.toNat (([] : List Int), (false, ((0 : Int), ())))).2.2.1 (0 : Int) (60 : Int)).bind fun r5 =>
          if r5 = true then (if (x3.1.getD x1.toNat (([] : List Int), (false, ((0 : Int), ())))).2.1 = true then spec_RegOk.p20 k x0 x1 (x3.1.getD x1.toNat (([] : List Int), (false, ((0 : Int), ())))).2.2.1 r5 (!(decide (r5 = true))) (x3.1.getD x1.toNat (([] : List Int), (false, ((0 : Int), ())))).2.1 (!(decide ((x3.1.getD x1.toNat (([] : List Int), (false, ((0 : Int), ())))).2.1 = true))) false false x2 x3 (x3.1.getD x1.toNat (([] : List Int), (false, ((0 : Int), ()))))
            else if (x3.1.getD x1.toNat (([] : List Int), (false, ((0 : Int), ())))).2.2.1 = (0 : Int) then spec_RegOk.p20 k x0 x1 (x3.1.getD x1.toNat (([] : List Int), (false, ((0 : Int), ())))).2.2.1 r5 (!(decide (r5 = true))) (x3.1.getD x1.toNat (([] : List Int), (false, ((0 : Int), ())))).2.1 (!(decide ((x3.1.getD x1.toNat (([] : List Int), (false, ((0 : Int), ())))).2.1 = true))) true (!(decide ((x3.1.getD x1.toNat (([] : List Int), (false, ((0 : Int), ())))).2.2.1 = (0 : Int)))) x2 x3 (x3.1.getD x1.toNat (([] : List Int), (false, ((0 : Int), ()))))
            else some false)
          else some false)
        else some false)
      else none)
    else some true
noncomputable def spec_RegOk.p20 : Nat → Int → Int → Int → Bool → Bool → Bool → Bool → Bool → Bool → Config → Register → Era → Option (Bool)
  | 0, _, _, _, _, _, _, _, _, _, _, _, _ => none
  | k + 1, x0, x1, x2, x3, x4, x5, x6, x7, x8, x9, x10, x11 => if x11.2.1 = true then (if x1 = (wrap64 (x0 - (1 : Int))) then some false
      else if (0 : Int) < x1 then (if (0 : Int) ≤ (wrap64 (x1 - (1 : Int))) ∧ (wrap64 (x1 - (1 : Int))) < ((x10.1.length : Nat) : Int) then (if (x10.1.getD (wrap64 (x1 - (1 : Int))).toNat (([] : List Int), (false, ((0 : Int), ())))).2.1 = true then spec_RegOk.p11 k x0 (wrap64 (x1 + (1 : Int))) x9 x10
          else some false)
        else none)
      else spec_RegOk.p11 k x0 (wrap64 (x1 + (1 : Int))) x9 x10)
    else spec_RegOk.p11 k x0 (wrap64 (x1 + (1 : Int))) x9 x10
end
noncomputable def spec_RegOk.f (k : Nat) (a0 : Config) (a1 : Register) : Option (Bool) := (spec_ConfigOk.f k a0).bind fun r1 =>
  if r1 = true then (if (30 : Int) < ((a1.1.length : Nat) : Int) then some false
    else if a1.2.1 = (0 : Int) then spec_RegOk.p8 k ((a1.1.length : Nat) : Int) a0 a1
    else (spec_PlaceOk.f a1.2.1).bind fun r2 =>
    if r2 = true then ((spec_EpochOf.f a1.2.1).bind fun r3 =>
      if ((a1.1.length : Nat) : Int) < r3 then some false
      else spec_RegOk.p8 k ((a1.1.length : Nat) : Int) a0 a1)
    else some false)
  else some false
/-! spec.l7Copy -/
noncomputable def spec_l7Copy.p7 : Nat → Int → Register → Register → Register → Option (Register)
  | 0, _, _, _, _ => none
  | k + 1, x0, x1, x2, x3 => if x0 < ((x1.1.length : Nat) : Int) then (if (0 : Int) ≤ x0 ∧ x0 < ((x1.1.length : Nat) : Int) then (if (((([] : List Int).length : Nat) : Int) + (((x1.1.getD x0.toNat (([] : List Int), (false, ((0 : Int), ())))).1.length : Nat) : Int)) ≤ lim then (if (((x3.1.length : Nat) : Int) + ((([((([] : List Int) ++ (x1.1.getD x0.toNat (([] : List Int), (false, ((0 : Int), ())))).1), (x1.1.getD x0.toNat (([] : List Int), (false, ((0 : Int), ())))).2)] : List Era).length : Nat) : Int)) ≤ lim then spec_l7Copy.p7 k (wrap64 (x0 + (1 : Int))) x1 x2 ((x3.1 ++ ([((([] : List Int) ++ (x1.1.getD x0.toNat (([] : List Int), (false, ((0 : Int), ())))).1), (x1.1.getD x0.toNat (([] : List Int), (false, ((0 : Int), ())))).2)] : List Era)), x3.2)
          else none)
        else none)
      else none)
    else some x3
noncomputable def spec_l7Copy.f (k : Nat) (a0 : Register) : Option (Register) := spec_l7Copy.p7 k (0 : Int) a0 (([] : List Era), ((0 : Int), ())) (([] : List Era), (a0.2.1, ()))
/-! spec.RegOpen -/
noncomputable def spec_RegOpen.f (k : Nat) (a0 : Config) (a1 : Register) (a2 : (List Int)) : Option (Register × Int × Bool) := (spec_RegOk.f k a0 a1).bind fun r1 =>
  if r1 = true then ((spec_l7Copy.f k a1).bind fun r2 =>
    (spec_Holds.f k a0 a2).bind fun r3 =>
    if r3 = true then (if ((a1.1.length : Nat) : Int) = (30 : Int) then some (r2, (0 : Int), false)
      else if (((([] : List Int).length : Nat) : Int) + ((a2.length : Nat) : Int)) ≤ lim then (if (((r2.1.length : Nat) : Int) + ((([((([] : List Int) ++ a2), (false, ((0 : Int), ())))] : List Era).length : Nat) : Int)) ≤ lim then some (((r2.1 ++ ([((([] : List Int) ++ a2), (false, ((0 : Int), ())))] : List Era)), r2.2), (((r2.1 ++ ([((([] : List Int) ++ a2), (false, ((0 : Int), ())))] : List Era)).length : Nat) : Int), true)
        else none)
      else none)
    else some (r2, (0 : Int), false))
  else some ((([] : List Era), ((0 : Int), ())), (0 : Int), false)
/-! spec.FirstOpen -/
noncomputable def spec_FirstOpen.p5 : Nat → Int → Register → Option (Int)
  | 0, _, _ => none
  | k + 1, x0, x1 => if x0 < ((x1.1.length : Nat) : Int) then (if (0 : Int) ≤ x0 ∧ x0 < ((x1.1.length : Nat) : Int) then (if (x1.1.getD x0.toNat (([] : List Int), (false, ((0 : Int), ())))).2.1 = true then spec_FirstOpen.p5 k (wrap64 (x0 + (1 : Int))) x1
        else some (wrap64 (x0 + (1 : Int))))
      else none)
    else some (0 : Int)
noncomputable def spec_FirstOpen.f (k : Nat) (a0 : Register) : Option (Int) := spec_FirstOpen.p5 k (0 : Int) a0
/-! spec.RegClose -/
noncomputable def spec_RegClose.f (k : Nat) (a0 : Config) (a1 : Register) (a2 : Int) (a3 : Int) : Option (Register × Bool) := (spec_RegOk.f k a0 a1).bind fun r1 =>
  if r1 = true then ((spec_l7Copy.f k a1).bind fun r2 =>
    (spec_FirstOpen.f k a1).bind fun r3 =>
    if a2 = ((a1.1.length : Nat) : Int) then (if r3 = (0 : Int) then some (r2, false)
      else if a2 = r3 then some (r2, false)
      else (spec_l1In.f a3 (0 : Int) (60 : Int)).bind fun r4 =>
      if r4 = true then (if (0 : Int) ≤ (wrap64 (r3 - (1 : Int))) ∧ (wrap64 (r3 - (1 : Int))) < ((r2.1.length : Nat) : Int) then (if (0 : Int) ≤ (wrap64 (r3 - (1 : Int))) ∧ (wrap64 (r3 - (1 : Int))) < (((r2.1.set (wrap64 (r3 - (1 : Int))).toNat ((r2.1.getD (wrap64 (r3 - (1 : Int))).toNat (([] : List Int), (false, ((0 : Int), ())))).1, (true, (r2.1.getD (wrap64 (r3 - (1 : Int))).toNat (([] : List Int), (false, ((0 : Int), ())))).2.2))).length : Nat) : Int) then some ((((r2.1.set (wrap64 (r3 - (1 : Int))).toNat ((r2.1.getD (wrap64 (r3 - (1 : Int))).toNat (([] : List Int), (false, ((0 : Int), ())))).1, (true, (r2.1.getD (wrap64 (r3 - (1 : Int))).toNat (([] : List Int), (false, ((0 : Int), ())))).2.2))).set (wrap64 (r3 - (1 : Int))).toNat (((r2.1.set (wrap64 (r3 - (1 : Int))).toNat ((r2.1.getD (wrap64 (r3 - (1 : Int))).toNat (([] : List Int), (false, ((0 : Int), ())))).1, (true, (r2.1.getD (wrap64 (r3 - (1 : Int))).toNat (([] : List Int), (false, ((0 : Int), ())))).2.2))).getD (wrap64 (r3 - (1 : Int))).toNat (([] : List Int), (false, ((0 : Int), ())))).1, (((r2.1.set (wrap64 (r3 - (1 : Int))).toNat ((r2.1.getD (wrap64 (r3 - (1 : Int))).toNat (([] : List Int), (false, ((0 : Int), ())))).1, (true, (r2.1.getD (wrap64 (r3 - (1 : Int))).toNat (([] : List Int), (false, ((0 : Int), ())))).2.2))).getD (wrap64 (r3 - (1 : Int))).toNat (([] : List Int), (false, ((0 : Int), ())))).2.1, (a3, ((r2.1.set (wrap64 (r3 - (1 : Int))).toNat ((r2.1.getD (wrap64 (r3 - (1 : Int))).toNat (([] : List Int), (false, ((0 : Int), ())))).1, (true, (r2.1.getD (wrap64 (r3 - (1 : Int))).toNat (([] : List Int), (false, ((0 : Int), ())))).2.2))).getD (wrap64 (r3 - (1 : Int))).toNat (([] : List Int), (false, ((0 : Int), ())))).2.2.2)))), r2.2), true)
          else none)
        else none)
      else some (r2, false))
    else some (r2, false))
  else some ((([] : List Era), ((0 : Int), ())), false)
/-! spec.l1Place -/
noncomputable def spec_l1Place.f (a0 : Int) (a1 : Int) : Option (Int) := some (wrap64 ((wrap64 ((4294967296 : Int) * a0)) + a1))
/-! spec.RegTrim -/
noncomputable def spec_RegTrim.f (k : Nat) (a0 : Config) (a1 : Register) (a2 : Int) : Option (Register × Bool) := (spec_RegOk.f k a0 a1).bind fun r1 =>
  if r1 = true then ((spec_l7Copy.f k a1).bind fun r2 =>
    (spec_PlaceOk.f a2).bind fun r3 =>
    if r3 = true then ((spec_EpochOf.f a2).bind fun r4 =>
      if ((a1.1.length : Nat) : Int) < r4 then some (r2, false)
      else (spec_l1Max.f r2.2.1 a2).bind fun r5 =>
      some ((r2.1, (r5, r2.2.2)), true))
    else some (r2, false))
  else some ((([] : List Era), ((0 : Int), ())), false)
/-! spec.l7DrawRight -/
noncomputable def spec_l7DrawRight.p7 : Nat → Int → Config → Register → Register → l1Cur → Option (Register × l1Cur)
  | 0, _, _, _, _, _ => none
  | k + 1, x0, x1, x2, x3, x4 => (spec_l1Below.f x4 (7 : Int)).bind fun r1 =>
    if x0 < r1.1 then ((spec_l7DrawSet.f k r1.2 x1).bind fun r2 =>
      (spec_RegOpen.f k x1 x3 r2.1).bind fun r3 =>
      (spec_l1Below.f r2.2 (4 : Int)).bind fun r4 =>
      if r4.1 = (0 : Int) then ((spec_l1Below.f r4.2 (5 : Int)).bind fun r5 =>
        (spec_RegClose.f k x1 x3 ((x3.1.length : Nat) : Int) r5.1).bind fun r6 =>
        if r6.2 = true then spec_l7DrawRight.p7 k (wrap64 (x0 + (1 : Int))) x1 x2 r6.1 r5.2
        else spec_l7DrawRight.p7 k (wrap64 (x0 + (1 : Int))) x1 x2 x3 r5.2)
      else if r4.1 = (1 : Int) then ((spec_l1Below.f r4.2 (2 : Int)).bind fun r7 =>
        (spec_l1Below.f r7.2 (4 : Int)).bind fun r8 =>
        (spec_l1Place.f (wrap64 ((1 : Int) + r7.1)) (wrap64 ((1 : Int) + r8.1))).bind fun r9 =>
        (spec_RegTrim.f k x1 x3 r9).bind fun r10 =>
        if r10.2 = true then spec_l7DrawRight.p7 k (wrap64 (x0 + (1 : Int))) x1 x2 r10.1 r8.2
        else spec_l7DrawRight.p7 k (wrap64 (x0 + (1 : Int))) x1 x2 x3 r8.2)
      else if r3.2.2 = true then spec_l7DrawRight.p7 k (wrap64 (x0 + (1 : Int))) x1 x2 r3.1 r4.2
      else spec_l7DrawRight.p7 k (wrap64 (x0 + (1 : Int))) x1 x2 x3 r4.2)
    else some (x3, r1.2)
noncomputable def spec_l7DrawRight.f (k : Nat) (a0 : l1Cur) (a1 : Config) : Option (Register × l1Cur) := spec_l7DrawRight.p7 k (0 : Int) a1 (([] : List Era), ((0 : Int), ())) (([] : List Era), ((0 : Int), ())) a0
/-! spec.l1DrawPlace -/
noncomputable def spec_l1DrawPlace.f (a0 : l1Cur) : Option (Int × l1Cur) := (spec_l1Below.f a0 (3 : Int)).bind fun r1 =>
  (spec_l1Below.f r1.2 (6 : Int)).bind fun r2 =>
  (spec_l1Place.f (wrap64 ((1 : Int) + r1.1)) (wrap64 ((1 : Int) + r2.1))).bind fun r3 =>
  (spec_l1Below.f r2.2 (15 : Int)).bind fun r4 =>
  if r4.1 = (0 : Int) then ((spec_l1PickInt.f r4.2 ([(0 : Int), (-1 : Int), (4294967296 : Int), (4294967297 : Int), (9223372036854775807 : Int), (-9223372036854775808 : Int)] : List Int)).bind fun r5 =>
    some (r5.1, r5.2))
  else if r4.1 = (1 : Int) then ((spec_l1PickInt.f r4.2 ([(0 : Int), (30 : Int), (31 : Int)] : List Int)).bind fun r6 =>
    (spec_l1PickInt.f r6.2 ([(0 : Int), (60 : Int), (61 : Int)] : List Int)).bind fun r7 =>
    (spec_l1Place.f r6.1 r7.1).bind fun r8 =>
    some (r8, r7.2))
  else some (r3, r4.2)
/-! spec.l7Draw -/
noncomputable def spec_l7Draw.p35 : Nat → (List Int) → Register → Register → l1Cur → Option (Register × l1Cur)
  | 0, _, _, _, _ => none
  | k + 1, x0, x1, x2, x3 => (spec_l1Below.f x3 (2 : Int)).bind fun r7 =>
    if ((x2.1.length : Nat) : Int) < (wrap64 ((30 : Int) + r7.1)) then (if (((x2.1.length : Nat) : Int) + ((([(x0, (false, ((0 : Int), ())))] : List Era).length : Nat) : Int)) ≤ lim then spec_l7Draw.p35 k x0 x1 ((x2.1 ++ ([(x0, (false, ((0 : Int), ())))] : List Era)), x2.2) r7.2
      else none)
    else some (x2, r7.2)
noncomputable def spec_l7Draw.f (k : Nat) (a0 : l1Cur) (a1 : Config) : Option (Register × l1Cur) := (spec_l7DrawRight.f k a0 a1).bind fun r1 =>
  (spec_l1Below.f r1.2 (25 : Int)).bind fun r2 =>
  if r2.1 = (0 : Int) then ((spec_l1DrawPlace.f r2.2).bind fun r3 =>
    some ((r1.1.1, (r3.1, r1.1.2.2)), r3.2))
  else if r2.1 = (1 : Int) then (if (0 : Int) < ((r1.1.1.length : Nat) : Int) then (if (0 : Int) ≤ (wrap64 (((r1.1.1.length : Nat) : Int) - (1 : Int))) ∧ (wrap64 (((r1.1.1.length : Nat) : Int) - (1 : Int))) < ((r1.1.1.length : Nat) : Int) then some (((r1.1.1.set (wrap64 (((r1.1.1.length : Nat) : Int) - (1 : Int))).toNat ((r1.1.1.getD (wrap64 (((r1.1.1.length : Nat) : Int) - (1 : Int))).toNat (([] : List Int), (false, ((0 : Int), ())))).1, (true, (r1.1.1.getD (wrap64 (((r1.1.1.length : Nat) : Int) - (1 : Int))).toNat (([] : List Int), (false, ((0 : Int), ())))).2.2))), r1.1.2), r2.2)
      else none)
    else some (r1.1, r2.2))
  else if r2.1 = (2 : Int) then (if (0 : Int) < ((r1.1.1.length : Nat) : Int) then ((spec_l1PickInt.f r2.2 ([(-1 : Int), (1 : Int), (60 : Int), (61 : Int)] : List Int)).bind fun r4 =>
      if (0 : Int) ≤ (0 : Int) ∧ (0 : Int) < ((r1.1.1.length : Nat) : Int) then some (((r1.1.1.set (0 : Int).toNat ((r1.1.1.getD (0 : Int).toNat (([] : List Int), (false, ((0 : Int), ())))).1, ((r1.1.1.getD (0 : Int).toNat (([] : List Int), (false, ((0 : Int), ())))).2.1, (r4.1, (r1.1.1.getD (0 : Int).toNat (([] : List Int), (false, ((0 : Int), ())))).2.2.2)))), r1.1.2), r4.2)
      else none)
    else some (r1.1, r2.2))
  else if r2.1 = (3 : Int) then (if (0 : Int) < ((r1.1.1.length : Nat) : Int) then ((spec_l4DrawNodes.f k r2.2 a1).bind fun r5 =>
      if (0 : Int) ≤ (0 : Int) ∧ (0 : Int) < ((r1.1.1.length : Nat) : Int) then some (((r1.1.1.set (0 : Int).toNat (r5.1, (r1.1.1.getD (0 : Int).toNat (([] : List Int), (false, ((0 : Int), ())))).2)), r1.1.2), r5.2)
      else none)
    else some (r1.1, r2.2))
  else if r2.1 = (4 : Int) then ((spec_l7DrawSet.f k r2.2 a1).bind fun r6 =>
    spec_l7Draw.p35 k r6.1 (([] : List Era), ((0 : Int), ())) r1.1 r6.2)
  else some (r1.1, r2.2)
/-! spec.DrawRegClose -/
noncomputable def spec_DrawRegClose.p14 : Nat → Int → Config → Register → Config → Register → l1Cur → Option (Config × Register × Int × Int)
  | 0, _, _, _, _, _, _ => none
  | k + 1, x0, x1, x2, x3, x4, x5 => (spec_l1PickInt.f x5 ([(0 : Int), (1 : Int), (5 : Int), (60 : Int), (61 : Int), (-1 : Int)] : List Int)).bind fun r6 =>
    some (x3, x4, x0, r6.1)
noncomputable def spec_DrawRegClose.f (k : Nat) (a0 : (List Int)) : Option (Config × Register × Int × Int) := (spec_l1New.f k a0).bind fun r1 =>
  (spec_l4Draw.f k r1).bind fun r2 =>
  (spec_l7Draw.f k r2.2 r2.1).bind fun r3 =>
  (spec_l1Once.f r3.2 (5 : Int)).bind fun r4 =>
  if r4.1 = true then ((spec_l1Below.f r4.2 (5 : Int)).bind fun r5 =>
    spec_DrawRegClose.p14 k r5.1 (([] : List Int), ((0 : Int), ())) (([] : List Era), ((0 : Int), ())) r2.1 r3.1 r5.2)
  else spec_DrawRegClose.p14 k ((r3.1.1.length : Nat) : Int) (([] : List Int), ((0 : Int), ())) (([] : List Era), ((0 : Int), ())) r2.1 r3.1 r4.2
/-! impl.within -/
noncomputable def impl_within.f (a0 : Int) (a1 : Int) (a2 : Int) : Option (Bool) := if a1 ≤ a0 then some (decide (a0 ≤ a2))
  else some false
/-! impl.ConfigOk -/
noncomputable def impl_ConfigOk.p5 : Nat → (List Int) → Int → Int → Config → Option (Bool)
  | 0, _, _, _, _ => none
  | k + 1, x0, x1, x2, x3 => if x2 < x1 then (if (0 : Int) ≤ x2 ∧ x2 < ((x0.length : Nat) : Int) then ((impl_within.f (x0.getD x2.toNat (0 : Int)) (0 : Int) (7 : Int)).bind fun r1 =>
        if r1 = true then impl_ConfigOk.p5 k x0 x1 (wrap64 (x2 + (1 : Int))) x3
        else some false)
      else none)
    else (impl_within.f ((x3.1.length : Nat) : Int) (1 : Int) (8 : Int)).bind fun r2 =>
    if r2 = true then ((impl_within.f x3.2.1 (1 : Int) (4 : Int)).bind fun r3 =>
      some r3)
    else some false
noncomputable def impl_ConfigOk.f (k : Nat) (a0 : Config) : Option (Bool) := impl_ConfigOk.p5 k a0.1 ((a0.1.length : Nat) : Int) (0 : Int) a0
/-! impl.ascends -/
noncomputable def impl_ascends.p5 : Nat → (List Int) → Int → (List Int) → Int → Int → Option (Bool)
  | 0, _, _, _, _, _ => none
  | k + 1, x0, x1, x2, x3, x4 => if x4 < x3 then (if (0 : Int) ≤ x4 ∧ x4 < ((x2.length : Nat) : Int) then ((impl_within.f (x2.getD x4.toNat (0 : Int)) (0 : Int) x1).bind fun r1 =>
        if r1 = true then (if (0 : Int) < x4 then (if (0 : Int) ≤ (wrap64 (x4 - (1 : Int))) ∧ (wrap64 (x4 - (1 : Int))) < ((x0.length : Nat) : Int) then (if (x2.getD x4.toNat (0 : Int)) ≤ (x0.getD (wrap64 (x4 - (1 : Int))).toNat (0 : Int)) then some false
              else impl_ascends.p5 k x0 x1 x2 x3 (wrap64 (x4 + (1 : Int))))
            else none)
          else impl_ascends.p5 k x0 x1 x2 x3 (wrap64 (x4 + (1 : Int))))
        else some false)
      else none)
    else some true
noncomputable def impl_ascends.f (k : Nat) (a0 : (List Int)) (a1 : Int) : Option (Bool) := impl_ascends.p5 k a0 a1 a0 ((a0.length : Nat) : Int) (0 : Int)
/-! impl.NodesOk -/
noncomputable def impl_NodesOk.f (k : Nat) (a0 : Config) (a1 : (List Int)) : Option (Bool) := (impl_ConfigOk.f k a0).bind fun r1 =>
  if r1 = true then ((impl_ascends.f k a1 (wrap64 (((a0.1.length : Nat) : Int) - (1 : Int)))).bind fun r2 =>
    some r2)
  else some false
/-! slices.Index[[]int,int] -/
noncomputable def slices_Index_int_int.p5 : Nat → (List Int) → Int → Int → Int → Option (Int)
  | 0, _, _, _, _ => none
  | k + 1, x0, x1, x2, x3 => if x3 < x2 then (if (0 : Int) ≤ x3 ∧ x3 < ((x0.length : Nat) : Int) then (if x1 = (x0.getD x3.toNat (0 : Int)) then some x3
        else slices_Index_int_int.p5 k x0 x1 x2 (wrap64 (x3 + (1 : Int))))
      else none)
    else some (-1 : Int)
noncomputable def slices_Index_int_int.f (k : Nat) (a0 : (List Int)) (a1 : Int) : Option (Int) := slices_Index_int_int.p5 k a0 a1 ((a0.length : Nat) : Int) (0 : Int)
/-! slices.Contains[[]int,int] -/
noncomputable def slices_Contains_int_int.f (k : Nat) (a0 : (List Int)) (a1 : Int) : Option (Bool) := (slices_Index_int_int.f k a0 a1).bind fun r1 =>
  some (decide ((0 : Int) ≤ r1))
/-! impl.SpanOf -/
noncomputable def impl_SpanOf.p11 : Nat → (List Int) → (List Int) → Int → Int → Config → Option (Int)
  | 0, _, _, _, _, _ => none
  | k + 1, x0, x1, x2, x3, x4 => if x3 < x2 then (if (0 : Int) ≤ x3 ∧ x3 < ((x1.length : Nat) : Int) then (if (0 : Int) ≤ (x1.getD x3.toNat (0 : Int)) ∧ (x1.getD x3.toNat (0 : Int)) < ((x4.1.length : Nat) : Int) then ((slices_Contains_int_int.f k x0 (x4.1.getD (x1.getD x3.toNat (0 : Int)).toNat (0 : Int))).bind fun r2 =>
          if r2 = true then impl_SpanOf.p11 k x0 x1 x2 (wrap64 (x3 + (1 : Int))) x4
          else if (0 : Int) ≤ (x1.getD x3.toNat (0 : Int)) ∧ (x1.getD x3.toNat (0 : Int)) < ((x4.1.length : Nat) : Int) then (if (((x0.length : Nat) : Int) + ((([(x4.1.getD (x1.getD x3.toNat (0 : Int)).toNat (0 : Int))] : List Int).length : Nat) : Int)) ≤ lim then impl_SpanOf.p11 k (x0 ++ ([(x4.1.getD (x1.getD x3.toNat (0 : Int)).toNat (0 : Int))] : List Int)) x1 x2 (wrap64 (x3 + (1 : Int))) x4
            else none)
          else none)
        else none)
      else none)
    else some ((x0.length : Nat) : Int)
noncomputable def impl_SpanOf.f (k : Nat) (a0 : Config) (a1 : (List Int)) : Option (Int) := (impl_NodesOk.f k a0 a1).bind fun r1 =>
  if r1 = true then impl_SpanOf.p11 k ([] : List Int) a1 ((a1.length : Nat) : Int) (0 : Int) a0
  else some (-1 : Int)
/-! impl.Holds -/
noncomputable def impl_Holds.f (k : Nat) (a0 : Config) (a1 : (List Int)) : Option (Bool) := (impl_NodesOk.f k a0 a1).bind fun r1 =>
  if r1 = true then ((impl_SpanOf.f k a0 a1).bind fun r2 =>
    some (decide (a0.2.1 ≤ r2)))
  else some false
/-! impl.eraOk -/
noncomputable def impl_eraOk.f (k : Nat) (a0 : Config) (a1 : Era) : Option (Bool) := (impl_Holds.f k a0 a1.1).bind fun r1 =>
  if r1 = true then ((impl_within.f a1.2.2.1 (0 : Int) (60 : Int)).bind fun r2 =>
    if r2 = true then (if a1.2.1 = true then some true
      else some (decide (a1.2.2.1 = (0 : Int))))
    else some false)
  else some false
/-! impl.isEpoch -/
noncomputable def impl_isEpoch.f (a0 : Int) : Option (Bool) := (impl_within.f a0 (1 : Int) (30 : Int)).bind fun r1 =>
  some r1
/-! impl.isOff -/
noncomputable def impl_isOff.f (a0 : Int) : Option (Bool) := (impl_within.f a0 (1 : Int) (60 : Int)).bind fun r1 =>
  some r1
/-! impl.PlaceOk -/
noncomputable def impl_PlaceOk.f (a0 : Int) : Option (Bool) := (impl_isEpoch.f (wrap64 ((Int.tdiv a0 (4294967296 : Int))))).bind fun r1 =>
  if r1 = true then ((impl_isOff.f (Int.tmod a0 (4294967296 : Int))).bind fun r2 =>
    some r2)
  else some false
/-! impl.EpochOf -/
noncomputable def impl_EpochOf.f (a0 : Int) : Option (Int) := (impl_PlaceOk.f a0).bind fun r1 =>
  if r1 = true then some (wrap64 ((Int.tdiv a0 (4294967296 : Int))))
  else some (0 : Int)
/-! impl.RegOk -/
mutual
noncomputable def impl_RegOk.p5 : Nat → (List Era) → Int → Int → Config → Register → Option (Bool)
  | 0, _, _, _, _, _ => none
  | k + 1, x0, x1, x2, x3, x4 => if x2 < x1 then (if (0 : Int) ≤ x2 ∧ x2 < ((x0.length : Nat) : Int) then ((impl_eraOk.f k x3 (x0.getD x2.toNat (([] : List Int), (false, ((0 : Int), ()))))).bind fun r1 =>
        if r1 = true then (if (x0.getD x2.toNat (([] : List Int), (false, ((0 : Int), ())))).2.1 = true then (if x2 = (wrap64 (((x4.1.length : Nat) : Int) - (1 : Int))) then some false
            else if (0 : Int) < x2 then (if (0 : Int) ≤ (wrap64 (x2 - (1 : Int))) ∧ (wrap64 (x2 - (1 : Int))) < ((x4.1.length : Nat) : Int) then (if (x4.1.getD (wrap64 (x2 - (1 : Int))).toNat (([] : List Int), (false, ((0 : Int), ())))).2.1 = true then impl_RegOk.p5 k x0 x1 (wrap64 (x2 + (1 : Int))) x3 x4
                else some false)
              else none)
            else impl_RegOk.p5 k x0 x1 (wrap64 (x2 + (1 : Int))) x3 x4)
          else impl_RegOk.p5 k x0 x1 (wrap64 (x2 + (1 : Int))) x3 x4)
        else some false)
      else none)
    else if x4.2.1 = (0 : Int) then impl_RegOk.p16 k true x3 x4
    else (impl_EpochOf.f x4.2.1).bind fun r2 =>
    (impl_within.f r2 (1 : Int) ((x4.1.length : Nat) : Int)).bind fun r3 =>
    impl_RegOk.p16 k r3 x3 x4
noncomputable def impl_RegOk.p16 : Nat → Bool → Config → Register → Option (Bool)
  | 0, _, _, _ => none
  | k + 1, x0, x1, x2 => (impl_ConfigOk.f k x1).bind fun r4 =>
    if r4 = true then (if ((x2.1.length : Nat) : Int) ≤ (30 : Int) then some x0
      else some false)
    else some false
end
noncomputable def impl_RegOk.f (k : Nat) (a0 : Config) (a1 : Register) : Option (Bool) := impl_RegOk.p5 k a1.1 ((a1.1.length : Nat) : Int) (0 : Int) a0 a1
/-! impl.FirstOpen -/
noncomputable def impl_FirstOpen.p5 : Nat → (List Era) → Int → Int → Option (Int)
  | 0, _, _, _ => none
  | k + 1, x0, x1, x2 => if x2 < x1 then (if (0 : Int) ≤ x2 ∧ x2 < ((x0.length : Nat) : Int) then (if (x0.getD x2.toNat (([] : List Int), (false, ((0 : Int), ())))).2.1 = true then impl_FirstOpen.p5 k x0 x1 (wrap64 (x2 + (1 : Int)))
        else some (wrap64 (x2 + (1 : Int))))
      else none)
    else some (0 : Int)
noncomputable def impl_FirstOpen.f (k : Nat) (a0 : Register) : Option (Int) := impl_FirstOpen.p5 k a0.1 ((a0.1.length : Nat) : Int) (0 : Int)
/-! impl.copyInts -/
noncomputable def impl_copyInts.f (a0 : (List Int)) : Option ((List Int)) := if (((([] : List Int).length : Nat) : Int) + ((a0.length : Nat) : Int)) ≤ lim then some (([] : List Int) ++ a0)
  else none
/-! impl.copyRegister -/
noncomputable def impl_copyRegister.p7 : Nat → (List Era) → Int → Int → Register → Register → Option (Register)
  | 0, _, _, _, _, _ => none
  | k + 1, x0, x1, x2, x3, x4 => if x2 < x1 then (if (0 : Int) ≤ x2 ∧ x2 < ((x0.length : Nat) : Int) then ((impl_copyInts.f (x0.getD x2.toNat (([] : List Int), (false, ((0 : Int), ())))).1).bind fun r1 =>
        if (((x4.1.length : Nat) : Int) + ((([(r1, (x0.getD x2.toNat (([] : List Int), (false, ((0 : Int), ())))).2)] : List Era).length : Nat) : Int)) ≤ lim then impl_copyRegister.p7 k x0 x1 (wrap64 (x2 + (1 : Int))) x3 ((x4.1 ++ ([(r1, (x0.getD x2.toNat (([] : List Int), (false, ((0 : Int), ())))).2)] : List Era)), x4.2)
        else none)
      else none)
    else some x4
noncomputable def impl_copyRegister.f (k : Nat) (a0 : Register) : Option (Register) := impl_copyRegister.p7 k a0.1 ((a0.1.length : Nat) : Int) (0 : Int) (([] : List Era), ((0 : Int), ())) (([] : List Era), (a0.2.1, ()))
/-! impl.regAsWas -/
noncomputable def impl_regAsWas.f (k : Nat) (a0 : Config) (a1 : Register) : Option (Register) := (impl_RegOk.f k a0 a1).bind fun r1 =>
  if r1 = true then ((impl_copyRegister.f k a1).bind fun r2 =>
    some r2)
  else some (([] : List Era), ((0 : Int), ()))
/-! impl.RegClose -/
noncomputable def impl_RegClose.f (k : Nat) (a0 : Config) (a1 : Register) (a2 : Int) (a3 : Int) : Option (Register × Bool) := (impl_FirstOpen.f k a1).bind fun r1 =>
  (impl_RegOk.f k a0 a1).bind fun r2 =>
  if r2 = true then (if a2 = ((a1.1.length : Nat) : Int) then (if r1 = a2 then ((impl_regAsWas.f k a0 a1).bind fun r3 =>
        some (r3, false))
      else (impl_within.f a3 (0 : Int) (60 : Int)).bind fun r4 =>
      if r4 = true then ((impl_copyRegister.f k a1).bind fun r5 =>
        if (0 : Int) ≤ (wrap64 (r1 - (1 : Int))) ∧ (wrap64 (r1 - (1 : Int))) < ((r5.1.length : Nat) : Int) then (if (0 : Int) ≤ (wrap64 (r1 - (1 : Int))) ∧ (wrap64 (r1 - (1 : Int))) < (((r5.1.set (wrap64 (r1 - (1 : Int))).toNat ((r5.1.getD (wrap64 (r1 - (1 : Int))).toNat (([] : List Int), (false, ((0 : Int), ())))).1, (true, (r5.1.getD (wrap64 (r1 - (1 : Int))).toNat (([] : List Int), (false, ((0 : Int), ())))).2.2))).length : Nat) : Int) then some ((((r5.1.set (wrap64 (r1 - (1 : Int))).toNat ((r5.1.getD (wrap64 (r1 - (1 : Int))).toNat (([] : List Int), (false, ((0 : Int), ())))).1, (true, (r5.1.getD (wrap64 (r1 - (1 : Int))).toNat (([] : List Int), (false, ((0 : Int), ())))).2.2))).set (wrap64 (r1 - (1 : Int))).toNat (((r5.1.set (wrap64 (r1 - (1 : Int))).toNat ((r5.1.getD (wrap64 (r1 - (1 : Int))).toNat (([] : List Int), (false, ((0 : Int), ())))).1, (true, (r5.1.getD (wrap64 (r1 - (1 : Int))).toNat (([] : List Int), (false, ((0 : Int), ())))).2.2))).getD (wrap64 (r1 - (1 : Int))).toNat (([] : List Int), (false, ((0 : Int), ())))).1, (((r5.1.set (wrap64 (r1 - (1 : Int))).toNat ((r5.1.getD (wrap64 (r1 - (1 : Int))).toNat (([] : List Int), (false, ((0 : Int), ())))).1, (true, (r5.1.getD (wrap64 (r1 - (1 : Int))).toNat (([] : List Int), (false, ((0 : Int), ())))).2.2))).getD (wrap64 (r1 - (1 : Int))).toNat (([] : List Int), (false, ((0 : Int), ())))).2.1, (a3, ((r5.1.set (wrap64 (r1 - (1 : Int))).toNat ((r5.1.getD (wrap64 (r1 - (1 : Int))).toNat (([] : List Int), (false, ((0 : Int), ())))).1, (true, (r5.1.getD (wrap64 (r1 - (1 : Int))).toNat (([] : List Int), (false, ((0 : Int), ())))).2.2))).getD (wrap64 (r1 - (1 : Int))).toNat (([] : List Int), (false, ((0 : Int), ())))).2.2.2)))), r5.2), true)
          else none)
        else none)
      else (impl_regAsWas.f k a0 a1).bind fun r6 =>
      some (r6, false))
    else (impl_regAsWas.f k a0 a1).bind fun r7 =>
    some (r7, false))
  else (impl_regAsWas.f k a0 a1).bind fun r8 =>
  some (r8, false)
/-! laws.FnClosed -/
noncomputable def laws_FnClosed.p31 : Nat → Int → Int → Int → Int → Config → Register → Register → Option (Bool)
  | 0, _, _, _, _, _, _, _ => none
  | k + 1, x0, x1, x2, x3, x4, x5, x6 => if x3 < ((x5.1.length : Nat) : Int) then (if x3 = (wrap64 (x2 - (1 : Int))) then laws_FnClosed.p31 k x0 x1 x2 (wrap64 (x3 + (1 : Int))) x4 x5 x6
      else if (0 : Int) ≤ x3 ∧ x3 < ((x6.1.length : Nat) : Int) then (if (0 : Int) ≤ x3 ∧ x3 < ((x5.1.length : Nat) : Int) then (if (x6.1.getD x3.toNat (([] : List Int), (false, ((0 : Int), ())))).2.1 = (x5.1.getD x3.toNat (([] : List Int), (false, ((0 : Int), ())))).2.1 then laws_FnClosed.p31 k x0 x1 x2 (wrap64 (x3 + (1 : Int))) x4 x5 x6
          else some false)
        else none)
      else none)
    else (impl_FirstOpen.f k x6).bind fun r9 =>
    if x0 = ((x5.1.length : Nat) : Int) then (if (0 : Int) ≤ (wrap64 (x2 - (1 : Int))) ∧ (wrap64 (x2 - (1 : Int))) < ((x6.1.length : Nat) : Int) then (if (x6.1.getD (wrap64 (x2 - (1 : Int))).toNat (([] : List Int), (false, ((0 : Int), ())))).2.1 = true then (if (0 : Int) ≤ (wrap64 (x2 - (1 : Int))) ∧ (wrap64 (x2 - (1 : Int))) < ((x6.1.length : Nat) : Int) then (if (x6.1.getD (wrap64 (x2 - (1 : Int))).toNat (([] : List Int), (false, ((0 : Int), ())))).2.2.1 = x1 then (if r9 = (wrap64 (x2 + (1 : Int))) then ((impl_RegOk.f k x4 x6).bind fun r10 =>
                some r10)
              else some false)
            else some false)
          else none)
        else some false)
      else none)
    else some false
noncomputable def laws_FnClosed.f (k : Nat) (a0 : (List Int)) : Option (Bool) := (laws_big.f a0).bind fun r1 =>
  if r1 = true then some true
  else (spec_DrawRegClose.f k a0).bind fun r2 =>
  (impl_RegOk.f k r2.1 r2.2.1).bind fun r3 =>
  (spec_RegOk.f k r2.1 r2.2.1).bind fun r4 =>
  if r3 = r4 then ((spec_DrawRegClose.f k a0).bind fun r5 =>
    (impl_RegClose.f k r5.1 r5.2.1 r5.2.2.1 r5.2.2.2).bind fun r6 =>
    (spec_RegClose.f k r5.1 r5.2.1 r5.2.2.1 r5.2.2.2).bind fun r7 =>
    if r6.2 = r7.2 then (if r6.2 = true then ((impl_FirstOpen.f k r5.2.1).bind fun r8 =>
        laws_FnClosed.p31 k r5.2.2.1 r5.2.2.2 r8 (0 : Int) r5.1 r5.2.1 r6.1)
      else if ((r6.1.1.length : Nat) : Int) = ((r5.2.1.1.length : Nat) : Int) then some true
      else some (decide (((r6.1.1.length : Nat) : Int) = (0 : Int))))
    else some false)
  else some false
end Go.Proofs.Ytllmifioelbleaa.OmFnClosed
