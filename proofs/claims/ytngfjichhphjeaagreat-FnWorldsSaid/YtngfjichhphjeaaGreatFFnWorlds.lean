/- The plain functions that the code of this law is. Conditions: none. -/
import Derived.Test.YtngfjichhphjeaaGreatOmD
set_option maxRecDepth 1000000
set_option linter.unusedVariables false
namespace Go.Proofs.YtngfjichhphjeaaGreat.OmFnWorlds
open Go Go.OM
@[reducible] noncomputable def tConfig : Ty := .pair (.sl (.int .i64)) (.pair (.int .i64) (.unit))
@[reducible] noncomputable def Config : Type := (List Int) × Int × Unit
@[reducible] noncomputable def tEra : Ty := .pair (.sl (.int .i64)) (.pair .bool (.pair (.int .i64) (.unit)))
@[reducible] noncomputable def Era : Type := (List Int) × Bool × Int × Unit
@[reducible] noncomputable def tRegister : Ty := .pair (.sl tEra) (.pair (.int .i64) (.unit))
@[reducible] noncomputable def Register : Type := (List Era) × Int × Unit
@[reducible] noncomputable def tEntry : Ty := .pair (.int .i64) (.pair (.int .i64) (.pair .bool (.pair .str (.unit))))
@[reducible] noncomputable def Entry : Type := Int × Int × Bool × ByteArray × Unit
@[reducible] noncomputable def tStore : Ty := .pair (.sl tEntry) (.pair (.sl tEntry) (.pair (.int .i64) (.unit)))
@[reducible] noncomputable def Store : Type := (List Entry) × (List Entry) × Int × Unit
@[reducible] noncomputable def tWord : Ty := .pair .str (.pair (.sl (.int .i64)) (.pair .bool (.unit)))
@[reducible] noncomputable def Word : Type := ByteArray × (List Int) × Bool × Unit
@[reducible] noncomputable def tWriter : Ty := .pair (.int .i64) (.pair (.sl tWord) (.unit))
@[reducible] noncomputable def Writer : Type := Int × (List Word) × Unit
@[reducible] noncomputable def tMend : Ty := .pair (.int .i64) (.pair (.int .i64) (.pair (.sl (.int .i64)) (.pair (.sl tEntry) (.pair .bool (.pair (.sl (.sl (.int .i64))) (.unit))))))
@[reducible] noncomputable def Mend : Type := Int × Int × (List Int) × (List Entry) × Bool × (List (List Int)) × Unit
@[reducible] noncomputable def tEvent : Ty := .pair (.int .i64) (.pair (.int .i64) (.pair .str (.unit)))
@[reducible] noncomputable def Event : Type := Int × Int × ByteArray × Unit
@[reducible] noncomputable def tReader : Ty := .pair (.int .i64) (.pair (.int .i64) (.pair (.sl tEvent) (.unit)))
@[reducible] noncomputable def Reader : Type := Int × Int × (List Event) × Unit
@[reducible] noncomputable def tSent : Ty := .pair (.int .i64) (.pair .str (.pair .bool (.unit)))
@[reducible] noncomputable def Sent : Type := Int × ByteArray × Bool × Unit
@[reducible] noncomputable def tWorld : Ty := .pair tConfig (.pair (.sl tStore) (.pair (.sl (.int .i64)) (.pair tRegister (.pair (.sl tWriter) (.pair (.sl tMend) (.pair (.sl tReader) (.pair (.sl tSent) (.pair .bool (.unit)))))))))
@[reducible] noncomputable def World : Type := Config × (List Store) × (List Int) × Register × (List Writer) × (List Mend) × (List Reader) × (List Sent) × Bool × Unit
@[reducible] noncomputable def tl1Cur : Ty := .pair (.sl (.int .u8)) (.pair (.int .i64) (.pair (.int .i64) (.unit)))
@[reducible] noncomputable def l1Cur : Type := (List Int) × Int × Int × Unit
@[reducible] noncomputable def tDeed : Ty := .pair (.int .i64) (.pair (.int .i64) (.pair (.int .i64) (.pair (.int .i64) (.pair .str (.unit)))))
@[reducible] noncomputable def Deed : Type := Int × Int × Int × Int × ByteArray × Unit
@[reducible] noncomputable def tAnswer : Ty := .pair (.int .i64) (.pair .bool (.pair tEntry (.unit)))
@[reducible] noncomputable def Answer : Type := Int × Bool × Entry × Unit
/-! laws.big -/
noncomputable def laws_big.f (a0 : (List Int)) : Option (Bool) := some (decide ((1048576 : Int) < ((a0.length : Nat) : Int)))
/-! spec.l1New -/
noncomputable def spec_l1New.p7 : Nat → (List Int) → Int → Int → Option (l1Cur)
  | 0, _, _, _ => none
  | k + 1, x0, x1, x2 => if x2 < ((x0.length : Nat) : Int) then (if x2 < (4000 : Int) then (if (0 : Int) ≤ x2 ∧ x2 < ((x0.length : Nat) : Int) then spec_l1New.p7 k x0 (andK .i64 (wrap64 ((wrap64 ((wrap64 (x1 * (131 : Int))) + (wrap64 ((x0.getD x2.toNat (0 : Int)))))) + (7 : Int))) (1073741823 : Int)) (wrap64 (x2 + (1 : Int)))
        else none)
      else some (x0, ((0 : Int), (x1, ()))))
    else some (x0, ((0 : Int), (x1, ())))
noncomputable def spec_l1New.f (k : Nat) (a0 : (List Int)) : Option (l1Cur) := spec_l1New.p7 k a0 (wrap64 ((17817 : Int) + ((a0.length : Nat) : Int))) (0 : Int)
/-! spec.l1Long -/
noncomputable def spec_l1Long.f (a0 : (List Int)) (a1 : Int) (a2 : Int) : Option (Int) := if a2 < (wrap64 (a1 + (wrap64 ((Int.tdiv ((a0.length : Nat) : Int) (4 : Int)))))) then some a2
  else some (wrap64 (a1 + (wrap64 ((Int.tdiv ((a0.length : Nat) : Int) (4 : Int))))))
/-! spec.l1Byte -/
noncomputable def spec_l1Byte.f (a0 : l1Cur) : Option (Int × l1Cur) := if a0.2.1 < ((a0.1.length : Nat) : Int) then (if (0 : Int) ≤ a0.2.1 ∧ a0.2.1 < ((a0.1.length : Nat) : Int) then some ((andK .i64 (wrap64 ((andK .i64 (xorK .i64 (shrK .i64 (wrap64 ((wrap64 (a0.2.2.1 * (6364136223846793005 : Int))) + (1442695040888963407 : Int))) (33 : Int)) (shrK .i64 (wrap64 ((wrap64 (a0.2.2.1 * (6364136223846793005 : Int))) + (1442695040888963407 : Int))) (45 : Int))) (255 : Int)) + (wrap64 ((a0.1.getD a0.2.1.toNat (0 : Int)))))) (255 : Int)), (a0.1, ((wrap64 (a0.2.1 + (1 : Int))), ((wrap64 ((wrap64 (a0.2.2.1 * (6364136223846793005 : Int))) + (1442695040888963407 : Int))), a0.2.2.2))))
    else none)
  else some ((andK .i64 (xorK .i64 (shrK .i64 (wrap64 ((wrap64 (a0.2.2.1 * (6364136223846793005 : Int))) + (1442695040888963407 : Int))) (33 : Int)) (shrK .i64 (wrap64 ((wrap64 (a0.2.2.1 * (6364136223846793005 : Int))) + (1442695040888963407 : Int))) (45 : Int))) (255 : Int)), (a0.1, (a0.2.1, ((wrap64 ((wrap64 (a0.2.2.1 * (6364136223846793005 : Int))) + (1442695040888963407 : Int))), a0.2.2.2))))
/-! spec.l1Below -/
noncomputable def spec_l1Below.f (a0 : l1Cur) (a1 : Int) : Option (Int × l1Cur) := if a1 ≤ (0 : Int) then some ((0 : Int), a0)
  else if a1 ≤ (256 : Int) then ((spec_l1Byte.f a0).bind fun r1 =>
    if a1 = (0 : Int) then none
    else some ((Int.tmod r1.1 a1), r1.2))
  else (spec_l1Byte.f a0).bind fun r2 =>
  (spec_l1Byte.f r2.2).bind fun r3 =>
  (spec_l1Byte.f r3.2).bind fun r4 =>
  (spec_l1Byte.f r4.2).bind fun r5 =>
  if a1 = (0 : Int) then none
  else some ((Int.tmod (wrap64 ((wrap64 ((wrap64 ((wrap64 (r2.1 * (16777216 : Int))) + (wrap64 (r3.1 * (65536 : Int))))) + (wrap64 (r4.1 * (256 : Int))))) + r5.1)) a1), r5.2)
/-! spec.l1Once -/
noncomputable def spec_l1Once.f (a0 : l1Cur) (a1 : Int) : Option (Bool × l1Cur) := (spec_l1Below.f a0 a1).bind fun r1 =>
  some ((decide (r1.1 = (0 : Int))), r1.2)
/-! spec.l4DrawRight -/
noncomputable def spec_l4DrawRight.p9 : Nat → Int → Int → Config → Config → l1Cur → Option (Config × l1Cur)
  | 0, _, _, _, _, _ => none
  | k + 1, x0, x1, x2, x3, x4 => if x1 < x0 then ((spec_l1Below.f x4 (5 : Int)).bind fun r3 =>
      if (((x3.1.length : Nat) : Int) + ((([r3.1] : List Int).length : Nat) : Int)) ≤ lim then spec_l4DrawRight.p9 k x0 (wrap64 (x1 + (1 : Int))) x2 ((x3.1 ++ ([r3.1] : List Int)), x3.2) r3.2
      else none)
    else (spec_l1Once.f x4 (2 : Int)).bind fun r4 =>
    if r4.1 = true then some ((x3.1, ((2 : Int), x3.2.2)), r4.2)
    else some (x3, r4.2)
noncomputable def spec_l4DrawRight.f (k : Nat) (a0 : l1Cur) : Option (Config × l1Cur) := (spec_l1Below.f a0 (3 : Int)).bind fun r1 =>
  (spec_l1Below.f r1.2 (5 : Int)).bind fun r2 =>
  spec_l4DrawRight.p9 k (wrap64 ((3 : Int) + r2.1)) (0 : Int) (([] : List Int), ((0 : Int), ())) (([] : List Int), ((wrap64 ((1 : Int) + r1.1)), ())) r2.2
/-! spec.l1In -/
noncomputable def spec_l1In.f (a0 : Int) (a1 : Int) (a2 : Int) : Option (Bool) := if a1 ≤ a0 then some (decide (a0 ≤ a2))
  else some false
/-! spec.ConfigOk -/
noncomputable def spec_ConfigOk.p9 : Nat → Int → Config → Option (Bool)
  | 0, _, _ => none
  | k + 1, x0, x1 => if x0 < ((x1.1.length : Nat) : Int) then (if (0 : Int) ≤ x0 ∧ x0 < ((x1.1.length : Nat) : Int) then ((spec_l1In.f (x1.1.getD x0.toNat (0 : Int)) (0 : Int) (7 : Int)).bind fun r3 =>
        if r3 = true then spec_ConfigOk.p9 k (wrap64 (x0 + (1 : Int))) x1
        else some false)
      else none)
    else some true
noncomputable def spec_ConfigOk.f (k : Nat) (a0 : Config) : Option (Bool) := (spec_l1In.f ((a0.1.length : Nat) : Int) (1 : Int) (8 : Int)).bind fun r1 =>
  if r1 = true then ((spec_l1In.f a0.2.1 (1 : Int) (4 : Int)).bind fun r2 =>
    if r2 = true then spec_ConfigOk.p9 k (0 : Int) a0
    else some false)
  else some false
/-! spec.l4Asc -/
noncomputable def spec_l4Asc.p5 : Nat → (List Int) → Int → Int → Int → Option (Bool)
  | 0, _, _, _, _ => none
  | k + 1, x0, x1, x2, x3 => if x3 < ((x0.length : Nat) : Int) then (if (0 : Int) ≤ x3 ∧ x3 < ((x0.length : Nat) : Int) then ((spec_l1In.f (x0.getD x3.toNat (0 : Int)) x1 x2).bind fun r1 =>
        if r1 = true then (if (0 : Int) < x3 then (if (0 : Int) ≤ (wrap64 (x3 - (1 : Int))) ∧ (wrap64 (x3 - (1 : Int))) < ((x0.length : Nat) : Int) then (if (0 : Int) ≤ x3 ∧ x3 < ((x0.length : Nat) : Int) then (if (x0.getD x3.toNat (0 : Int)) ≤ (x0.getD (wrap64 (x3 - (1 : Int))).toNat (0 : Int)) then some false
                else spec_l4Asc.p5 k x0 x1 x2 (wrap64 (x3 + (1 : Int))))
              else none)
            else none)
          else spec_l4Asc.p5 k x0 x1 x2 (wrap64 (x3 + (1 : Int))))
        else some false)
      else none)
    else some true
noncomputable def spec_l4Asc.f (k : Nat) (a0 : (List Int)) (a1 : Int) (a2 : Int) : Option (Bool) := spec_l4Asc.p5 k a0 a1 a2 (0 : Int)
/-! spec.NodesOk -/
noncomputable def spec_NodesOk.f (k : Nat) (a0 : Config) (a1 : (List Int)) : Option (Bool) := (spec_ConfigOk.f k a0).bind fun r1 =>
  if r1 = true then ((spec_l4Asc.f k a1 (0 : Int) (wrap64 (((a0.1.length : Nat) : Int) - (1 : Int)))).bind fun r2 =>
    some r2)
  else some false
/-! spec.l4Span -/
noncomputable def spec_l4Span.p9 : Nat → (List Int) → (List Bool) → Int → Int → Config → Option (Int)
  | 0, _, _, _, _, _ => none
  | k + 1, x0, x1, x2, x3, x4 => if x3 < ((x0.length : Nat) : Int) then (if (0 : Int) ≤ x3 ∧ x3 < ((x0.length : Nat) : Int) then (if (0 : Int) ≤ (x0.getD x3.toNat (0 : Int)) ∧ (x0.getD x3.toNat (0 : Int)) < ((x4.1.length : Nat) : Int) then (if (0 : Int) ≤ (x4.1.getD (x0.getD x3.toNat (0 : Int)).toNat (0 : Int)) ∧ (x4.1.getD (x0.getD x3.toNat (0 : Int)).toNat (0 : Int)) < ((x1.length : Nat) : Int) then (if (x1.getD (x4.1.getD (x0.getD x3.toNat (0 : Int)).toNat (0 : Int)).toNat false) = true then spec_l4Span.p9 k x0 x1 x2 (wrap64 (x3 + (1 : Int))) x4
            else if (0 : Int) ≤ (x4.1.getD (x0.getD x3.toNat (0 : Int)).toNat (0 : Int)) ∧ (x4.1.getD (x0.getD x3.toNat (0 : Int)).toNat (0 : Int)) < ((x1.length : Nat) : Int) then spec_l4Span.p9 k x0 (x1.set (x4.1.getD (x0.getD x3.toNat (0 : Int)).toNat (0 : Int)).toNat true) (wrap64 (x2 + (1 : Int))) (wrap64 (x3 + (1 : Int))) x4
            else none)
          else none)
        else none)
      else none)
    else some x2
noncomputable def spec_l4Span.f (k : Nat) (a0 : Config) (a1 : (List Int)) : Option (Int) := if (0 : Int) ≤ (8 : Int) ∧ (8 : Int) ≤ (8 : Int) ∧ (8 : Int) ≤ lim then spec_l4Span.p9 k a1 (List.replicate (8 : Int).toNat false) (0 : Int) (0 : Int) a0
  else none
/-! spec.Holds -/
noncomputable def spec_Holds.f (k : Nat) (a0 : Config) (a1 : (List Int)) : Option (Bool) := (spec_NodesOk.f k a0 a1).bind fun r1 =>
  if r1 = true then ((spec_l4Span.f k a0 a1).bind fun r2 =>
    some (decide (a0.2.1 ≤ r2)))
  else some false
/-! spec.ReaderNew -/
noncomputable def spec_ReaderNew.f : Option (Reader) := some ((1 : Int), ((1 : Int), (([] : List Event), ())))
/-! spec.WorldNew -/
noncomputable def spec_WorldNew.f (k : Nat) (a0 : Config) : Option (World × Bool) := (spec_ConfigOk.f k a0).bind fun r1 =>
  if r1 = true then (if (((([] : List Int).length : Nat) : Int) + ((a0.1.length : Nat) : Int)) ≤ lim then (if (0 : Int) ≤ ((a0.1.length : Nat) : Int) ∧ ((a0.1.length : Nat) : Int) ≤ ((a0.1.length : Nat) : Int) ∧ ((a0.1.length : Nat) : Int) ≤ lim then ((spec_ReaderNew.f).bind fun r2 =>
        (spec_ReaderNew.f).bind fun r3 =>
        some ((((([] : List Int) ++ a0.1), (a0.2.1, ())), ((List.replicate ((a0.1.length : Nat) : Int).toNat (([] : List Entry), (([] : List Entry), ((0 : Int), ())))), (([] : List Int), ((([] : List Era), ((0 : Int), ())), (([] : List Writer), (([] : List Mend), (([r2, r3] : List Reader), (([] : List Sent), (false, ()))))))))), true))
      else none)
    else none)
  else some (((([] : List Int), ((0 : Int), ())), (([] : List Store), (([] : List Int), ((([] : List Era), ((0 : Int), ())), (([] : List Writer), (([] : List Mend), (([] : List Reader), (([] : List Sent), (false, ()))))))))), false)
/-! spec.l1Max -/
noncomputable def spec_l1Max.f (a0 : Int) (a1 : Int) : Option (Int) := if a1 < a0 then some a0
  else some a1
/-! spec.l4Has -/
noncomputable def spec_l4Has.p5 : Nat → (List Int) → Int → Int → Option (Bool)
  | 0, _, _, _ => none
  | k + 1, x0, x1, x2 => if x2 < ((x0.length : Nat) : Int) then (if (0 : Int) ≤ x2 ∧ x2 < ((x0.length : Nat) : Int) then (if (x0.getD x2.toNat (0 : Int)) = x1 then some true
        else spec_l4Has.p5 k x0 x1 (wrap64 (x2 + (1 : Int))))
      else none)
    else some false
noncomputable def spec_l4Has.f (k : Nat) (a0 : (List Int)) (a1 : Int) : Option (Bool) := spec_l4Has.p5 k a0 a1 (0 : Int)
/-! spec.l4Put -/
noncomputable def spec_l4Put.p9 : Nat → (List Int) → Int → (List Int) → Bool → Int → Option ((List Int))
  | 0, _, _, _, _, _ => none
  | k + 1, x0, x1, x2, x3, x4 => if x4 < ((x0.length : Nat) : Int) then (if x3 = true then (if (0 : Int) ≤ x4 ∧ x4 < ((x0.length : Nat) : Int) then (if (((x2.length : Nat) : Int) + ((([(x0.getD x4.toNat (0 : Int))] : List Int).length : Nat) : Int)) ≤ lim then spec_l4Put.p9 k x0 x1 (x2 ++ ([(x0.getD x4.toNat (0 : Int))] : List Int)) x3 (wrap64 (x4 + (1 : Int)))
          else none)
        else none)
      else if (0 : Int) ≤ x4 ∧ x4 < ((x0.length : Nat) : Int) then (if x1 < (x0.getD x4.toNat (0 : Int)) then (if (((x2.length : Nat) : Int) + ((([x1] : List Int).length : Nat) : Int)) ≤ lim then (if (0 : Int) ≤ x4 ∧ x4 < ((x0.length : Nat) : Int) then (if ((((x2 ++ ([x1] : List Int)).length : Nat) : Int) + ((([(x0.getD x4.toNat (0 : Int))] : List Int).length : Nat) : Int)) ≤ lim then spec_l4Put.p9 k x0 x1 ((x2 ++ ([x1] : List Int)) ++ ([(x0.getD x4.toNat (0 : Int))] : List Int)) true (wrap64 (x4 + (1 : Int)))
              else none)
            else none)
          else none)
        else if (0 : Int) ≤ x4 ∧ x4 < ((x0.length : Nat) : Int) then (if (((x2.length : Nat) : Int) + ((([(x0.getD x4.toNat (0 : Int))] : List Int).length : Nat) : Int)) ≤ lim then spec_l4Put.p9 k x0 x1 (x2 ++ ([(x0.getD x4.toNat (0 : Int))] : List Int)) x3 (wrap64 (x4 + (1 : Int)))
          else none)
        else none)
      else none)
    else if x3 = true then some x2
    else if (((x2.length : Nat) : Int) + ((([x1] : List Int).length : Nat) : Int)) ≤ lim then some (x2 ++ ([x1] : List Int))
    else none
noncomputable def spec_l4Put.f (k : Nat) (a0 : (List Int)) (a1 : Int) : Option ((List Int)) := (spec_l4Has.f k a0 a1).bind fun r1 =>
  spec_l4Put.p9 k a0 a1 ([] : List Int) r1 (0 : Int)
/-! spec.l1PickInt -/
noncomputable def spec_l1PickInt.f (a0 : l1Cur) (a1 : (List Int)) : Option (Int × l1Cur) := (spec_l1Below.f a0 ((a1.length : Nat) : Int)).bind fun r1 =>
  if (0 : Int) ≤ r1.1 ∧ r1.1 < ((a1.length : Nat) : Int) then some ((a1.getD r1.1.toNat (0 : Int)), r1.2)
  else none
/-! spec.l4DrawNodes -/
noncomputable def spec_l4DrawNodes.p9 : Nat → (List Int) → Int → Int → Config → l1Cur → Option ((List Int) × l1Cur)
  | 0, _, _, _, _, _ => none
  | k + 1, x0, x1, x2, x3, x4 => if x2 < x1 then ((spec_l1Max.f ((x3.1.length : Nat) : Int) (1 : Int)).bind fun r2 =>
      (spec_l1Below.f x4 r2).bind fun r3 =>
      (spec_l4Put.f k x0 r3.1).bind fun r4 =>
      spec_l4DrawNodes.p9 k r4 x1 (wrap64 (x2 + (1 : Int))) x3 r3.2)
    else (spec_l1Once.f x4 (20 : Int)).bind fun r5 =>
    if r5.1 = true then ((spec_l1PickInt.f r5.2 ([(-1 : Int), (0 : Int), ((x3.1.length : Nat) : Int)] : List Int)).bind fun r6 =>
      if (((x0.length : Nat) : Int) + ((([r6.1] : List Int).length : Nat) : Int)) ≤ lim then some ((x0 ++ ([r6.1] : List Int)), r6.2)
      else none)
    else some (x0, r5.2)
noncomputable def spec_l4DrawNodes.f (k : Nat) (a0 : l1Cur) (a1 : Config) : Option ((List Int) × l1Cur) := (spec_l1Below.f a0 (wrap64 (((a1.1.length : Nat) : Int) + (2 : Int)))).bind fun r1 =>
  spec_l4DrawNodes.p9 k ([] : List Int) r1.1 (0 : Int) a1 r1.2
/-! spec.l7DrawSet -/
noncomputable def spec_l7DrawSet.p7 : Nat → (List Int) → Int → Config → l1Cur → Option ((List Int) × l1Cur)
  | 0, _, _, _, _ => none
  | k + 1, x0, x1, x2, x3 => if x1 < ((x2.1.length : Nat) : Int) then ((spec_Holds.f k x2 x0).bind fun r2 =>
      if r2 = true then some (x0, x3)
      else (spec_l4Put.f k x0 x1).bind fun r3 =>
      spec_l7DrawSet.p7 k r3 (wrap64 (x1 + (1 : Int))) x2 x3)
    else some (x0, x3)
noncomputable def spec_l7DrawSet.f (k : Nat) (a0 : l1Cur) (a1 : Config) : Option ((List Int) × l1Cur) := (spec_l4DrawNodes.f k a0 a1).bind fun r1 =>
  spec_l7DrawSet.p7 k r1.1 (0 : Int) a1 r1.2
/-! spec.NodesMask -/
noncomputable def spec_NodesMask.p11 : Nat → (List Int) → Int → Int → Option (Int)
  | 0, _, _, _ => none
  | k + 1, x0, x1, x2 => if x2 < ((x0.length : Nat) : Int) then (if (0 : Int) ≤ x2 ∧ x2 < ((x0.length : Nat) : Int) then (if (0 : Int) ≤ (x0.getD x2.toNat (0 : Int)) then spec_NodesMask.p11 k x0 (orK .i64 x1 (shlK .i64 (1 : Int) (x0.getD x2.toNat (0 : Int)))) (wrap64 (x2 + (1 : Int)))
        else none)
      else none)
    else some x1
noncomputable def spec_NodesMask.f (k : Nat) (a0 : (List Int)) : Option (Int) := (spec_l4Asc.f k a0 (0 : Int) (7 : Int)).bind fun r1 =>
  if r1 = true then spec_NodesMask.p11 k a0 (0 : Int) (0 : Int)
  else some (-1 : Int)
/-! spec.FirstOpen -/
noncomputable def spec_FirstOpen.p5 : Nat → Int → Register → Option (Int)
  | 0, _, _ => none
  | k + 1, x0, x1 => if x0 < ((x1.1.length : Nat) : Int) then (if (0 : Int) ≤ x0 ∧ x0 < ((x1.1.length : Nat) : Int) then (if (x1.1.getD x0.toNat (([] : List Int), (false, ((0 : Int), ())))).2.1 = true then spec_FirstOpen.p5 k (wrap64 (x0 + (1 : Int))) x1
        else some (wrap64 (x0 + (1 : Int))))
      else none)
    else some (0 : Int)
noncomputable def spec_FirstOpen.f (k : Nat) (a0 : Register) : Option (Int) := spec_FirstOpen.p5 k (0 : Int) a0
/-! spec.EraNodes -/
noncomputable def spec_EraNodes.f (a0 : Register) (a1 : Int) : Option ((List Int)) := (spec_l1In.f a1 (1 : Int) ((a0.1.length : Nat) : Int)).bind fun r1 =>
  if r1 = true then (if (0 : Int) ≤ (wrap64 (a1 - (1 : Int))) ∧ (wrap64 (a1 - (1 : Int))) < ((a0.1.length : Nat) : Int) then (if (((([] : List Int).length : Nat) : Int) + (((a0.1.getD (wrap64 (a1 - (1 : Int))).toNat (([] : List Int), (false, ((0 : Int), ())))).1.length : Nat) : Int)) ≤ lim then some (([] : List Int) ++ (a0.1.getD (wrap64 (a1 - (1 : Int))).toNat (([] : List Int), (false, ((0 : Int), ())))).1)
      else none)
    else none)
  else some ([] : List Int)
/-! spec.l1Pick -/
noncomputable def spec_l1Pick.f (a0 : l1Cur) (a1 : (List ByteArray)) : Option (ByteArray × l1Cur) := (spec_l1Below.f a0 ((a1.length : Nat) : Int)).bind fun r1 =>
  if (0 : Int) ≤ r1.1 ∧ r1.1 < ((a1.length : Nat) : Int) then some ((a1.getD r1.1.toNat (⟨#[]⟩ : ByteArray)), r1.2)
  else none
/-! spec.l1Min -/
noncomputable def spec_l1Min.f (a0 : Int) (a1 : Int) : Option (Int) := if a0 < a1 then some a0
  else some a1
/-! spec.l13DrawWrite -/
noncomputable def spec_l13DrawWrite.p8 : Nat → Int → World → Deed → l1Cur → Option (Deed × l1Cur × World)
  | 0, _, _, _, _ => none
  | k + 1, x0, x1, x2, x3 => if (0 : Int) ≤ x0 ∧ x0 < ((x1.2.2.2.2.1.length : Nat) : Int) then ((spec_EraNodes.f x1.2.2.2.1 (x1.2.2.2.2.1.getD x0.toNat ((0 : Int), (([] : List Word), ()))).1).bind fun r3 =>
      (spec_l1Below.f x3 ((r3.length : Nat) : Int)).bind fun r4 =>
      if (0 : Int) ≤ r4.1 ∧ r4.1 < ((r3.length : Nat) : Int) then (if (((x1.2.2.2.2.1.getD x0.toNat ((0 : Int), (([] : List Word), ()))).2.1.length : Nat) : Int) = (0 : Int) then ((spec_l1Pick.f r4.2 ([(⟨#[]⟩ : ByteArray), (⟨#[97]⟩ : ByteArray), (⟨#[98, 99]⟩ : ByteArray), (⟨#[100]⟩ : ByteArray)] : List ByteArray)).bind fun r5 =>
          some (((2 : Int), (x0, ((0 : Int), ((0 : Int), (r5.1, ()))))), r5.2, x1))
        else (spec_l1Once.f r4.2 (7 : Int)).bind fun r6 =>
        if r6.1 = true then ((spec_l1Pick.f r6.2 ([(⟨#[]⟩ : ByteArray), (⟨#[97]⟩ : ByteArray), (⟨#[98, 99]⟩ : ByteArray), (⟨#[100]⟩ : ByteArray)] : List ByteArray)).bind fun r7 =>
          some (((2 : Int), (x0, ((0 : Int), ((0 : Int), (r7.1, ()))))), r7.2, x1))
        else (spec_l1Once.f r6.2 (3 : Int)).bind fun r8 =>
        if r8.1 = true then some (((4 : Int), ((r3.getD r4.1.toNat (0 : Int)), ((0 : Int), ((0 : Int), ((⟨#[]⟩ : ByteArray), ()))))), r8.2, x1)
        else (spec_l1Min.f (((x1.2.2.2.2.1.getD x0.toNat ((0 : Int), (([] : List Word), ()))).2.1.length : Nat) : Int) (3 : Int)).bind fun r9 =>
        (spec_l1Below.f r8.2 r9).bind fun r10 =>
        some (((3 : Int), (x0, ((wrap64 ((((x1.2.2.2.2.1.getD x0.toNat ((0 : Int), (([] : List Word), ()))).2.1.length : Nat) : Int) - r10.1)), ((r3.getD r4.1.toNat (0 : Int)), ((⟨#[]⟩ : ByteArray), ()))))), r10.2, x1))
      else none)
    else none
noncomputable def spec_l13DrawWrite.f (k : Nat) (a0 : l1Cur) (a1 : World) : Option (Deed × l1Cur × World) := (spec_l1Below.f a0 ((a1.2.2.2.2.1.length : Nat) : Int)).bind fun r1 =>
  (spec_l1Once.f r1.2 (3 : Int)).bind fun r2 =>
  if r2.1 = true then spec_l13DrawWrite.p8 k r1.1 a1 ((0 : Int), ((0 : Int), ((0 : Int), ((0 : Int), ((⟨#[]⟩ : ByteArray), ()))))) r2.2
  else spec_l13DrawWrite.p8 k (wrap64 (((a1.2.2.2.2.1.length : Nat) : Int) - (1 : Int))) a1 ((0 : Int), ((0 : Int), ((0 : Int), ((0 : Int), ((⟨#[]⟩ : ByteArray), ()))))) r2.2
/-! spec.l13DrawMend -/
mutual
noncomputable def spec_l13DrawMend.p28 : Nat → Int → World → Deed → Mend → l1Cur → Option (Deed × l1Cur × World)
  | 0, _, _, _, _, _ => none
  | k + 1, x0, x1, x2, x3, x4 => (spec_l1Max.f ((x3.2.2.2.2.2.1.length : Nat) : Int) (1 : Int)).bind fun r8 =>
    (spec_l1Below.f x4 r8).bind fun r9 =>
    spec_l13DrawMend.p33 k x0 (wrap64 ((1 : Int) + r9.1)) (0 : Int) x1 x2 x3 r9.2
noncomputable def spec_l13DrawMend.p33 : Nat → Int → Int → Int → World → Deed → Mend → l1Cur → Option (Deed × l1Cur × World)
  | 0, _, _, _, _, _, _, _ => none
  | k + 1, x0, x1, x2, x3, x4, x5, x6 => if x2 < ((x5.2.2.2.2.2.1.length : Nat) : Int) then (if (0 : Int) ≤ x2 ∧ x2 < ((x5.2.2.2.2.2.1.length : Nat) : Int) then ((spec_Holds.f k x3.1 (x5.2.2.2.2.2.1.getD x2.toNat ([] : List Int))).bind fun r10 =>
        if r10 = true then spec_l13DrawMend.p33 k x0 x1 (wrap64 (x2 + (1 : Int))) x3 x4 x5 x6
        else (spec_l1Once.f x6 (3 : Int)).bind fun r11 =>
        if r11.1 = true then spec_l13DrawMend.p33 k x0 x1 (wrap64 (x2 + (1 : Int))) x3 x4 x5 r11.2
        else spec_l13DrawMend.p33 k x0 (wrap64 (x2 + (1 : Int))) (wrap64 (x2 + (1 : Int))) x3 x4 x5 r11.2)
      else none)
    else some (((11 : Int), ((0 : Int), (x1, (x0, ((⟨#[]⟩ : ByteArray), ()))))), x6, x3)
end
noncomputable def spec_l13DrawMend.f (k : Nat) (a0 : l1Cur) (a1 : World) : Option (Deed × l1Cur × World) := if ((a1.2.2.2.2.2.1.length : Nat) : Int) = (0 : Int) then some (((8 : Int), ((0 : Int), ((0 : Int), ((0 : Int), ((⟨#[]⟩ : ByteArray), ()))))), a0, a1)
  else if (0 : Int) ≤ (0 : Int) ∧ (0 : Int) < ((a1.2.2.2.2.2.1.length : Nat) : Int) then ((spec_EraNodes.f a1.2.2.2.1 (a1.2.2.2.2.2.1.getD (0 : Int).toNat ((0 : Int), ((0 : Int), (([] : List Int), (([] : List Entry), (false, (([] : List (List Int)), ()))))))).2.1).bind fun r1 =>
    (spec_l1Below.f a0 ((r1.length : Nat) : Int)).bind fun r2 =>
    if (0 : Int) ≤ r2.1 ∧ r2.1 < ((r1.length : Nat) : Int) then (if (a1.2.2.2.2.2.1.getD (0 : Int).toNat ((0 : Int), ((0 : Int), (([] : List Int), (([] : List Entry), (false, (([] : List (List Int)), ()))))))).2.2.2.2.1 = true then (if (a1.2.2.2.2.2.1.getD (0 : Int).toNat ((0 : Int), ((0 : Int), (([] : List Int), (([] : List Entry), (false, (([] : List (List Int)), ()))))))).2.2.2.2.1 = true then ((spec_l1Once.f r2.2 (6 : Int)).bind fun r3 =>
          if r3.1 = true then some (((12 : Int), ((0 : Int), ((0 : Int), ((0 : Int), ((⟨#[]⟩ : ByteArray), ()))))), r3.2, a1)
          else (spec_l1Once.f r3.2 (3 : Int)).bind fun r4 =>
          if r4.1 = true then some (((4 : Int), ((r1.getD r2.1.toNat (0 : Int)), ((0 : Int), ((0 : Int), ((⟨#[]⟩ : ByteArray), ()))))), r4.2, a1)
          else spec_l13DrawMend.p28 k (r1.getD r2.1.toNat (0 : Int)) a1 ((0 : Int), ((0 : Int), ((0 : Int), ((0 : Int), ((⟨#[]⟩ : ByteArray), ()))))) (a1.2.2.2.2.2.1.getD (0 : Int).toNat ((0 : Int), ((0 : Int), (([] : List Int), (([] : List Entry), (false, (([] : List (List Int)), ()))))))) r4.2)
        else some (((9 : Int), ((r1.getD r2.1.toNat (0 : Int)), ((0 : Int), ((0 : Int), ((⟨#[]⟩ : ByteArray), ()))))), r2.2, a1))
      else (spec_l1Once.f r2.2 (4 : Int)).bind fun r5 =>
      if r5.1 = true then some (((10 : Int), ((0 : Int), ((0 : Int), ((0 : Int), ((⟨#[]⟩ : ByteArray), ()))))), r5.2, a1)
      else if (a1.2.2.2.2.2.1.getD (0 : Int).toNat ((0 : Int), ((0 : Int), (([] : List Int), (([] : List Entry), (false, (([] : List (List Int)), ()))))))).2.2.2.2.1 = true then ((spec_l1Once.f r5.2 (6 : Int)).bind fun r6 =>
        if r6.1 = true then some (((12 : Int), ((0 : Int), ((0 : Int), ((0 : Int), ((⟨#[]⟩ : ByteArray), ()))))), r6.2, a1)
        else (spec_l1Once.f r6.2 (3 : Int)).bind fun r7 =>
        if r7.1 = true then some (((4 : Int), ((r1.getD r2.1.toNat (0 : Int)), ((0 : Int), ((0 : Int), ((⟨#[]⟩ : ByteArray), ()))))), r7.2, a1)
        else spec_l13DrawMend.p28 k (r1.getD r2.1.toNat (0 : Int)) a1 ((0 : Int), ((0 : Int), ((0 : Int), ((0 : Int), ((⟨#[]⟩ : ByteArray), ()))))) (a1.2.2.2.2.2.1.getD (0 : Int).toNat ((0 : Int), ((0 : Int), (([] : List Int), (([] : List Entry), (false, (([] : List (List Int)), ()))))))) r7.2)
      else some (((9 : Int), ((r1.getD r2.1.toNat (0 : Int)), ((0 : Int), ((0 : Int), ((⟨#[]⟩ : ByteArray), ()))))), r5.2, a1))
    else none)
  else none
/-! spec.l13DrawNext -/
mutual
noncomputable def spec_l13DrawNext.p48 : Nat → Int → World → Deed → l1Cur → Option (Deed × l1Cur × World)
  | 0, _, _, _, _ => none
  | k + 1, x0, x1, x2, x3 => (spec_l1Once.f x3 (2 : Int)).bind fun r13 =>
    if r13.1 = true then ((spec_l1Below.f r13.2 (256 : Int)).bind fun r14 =>
      (spec_l1Below.f r14.2 (2 : Int)).bind fun r15 =>
      some (((14 : Int), (r15.1, (r14.1, ((0 : Int), ((⟨#[]⟩ : ByteArray), ()))))), r15.2, x1))
    else (spec_l1Below.f r13.2 (2 : Int)).bind fun r16 =>
    some (((14 : Int), (r16.1, (x0, ((0 : Int), ((⟨#[]⟩ : ByteArray), ()))))), r16.2, x1)
noncomputable def spec_l13DrawNext.p54 : Nat → World → Deed → l1Cur → Option (Deed × l1Cur × World)
  | 0, _, _, _ => none
  | k + 1, x0, x1, x2 => if (1 : Int) < ((x0.2.2.2.1.1.length : Nat) : Int) then ((spec_FirstOpen.f k x0.2.2.2.1).bind fun r17 =>
      if r17 < ((x0.2.2.2.1.1.length : Nat) : Int) then ((spec_l1Once.f x2 (3 : Int)).bind fun r18 =>
        if r18.1 = true then ((spec_l13DrawWrite.f k r18.2 x0).bind fun r19 =>
          some (r19.1, r19.2.1, r19.2.2))
        else (spec_l13DrawMend.f k r18.2 x0).bind fun r20 =>
        some (r20.1, r20.2.1, r20.2.2))
      else (spec_l13DrawWrite.f k x2 x0).bind fun r21 =>
      some (r21.1, r21.2.1, r21.2.2))
    else (spec_l13DrawWrite.f k x2 x0).bind fun r22 =>
    some (r22.1, r22.2.1, r22.2.2)
end
noncomputable def spec_l13DrawNext.f (k : Nat) (a0 : l1Cur) (a1 : World) : Option (Deed × l1Cur × World) := if ((a1.2.2.2.2.1.length : Nat) : Int) = (0 : Int) then ((spec_l7DrawSet.f k a0 a1.1).bind fun r1 =>
    (spec_NodesMask.f k r1.1).bind fun r2 =>
    some (((1 : Int), (r2, ((0 : Int), ((0 : Int), ((⟨#[]⟩ : ByteArray), ()))))), r1.2, a1))
  else (spec_l1Once.f a0 (30 : Int)).bind fun r3 =>
  if r3.1 = true then ((spec_l7DrawSet.f k r3.2 a1.1).bind fun r4 =>
    (spec_NodesMask.f k r4.1).bind fun r5 =>
    some (((1 : Int), (r5, ((0 : Int), ((0 : Int), ((⟨#[]⟩ : ByteArray), ()))))), r4.2, a1))
  else (spec_l1Below.f r3.2 ((a1.2.1.length : Nat) : Int)).bind fun r6 =>
  (spec_l1Below.f r6.2 (44 : Int)).bind fun r7 =>
  if r7.1 = (0 : Int) then ((spec_l1Below.f r7.2 (16 : Int)).bind fun r8 =>
    some (((5 : Int), (r6.1, (r8.1, ((0 : Int), ((⟨#[]⟩ : ByteArray), ()))))), r8.2, a1))
  else if r7.1 = (1 : Int) then (if ((a1.2.2.1.length : Nat) : Int) = (0 : Int) then some (((6 : Int), (r6.1, ((0 : Int), ((0 : Int), ((⟨#[]⟩ : ByteArray), ()))))), r7.2, a1)
    else (spec_l1Once.f r7.2 (12 : Int)).bind fun r9 =>
    if r9.1 = true then some (((6 : Int), (r6.1, ((0 : Int), ((0 : Int), ((⟨#[]⟩ : ByteArray), ()))))), r9.2, a1)
    else if (0 : Int) ≤ (0 : Int) ∧ (0 : Int) < ((a1.2.2.1.length : Nat) : Int) then some (((7 : Int), ((a1.2.2.1.getD (0 : Int).toNat (0 : Int)), ((0 : Int), ((0 : Int), ((⟨#[]⟩ : ByteArray), ()))))), r9.2, a1)
    else none)
  else if r7.1 = (2 : Int) then ((spec_l1Below.f r7.2 ((a1.2.2.2.2.1.length : Nat) : Int)).bind fun r10 =>
    some (((15 : Int), (r10.1, ((0 : Int), ((0 : Int), ((⟨#[]⟩ : ByteArray), ()))))), r10.2, a1))
  else if r7.1 = (3 : Int) then ((spec_l1Once.f r7.2 (3 : Int)).bind fun r11 =>
    if r11.1 = true then (if (0 : Int) < ((a1.2.2.2.2.2.2.2.1.length : Nat) : Int) then ((spec_l1Below.f r11.2 ((a1.2.2.2.2.2.2.2.1.length : Nat) : Int)).bind fun r12 =>
        if (0 : Int) ≤ r12.1 ∧ r12.1 < ((a1.2.2.2.2.2.2.2.1.length : Nat) : Int) then some (((13 : Int), ((a1.2.2.2.2.2.2.2.1.getD r12.1.toNat ((0 : Int), ((⟨#[]⟩ : ByteArray), (false, ())))).1, ((0 : Int), ((0 : Int), ((⟨#[]⟩ : ByteArray), ()))))), r12.2, a1)
        else none)
      else some (((16 : Int), (r6.1, ((0 : Int), ((0 : Int), ((⟨#[]⟩ : ByteArray), ()))))), r11.2, a1))
    else some (((16 : Int), (r6.1, ((0 : Int), ((0 : Int), ((⟨#[]⟩ : ByteArray), ()))))), r11.2, a1))
  else if r7.1 = (4 : Int) then (if r7.1 = (4 : Int) then spec_l13DrawNext.p48 k (255 : Int) a1 ((0 : Int), ((0 : Int), ((0 : Int), ((0 : Int), ((⟨#[]⟩ : ByteArray), ()))))) r7.2
    else spec_l13DrawNext.p54 k a1 ((0 : Int), ((0 : Int), ((0 : Int), ((0 : Int), ((⟨#[]⟩ : ByteArray), ()))))) r7.2)
  else if r7.1 = (5 : Int) then (if r7.1 = (5 : Int) then spec_l13DrawNext.p48 k (255 : Int) a1 ((0 : Int), ((0 : Int), ((0 : Int), ((0 : Int), ((⟨#[]⟩ : ByteArray), ()))))) r7.2
    else spec_l13DrawNext.p54 k a1 ((0 : Int), ((0 : Int), ((0 : Int), ((0 : Int), ((⟨#[]⟩ : ByteArray), ()))))) r7.2)
  else if r7.1 = (6 : Int) then (if r7.1 = (6 : Int) then spec_l13DrawNext.p48 k (255 : Int) a1 ((0 : Int), ((0 : Int), ((0 : Int), ((0 : Int), ((⟨#[]⟩ : ByteArray), ()))))) r7.2
    else spec_l13DrawNext.p54 k a1 ((0 : Int), ((0 : Int), ((0 : Int), ((0 : Int), ((⟨#[]⟩ : ByteArray), ()))))) r7.2)
  else if r7.1 = (7 : Int) then (if r7.1 = (7 : Int) then spec_l13DrawNext.p48 k (255 : Int) a1 ((0 : Int), ((0 : Int), ((0 : Int), ((0 : Int), ((⟨#[]⟩ : ByteArray), ()))))) r7.2
    else spec_l13DrawNext.p54 k a1 ((0 : Int), ((0 : Int), ((0 : Int), ((0 : Int), ((⟨#[]⟩ : ByteArray), ()))))) r7.2)
  else if r7.1 = (8 : Int) then spec_l13DrawNext.p48 k (255 : Int) a1 ((0 : Int), ((0 : Int), ((0 : Int), ((0 : Int), ((⟨#[]⟩ : ByteArray), ()))))) r7.2
  else spec_l13DrawNext.p54 k a1 ((0 : Int), ((0 : Int), ((0 : Int), ((0 : Int), ((⟨#[]⟩ : ByteArray), ()))))) r7.2
/-! spec.PlaceOk -/
noncomputable def spec_PlaceOk.f (a0 : Int) : Option (Bool) := if (0 : Int) < a0 then ((spec_l1In.f (wrap64 ((Int.tdiv a0 (4294967296 : Int)))) (1 : Int) (30 : Int)).bind fun r1 =>
    if r1 = true then ((spec_l1In.f (Int.tmod a0 (4294967296 : Int)) (1 : Int) (60 : Int)).bind fun r2 =>
      some r2)
    else some false)
  else some false
/-! spec.EpochOf -/
noncomputable def spec_EpochOf.f (a0 : Int) : Option (Int) := (spec_PlaceOk.f a0).bind fun r1 =>
  if r1 = true then some (wrap64 ((Int.tdiv a0 (4294967296 : Int))))
  else some (0 : Int)
/-! spec.EntryOk -/
noncomputable def spec_EntryOk.p6 : Nat → Entry → Option (Bool)
  | 0, _ => none
  | k + 1, x0 => if x0.2.2.1 = true then (if (0 : Int) < x0.2.1 then some (decide (x0.2.2.2.1 = (⟨#[]⟩ : ByteArray)))
      else some false)
    else some true
noncomputable def spec_EntryOk.f (k : Nat) (a0 : Entry) : Option (Bool) := (spec_PlaceOk.f a0.1).bind fun r1 =>
  if r1 = true then ((spec_l1In.f a0.2.1 (0 : Int) (30 : Int)).bind fun r2 =>
    if r2 = true then (if (0 : Int) < a0.2.1 then ((spec_EpochOf.f a0.1).bind fun r3 =>
        if a0.2.1 ≤ r3 then some false
        else if (40 : Int) < ((a0.2.2.2.1.size : Nat) : Int) then some false
        else spec_EntryOk.p6 k a0)
      else if (40 : Int) < ((a0.2.2.2.1.size : Nat) : Int) then some false
      else spec_EntryOk.p6 k a0)
    else some false)
  else some false
/-! spec.l6List -/
noncomputable def spec_l6List.p9 : Nat → (List Entry) → Int → Option (Bool)
  | 0, _, _ => none
  | k + 1, x0, x1 => if x1 < ((x0.length : Nat) : Int) then (if (0 : Int) ≤ x1 ∧ x1 < ((x0.length : Nat) : Int) then ((spec_EntryOk.f k (x0.getD x1.toNat ((0 : Int), ((0 : Int), (false, ((⟨#[]⟩ : ByteArray), ())))))).bind fun r1 =>
        if r1 = true then spec_l6List.p9 k x0 (wrap64 (x1 + (1 : Int)))
        else some false)
      else none)
    else some true
noncomputable def spec_l6List.f (k : Nat) (a0 : (List Entry)) (a1 : Int) : Option (Bool) := if a1 < ((a0.length : Nat) : Int) then some false
  else spec_l6List.p9 k a0 (0 : Int)
/-! spec.l6Asc -/
noncomputable def spec_l6Asc.p5 : Nat → (List Entry) → Int → Option (Bool)
  | 0, _, _ => none
  | k + 1, x0, x1 => if x1 < ((x0.length : Nat) : Int) then (if (0 : Int) ≤ (wrap64 (x1 - (1 : Int))) ∧ (wrap64 (x1 - (1 : Int))) < ((x0.length : Nat) : Int) then (if (0 : Int) ≤ x1 ∧ x1 < ((x0.length : Nat) : Int) then (if (x0.getD x1.toNat ((0 : Int), ((0 : Int), (false, ((⟨#[]⟩ : ByteArray), ()))))).1 ≤ (x0.getD (wrap64 (x1 - (1 : Int))).toNat ((0 : Int), ((0 : Int), (false, ((⟨#[]⟩ : ByteArray), ()))))).1 then some false
          else spec_l6Asc.p5 k x0 (wrap64 (x1 + (1 : Int))))
        else none)
      else none)
    else some true
noncomputable def spec_l6Asc.f (k : Nat) (a0 : (List Entry)) : Option (Bool) := spec_l6Asc.p5 k a0 (1 : Int)
/-! spec.StoreOk -/
noncomputable def spec_StoreOk.f (k : Nat) (a0 : Store) : Option (Bool) := (spec_l6List.f k a0.1 (200 : Int)).bind fun r1 =>
  if r1 = true then ((spec_l6List.f k a0.2.1 (20 : Int)).bind fun r2 =>
    if r2 = true then ((spec_l6Asc.f k a0.1).bind fun r3 =>
      if r3 = true then ((spec_l1In.f a0.2.2.1 (0 : Int) (30 : Int)).bind fun r4 =>
        some r4)
      else some false)
    else some false)
  else some false
/-! spec.l12Zero -/
noncomputable def spec_l12Zero.f (a0 : Store) : Option (Bool) := if ((a0.1.length : Nat) : Int) = (0 : Int) then (if ((a0.2.1.length : Nat) : Int) = (0 : Int) then some (decide (a0.2.2.1 = (0 : Int)))
    else some false)
  else some false
/-! spec.l12Nodes -/
mutual
noncomputable def spec_l12Nodes.p6 : Nat → World → Option (Bool)
  | 0, _ => none
  | k + 1, x0 => spec_l12Nodes.p9 k (0 : Int) x0
noncomputable def spec_l12Nodes.p9 : Nat → Int → World → Option (Bool)
  | 0, _, _ => none
  | k + 1, x0, x1 => if x0 < ((x1.2.1.length : Nat) : Int) then (if (0 : Int) ≤ x0 ∧ x0 < ((x1.2.1.length : Nat) : Int) then ((spec_StoreOk.f k (x1.2.1.getD x0.toNat (([] : List Entry), (([] : List Entry), ((0 : Int), ()))))).bind fun r4 =>
        if r4 = true then ((spec_l4Has.f k x1.2.2.1 x0).bind fun r5 =>
          if r5 = true then (if (0 : Int) ≤ x0 ∧ x0 < ((x1.2.1.length : Nat) : Int) then ((spec_l12Zero.f (x1.2.1.getD x0.toNat (([] : List Entry), (([] : List Entry), ((0 : Int), ()))))).bind fun r6 =>
              if r6 = true then spec_l12Nodes.p9 k (wrap64 (x0 + (1 : Int))) x1
              else some false)
            else none)
          else spec_l12Nodes.p9 k (wrap64 (x0 + (1 : Int))) x1)
        else some false)
      else none)
    else some true
end
noncomputable def spec_l12Nodes.f (k : Nat) (a0 : World) : Option (Bool) := (spec_ConfigOk.f k a0.1).bind fun r1 =>
  if r1 = true then (if ((a0.2.1.length : Nat) : Int) = ((a0.1.1.length : Nat) : Int) then ((spec_NodesOk.f k a0.1 a0.2.2.1).bind fun r2 =>
      if r2 = true then ((spec_Holds.f k a0.1 a0.2.2.1).bind fun r3 =>
        if r3 = true then (if a0.2.2.2.2.2.2.2.2.1 = true then spec_l12Nodes.p6 k a0
          else some false)
        else spec_l12Nodes.p6 k a0)
      else some false)
    else some false)
  else some false
/-! spec.RegOk -/
mutual
noncomputable def spec_RegOk.p8 : Nat → Int → Config → Register → Option (Bool)
  | 0, _, _, _ => none
  | k + 1, x0, x1, x2 => spec_RegOk.p11 k x0 (0 : Int) x1 x2
noncomputable def spec_RegOk.p11 : Nat → Int → Int → Config → Register → Option (Bool)
  | 0, _, _, _, _ => none
  | k + 1, x0, x1, x2, x3 => if x1 < x0 then (if (0 : Int) ≤ x1 ∧ x1 < ((x3.1.length : Nat) : Int) then ((spec_Holds.f k x2 (x3.1.getD x1.toNat (([] : List Int), (false, ((0 : Int), ())))).1).bind fun r4 =>
        if r4 = true then ((spec_l1In.f (x3.1.getD x1.toNat (([] : List Int), (false, ((0 : Int), ())))).2.2.1 (0 : Int) (60 : Int)).bind fun r5 =>
          if r5 = true then (if (x3.1.getD x1.toNat (([] : List Int), (false, ((0 : Int), ())))).2.1 = true then spec_RegOk.p20 k x0 x1 (x3.1.getD x1.toNat (([] : List Int), (false, ((0 : Int), ())))).2.2.1 r5 (!(decide (r5 = true))) (x3.1.getD x1.toNat (([] : List Int), (false, ((0 : Int), ())))).2.1 (!(decide ((x3.1.getD x1.toNat (([] : List Int), (false, ((0 : Int), ())))).2.1 = true))) false false x2 x3 (x3.1.getD x1.toNat (([] : List Int), (false, ((0 : Int), ()))))
            else if (x3.1.getD x1.toNat (([] : List Int), (false, ((0 : Int), ())))).2.2.1 = (0 : Int) then spec_RegOk.p20 k x0 x1 (x3.1.getD x1.toNat (([] : List Int), (false, ((0 : Int), ())))).2.2.1 r5 (!(decide (r5 = true))) (x3.1.getD x1.toNat (([] : List Int), (false, ((0 : Int), ())))).2.1 (!(decide ((x3.1.getD x1.toNat (([] : List Int), (false, ((0 : Int), ())))).2.1 = true))) true (!(decide ((x3.1.getD x1.toNat (([] : List Int), (false, ((0 : Int), ())))).2.2.1 = (0 : Int)))) x2 x3 (x3.1.getD x1.toNat (([] : List Int), (false, ((0 : Int), ()))))
            else some false)
          else some false)
        else some false)
      else none)
    else some true
noncomputable def spec_RegOk.p20 : Nat → Int → Int → Int → Bool → Bool → Bool → Bool → Bool → Bool → Config → Register → Era → Option (Bool)
  | 0, _, _, _, _, _, _, _, _, _, _, _, _ => none
  | k + 1, x0, x1, x2, x3, x4, x5, x6, x7, x8, x9, x10, x11 => if x11.2.1 = true then (if x1 = (wrap64 (x0 - (1 : Int))) then some false
      else if (0 : Int) < x1 then (if (0 : Int) ≤ (wrap64 (x1 - (1 : Int))) ∧ (wrap64 (x1 - (1 : Int))) < ((x10.1.length : Nat) : Int) then (if (x10.1.getD (wrap64 (x1 - (1 : Int))).toNat (([] : List Int), (false, ((0 : Int), ())))).2.1 = true then spec_RegOk.p11 k x0 (wrap64 (x1 + (1 : Int))) x9 x10
          else some false)
        else none)
      else spec_RegOk.p11 k x0 (wrap64 (x1 + (1 : Int))) x9 x10)
    else spec_RegOk.p11 k x0 (wrap64 (x1 + (1 : Int))) x9 x10
end
noncomputable def spec_RegOk.f (k : Nat) (a0 : Config) (a1 : Register) : Option (Bool) := (spec_ConfigOk.f k a0).bind fun r1 =>
  if r1 = true then (if (30 : Int) < ((a1.1.length : Nat) : Int) then some false
    else if a1.2.1 = (0 : Int) then spec_RegOk.p8 k ((a1.1.length : Nat) : Int) a0 a1
    else (spec_PlaceOk.f a1.2.1).bind fun r2 =>
    if r2 = true then ((spec_EpochOf.f a1.2.1).bind fun r3 =>
      if ((a1.1.length : Nat) : Int) < r3 then some false
      else spec_RegOk.p8 k ((a1.1.length : Nat) : Int) a0 a1)
    else some false)
  else some false
/-! spec.WriterOk -/
noncomputable def spec_WriterOk.p11 : Nat → Int → Int → Config → Writer → Option (Bool)
  | 0, _, _, _, _ => none
  | k + 1, x0, x1, x2, x3 => if x1 < ((x3.2.1.length : Nat) : Int) then (if (0 : Int) ≤ x1 ∧ x1 < ((x3.2.1.length : Nat) : Int) then (if (40 : Int) < (((x3.2.1.getD x1.toNat ((⟨#[]⟩ : ByteArray), (([] : List Int), (false, ())))).1.size : Nat) : Int) then some false
        else (spec_NodesOk.f k x2 (x3.2.1.getD x1.toNat ((⟨#[]⟩ : ByteArray), (([] : List Int), (false, ())))).2.1).bind fun r3 =>
        if r3 = true then ((spec_Holds.f k x2 (x3.2.1.getD x1.toNat ((⟨#[]⟩ : ByteArray), (([] : List Int), (false, ())))).2.1).bind fun r4 =>
          if r4 = (x3.2.1.getD x1.toNat ((⟨#[]⟩ : ByteArray), (([] : List Int), (false, ())))).2.2.1 then (if (x3.2.1.getD x1.toNat ((⟨#[]⟩ : ByteArray), (([] : List Int), (false, ())))).2.2.1 = true then spec_WriterOk.p11 k x0 (wrap64 (x1 + (1 : Int))) x2 x3
            else spec_WriterOk.p11 k (wrap64 (x0 + (1 : Int))) (wrap64 (x1 + (1 : Int))) x2 x3)
          else some false)
        else some false)
      else none)
    else some (decide (x0 ≤ (6 : Int)))
noncomputable def spec_WriterOk.f (k : Nat) (a0 : Config) (a1 : Writer) : Option (Bool) := (spec_ConfigOk.f k a0).bind fun r1 =>
  if r1 = true then ((spec_l1In.f a1.1 (1 : Int) (30 : Int)).bind fun r2 =>
    if r2 = true then (if (60 : Int) < ((a1.2.1.length : Nat) : Int) then some false
      else spec_WriterOk.p11 k (0 : Int) (0 : Int) a0 a1)
    else some false)
  else some false
/-! spec.OffOf -/
noncomputable def spec_OffOf.f (a0 : Int) : Option (Int) := (spec_PlaceOk.f a0).bind fun r1 =>
  if r1 = true then some (Int.tmod a0 (4294967296 : Int))
  else some (0 : Int)
/-! spec.l9Last -/
noncomputable def spec_l9Last.f (a0 : Mend) : Option (Int) := if ((a0.2.2.2.1.length : Nat) : Int) = (0 : Int) then some (0 : Int)
  else if (0 : Int) ≤ (wrap64 (((a0.2.2.2.1.length : Nat) : Int) - (1 : Int))) ∧ (wrap64 (((a0.2.2.2.1.length : Nat) : Int) - (1 : Int))) < ((a0.2.2.2.1.length : Nat) : Int) then ((spec_OffOf.f (a0.2.2.2.1.getD (wrap64 (((a0.2.2.2.1.length : Nat) : Int) - (1 : Int))).toNat ((0 : Int), ((0 : Int), (false, ((⟨#[]⟩ : ByteArray), ()))))).1).bind fun r1 =>
    some r1)
  else none
/-! spec.MendOk -/
mutual
noncomputable def spec_MendOk.p9 : Nat → Int → Config → Mend → Option (Bool)
  | 0, _, _, _ => none
  | k + 1, x0, x1, x2 => if x0 < ((x2.2.2.2.1.length : Nat) : Int) then (if (0 : Int) ≤ x0 ∧ x0 < ((x2.2.2.2.1.length : Nat) : Int) then ((spec_EntryOk.f k (x2.2.2.2.1.getD x0.toNat ((0 : Int), ((0 : Int), (false, ((⟨#[]⟩ : ByteArray), ())))))).bind fun r6 =>
        if r6 = true then (if (0 : Int) ≤ x0 ∧ x0 < ((x2.2.2.2.1.length : Nat) : Int) then ((spec_EpochOf.f (x2.2.2.2.1.getD x0.toNat ((0 : Int), ((0 : Int), (false, ((⟨#[]⟩ : ByteArray), ()))))).1).bind fun r7 =>
            if r7 = x2.2.1 then (if (0 : Int) ≤ x0 ∧ x0 < ((x2.2.2.2.1.length : Nat) : Int) then (if x2.1 ≤ (x2.2.2.2.1.getD x0.toNat ((0 : Int), ((0 : Int), (false, ((⟨#[]⟩ : ByteArray), ()))))).2.1 then some false
                else spec_MendOk.p9 k (wrap64 (x0 + (1 : Int))) x1 x2)
              else none)
            else some false)
          else none)
        else some false)
      else none)
    else spec_MendOk.p19 k (0 : Int) x1 x2
noncomputable def spec_MendOk.p19 : Nat → Int → Config → Mend → Option (Bool)
  | 0, _, _, _ => none
  | k + 1, x0, x1, x2 => if x0 < ((x2.2.2.2.2.2.1.length : Nat) : Int) then (if (0 : Int) ≤ x0 ∧ x0 < ((x2.2.2.2.2.2.1.length : Nat) : Int) then ((spec_NodesOk.f k x1 (x2.2.2.2.2.2.1.getD x0.toNat ([] : List Int))).bind fun r8 =>
        if r8 = true then spec_MendOk.p19 k (wrap64 (x0 + (1 : Int))) x1 x2
        else some false)
      else none)
    else if x2.2.2.2.2.1 = true then ((spec_l9Last.f x2).bind fun r9 =>
      some (decide (((x2.2.2.2.2.2.1.length : Nat) : Int) = r9)))
    else some (decide (((x2.2.2.2.2.2.1.length : Nat) : Int) = (0 : Int)))
end
noncomputable def spec_MendOk.f (k : Nat) (a0 : Config) (a1 : Mend) : Option (Bool) := (spec_ConfigOk.f k a0).bind fun r1 =>
  if r1 = true then ((spec_l1In.f a1.2.1 (1 : Int) (30 : Int)).bind fun r2 =>
    if r2 = true then ((spec_l1In.f a1.1 (wrap64 (a1.2.1 + (1 : Int))) (30 : Int)).bind fun r3 =>
      if r3 = true then ((spec_NodesOk.f k a0 a1.2.2.1).bind fun r4 =>
        if r4 = true then ((spec_l6Asc.f k a1.2.2.2.1).bind fun r5 =>
          if r5 = true then spec_MendOk.p9 k (0 : Int) a0 a1
          else some false)
        else some false)
      else some false)
    else some false)
  else some false
/-! spec.l12Epochs -/
mutual
noncomputable def spec_l12Epochs.p11 : Nat → Int → Int → World → Option (Bool)
  | 0, _, _, _ => none
  | k + 1, x0, x1, x2 => if x1 < ((x2.2.2.2.2.1.length : Nat) : Int) then (if (0 : Int) ≤ x1 ∧ x1 < ((x2.2.2.2.2.1.length : Nat) : Int) then ((spec_WriterOk.f k x2.1 (x2.2.2.2.2.1.getD x1.toNat ((0 : Int), (([] : List Word), ())))).bind fun r2 =>
        if r2 = true then (if (0 : Int) ≤ x1 ∧ x1 < ((x2.2.2.2.2.1.length : Nat) : Int) then (if x0 < (x2.2.2.2.2.1.getD x1.toNat ((0 : Int), (([] : List Word), ()))).1 then some false
            else if (0 : Int) < x1 then (if (0 : Int) ≤ (wrap64 (x1 - (1 : Int))) ∧ (wrap64 (x1 - (1 : Int))) < ((x2.2.2.2.2.1.length : Nat) : Int) then (if (0 : Int) ≤ x1 ∧ x1 < ((x2.2.2.2.2.1.length : Nat) : Int) then (if (x2.2.2.2.2.1.getD x1.toNat ((0 : Int), (([] : List Word), ()))).1 ≤ (x2.2.2.2.2.1.getD (wrap64 (x1 - (1 : Int))).toNat ((0 : Int), (([] : List Word), ()))).1 then some false
                  else spec_l12Epochs.p11 k x0 (wrap64 (x1 + (1 : Int))) x2)
                else none)
              else none)
            else spec_l12Epochs.p11 k x0 (wrap64 (x1 + (1 : Int))) x2)
          else none)
        else some false)
      else none)
    else spec_l12Epochs.p21 k x0 (0 : Int) x2
noncomputable def spec_l12Epochs.p21 : Nat → Int → Int → World → Option (Bool)
  | 0, _, _, _ => none
  | k + 1, x0, x1, x2 => if x1 < ((x2.2.2.2.2.2.1.length : Nat) : Int) then (if (0 : Int) ≤ x1 ∧ x1 < ((x2.2.2.2.2.2.1.length : Nat) : Int) then ((spec_MendOk.f k x2.1 (x2.2.2.2.2.2.1.getD x1.toNat ((0 : Int), ((0 : Int), (([] : List Int), (([] : List Entry), (false, (([] : List (List Int)), ())))))))).bind fun r3 =>
        if r3 = true then (if (x2.2.2.2.2.2.1.getD x1.toNat ((0 : Int), ((0 : Int), (([] : List Int), (([] : List Entry), (false, (([] : List (List Int)), ()))))))).1 = x0 then ((spec_FirstOpen.f k x2.2.2.2.1).bind fun r4 =>
            if (x2.2.2.2.2.2.1.getD x1.toNat ((0 : Int), ((0 : Int), (([] : List Int), (([] : List Entry), (false, (([] : List (List Int)), ()))))))).2.1 = r4 then spec_l12Epochs.p21 k x0 (wrap64 (x1 + (1 : Int))) x2
            else some false)
          else some false)
        else some false)
      else none)
    else some true
end
noncomputable def spec_l12Epochs.f (k : Nat) (a0 : World) : Option (Bool) := (spec_RegOk.f k a0.1 a0.2.2.2.1).bind fun r1 =>
  if r1 = true then (if (4 : Int) < ((a0.2.2.2.2.1.length : Nat) : Int) then some false
    else if (1 : Int) < ((a0.2.2.2.2.2.1.length : Nat) : Int) then some false
    else spec_l12Epochs.p11 k ((a0.2.2.2.1.1.length : Nat) : Int) (0 : Int) a0)
  else some false
/-! spec.ReaderOk -/
noncomputable def spec_ReaderOk.f (a0 : Reader) : Option (Bool) := (spec_l1In.f a0.1 (1 : Int) (31 : Int)).bind fun r1 =>
  if r1 = true then ((spec_l1In.f a0.2.1 (1 : Int) (61 : Int)).bind fun r2 =>
    if r2 = true then some (decide (((a0.2.2.1.length : Nat) : Int) ≤ (120 : Int)))
    else some false)
  else some false
/-! spec.l12Sent -/
noncomputable def spec_l12Sent.p9 : Nat → Int → World → Option (Bool)
  | 0, _, _ => none
  | k + 1, x0, x1 => if x0 < ((x1.2.2.2.2.2.2.2.1.length : Nat) : Int) then (if (0 : Int) ≤ x0 ∧ x0 < ((x1.2.2.2.2.2.2.2.1.length : Nat) : Int) then ((spec_PlaceOk.f (x1.2.2.2.2.2.2.2.1.getD x0.toNat ((0 : Int), ((⟨#[]⟩ : ByteArray), (false, ())))).1).bind fun r1 =>
        if r1 = true then ((spec_EpochOf.f (x1.2.2.2.2.2.2.2.1.getD x0.toNat ((0 : Int), ((⟨#[]⟩ : ByteArray), (false, ())))).1).bind fun r2 =>
          if ((x1.2.2.2.1.1.length : Nat) : Int) < r2 then some false
          else if (40 : Int) < (((x1.2.2.2.2.2.2.2.1.getD x0.toNat ((0 : Int), ((⟨#[]⟩ : ByteArray), (false, ())))).2.1.size : Nat) : Int) then some false
          else if (0 : Int) < x0 then (if (0 : Int) ≤ (wrap64 (x0 - (1 : Int))) ∧ (wrap64 (x0 - (1 : Int))) < ((x1.2.2.2.2.2.2.2.1.length : Nat) : Int) then (if (x1.2.2.2.2.2.2.2.1.getD x0.toNat ((0 : Int), ((⟨#[]⟩ : ByteArray), (false, ())))).1 ≤ (x1.2.2.2.2.2.2.2.1.getD (wrap64 (x0 - (1 : Int))).toNat ((0 : Int), ((⟨#[]⟩ : ByteArray), (false, ())))).1 then some false
              else spec_l12Sent.p9 k (wrap64 (x0 + (1 : Int))) x1)
            else none)
          else spec_l12Sent.p9 k (wrap64 (x0 + (1 : Int))) x1)
        else some false)
      else none)
    else some true
noncomputable def spec_l12Sent.f (k : Nat) (a0 : World) : Option (Bool) := if (120 : Int) < ((a0.2.2.2.2.2.2.2.1.length : Nat) : Int) then some false
  else spec_l12Sent.p9 k (0 : Int) a0
/-! spec.WorldOk -/
noncomputable def spec_WorldOk.f (k : Nat) (a0 : World) : Option (Bool) := (spec_l12Nodes.f k a0).bind fun r1 =>
  if r1 = true then ((spec_l12Epochs.f k a0).bind fun r2 =>
    if r2 = true then (if ((a0.2.2.2.2.2.2.1.length : Nat) : Int) = (2 : Int) then (if (0 : Int) ≤ (0 : Int) ∧ (0 : Int) < ((a0.2.2.2.2.2.2.1.length : Nat) : Int) then ((spec_ReaderOk.f (a0.2.2.2.2.2.2.1.getD (0 : Int).toNat ((0 : Int), ((0 : Int), (([] : List Event), ()))))).bind fun r3 =>
          if r3 = true then (if (0 : Int) ≤ (1 : Int) ∧ (1 : Int) < ((a0.2.2.2.2.2.2.1.length : Nat) : Int) then ((spec_ReaderOk.f (a0.2.2.2.2.2.2.1.getD (1 : Int).toNat ((0 : Int), ((0 : Int), (([] : List Event), ()))))).bind fun r4 =>
              if r4 = true then ((spec_l12Sent.f k a0).bind fun r5 =>
                some r5)
              else some false)
            else none)
          else some false)
        else none)
      else some false)
    else some false)
  else some false
/-! spec.l13Names -/
noncomputable def spec_l13Names.f (a0 : Deed) : Option (Deed) := if a0.1 = (1 : Int) then (if a0.1 = (1 : Int) then some (a0.1, (a0.2.1, ((0 : Int), ((0 : Int), ((⟨#[]⟩ : ByteArray), ())))))
    else if a0.1 = (2 : Int) then some (a0.1, (a0.2.1, ((0 : Int), ((0 : Int), (a0.2.2.2.2.1, ())))))
    else if a0.1 = (3 : Int) then some (a0.1, (a0.2.1, (a0.2.2.1, (a0.2.2.2.1, ((⟨#[]⟩ : ByteArray), ())))))
    else if a0.1 = (5 : Int) then (if a0.1 = (5 : Int) then some (a0.1, (a0.2.1, (a0.2.2.1, ((0 : Int), ((⟨#[]⟩ : ByteArray), ())))))
      else if a0.1 = (11 : Int) then some (a0.1, ((0 : Int), (a0.2.2.1, (a0.2.2.2.1, ((⟨#[]⟩ : ByteArray), ())))))
      else some (a0.1, ((0 : Int), ((0 : Int), ((0 : Int), ((⟨#[]⟩ : ByteArray), ()))))))
    else if a0.1 = (14 : Int) then some (a0.1, (a0.2.1, (a0.2.2.1, ((0 : Int), ((⟨#[]⟩ : ByteArray), ())))))
    else if a0.1 = (11 : Int) then some (a0.1, ((0 : Int), (a0.2.2.1, (a0.2.2.2.1, ((⟨#[]⟩ : ByteArray), ())))))
    else some (a0.1, ((0 : Int), ((0 : Int), ((0 : Int), ((⟨#[]⟩ : ByteArray), ()))))))
  else if a0.1 = (4 : Int) then (if a0.1 = (4 : Int) then some (a0.1, (a0.2.1, ((0 : Int), ((0 : Int), ((⟨#[]⟩ : ByteArray), ())))))
    else if a0.1 = (2 : Int) then some (a0.1, (a0.2.1, ((0 : Int), ((0 : Int), (a0.2.2.2.2.1, ())))))
    else if a0.1 = (3 : Int) then some (a0.1, (a0.2.1, (a0.2.2.1, (a0.2.2.2.1, ((⟨#[]⟩ : ByteArray), ())))))
    else if a0.1 = (5 : Int) then (if a0.1 = (5 : Int) then some (a0.1, (a0.2.1, (a0.2.2.1, ((0 : Int), ((⟨#[]⟩ : ByteArray), ())))))
      else if a0.1 = (11 : Int) then some (a0.1, ((0 : Int), (a0.2.2.1, (a0.2.2.2.1, ((⟨#[]⟩ : ByteArray), ())))))
      else some (a0.1, ((0 : Int), ((0 : Int), ((0 : Int), ((⟨#[]⟩ : ByteArray), ()))))))
    else if a0.1 = (14 : Int) then some (a0.1, (a0.2.1, (a0.2.2.1, ((0 : Int), ((⟨#[]⟩ : ByteArray), ())))))
    else if a0.1 = (11 : Int) then some (a0.1, ((0 : Int), (a0.2.2.1, (a0.2.2.2.1, ((⟨#[]⟩ : ByteArray), ())))))
    else some (a0.1, ((0 : Int), ((0 : Int), ((0 : Int), ((⟨#[]⟩ : ByteArray), ()))))))
  else if a0.1 = (6 : Int) then (if a0.1 = (6 : Int) then some (a0.1, (a0.2.1, ((0 : Int), ((0 : Int), ((⟨#[]⟩ : ByteArray), ())))))
    else if a0.1 = (2 : Int) then some (a0.1, (a0.2.1, ((0 : Int), ((0 : Int), (a0.2.2.2.2.1, ())))))
    else if a0.1 = (3 : Int) then some (a0.1, (a0.2.1, (a0.2.2.1, (a0.2.2.2.1, ((⟨#[]⟩ : ByteArray), ())))))
    else if a0.1 = (5 : Int) then (if a0.1 = (5 : Int) then some (a0.1, (a0.2.1, (a0.2.2.1, ((0 : Int), ((⟨#[]⟩ : ByteArray), ())))))
      else if a0.1 = (11 : Int) then some (a0.1, ((0 : Int), (a0.2.2.1, (a0.2.2.2.1, ((⟨#[]⟩ : ByteArray), ())))))
      else some (a0.1, ((0 : Int), ((0 : Int), ((0 : Int), ((⟨#[]⟩ : ByteArray), ()))))))
    else if a0.1 = (14 : Int) then some (a0.1, (a0.2.1, (a0.2.2.1, ((0 : Int), ((⟨#[]⟩ : ByteArray), ())))))
    else if a0.1 = (11 : Int) then some (a0.1, ((0 : Int), (a0.2.2.1, (a0.2.2.2.1, ((⟨#[]⟩ : ByteArray), ())))))
    else some (a0.1, ((0 : Int), ((0 : Int), ((0 : Int), ((⟨#[]⟩ : ByteArray), ()))))))
  else if a0.1 = (7 : Int) then (if a0.1 = (7 : Int) then some (a0.1, (a0.2.1, ((0 : Int), ((0 : Int), ((⟨#[]⟩ : ByteArray), ())))))
    else if a0.1 = (2 : Int) then some (a0.1, (a0.2.1, ((0 : Int), ((0 : Int), (a0.2.2.2.2.1, ())))))
    else if a0.1 = (3 : Int) then some (a0.1, (a0.2.1, (a0.2.2.1, (a0.2.2.2.1, ((⟨#[]⟩ : ByteArray), ())))))
    else if a0.1 = (5 : Int) then (if a0.1 = (5 : Int) then some (a0.1, (a0.2.1, (a0.2.2.1, ((0 : Int), ((⟨#[]⟩ : ByteArray), ())))))
      else if a0.1 = (11 : Int) then some (a0.1, ((0 : Int), (a0.2.2.1, (a0.2.2.2.1, ((⟨#[]⟩ : ByteArray), ())))))
      else some (a0.1, ((0 : Int), ((0 : Int), ((0 : Int), ((⟨#[]⟩ : ByteArray), ()))))))
    else if a0.1 = (14 : Int) then some (a0.1, (a0.2.1, (a0.2.2.1, ((0 : Int), ((⟨#[]⟩ : ByteArray), ())))))
    else if a0.1 = (11 : Int) then some (a0.1, ((0 : Int), (a0.2.2.1, (a0.2.2.2.1, ((⟨#[]⟩ : ByteArray), ())))))
    else some (a0.1, ((0 : Int), ((0 : Int), ((0 : Int), ((⟨#[]⟩ : ByteArray), ()))))))
  else if a0.1 = (9 : Int) then (if a0.1 = (9 : Int) then some (a0.1, (a0.2.1, ((0 : Int), ((0 : Int), ((⟨#[]⟩ : ByteArray), ())))))
    else if a0.1 = (2 : Int) then some (a0.1, (a0.2.1, ((0 : Int), ((0 : Int), (a0.2.2.2.2.1, ())))))
    else if a0.1 = (3 : Int) then some (a0.1, (a0.2.1, (a0.2.2.1, (a0.2.2.2.1, ((⟨#[]⟩ : ByteArray), ())))))
    else if a0.1 = (5 : Int) then (if a0.1 = (5 : Int) then some (a0.1, (a0.2.1, (a0.2.2.1, ((0 : Int), ((⟨#[]⟩ : ByteArray), ())))))
      else if a0.1 = (11 : Int) then some (a0.1, ((0 : Int), (a0.2.2.1, (a0.2.2.2.1, ((⟨#[]⟩ : ByteArray), ())))))
      else some (a0.1, ((0 : Int), ((0 : Int), ((0 : Int), ((⟨#[]⟩ : ByteArray), ()))))))
    else if a0.1 = (14 : Int) then some (a0.1, (a0.2.1, (a0.2.2.1, ((0 : Int), ((⟨#[]⟩ : ByteArray), ())))))
    else if a0.1 = (11 : Int) then some (a0.1, ((0 : Int), (a0.2.2.1, (a0.2.2.2.1, ((⟨#[]⟩ : ByteArray), ())))))
    else some (a0.1, ((0 : Int), ((0 : Int), ((0 : Int), ((⟨#[]⟩ : ByteArray), ()))))))
  else if a0.1 = (13 : Int) then (if a0.1 = (13 : Int) then some (a0.1, (a0.2.1, ((0 : Int), ((0 : Int), ((⟨#[]⟩ : ByteArray), ())))))
    else if a0.1 = (2 : Int) then some (a0.1, (a0.2.1, ((0 : Int), ((0 : Int), (a0.2.2.2.2.1, ())))))
    else if a0.1 = (3 : Int) then some (a0.1, (a0.2.1, (a0.2.2.1, (a0.2.2.2.1, ((⟨#[]⟩ : ByteArray), ())))))
    else if a0.1 = (5 : Int) then (if a0.1 = (5 : Int) then some (a0.1, (a0.2.1, (a0.2.2.1, ((0 : Int), ((⟨#[]⟩ : ByteArray), ())))))
      else if a0.1 = (11 : Int) then some (a0.1, ((0 : Int), (a0.2.2.1, (a0.2.2.2.1, ((⟨#[]⟩ : ByteArray), ())))))
      else some (a0.1, ((0 : Int), ((0 : Int), ((0 : Int), ((⟨#[]⟩ : ByteArray), ()))))))
    else if a0.1 = (14 : Int) then some (a0.1, (a0.2.1, (a0.2.2.1, ((0 : Int), ((⟨#[]⟩ : ByteArray), ())))))
    else if a0.1 = (11 : Int) then some (a0.1, ((0 : Int), (a0.2.2.1, (a0.2.2.2.1, ((⟨#[]⟩ : ByteArray), ())))))
    else some (a0.1, ((0 : Int), ((0 : Int), ((0 : Int), ((⟨#[]⟩ : ByteArray), ()))))))
  else if a0.1 = (15 : Int) then (if a0.1 = (15 : Int) then some (a0.1, (a0.2.1, ((0 : Int), ((0 : Int), ((⟨#[]⟩ : ByteArray), ())))))
    else if a0.1 = (2 : Int) then some (a0.1, (a0.2.1, ((0 : Int), ((0 : Int), (a0.2.2.2.2.1, ())))))
    else if a0.1 = (3 : Int) then some (a0.1, (a0.2.1, (a0.2.2.1, (a0.2.2.2.1, ((⟨#[]⟩ : ByteArray), ())))))
    else if a0.1 = (5 : Int) then (if a0.1 = (5 : Int) then some (a0.1, (a0.2.1, (a0.2.2.1, ((0 : Int), ((⟨#[]⟩ : ByteArray), ())))))
      else if a0.1 = (11 : Int) then some (a0.1, ((0 : Int), (a0.2.2.1, (a0.2.2.2.1, ((⟨#[]⟩ : ByteArray), ())))))
      else some (a0.1, ((0 : Int), ((0 : Int), ((0 : Int), ((⟨#[]⟩ : ByteArray), ()))))))
    else if a0.1 = (14 : Int) then some (a0.1, (a0.2.1, (a0.2.2.1, ((0 : Int), ((⟨#[]⟩ : ByteArray), ())))))
    else if a0.1 = (11 : Int) then some (a0.1, ((0 : Int), (a0.2.2.1, (a0.2.2.2.1, ((⟨#[]⟩ : ByteArray), ())))))
    else some (a0.1, ((0 : Int), ((0 : Int), ((0 : Int), ((⟨#[]⟩ : ByteArray), ()))))))
  else if a0.1 = (16 : Int) then some (a0.1, (a0.2.1, ((0 : Int), ((0 : Int), ((⟨#[]⟩ : ByteArray), ())))))
  else if a0.1 = (2 : Int) then some (a0.1, (a0.2.1, ((0 : Int), ((0 : Int), (a0.2.2.2.2.1, ())))))
  else if a0.1 = (3 : Int) then some (a0.1, (a0.2.1, (a0.2.2.1, (a0.2.2.2.1, ((⟨#[]⟩ : ByteArray), ())))))
  else if a0.1 = (5 : Int) then (if a0.1 = (5 : Int) then some (a0.1, (a0.2.1, (a0.2.2.1, ((0 : Int), ((⟨#[]⟩ : ByteArray), ())))))
    else if a0.1 = (11 : Int) then some (a0.1, ((0 : Int), (a0.2.2.1, (a0.2.2.2.1, ((⟨#[]⟩ : ByteArray), ())))))
    else some (a0.1, ((0 : Int), ((0 : Int), ((0 : Int), ((⟨#[]⟩ : ByteArray), ()))))))
  else if a0.1 = (14 : Int) then some (a0.1, (a0.2.1, (a0.2.2.1, ((0 : Int), ((⟨#[]⟩ : ByteArray), ())))))
  else if a0.1 = (11 : Int) then some (a0.1, ((0 : Int), (a0.2.2.1, (a0.2.2.2.1, ((⟨#[]⟩ : ByteArray), ())))))
  else some (a0.1, ((0 : Int), ((0 : Int), ((0 : Int), ((⟨#[]⟩ : ByteArray), ())))))
/-! spec.DeedOk -/
noncomputable def spec_DeedOk.f (a0 : Deed) : Option (Bool) := (spec_l1In.f a0.1 (1 : Int) (16 : Int)).bind fun r1 =>
  if r1 = true then ((spec_l13Names.f a0).bind fun r2 =>
    if a0 = r2 then some (decide (((a0.2.2.2.2.1.size : Nat) : Int) ≤ (40 : Int)))
    else some false)
  else some false
/-! spec.l7Copy -/
noncomputable def spec_l7Copy.p7 : Nat → Int → Register → Register → Register → Option (Register)
  | 0, _, _, _, _ => none
  | k + 1, x0, x1, x2, x3 => if x0 < ((x1.1.length : Nat) : Int) then (if (0 : Int) ≤ x0 ∧ x0 < ((x1.1.length : Nat) : Int) then (if (((([] : List Int).length : Nat) : Int) + (((x1.1.getD x0.toNat (([] : List Int), (false, ((0 : Int), ())))).1.length : Nat) : Int)) ≤ lim then (if (((x3.1.length : Nat) : Int) + ((([((([] : List Int) ++ (x1.1.getD x0.toNat (([] : List Int), (false, ((0 : Int), ())))).1), (x1.1.getD x0.toNat (([] : List Int), (false, ((0 : Int), ())))).2)] : List Era).length : Nat) : Int)) ≤ lim then spec_l7Copy.p7 k (wrap64 (x0 + (1 : Int))) x1 x2 ((x3.1 ++ ([((([] : List Int) ++ (x1.1.getD x0.toNat (([] : List Int), (false, ((0 : Int), ())))).1), (x1.1.getD x0.toNat (([] : List Int), (false, ((0 : Int), ())))).2)] : List Era)), x3.2)
          else none)
        else none)
      else none)
    else some x3
noncomputable def spec_l7Copy.f (k : Nat) (a0 : Register) : Option (Register) := spec_l7Copy.p7 k (0 : Int) a0 (([] : List Era), ((0 : Int), ())) (([] : List Era), (a0.2.1, ()))
/-! spec.l6Copy -/
noncomputable def spec_l6Copy.f (a0 : Store) : Option (Store) := if (((([] : List Entry).length : Nat) : Int) + ((a0.1.length : Nat) : Int)) ≤ lim then (if (((([] : List Entry).length : Nat) : Int) + ((a0.2.1.length : Nat) : Int)) ≤ lim then some ((([] : List Entry) ++ a0.1), ((([] : List Entry) ++ a0.2.1), (a0.2.2.1, ())))
    else none)
  else none
/-! spec.l8Copy -/
noncomputable def spec_l8Copy.p7 : Nat → Int → Writer → Writer → Writer → Option (Writer)
  | 0, _, _, _, _ => none
  | k + 1, x0, x1, x2, x3 => if x0 < ((x1.2.1.length : Nat) : Int) then (if (0 : Int) ≤ x0 ∧ x0 < ((x1.2.1.length : Nat) : Int) then (if (((([] : List Int).length : Nat) : Int) + (((x1.2.1.getD x0.toNat ((⟨#[]⟩ : ByteArray), (([] : List Int), (false, ())))).2.1.length : Nat) : Int)) ≤ lim then (if (((x3.2.1.length : Nat) : Int) + ((([((x1.2.1.getD x0.toNat ((⟨#[]⟩ : ByteArray), (([] : List Int), (false, ())))).1, ((([] : List Int) ++ (x1.2.1.getD x0.toNat ((⟨#[]⟩ : ByteArray), (([] : List Int), (false, ())))).2.1), (x1.2.1.getD x0.toNat ((⟨#[]⟩ : ByteArray), (([] : List Int), (false, ())))).2.2))] : List Word).length : Nat) : Int)) ≤ lim then spec_l8Copy.p7 k (wrap64 (x0 + (1 : Int))) x1 x2 (x3.1, ((x3.2.1 ++ ([((x1.2.1.getD x0.toNat ((⟨#[]⟩ : ByteArray), (([] : List Int), (false, ())))).1, ((([] : List Int) ++ (x1.2.1.getD x0.toNat ((⟨#[]⟩ : ByteArray), (([] : List Int), (false, ())))).2.1), (x1.2.1.getD x0.toNat ((⟨#[]⟩ : ByteArray), (([] : List Int), (false, ())))).2.2))] : List Word)), x3.2.2))
          else none)
        else none)
      else none)
    else some x3
noncomputable def spec_l8Copy.f (k : Nat) (a0 : Writer) : Option (Writer) := spec_l8Copy.p7 k (0 : Int) a0 ((0 : Int), (([] : List Word), ())) (a0.1, (([] : List Word), ()))
/-! spec.l9Copy -/
noncomputable def spec_l9Copy.p7 : Nat → Int → Mend → Mend → Mend → Option (Mend)
  | 0, _, _, _, _ => none
  | k + 1, x0, x1, x2, x3 => if x0 < ((x1.2.2.2.2.2.1.length : Nat) : Int) then (if (0 : Int) ≤ x0 ∧ x0 < ((x1.2.2.2.2.2.1.length : Nat) : Int) then (if (((([] : List Int).length : Nat) : Int) + (((x1.2.2.2.2.2.1.getD x0.toNat ([] : List Int)).length : Nat) : Int)) ≤ lim then (if (((x3.2.2.2.2.2.1.length : Nat) : Int) + ((([(([] : List Int) ++ (x1.2.2.2.2.2.1.getD x0.toNat ([] : List Int)))] : List (List Int)).length : Nat) : Int)) ≤ lim then spec_l9Copy.p7 k (wrap64 (x0 + (1 : Int))) x1 x2 (x3.1, (x3.2.1, (x3.2.2.1, (x3.2.2.2.1, (x3.2.2.2.2.1, ((x3.2.2.2.2.2.1 ++ ([(([] : List Int) ++ (x1.2.2.2.2.2.1.getD x0.toNat ([] : List Int)))] : List (List Int))), x3.2.2.2.2.2.2))))))
          else none)
        else none)
      else none)
    else some x3
noncomputable def spec_l9Copy.f (k : Nat) (a0 : Mend) : Option (Mend) := if (((([] : List Int).length : Nat) : Int) + ((a0.2.2.1.length : Nat) : Int)) ≤ lim then (if (((([] : List Entry).length : Nat) : Int) + ((a0.2.2.2.1.length : Nat) : Int)) ≤ lim then spec_l9Copy.p7 k (0 : Int) a0 ((0 : Int), ((0 : Int), (([] : List Int), (([] : List Entry), (false, (([] : List (List Int)), ())))))) (a0.1, (a0.2.1, ((([] : List Int) ++ a0.2.2.1), ((([] : List Entry) ++ a0.2.2.2.1), (a0.2.2.2.2.1, (([] : List (List Int)), ()))))))
    else none)
  else none
/-! spec.l10Copy -/
noncomputable def spec_l10Copy.f (a0 : Reader) : Option (Reader) := if (((([] : List Event).length : Nat) : Int) + ((a0.2.2.1.length : Nat) : Int)) ≤ lim then some (a0.1, (a0.2.1, ((([] : List Event) ++ a0.2.2.1), a0.2.2.2)))
  else none
/-! spec.l12Copy -/
mutual
noncomputable def spec_l12Copy.p7 : Nat → Int → World → World → World → Option (World)
  | 0, _, _, _, _ => none
  | k + 1, x0, x1, x2, x3 => if x0 < ((x1.2.1.length : Nat) : Int) then (if (0 : Int) ≤ x0 ∧ x0 < ((x1.2.1.length : Nat) : Int) then ((spec_l6Copy.f (x1.2.1.getD x0.toNat (([] : List Entry), (([] : List Entry), ((0 : Int), ()))))).bind fun r2 =>
        if (((x3.2.1.length : Nat) : Int) + ((([r2] : List Store).length : Nat) : Int)) ≤ lim then spec_l12Copy.p7 k (wrap64 (x0 + (1 : Int))) x1 x2 (x3.1, ((x3.2.1 ++ ([r2] : List Store)), x3.2.2))
        else none)
      else none)
    else spec_l12Copy.p15 k (0 : Int) x1 x2 x3
noncomputable def spec_l12Copy.p15 : Nat → Int → World → World → World → Option (World)
  | 0, _, _, _, _ => none
  | k + 1, x0, x1, x2, x3 => if x0 < ((x1.2.2.2.2.1.length : Nat) : Int) then (if (0 : Int) ≤ x0 ∧ x0 < ((x1.2.2.2.2.1.length : Nat) : Int) then ((spec_l8Copy.f k (x1.2.2.2.2.1.getD x0.toNat ((0 : Int), (([] : List Word), ())))).bind fun r3 =>
        if (((x3.2.2.2.2.1.length : Nat) : Int) + ((([r3] : List Writer).length : Nat) : Int)) ≤ lim then spec_l12Copy.p15 k (wrap64 (x0 + (1 : Int))) x1 x2 (x3.1, (x3.2.1, (x3.2.2.1, (x3.2.2.2.1, ((x3.2.2.2.2.1 ++ ([r3] : List Writer)), x3.2.2.2.2.2)))))
        else none)
      else none)
    else spec_l12Copy.p23 k (0 : Int) x1 x2 x3
noncomputable def spec_l12Copy.p23 : Nat → Int → World → World → World → Option (World)
  | 0, _, _, _, _ => none
  | k + 1, x0, x1, x2, x3 => if x0 < ((x1.2.2.2.2.2.1.length : Nat) : Int) then (if (0 : Int) ≤ x0 ∧ x0 < ((x1.2.2.2.2.2.1.length : Nat) : Int) then ((spec_l9Copy.f k (x1.2.2.2.2.2.1.getD x0.toNat ((0 : Int), ((0 : Int), (([] : List Int), (([] : List Entry), (false, (([] : List (List Int)), ())))))))).bind fun r4 =>
        if (((x3.2.2.2.2.2.1.length : Nat) : Int) + ((([r4] : List Mend).length : Nat) : Int)) ≤ lim then spec_l12Copy.p23 k (wrap64 (x0 + (1 : Int))) x1 x2 (x3.1, (x3.2.1, (x3.2.2.1, (x3.2.2.2.1, (x3.2.2.2.2.1, ((x3.2.2.2.2.2.1 ++ ([r4] : List Mend)), x3.2.2.2.2.2.2))))))
        else none)
      else none)
    else spec_l12Copy.p31 k (0 : Int) x1 x2 x3
noncomputable def spec_l12Copy.p31 : Nat → Int → World → World → World → Option (World)
  | 0, _, _, _, _ => none
  | k + 1, x0, x1, x2, x3 => if x0 < ((x1.2.2.2.2.2.2.1.length : Nat) : Int) then (if (0 : Int) ≤ x0 ∧ x0 < ((x1.2.2.2.2.2.2.1.length : Nat) : Int) then ((spec_l10Copy.f (x1.2.2.2.2.2.2.1.getD x0.toNat ((0 : Int), ((0 : Int), (([] : List Event), ()))))).bind fun r5 =>
        if (((x3.2.2.2.2.2.2.1.length : Nat) : Int) + ((([r5] : List Reader).length : Nat) : Int)) ≤ lim then spec_l12Copy.p31 k (wrap64 (x0 + (1 : Int))) x1 x2 (x3.1, (x3.2.1, (x3.2.2.1, (x3.2.2.2.1, (x3.2.2.2.2.1, (x3.2.2.2.2.2.1, ((x3.2.2.2.2.2.2.1 ++ ([r5] : List Reader)), x3.2.2.2.2.2.2.2)))))))
        else none)
      else none)
    else some x3
end
noncomputable def spec_l12Copy.f (k : Nat) (a0 : World) : Option (World) := if (((([] : List Int).length : Nat) : Int) + ((a0.1.1.length : Nat) : Int)) ≤ lim then (if (((([] : List Int).length : Nat) : Int) + ((a0.2.2.1.length : Nat) : Int)) ≤ lim then ((spec_l7Copy.f k a0.2.2.2.1).bind fun r1 =>
      if (((([] : List Sent).length : Nat) : Int) + ((a0.2.2.2.2.2.2.2.1.length : Nat) : Int)) ≤ lim then spec_l12Copy.p7 k (0 : Int) a0 ((([] : List Int), ((0 : Int), ())), (([] : List Store), (([] : List Int), ((([] : List Era), ((0 : Int), ())), (([] : List Writer), (([] : List Mend), (([] : List Reader), (([] : List Sent), (false, ()))))))))) (((([] : List Int) ++ a0.1.1), (a0.1.2.1, ())), (([] : List Store), ((([] : List Int) ++ a0.2.2.1), (r1, (([] : List Writer), (([] : List Mend), (([] : List Reader), ((([] : List Sent) ++ a0.2.2.2.2.2.2.2.1), (a0.2.2.2.2.2.2.2.2.1, ())))))))))
      else none)
    else none)
  else none
/-! spec.MaskNodes -/
noncomputable def spec_MaskNodes.p7 : Nat → Int → (List Int) → Int → Option ((List Int))
  | 0, _, _, _ => none
  | k + 1, x0, x1, x2 => if x2 < (8 : Int) then ((spec_l1In.f x0 (0 : Int) (255 : Int)).bind fun r1 =>
      if r1 = true then (if (0 : Int) ≤ x2 then (if (andK .i64 (shrK .i64 x0 x2) (1 : Int)) = (1 : Int) then (if (((x1.length : Nat) : Int) + ((([x2] : List Int).length : Nat) : Int)) ≤ lim then spec_MaskNodes.p7 k x0 (x1 ++ ([x2] : List Int)) (wrap64 (x2 + (1 : Int)))
            else none)
          else spec_MaskNodes.p7 k x0 x1 (wrap64 (x2 + (1 : Int))))
        else none)
      else some x1)
    else some x1
noncomputable def spec_MaskNodes.f (k : Nat) (a0 : Int) : Option ((List Int)) := spec_MaskNodes.p7 k a0 ([] : List Int) (0 : Int)
/-! spec.RegOpen -/
noncomputable def spec_RegOpen.f (k : Nat) (a0 : Config) (a1 : Register) (a2 : (List Int)) : Option (Register × Int × Bool) := (spec_RegOk.f k a0 a1).bind fun r1 =>
  if r1 = true then ((spec_l7Copy.f k a1).bind fun r2 =>
    (spec_Holds.f k a0 a2).bind fun r3 =>
    if r3 = true then (if ((a1.1.length : Nat) : Int) = (30 : Int) then some (r2, (0 : Int), false)
      else if (((([] : List Int).length : Nat) : Int) + ((a2.length : Nat) : Int)) ≤ lim then (if (((r2.1.length : Nat) : Int) + ((([((([] : List Int) ++ a2), (false, ((0 : Int), ())))] : List Era).length : Nat) : Int)) ≤ lim then some (((r2.1 ++ ([((([] : List Int) ++ a2), (false, ((0 : Int), ())))] : List Era)), r2.2), (((r2.1 ++ ([((([] : List Int) ++ a2), (false, ((0 : Int), ())))] : List Era)).length : Nat) : Int), true)
        else none)
      else none)
    else some (r2, (0 : Int), false))
  else some ((([] : List Era), ((0 : Int), ())), (0 : Int), false)
/-! spec.l13Open -/
noncomputable def spec_l13Open.f (k : Nat) (a0 : World) (a1 : Deed) : Option (World × Int) := if ((a0.2.2.2.2.1.length : Nat) : Int) = (4 : Int) then some (a0, (4 : Int))
  else (spec_MaskNodes.f k a1.2.1).bind fun r1 =>
  (spec_RegOpen.f k a0.1 a0.2.2.2.1 r1).bind fun r2 =>
  if r2.2.2 = true then (if (((a0.2.2.2.2.1.length : Nat) : Int) + ((([(r2.2.1, (([] : List Word), ()))] : List Writer).length : Nat) : Int)) ≤ lim then some ((a0.1, (a0.2.1, (a0.2.2.1, (r2.1, ((a0.2.2.2.2.1 ++ ([(r2.2.1, (([] : List Word), ()))] : List Writer)), (([] : List Mend), a0.2.2.2.2.2.2)))))), (0 : Int))
    else none)
  else some (a0, (4 : Int))
/-! spec.l13Writer -/
noncomputable def spec_l13Writer.f (a0 : World) (a1 : Int) : Option (Bool) := (spec_l1In.f a1 (0 : Int) (wrap64 (((a0.2.2.2.2.1.length : Nat) : Int) - (1 : Int)))).bind fun r1 =>
  some r1
/-! spec.WriterAdd -/
noncomputable def spec_WriterAdd.f (k : Nat) (a0 : Config) (a1 : Writer) (a2 : ByteArray) : Option (Writer × Int × Bool) := (spec_WriterOk.f k a0 a1).bind fun r1 =>
  if r1 = true then ((spec_l8Copy.f k a1).bind fun r2 =>
    if (((r2.2.1.length : Nat) : Int) + ((([(a2, (([] : List Int), (false, ())))] : List Word).length : Nat) : Int)) ≤ lim then ((spec_WriterOk.f k a0 (r2.1, ((r2.2.1 ++ ([(a2, (([] : List Int), (false, ())))] : List Word)), r2.2.2))).bind fun r3 =>
      if r3 = true then some ((r2.1, ((r2.2.1 ++ ([(a2, (([] : List Int), (false, ())))] : List Word)), r2.2.2)), (((r2.2.1 ++ ([(a2, (([] : List Int), (false, ())))] : List Word)).length : Nat) : Int), true)
      else (spec_l8Copy.f k a1).bind fun r4 =>
      some (r4, (0 : Int), false))
    else none)
  else some (((0 : Int), (([] : List Word), ())), (0 : Int), false)
/-! spec.l1Place -/
noncomputable def spec_l1Place.f (a0 : Int) (a1 : Int) : Option (Int) := some (wrap64 ((wrap64 ((4294967296 : Int) * a0)) + a1))
/-! spec.l13Add -/
mutual
noncomputable def spec_l13Add.p19 : Nat → Int → World → World → Sent → Option (World × Int)
  | 0, _, _, _, _ => none
  | k + 1, x0, x1, x2, x3 => if x0 < ((x1.2.2.2.2.2.2.2.1.length : Nat) : Int) then (if (0 : Int) ≤ x0 ∧ x0 < ((x1.2.2.2.2.2.2.2.1.length : Nat) : Int) then (if (x1.2.2.2.2.2.2.2.1.getD x0.toNat ((0 : Int), ((⟨#[]⟩ : ByteArray), (false, ())))).1 = x3.1 then some (x1, (4 : Int))
        else spec_l13Add.p19 k (wrap64 (x0 + (1 : Int))) x1 x2 x3)
      else none)
    else spec_l13Add.p33 k ([] : List Sent) false (0 : Int) x1 x2 x3
noncomputable def spec_l13Add.p33 : Nat → (List Sent) → Bool → Int → World → World → Sent → Option (World × Int)
  | 0, _, _, _, _, _, _ => none
  | k + 1, x0, x1, x2, x3, x4, x5 => if x2 < ((x3.2.2.2.2.2.2.2.1.length : Nat) : Int) then (if x1 = true then (if (0 : Int) ≤ x2 ∧ x2 < ((x3.2.2.2.2.2.2.2.1.length : Nat) : Int) then (if (((x0.length : Nat) : Int) + ((([(x3.2.2.2.2.2.2.2.1.getD x2.toNat ((0 : Int), ((⟨#[]⟩ : ByteArray), (false, ()))))] : List Sent).length : Nat) : Int)) ≤ lim then spec_l13Add.p33 k (x0 ++ ([(x3.2.2.2.2.2.2.2.1.getD x2.toNat ((0 : Int), ((⟨#[]⟩ : ByteArray), (false, ()))))] : List Sent)) x1 (wrap64 (x2 + (1 : Int))) x3 x4 x5
          else none)
        else none)
      else if (0 : Int) ≤ x2 ∧ x2 < ((x3.2.2.2.2.2.2.2.1.length : Nat) : Int) then (if x5.1 < (x3.2.2.2.2.2.2.2.1.getD x2.toNat ((0 : Int), ((⟨#[]⟩ : ByteArray), (false, ())))).1 then (if (((x0.length : Nat) : Int) + ((([x5] : List Sent).length : Nat) : Int)) ≤ lim then (if (0 : Int) ≤ x2 ∧ x2 < ((x3.2.2.2.2.2.2.2.1.length : Nat) : Int) then (if ((((x0 ++ ([x5] : List Sent)).length : Nat) : Int) + ((([(x3.2.2.2.2.2.2.2.1.getD x2.toNat ((0 : Int), ((⟨#[]⟩ : ByteArray), (false, ()))))] : List Sent).length : Nat) : Int)) ≤ lim then spec_l13Add.p33 k ((x0 ++ ([x5] : List Sent)) ++ ([(x3.2.2.2.2.2.2.2.1.getD x2.toNat ((0 : Int), ((⟨#[]⟩ : ByteArray), (false, ()))))] : List Sent)) true (wrap64 (x2 + (1 : Int))) x3 x4 x5
              else none)
            else none)
          else none)
        else if (0 : Int) ≤ x2 ∧ x2 < ((x3.2.2.2.2.2.2.2.1.length : Nat) : Int) then (if (((x0.length : Nat) : Int) + ((([(x3.2.2.2.2.2.2.2.1.getD x2.toNat ((0 : Int), ((⟨#[]⟩ : ByteArray), (false, ()))))] : List Sent).length : Nat) : Int)) ≤ lim then spec_l13Add.p33 k (x0 ++ ([(x3.2.2.2.2.2.2.2.1.getD x2.toNat ((0 : Int), ((⟨#[]⟩ : ByteArray), (false, ()))))] : List Sent)) x1 (wrap64 (x2 + (1 : Int))) x3 x4 x5
          else none)
        else none)
      else none)
    else if x1 = true then some ((x3.1, (x3.2.1, (x3.2.2.1, (x3.2.2.2.1, (x3.2.2.2.2.1, (x3.2.2.2.2.2.1, (x3.2.2.2.2.2.2.1, (x0, x3.2.2.2.2.2.2.2.2)))))))), (0 : Int))
    else if (((x0.length : Nat) : Int) + ((([x5] : List Sent).length : Nat) : Int)) ≤ lim then some ((x3.1, (x3.2.1, (x3.2.2.1, (x3.2.2.2.1, (x3.2.2.2.2.1, (x3.2.2.2.2.2.1, (x3.2.2.2.2.2.2.1, ((x0 ++ ([x5] : List Sent)), x3.2.2.2.2.2.2.2.2)))))))), (0 : Int))
    else none
end
noncomputable def spec_l13Add.f (k : Nat) (a0 : World) (a1 : Deed) : Option (World × Int) := (spec_l13Writer.f a0 a1.2.1).bind fun r1 =>
  if r1 = true then (if (0 : Int) ≤ a1.2.1 ∧ a1.2.1 < ((a0.2.2.2.2.1.length : Nat) : Int) then ((spec_WriterAdd.f k a0.1 (a0.2.2.2.2.1.getD a1.2.1.toNat ((0 : Int), (([] : List Word), ()))) a1.2.2.2.2.1).bind fun r2 =>
      if r2.2.2 = true then (if ((a0.2.2.2.2.2.2.2.1.length : Nat) : Int) = (120 : Int) then some (a0, (4 : Int))
        else if (0 : Int) ≤ a1.2.1 ∧ a1.2.1 < ((a0.2.2.2.2.1.length : Nat) : Int) then ((spec_l1Place.f r2.1.1 r2.2.1).bind fun r3 =>
          spec_l13Add.p19 k (0 : Int) (a0.1, (a0.2.1, (a0.2.2.1, (a0.2.2.2.1, ((a0.2.2.2.2.1.set a1.2.1.toNat r2.1), a0.2.2.2.2.2))))) ((([] : List Int), ((0 : Int), ())), (([] : List Store), (([] : List Int), ((([] : List Era), ((0 : Int), ())), (([] : List Writer), (([] : List Mend), (([] : List Reader), (([] : List Sent), (false, ()))))))))) (r3, (a1.2.2.2.2.1, (false, ()))))
        else none)
      else some (a0, (4 : Int)))
    else none)
  else some (a0, (2 : Int))
/-! spec.l13Node -/
noncomputable def spec_l13Node.f (k : Nat) (a0 : World) (a1 : Int) : Option (Int) := (spec_l1In.f a1 (0 : Int) (wrap64 (((a0.2.1.length : Nat) : Int) - (1 : Int)))).bind fun r1 =>
  if r1 = true then ((spec_l4Has.f k a0.2.2.1 a1).bind fun r2 =>
    if r2 = true then some (3 : Int)
    else some (0 : Int))
  else some (2 : Int)
/-! spec.l6Takes -/
noncomputable def spec_l6Takes.f (a0 : Store) (a1 : Entry) : Option (Bool) := if a1.2.1 = (0 : Int) then ((spec_EpochOf.f a1.1).bind fun r1 =>
    some (decide (a0.2.2.1 < r1)))
  else some (decide (a0.2.2.1 < a1.2.1))
/-! spec.StorePut -/
noncomputable def spec_StorePut.f (k : Nat) (a0 : Store) (a1 : Entry) : Option (Store × Bool) := (spec_StoreOk.f k a0).bind fun r1 =>
  if r1 = true then ((spec_l6Copy.f a0).bind fun r2 =>
    (spec_EntryOk.f k a1).bind fun r3 =>
    if r3 = true then ((spec_l6Takes.f a0 a1).bind fun r4 =>
      if r4 = true then (if ((a0.2.1.length : Nat) : Int) = (20 : Int) then some (r2, false)
        else if (((r2.2.1.length : Nat) : Int) + ((([a1] : List Entry).length : Nat) : Int)) ≤ lim then some ((r2.1, ((r2.2.1 ++ ([a1] : List Entry)), r2.2.2)), true)
        else none)
      else some (r2, false))
    else some (r2, false))
  else some ((([] : List Entry), (([] : List Entry), ((0 : Int), ()))), false)
/-! spec.l13Store -/
noncomputable def spec_l13Store.f (k : Nat) (a0 : World) (a1 : Deed) : Option (World × Int) := (spec_l13Writer.f a0 a1.2.1).bind fun r1 =>
  if r1 = true then (if (0 : Int) ≤ a1.2.1 ∧ a1.2.1 < ((a0.2.2.2.2.1.length : Nat) : Int) then ((spec_l1In.f a1.2.2.1 (1 : Int) (((a0.2.2.2.2.1.getD a1.2.1.toNat ((0 : Int), (([] : List Word), ()))).2.1.length : Nat) : Int)).bind fun r2 =>
      if r2 = true then ((spec_l13Node.f k a0 a1.2.2.2.1).bind fun r3 =>
        if r3 = (0 : Int) then ((spec_EraNodes.f a0.2.2.2.1 (a0.2.2.2.2.1.getD a1.2.1.toNat ((0 : Int), (([] : List Word), ()))).1).bind fun r4 =>
          (spec_l4Has.f k r4 a1.2.2.2.1).bind fun r5 =>
          if r5 = true then (if (0 : Int) ≤ a1.2.2.2.1 ∧ a1.2.2.2.1 < ((a0.2.1.length : Nat) : Int) then ((spec_l1Place.f (a0.2.2.2.2.1.getD a1.2.1.toNat ((0 : Int), (([] : List Word), ()))).1 a1.2.2.1).bind fun r6 =>
              if (0 : Int) ≤ (wrap64 (a1.2.2.1 - (1 : Int))) ∧ (wrap64 (a1.2.2.1 - (1 : Int))) < (((a0.2.2.2.2.1.getD a1.2.1.toNat ((0 : Int), (([] : List Word), ()))).2.1.length : Nat) : Int) then ((spec_StorePut.f k (a0.2.1.getD a1.2.2.2.1.toNat (([] : List Entry), (([] : List Entry), ((0 : Int), ())))) (r6, ((0 : Int), (false, (((a0.2.2.2.2.1.getD a1.2.1.toNat ((0 : Int), (([] : List Word), ()))).2.1.getD (wrap64 (a1.2.2.1 - (1 : Int))).toNat ((⟨#[]⟩ : ByteArray), (([] : List Int), (false, ())))).1, ()))))).bind fun r7 =>
                if r7.2 = true then (if (0 : Int) ≤ a1.2.2.2.1 ∧ a1.2.2.2.1 < ((a0.2.1.length : Nat) : Int) then some ((a0.1, ((a0.2.1.set a1.2.2.2.1.toNat r7.1), a0.2.2)), (0 : Int))
                  else none)
                else some (a0, (4 : Int)))
              else none)
            else none)
          else some (a0, (2 : Int)))
        else some (a0, r3))
      else some (a0, (2 : Int)))
    else none)
  else some (a0, (2 : Int))
/-! spec.Better -/
noncomputable def spec_Better.f (a0 : Entry) (a1 : Entry) : Option (Entry) := if a0.2.1 < a1.2.1 then some a1
  else some a0
/-! spec.l6Keep -/
mutual
noncomputable def spec_l6Keep.p9 : Nat → (List Entry) → (List Entry) → Bool → Int → Entry → Option ((List Entry))
  | 0, _, _, _, _, _ => none
  | k + 1, x0, x1, x2, x3, x4 => if x3 < ((x0.length : Nat) : Int) then (if x2 = true then spec_l6Keep.p18 k x0 x1 x2 x3 x4
      else if (0 : Int) ≤ x3 ∧ x3 < ((x0.length : Nat) : Int) then (if (x0.getD x3.toNat ((0 : Int), ((0 : Int), (false, ((⟨#[]⟩ : ByteArray), ()))))).1 = x4.1 then (if (0 : Int) ≤ x3 ∧ x3 < ((x0.length : Nat) : Int) then ((spec_Better.f (x0.getD x3.toNat ((0 : Int), ((0 : Int), (false, ((⟨#[]⟩ : ByteArray), ()))))) x4).bind fun r1 =>
            if (((x1.length : Nat) : Int) + ((([r1] : List Entry).length : Nat) : Int)) ≤ lim then spec_l6Keep.p9 k x0 (x1 ++ ([r1] : List Entry)) true (wrap64 (x3 + (1 : Int))) x4
            else none)
          else none)
        else spec_l6Keep.p18 k x0 x1 x2 x3 x4)
      else none)
    else if x2 = true then some x1
    else if (((x1.length : Nat) : Int) + ((([x4] : List Entry).length : Nat) : Int)) ≤ lim then some (x1 ++ ([x4] : List Entry))
    else none
noncomputable def spec_l6Keep.p18 : Nat → (List Entry) → (List Entry) → Bool → Int → Entry → Option ((List Entry))
  | 0, _, _, _, _, _ => none
  | k + 1, x0, x1, x2, x3, x4 => if x2 = true then (if (0 : Int) ≤ x3 ∧ x3 < ((x0.length : Nat) : Int) then (if (((x1.length : Nat) : Int) + ((([(x0.getD x3.toNat ((0 : Int), ((0 : Int), (false, ((⟨#[]⟩ : ByteArray), ())))))] : List Entry).length : Nat) : Int)) ≤ lim then spec_l6Keep.p9 k x0 (x1 ++ ([(x0.getD x3.toNat ((0 : Int), ((0 : Int), (false, ((⟨#[]⟩ : ByteArray), ())))))] : List Entry)) x2 (wrap64 (x3 + (1 : Int))) x4
        else none)
      else none)
    else if (0 : Int) ≤ x3 ∧ x3 < ((x0.length : Nat) : Int) then (if x4.1 < (x0.getD x3.toNat ((0 : Int), ((0 : Int), (false, ((⟨#[]⟩ : ByteArray), ()))))).1 then (if (((x1.length : Nat) : Int) + ((([x4] : List Entry).length : Nat) : Int)) ≤ lim then (if (0 : Int) ≤ x3 ∧ x3 < ((x0.length : Nat) : Int) then (if ((((x1 ++ ([x4] : List Entry)).length : Nat) : Int) + ((([(x0.getD x3.toNat ((0 : Int), ((0 : Int), (false, ((⟨#[]⟩ : ByteArray), ())))))] : List Entry).length : Nat) : Int)) ≤ lim then spec_l6Keep.p9 k x0 ((x1 ++ ([x4] : List Entry)) ++ ([(x0.getD x3.toNat ((0 : Int), ((0 : Int), (false, ((⟨#[]⟩ : ByteArray), ())))))] : List Entry)) true (wrap64 (x3 + (1 : Int))) x4
            else none)
          else none)
        else none)
      else if (0 : Int) ≤ x3 ∧ x3 < ((x0.length : Nat) : Int) then (if (((x1.length : Nat) : Int) + ((([(x0.getD x3.toNat ((0 : Int), ((0 : Int), (false, ((⟨#[]⟩ : ByteArray), ())))))] : List Entry).length : Nat) : Int)) ≤ lim then spec_l6Keep.p9 k x0 (x1 ++ ([(x0.getD x3.toNat ((0 : Int), ((0 : Int), (false, ((⟨#[]⟩ : ByteArray), ())))))] : List Entry)) x2 (wrap64 (x3 + (1 : Int))) x4
        else none)
      else none)
    else none
end
noncomputable def spec_l6Keep.f (k : Nat) (a0 : (List Entry)) (a1 : Entry) : Option ((List Entry)) := spec_l6Keep.p9 k a0 ([] : List Entry) false (0 : Int) a1
/-! spec.StoreCrash -/
noncomputable def spec_StoreCrash.p11 : Nat → Int → Int → Store → Store → Store → Option (Store × Bool)
  | 0, _, _, _, _, _ => none
  | k + 1, x0, x1, x2, x3, x4 => if x1 < ((x2.2.1.length : Nat) : Int) then (if (0 : Int) ≤ x1 then (if (andK .i64 (shrK .i64 x0 x1) (1 : Int)) = (1 : Int) then (if (0 : Int) ≤ x1 ∧ x1 < ((x2.2.1.length : Nat) : Int) then ((spec_l6Keep.f k x4.1 (x2.2.1.getD x1.toNat ((0 : Int), ((0 : Int), (false, ((⟨#[]⟩ : ByteArray), ())))))).bind fun r2 =>
            spec_StoreCrash.p11 k x0 (wrap64 (x1 + (1 : Int))) x2 x3 (r2, x4.2))
          else none)
        else spec_StoreCrash.p11 k x0 (wrap64 (x1 + (1 : Int))) x2 x3 x4)
      else none)
    else (spec_l1In.f x0 (0 : Int) (1048575 : Int)).bind fun r3 =>
    if r3 = true then (if (200 : Int) < ((x4.1.length : Nat) : Int) then ((spec_l6Copy.f x2).bind fun r4 =>
        some (r4, false))
      else some (x4, true))
    else (spec_l6Copy.f x2).bind fun r5 =>
    some (r5, false)
noncomputable def spec_StoreCrash.f (k : Nat) (a0 : Store) (a1 : Int) : Option (Store × Bool) := (spec_StoreOk.f k a0).bind fun r1 =>
  if r1 = true then (if (((([] : List Entry).length : Nat) : Int) + ((a0.1.length : Nat) : Int)) ≤ lim then spec_StoreCrash.p11 k a1 (0 : Int) a0 (([] : List Entry), (([] : List Entry), ((0 : Int), ()))) ((([] : List Entry) ++ a0.1), (([] : List Entry), (a0.2.2.1, ())))
    else none)
  else some ((([] : List Entry), (([] : List Entry), ((0 : Int), ()))), false)
/-! spec.StoreSync -/
noncomputable def spec_StoreSync.f (k : Nat) (a0 : Store) : Option (Store × Bool) := (spec_StoreCrash.f k a0 (1048575 : Int)).bind fun r1 =>
  some (r1.1, r1.2)
/-! spec.l6Get -/
noncomputable def spec_l6Get.p5 : Nat → (List Entry) → Int → Int → Entry → Option (Entry × Bool)
  | 0, _, _, _, _ => none
  | k + 1, x0, x1, x2, x3 => if x2 < ((x0.length : Nat) : Int) then (if (0 : Int) ≤ x2 ∧ x2 < ((x0.length : Nat) : Int) then (if (x0.getD x2.toNat ((0 : Int), ((0 : Int), (false, ((⟨#[]⟩ : ByteArray), ()))))).1 = x1 then (if (0 : Int) ≤ x2 ∧ x2 < ((x0.length : Nat) : Int) then some ((x0.getD x2.toNat ((0 : Int), ((0 : Int), (false, ((⟨#[]⟩ : ByteArray), ()))))), true)
          else none)
        else spec_l6Get.p5 k x0 x1 (wrap64 (x2 + (1 : Int))) x3)
      else none)
    else some (((0 : Int), ((0 : Int), (false, ((⟨#[]⟩ : ByteArray), ())))), false)
noncomputable def spec_l6Get.f (k : Nat) (a0 : (List Entry)) (a1 : Int) : Option (Entry × Bool) := spec_l6Get.p5 k a0 a1 (0 : Int) ((0 : Int), ((0 : Int), (false, ((⟨#[]⟩ : ByteArray), ()))))
/-! spec.WriterAck -/
noncomputable def spec_WriterAck.f (k : Nat) (a0 : Config) (a1 : Writer) (a2 : Int) (a3 : Int) : Option (Writer × Bool) := (spec_WriterOk.f k a0 a1).bind fun r1 =>
  if r1 = true then ((spec_l8Copy.f k a1).bind fun r2 =>
    (spec_l1In.f a2 (1 : Int) ((a1.2.1.length : Nat) : Int)).bind fun r3 =>
    if r3 = true then ((spec_l1In.f a3 (0 : Int) (wrap64 (((a0.1.length : Nat) : Int) - (1 : Int)))).bind fun r4 =>
      if r4 = true then (if (0 : Int) ≤ (wrap64 (a2 - (1 : Int))) ∧ (wrap64 (a2 - (1 : Int))) < ((a1.2.1.length : Nat) : Int) then (if (a1.2.1.getD (wrap64 (a2 - (1 : Int))).toNat ((⟨#[]⟩ : ByteArray), (([] : List Int), (false, ())))).2.2.1 = true then some (r2, false)
          else if (0 : Int) ≤ (wrap64 (a2 - (1 : Int))) ∧ (wrap64 (a2 - (1 : Int))) < ((r2.2.1.length : Nat) : Int) then ((spec_l4Put.f k (r2.2.1.getD (wrap64 (a2 - (1 : Int))).toNat ((⟨#[]⟩ : ByteArray), (([] : List Int), (false, ())))).2.1 a3).bind fun r5 =>
            if (0 : Int) ≤ (wrap64 (a2 - (1 : Int))) ∧ (wrap64 (a2 - (1 : Int))) < ((r2.2.1.length : Nat) : Int) then (if (0 : Int) ≤ (wrap64 (a2 - (1 : Int))) ∧ (wrap64 (a2 - (1 : Int))) < (((r2.2.1.set (wrap64 (a2 - (1 : Int))).toNat ((r2.2.1.getD (wrap64 (a2 - (1 : Int))).toNat ((⟨#[]⟩ : ByteArray), (([] : List Int), (false, ())))).1, (r5, (r2.2.1.getD (wrap64 (a2 - (1 : Int))).toNat ((⟨#[]⟩ : ByteArray), (([] : List Int), (false, ())))).2.2))).length : Nat) : Int) then ((spec_Holds.f k a0 ((r2.2.1.set (wrap64 (a2 - (1 : Int))).toNat ((r2.2.1.getD (wrap64 (a2 - (1 : Int))).toNat ((⟨#[]⟩ : ByteArray), (([] : List Int), (false, ())))).1, (r5, (r2.2.1.getD (wrap64 (a2 - (1 : Int))).toNat ((⟨#[]⟩ : ByteArray), (([] : List Int), (false, ())))).2.2))).getD (wrap64 (a2 - (1 : Int))).toNat ((⟨#[]⟩ : ByteArray), (([] : List Int), (false, ())))).2.1).bind fun r6 =>
                if (0 : Int) ≤ (wrap64 (a2 - (1 : Int))) ∧ (wrap64 (a2 - (1 : Int))) < (((r2.2.1.set (wrap64 (a2 - (1 : Int))).toNat ((r2.2.1.getD (wrap64 (a2 - (1 : Int))).toNat ((⟨#[]⟩ : ByteArray), (([] : List Int), (false, ())))).1, (r5, (r2.2.1.getD (wrap64 (a2 - (1 : Int))).toNat ((⟨#[]⟩ : ByteArray), (([] : List Int), (false, ())))).2.2))).length : Nat) : Int) then some ((r2.1, (((r2.2.1.set (wrap64 (a2 - (1 : Int))).toNat ((r2.2.1.getD (wrap64 (a2 - (1 : Int))).toNat ((⟨#[]⟩ : ByteArray), (([] : List Int), (false, ())))).1, (r5, (r2.2.1.getD (wrap64 (a2 - (1 : Int))).toNat ((⟨#[]⟩ : ByteArray), (([] : List Int), (false, ())))).2.2))).set (wrap64 (a2 - (1 : Int))).toNat (((r2.2.1.set (wrap64 (a2 - (1 : Int))).toNat ((r2.2.1.getD (wrap64 (a2 - (1 : Int))).toNat ((⟨#[]⟩ : ByteArray), (([] : List Int), (false, ())))).1, (r5, (r2.2.1.getD (wrap64 (a2 - (1 : Int))).toNat ((⟨#[]⟩ : ByteArray), (([] : List Int), (false, ())))).2.2))).getD (wrap64 (a2 - (1 : Int))).toNat ((⟨#[]⟩ : ByteArray), (([] : List Int), (false, ())))).1, (((r2.2.1.set (wrap64 (a2 - (1 : Int))).toNat ((r2.2.1.getD (wrap64 (a2 - (1 : Int))).toNat ((⟨#[]⟩ : ByteArray), (([] : List Int), (false, ())))).1, (r5, (r2.2.1.getD (wrap64 (a2 - (1 : Int))).toNat ((⟨#[]⟩ : ByteArray), (([] : List Int), (false, ())))).2.2))).getD (wrap64 (a2 - (1 : Int))).toNat ((⟨#[]⟩ : ByteArray), (([] : List Int), (false, ())))).2.1, (r6, ((r2.2.1.set (wrap64 (a2 - (1 : Int))).toNat ((r2.2.1.getD (wrap64 (a2 - (1 : Int))).toNat ((⟨#[]⟩ : ByteArray), (([] : List Int), (false, ())))).1, (r5, (r2.2.1.getD (wrap64 (a2 - (1 : Int))).toNat ((⟨#[]⟩ : ByteArray), (([] : List Int), (false, ())))).2.2))).getD (wrap64 (a2 - (1 : Int))).toNat ((⟨#[]⟩ : ByteArray), (([] : List Int), (false, ())))).2.2.2)))), r2.2.2)), true)
                else none)
              else none)
            else none)
          else none)
        else none)
      else some (r2, false))
    else some (r2, false))
  else some (((0 : Int), (([] : List Word), ())), false)
/-! spec.PlaceMake -/
noncomputable def spec_PlaceMake.f (a0 : Int) (a1 : Int) : Option (Int × Bool) := (spec_l1In.f a0 (1 : Int) (30 : Int)).bind fun r1 =>
  if r1 = true then ((spec_l1In.f a1 (1 : Int) (60 : Int)).bind fun r2 =>
    if r2 = true then some ((wrap64 ((wrap64 ((4294967296 : Int) * a0)) + a1)), true)
    else some ((0 : Int), false))
  else some ((0 : Int), false)
/-! spec.MendEntry -/
noncomputable def spec_MendEntry.f (k : Nat) (a0 : Mend) (a1 : Int) : Option (Entry × Bool) := (spec_PlaceMake.f a0.2.1 a1).bind fun r1 =>
  if a0.2.2.2.2.1 = true then (if r1.2 = true then (if ((a0.2.2.2.2.2.1.length : Nat) : Int) < a1 then some (((0 : Int), ((0 : Int), (false, ((⟨#[]⟩ : ByteArray), ())))), false)
      else (spec_l6Get.f k a0.2.2.2.1 r1.1).bind fun r2 =>
      if r2.2 = true then some ((r1.1, (a0.1, (r2.1.2.2.1, (r2.1.2.2.2.1, ())))), true)
      else some ((r1.1, (a0.1, (true, ((⟨#[]⟩ : ByteArray), ())))), true))
    else some (((0 : Int), ((0 : Int), (false, ((⟨#[]⟩ : ByteArray), ())))), false))
  else some (((0 : Int), ((0 : Int), (false, ((⟨#[]⟩ : ByteArray), ())))), false)
/-! spec.MendAck -/
noncomputable def spec_MendAck.f (k : Nat) (a0 : Config) (a1 : Mend) (a2 : Int) (a3 : Int) : Option (Mend × Bool) := (spec_MendOk.f k a0 a1).bind fun r1 =>
  if r1 = true then ((spec_l9Copy.f k a1).bind fun r2 =>
    (spec_l1In.f a2 (1 : Int) ((a1.2.2.2.2.2.1.length : Nat) : Int)).bind fun r3 =>
    if r3 = true then ((spec_l1In.f a3 (0 : Int) (wrap64 (((a0.1.length : Nat) : Int) - (1 : Int)))).bind fun r4 =>
      if r4 = true then (if (0 : Int) ≤ (wrap64 (a2 - (1 : Int))) ∧ (wrap64 (a2 - (1 : Int))) < ((r2.2.2.2.2.2.1.length : Nat) : Int) then ((spec_l4Put.f k (r2.2.2.2.2.2.1.getD (wrap64 (a2 - (1 : Int))).toNat ([] : List Int)) a3).bind fun r5 =>
          if (0 : Int) ≤ (wrap64 (a2 - (1 : Int))) ∧ (wrap64 (a2 - (1 : Int))) < ((r2.2.2.2.2.2.1.length : Nat) : Int) then some ((r2.1, (r2.2.1, (r2.2.2.1, (r2.2.2.2.1, (r2.2.2.2.2.1, ((r2.2.2.2.2.2.1.set (wrap64 (a2 - (1 : Int))).toNat r5), r2.2.2.2.2.2.2)))))), true)
          else none)
        else none)
      else some (r2, false))
    else some (r2, false))
  else some (((0 : Int), ((0 : Int), (([] : List Int), (([] : List Entry), (false, (([] : List (List Int)), ())))))), false)
/-! spec.l13Tell -/
mutual
noncomputable def spec_l13Tell.p7 : Nat → Int → Int → World → World → Store → Option (World)
  | 0, _, _, _, _, _ => none
  | k + 1, x0, x1, x2, x3, x4 => if x1 < ((x2.2.2.2.2.1.length : Nat) : Int) then (if (0 : Int) ≤ x1 ∧ x1 < ((x2.2.2.2.2.1.length : Nat) : Int) then ((spec_EraNodes.f x2.2.2.2.1 (x2.2.2.2.2.1.getD x1.toNat ((0 : Int), (([] : List Word), ()))).1).bind fun r1 =>
        (spec_l4Has.f k r1 x0).bind fun r2 =>
        if r2 = true then (if (x2.2.2.2.2.1.getD x1.toNat ((0 : Int), (([] : List Word), ()))).1 ≤ x4.2.2.1 then spec_l13Tell.p7 k x0 (wrap64 (x1 + (1 : Int))) x2 x3 x4
          else spec_l13Tell.p17 k x0 x1 (1 : Int) x4.2.2.1 (x2.2.2.2.2.1.getD x1.toNat ((0 : Int), (([] : List Word), ()))).1 (decide ((x2.2.2.2.2.1.getD x1.toNat ((0 : Int), (([] : List Word), ()))).1 ≤ x4.2.2.1)) x2 x3 x4 (x2.2.2.2.2.1.getD x1.toNat ((0 : Int), (([] : List Word), ()))))
        else spec_l13Tell.p7 k x0 (wrap64 (x1 + (1 : Int))) x2 x3 x4)
      else none)
    else spec_l13Tell.p43 k x0 (0 : Int) x2 x3 x4
noncomputable def spec_l13Tell.p17 : Nat → Int → Int → Int → Int → Int → Bool → World → World → Store → Writer → Option (World)
  | 0, _, _, _, _, _, _, _, _, _, _ => none
  | k + 1, x0, x1, x2, x3, x4, x5, x6, x7, x8, x9 => if x2 ≤ ((x9.2.1.length : Nat) : Int) then ((spec_l1Place.f x9.1 x2).bind fun r3 =>
      (spec_l6Get.f k x8.1 r3).bind fun r4 =>
      if r4.2 = true then (if r4.1.2.1 = (0 : Int) then (if (0 : Int) ≤ (wrap64 (x2 - (1 : Int))) ∧ (wrap64 (x2 - (1 : Int))) < ((x9.2.1.length : Nat) : Int) then (if (x9.2.1.getD (wrap64 (x2 - (1 : Int))).toNat ((⟨#[]⟩ : ByteArray), (([] : List Int), (false, ())))).2.2.1 = true then spec_l13Tell.p17 k x0 x1 (wrap64 (x2 + (1 : Int))) x3 x4 x5 x6 x7 x8 x9
            else (spec_WriterAck.f k x6.1 x9 x2 x0).bind fun r5 =>
            spec_l13Tell.p17 k x0 x1 (wrap64 (x2 + (1 : Int))) x3 x4 x5 x6 x7 x8 r5.1)
          else none)
        else spec_l13Tell.p17 k x0 x1 (wrap64 (x2 + (1 : Int))) x3 x4 x5 x6 x7 x8 x9)
      else spec_l13Tell.p17 k x0 x1 (wrap64 (x2 + (1 : Int))) x3 x4 x5 x6 x7 x8 x9)
    else if (0 : Int) ≤ x1 ∧ x1 < ((x6.2.2.2.2.1.length : Nat) : Int) then spec_l13Tell.p31 k x0 x1 (0 : Int) x3 x4 x5 (x6.1, (x6.2.1, (x6.2.2.1, (x6.2.2.2.1, ((x6.2.2.2.2.1.set x1.toNat x9), x6.2.2.2.2.2))))) x7 x8 x9
    else none
noncomputable def spec_l13Tell.p31 : Nat → Int → Int → Int → Int → Int → Bool → World → World → Store → Writer → Option (World)
  | 0, _, _, _, _, _, _, _, _, _, _ => none
  | k + 1, x0, x1, x2, x3, x4, x5, x6, x7, x8, x9 => if x2 < ((x6.2.2.2.2.2.2.2.1.length : Nat) : Int) then (if (0 : Int) ≤ x2 ∧ x2 < ((x6.2.2.2.2.2.2.2.1.length : Nat) : Int) then ((spec_EpochOf.f (x6.2.2.2.2.2.2.2.1.getD x2.toNat ((0 : Int), ((⟨#[]⟩ : ByteArray), (false, ())))).1).bind fun r6 =>
        if r6 = x9.1 then ((spec_OffOf.f (x6.2.2.2.2.2.2.2.1.getD x2.toNat ((0 : Int), ((⟨#[]⟩ : ByteArray), (false, ())))).1).bind fun r7 =>
          if r7 ≤ ((x9.2.1.length : Nat) : Int) then ((spec_OffOf.f (x6.2.2.2.2.2.2.2.1.getD x2.toNat ((0 : Int), ((⟨#[]⟩ : ByteArray), (false, ())))).1).bind fun r8 =>
            if (0 : Int) ≤ (wrap64 (r8 - (1 : Int))) ∧ (wrap64 (r8 - (1 : Int))) < ((x9.2.1.length : Nat) : Int) then (if (x9.2.1.getD (wrap64 (r8 - (1 : Int))).toNat ((⟨#[]⟩ : ByteArray), (([] : List Int), (false, ())))).2.2.1 = true then (if (0 : Int) ≤ x2 ∧ x2 < ((x6.2.2.2.2.2.2.2.1.length : Nat) : Int) then spec_l13Tell.p31 k x0 x1 (wrap64 (x2 + (1 : Int))) x3 x4 x5 (x6.1, (x6.2.1, (x6.2.2.1, (x6.2.2.2.1, (x6.2.2.2.2.1, (x6.2.2.2.2.2.1, (x6.2.2.2.2.2.2.1, ((x6.2.2.2.2.2.2.2.1.set x2.toNat ((x6.2.2.2.2.2.2.2.1.getD x2.toNat ((0 : Int), ((⟨#[]⟩ : ByteArray), (false, ())))).1, ((x6.2.2.2.2.2.2.2.1.getD x2.toNat ((0 : Int), ((⟨#[]⟩ : ByteArray), (false, ())))).2.1, (true, (x6.2.2.2.2.2.2.2.1.getD x2.toNat ((0 : Int), ((⟨#[]⟩ : ByteArray), (false, ())))).2.2.2)))), x6.2.2.2.2.2.2.2.2)))))))) x7 x8 x9
                else none)
              else spec_l13Tell.p31 k x0 x1 (wrap64 (x2 + (1 : Int))) x3 x4 x5 x6 x7 x8 x9)
            else none)
          else spec_l13Tell.p31 k x0 x1 (wrap64 (x2 + (1 : Int))) x3 x4 x5 x6 x7 x8 x9)
        else spec_l13Tell.p31 k x0 x1 (wrap64 (x2 + (1 : Int))) x3 x4 x5 x6 x7 x8 x9)
      else none)
    else spec_l13Tell.p7 k x0 (wrap64 (x1 + (1 : Int))) x6 x7 x8
noncomputable def spec_l13Tell.p43 : Nat → Int → Int → World → World → Store → Option (World)
  | 0, _, _, _, _, _ => none
  | k + 1, x0, x1, x2, x3, x4 => if x1 < ((x2.2.2.2.2.2.1.length : Nat) : Int) then (if (0 : Int) ≤ x1 ∧ x1 < ((x2.2.2.2.2.2.1.length : Nat) : Int) then spec_l13Tell.p51 k x0 x1 (1 : Int) x2 x3 x4 (x2.2.2.2.2.2.1.getD x1.toNat ((0 : Int), ((0 : Int), (([] : List Int), (([] : List Entry), (false, (([] : List (List Int)), ())))))))
      else none)
    else some x2
noncomputable def spec_l13Tell.p51 : Nat → Int → Int → Int → World → World → Store → Mend → Option (World)
  | 0, _, _, _, _, _, _, _ => none
  | k + 1, x0, x1, x2, x3, x4, x5, x6 => if (0 : Int) ≤ x1 ∧ x1 < ((x3.2.2.2.2.2.1.length : Nat) : Int) then (if x2 ≤ (((x3.2.2.2.2.2.1.getD x1.toNat ((0 : Int), ((0 : Int), (([] : List Int), (([] : List Entry), (false, (([] : List (List Int)), ()))))))).2.2.2.2.2.1.length : Nat) : Int) then ((spec_EraNodes.f x3.2.2.2.1 x6.2.1).bind fun r9 =>
        (spec_l4Has.f k r9 x0).bind fun r10 =>
        if r10 = true then ((spec_MendEntry.f k x6 x2).bind fun r11 =>
          (spec_l6Get.f k x5.1 r11.1.1).bind fun r12 =>
          if r12.2 = true then (if r12.1 = r11.1 then ((spec_MendAck.f k x3.1 x6 x2 x0).bind fun r13 =>
              spec_l13Tell.p51 k x0 x1 (wrap64 (x2 + (1 : Int))) x3 x4 x5 r13.1)
            else spec_l13Tell.p51 k x0 x1 (wrap64 (x2 + (1 : Int))) x3 x4 x5 x6)
          else spec_l13Tell.p51 k x0 x1 (wrap64 (x2 + (1 : Int))) x3 x4 x5 x6)
        else if (0 : Int) ≤ x1 ∧ x1 < ((x3.2.2.2.2.2.1.length : Nat) : Int) then spec_l13Tell.p43 k x0 (wrap64 (x1 + (1 : Int))) (x3.1, (x3.2.1, (x3.2.2.1, (x3.2.2.2.1, (x3.2.2.2.2.1, ((x3.2.2.2.2.2.1.set x1.toNat x6), x3.2.2.2.2.2.2)))))) x4 x5
        else none)
      else if (0 : Int) ≤ x1 ∧ x1 < ((x3.2.2.2.2.2.1.length : Nat) : Int) then spec_l13Tell.p43 k x0 (wrap64 (x1 + (1 : Int))) (x3.1, (x3.2.1, (x3.2.2.1, (x3.2.2.2.1, (x3.2.2.2.2.1, ((x3.2.2.2.2.2.1.set x1.toNat x6), x3.2.2.2.2.2.2)))))) x4 x5
      else none)
    else none
end
noncomputable def spec_l13Tell.f (k : Nat) (a0 : World) (a1 : Int) : Option (World) := if (0 : Int) ≤ a1 ∧ a1 < ((a0.2.1.length : Nat) : Int) then spec_l13Tell.p7 k a1 (0 : Int) a0 ((([] : List Int), ((0 : Int), ())), (([] : List Store), (([] : List Int), ((([] : List Era), ((0 : Int), ())), (([] : List Writer), (([] : List Mend), (([] : List Reader), (([] : List Sent), (false, ()))))))))) (a0.2.1.getD a1.toNat (([] : List Entry), (([] : List Entry), ((0 : Int), ()))))
  else none
/-! spec.l13Sync -/
noncomputable def spec_l13Sync.f (k : Nat) (a0 : World) (a1 : Deed) : Option (World × Int) := (spec_l13Node.f k a0 a1.2.1).bind fun r1 =>
  if r1 = (0 : Int) then (if (0 : Int) ≤ a1.2.1 ∧ a1.2.1 < ((a0.2.1.length : Nat) : Int) then ((spec_StoreSync.f k (a0.2.1.getD a1.2.1.toNat (([] : List Entry), (([] : List Entry), ((0 : Int), ()))))).bind fun r2 =>
      if r2.2 = true then (if (0 : Int) ≤ a1.2.1 ∧ a1.2.1 < ((a0.2.1.length : Nat) : Int) then ((spec_l13Tell.f k (a0.1, ((a0.2.1.set a1.2.1.toNat r2.1), a0.2.2)) a1.2.1).bind fun r3 =>
          some (r3, (0 : Int)))
        else none)
      else some (a0, (4 : Int)))
    else none)
  else some (a0, r1)
/-! spec.l4Less -/
noncomputable def spec_l4Less.p7 : Nat → (List Int) → (List Int) → (List Int) → Int → Option ((List Int))
  | 0, _, _, _, _ => none
  | k + 1, x0, x1, x2, x3 => if x3 < ((x0.length : Nat) : Int) then (if (0 : Int) ≤ x3 ∧ x3 < ((x0.length : Nat) : Int) then ((spec_l4Has.f k x1 (x0.getD x3.toNat (0 : Int))).bind fun r1 =>
        if r1 = true then spec_l4Less.p7 k x0 x1 x2 (wrap64 (x3 + (1 : Int)))
        else if (0 : Int) ≤ x3 ∧ x3 < ((x0.length : Nat) : Int) then (if (((x2.length : Nat) : Int) + ((([(x0.getD x3.toNat (0 : Int))] : List Int).length : Nat) : Int)) ≤ lim then spec_l4Less.p7 k x0 x1 (x2 ++ ([(x0.getD x3.toNat (0 : Int))] : List Int)) (wrap64 (x3 + (1 : Int)))
          else none)
        else none)
      else none)
    else some x2
noncomputable def spec_l4Less.f (k : Nat) (a0 : (List Int)) (a1 : (List Int)) : Option ((List Int)) := spec_l4Less.p7 k a0 a1 ([] : List Int) (0 : Int)
/-! spec.WriterForget -/
noncomputable def spec_WriterForget.p11 : Nat → Int → Int → Writer → Writer → Option (Writer × Bool)
  | 0, _, _, _, _ => none
  | k + 1, x0, x1, x2, x3 => if x1 < ((x3.2.1.length : Nat) : Int) then (if (0 : Int) ≤ x1 ∧ x1 < ((x3.2.1.length : Nat) : Int) then (if (x3.2.1.getD x1.toNat ((⟨#[]⟩ : ByteArray), (([] : List Int), (false, ())))).2.2.1 = true then spec_WriterForget.p11 k x0 (wrap64 (x1 + (1 : Int))) x2 x3
        else if (0 : Int) ≤ x1 ∧ x1 < ((x3.2.1.length : Nat) : Int) then ((spec_l4Less.f k (x3.2.1.getD x1.toNat ((⟨#[]⟩ : ByteArray), (([] : List Int), (false, ())))).2.1 ([x0] : List Int)).bind fun r3 =>
          if (0 : Int) ≤ x1 ∧ x1 < ((x3.2.1.length : Nat) : Int) then spec_WriterForget.p11 k x0 (wrap64 (x1 + (1 : Int))) x2 (x3.1, ((x3.2.1.set x1.toNat ((x3.2.1.getD x1.toNat ((⟨#[]⟩ : ByteArray), (([] : List Int), (false, ())))).1, (r3, (x3.2.1.getD x1.toNat ((⟨#[]⟩ : ByteArray), (([] : List Int), (false, ())))).2.2))), x3.2.2))
          else none)
        else none)
      else none)
    else some (x3, true)
noncomputable def spec_WriterForget.f (k : Nat) (a0 : Config) (a1 : Writer) (a2 : Int) : Option (Writer × Bool) := (spec_WriterOk.f k a0 a1).bind fun r1 =>
  if r1 = true then ((spec_l8Copy.f k a1).bind fun r2 =>
    spec_WriterForget.p11 k a2 (0 : Int) ((0 : Int), (([] : List Word), ())) r2)
  else some (((0 : Int), (([] : List Word), ())), false)
/-! spec.MendForget -/
noncomputable def spec_MendForget.p11 : Nat → Int → Int → Mend → Mend → Option (Mend × Bool)
  | 0, _, _, _, _ => none
  | k + 1, x0, x1, x2, x3 => if x1 < ((x3.2.2.2.2.2.1.length : Nat) : Int) then (if (0 : Int) ≤ x1 ∧ x1 < ((x3.2.2.2.2.2.1.length : Nat) : Int) then ((spec_l4Less.f k (x3.2.2.2.2.2.1.getD x1.toNat ([] : List Int)) ([x0] : List Int)).bind fun r3 =>
        if (0 : Int) ≤ x1 ∧ x1 < ((x3.2.2.2.2.2.1.length : Nat) : Int) then spec_MendForget.p11 k x0 (wrap64 (x1 + (1 : Int))) x2 (x3.1, (x3.2.1, (x3.2.2.1, (x3.2.2.2.1, (x3.2.2.2.2.1, ((x3.2.2.2.2.2.1.set x1.toNat r3), x3.2.2.2.2.2.2))))))
        else none)
      else none)
    else some (x3, true)
noncomputable def spec_MendForget.f (k : Nat) (a0 : Config) (a1 : Mend) (a2 : Int) : Option (Mend × Bool) := (spec_MendOk.f k a0 a1).bind fun r1 =>
  if r1 = true then ((spec_l9Copy.f k a1).bind fun r2 =>
    spec_MendForget.p11 k a2 (0 : Int) ((0 : Int), ((0 : Int), (([] : List Int), (([] : List Entry), (false, (([] : List (List Int)), ())))))) r2)
  else some (((0 : Int), ((0 : Int), (([] : List Int), (([] : List Entry), (false, (([] : List (List Int)), ())))))), false)
/-! spec.l13Lose -/
mutual
noncomputable def spec_l13Lose.p15 : Nat → Int → World → Deed → World → Option (World × Int)
  | 0, _, _, _, _ => none
  | k + 1, x0, x1, x2, x3 => if x0 < ((x1.2.2.2.2.1.length : Nat) : Int) then (if (0 : Int) ≤ x0 ∧ x0 < ((x1.2.2.2.2.1.length : Nat) : Int) then ((spec_WriterForget.f k x1.1 (x1.2.2.2.2.1.getD x0.toNat ((0 : Int), (([] : List Word), ()))) x2.2.1).bind fun r3 =>
        if (0 : Int) ≤ x0 ∧ x0 < ((x1.2.2.2.2.1.length : Nat) : Int) then spec_l13Lose.p15 k (wrap64 (x0 + (1 : Int))) (x1.1, (x1.2.1, (x1.2.2.1, (x1.2.2.2.1, ((x1.2.2.2.2.1.set x0.toNat r3.1), x1.2.2.2.2.2))))) x2 x3
        else none)
      else none)
    else spec_l13Lose.p23 k (0 : Int) x1 x2 x3
noncomputable def spec_l13Lose.p23 : Nat → Int → World → Deed → World → Option (World × Int)
  | 0, _, _, _, _ => none
  | k + 1, x0, x1, x2, x3 => if x0 < ((x1.2.2.2.2.2.1.length : Nat) : Int) then (if (0 : Int) ≤ x0 ∧ x0 < ((x1.2.2.2.2.2.1.length : Nat) : Int) then ((spec_MendForget.f k x1.1 (x1.2.2.2.2.2.1.getD x0.toNat ((0 : Int), ((0 : Int), (([] : List Int), (([] : List Entry), (false, (([] : List (List Int)), ()))))))) x2.2.1).bind fun r4 =>
        if (0 : Int) ≤ x0 ∧ x0 < ((x1.2.2.2.2.2.1.length : Nat) : Int) then spec_l13Lose.p23 k (wrap64 (x0 + (1 : Int))) (x1.1, (x1.2.1, (x1.2.2.1, (x1.2.2.2.1, (x1.2.2.2.2.1, ((x1.2.2.2.2.2.1.set x0.toNat r4.1), x1.2.2.2.2.2.2)))))) x2 x3
        else none)
      else none)
    else if x1.2.2.2.2.2.2.2.2.1 = true then some ((x1.1, (x1.2.1, (x1.2.2.1, (x1.2.2.2.1, (x1.2.2.2.2.1, (x1.2.2.2.2.2.1, (x1.2.2.2.2.2.2.1, (x1.2.2.2.2.2.2.2.1, (true, x1.2.2.2.2.2.2.2.2.2))))))))), (0 : Int))
    else (spec_Holds.f k x1.1 x1.2.2.1).bind fun r5 =>
    some ((x1.1, (x1.2.1, (x1.2.2.1, (x1.2.2.2.1, (x1.2.2.2.2.1, (x1.2.2.2.2.2.1, (x1.2.2.2.2.2.2.1, (x1.2.2.2.2.2.2.2.1, (r5, x1.2.2.2.2.2.2.2.2.2))))))))), (0 : Int))
end
noncomputable def spec_l13Lose.f (k : Nat) (a0 : World) (a1 : Deed) : Option (World × Int) := (spec_l13Node.f k a0 a1.2.1).bind fun r1 =>
  if r1 = (0 : Int) then (if (0 : Int) ≤ a1.2.1 ∧ a1.2.1 < ((a0.2.1.length : Nat) : Int) then ((spec_l4Put.f k a0.2.2.1 a1.2.1).bind fun r2 =>
      spec_l13Lose.p15 k (0 : Int) (a0.1, ((a0.2.1.set a1.2.1.toNat (([] : List Entry), (([] : List Entry), ((0 : Int), ())))), (r2, a0.2.2.2))) a1 ((([] : List Int), ((0 : Int), ())), (([] : List Store), (([] : List Int), ((([] : List Era), ((0 : Int), ())), (([] : List Writer), (([] : List Mend), (([] : List Reader), (([] : List Sent), (false, ()))))))))))
    else none)
  else some (a0, r1)
/-! spec.LostOk -/
noncomputable def spec_LostOk.f (k : Nat) (a0 : Config) (a1 : (List Int)) : Option (Bool) := (spec_NodesOk.f k a0 a1).bind fun r1 =>
  if r1 = true then ((spec_Holds.f k a0 a1).bind fun r2 =>
    some (!(decide (r2 = true))))
  else some false
/-! spec.l11Union -/
mutual
noncomputable def spec_l11Union.p7 : Nat → (List Store) → (List Entry) → Int → Option ((List Entry))
  | 0, _, _, _ => none
  | k + 1, x0, x1, x2 => if x2 < ((x0.length : Nat) : Int) then spec_l11Union.p13 k x0 x1 x2 (0 : Int)
    else some x1
noncomputable def spec_l11Union.p13 : Nat → (List Store) → (List Entry) → Int → Int → Option ((List Entry))
  | 0, _, _, _, _ => none
  | k + 1, x0, x1, x2, x3 => if (0 : Int) ≤ x2 ∧ x2 < ((x0.length : Nat) : Int) then (if x3 < (((x0.getD x2.toNat (([] : List Entry), (([] : List Entry), ((0 : Int), ())))).1.length : Nat) : Int) then (if (0 : Int) ≤ x2 ∧ x2 < ((x0.length : Nat) : Int) then (if (0 : Int) ≤ x3 ∧ x3 < (((x0.getD x2.toNat (([] : List Entry), (([] : List Entry), ((0 : Int), ())))).1.length : Nat) : Int) then ((spec_l6Keep.f k x1 ((x0.getD x2.toNat (([] : List Entry), (([] : List Entry), ((0 : Int), ())))).1.getD x3.toNat ((0 : Int), ((0 : Int), (false, ((⟨#[]⟩ : ByteArray), ())))))).bind fun r1 =>
            spec_l11Union.p13 k x0 r1 x2 (wrap64 (x3 + (1 : Int))))
          else none)
        else none)
      else spec_l11Union.p7 k x0 x1 (wrap64 (x2 + (1 : Int))))
    else none
end
noncomputable def spec_l11Union.f (k : Nat) (a0 : (List Store)) : Option ((List Entry)) := spec_l11Union.p7 k a0 ([] : List Entry) (0 : Int)
/-! spec.Fill -/
mutual
noncomputable def spec_Fill.p13 : Nat → (List Store) → (List Int) → Int → (List Store) → Int → Store → Store → Option (Store × Bool)
  | 0, _, _, _, _, _, _, _ => none
  | k + 1, x0, x1, x2, x3, x4, x5, x6 => if x4 < ((x0.length : Nat) : Int) then ((spec_l4Has.f k x1 x4).bind fun r4 =>
      if r4 = true then spec_Fill.p13 k x0 x1 x2 x3 (wrap64 (x4 + (1 : Int))) x5 x6
      else if (0 : Int) ≤ x4 ∧ x4 < ((x0.length : Nat) : Int) then (if (((x3.length : Nat) : Int) + ((([(x0.getD x4.toNat (([] : List Entry), (([] : List Entry), ((0 : Int), ()))))] : List Store).length : Nat) : Int)) ≤ lim then spec_Fill.p13 k x0 x1 x2 (x3 ++ ([(x0.getD x4.toNat (([] : List Entry), (([] : List Entry), ((0 : Int), ()))))] : List Store)) (wrap64 (x4 + (1 : Int))) x5 x6
        else none)
      else none)
    else spec_Fill.p23 k x2 x3 (0 : Int) x5 x6
noncomputable def spec_Fill.p23 : Nat → Int → (List Store) → Int → Store → Store → Option (Store × Bool)
  | 0, _, _, _, _, _ => none
  | k + 1, x0, x1, x2, x3, x4 => if x2 < ((x1.length : Nat) : Int) then (if (0 : Int) ≤ x2 ∧ x2 < ((x1.length : Nat) : Int) then ((spec_StoreOk.f k (x1.getD x2.toNat (([] : List Entry), (([] : List Entry), ((0 : Int), ()))))).bind fun r5 =>
        if r5 = true then spec_Fill.p23 k x0 x1 (wrap64 (x2 + (1 : Int))) x3 x4
        else some (x4, false))
      else none)
    else (spec_l11Union.f k x1).bind fun r6 =>
    (spec_StoreOk.f k (r6, (([] : List Entry), (x0, ())))).bind fun r7 =>
    if r7 = true then some ((r6, (([] : List Entry), (x0, ()))), true)
    else some (x4, false)
end
noncomputable def spec_Fill.f (k : Nat) (a0 : Config) (a1 : (List Store)) (a2 : (List Int)) (a3 : Int) (a4 : Int) : Option (Store × Bool) := (spec_ConfigOk.f k a0).bind fun r1 =>
  if r1 = true then (if ((a1.length : Nat) : Int) = ((a0.1.length : Nat) : Int) then ((spec_LostOk.f k a0 a2).bind fun r2 =>
      if r2 = true then ((spec_l4Has.f k a2 a3).bind fun r3 =>
        if r3 = true then spec_Fill.p13 k a1 a2 a4 ([] : List Store) (0 : Int) (([] : List Entry), (([] : List Entry), ((0 : Int), ()))) (([] : List Entry), (([] : List Entry), ((0 : Int), ())))
        else some ((([] : List Entry), (([] : List Entry), ((0 : Int), ()))), false))
      else some ((([] : List Entry), (([] : List Entry), ((0 : Int), ()))), false))
    else some ((([] : List Entry), (([] : List Entry), ((0 : Int), ()))), false))
  else some ((([] : List Entry), (([] : List Entry), ((0 : Int), ()))), false)
/-! spec.l13Fill -/
noncomputable def spec_l13Fill.f (k : Nat) (a0 : World) (a1 : Deed) : Option (World × Int) := (spec_l4Has.f k a0.2.2.1 a1.2.1).bind fun r1 =>
  if r1 = true then ((spec_l1Max.f (wrap64 (((a0.2.2.2.1.1.length : Nat) : Int) - (1 : Int))) (0 : Int)).bind fun r2 =>
    (spec_Fill.f k a0.1 a0.2.1 a0.2.2.1 a1.2.1 r2).bind fun r3 =>
    if r3.2 = true then (if (0 : Int) ≤ a1.2.1 ∧ a1.2.1 < ((a0.2.1.length : Nat) : Int) then ((spec_l4Less.f k a0.2.2.1 ([a1.2.1] : List Int)).bind fun r4 =>
        some ((a0.1, ((a0.2.1.set a1.2.1.toNat r3.1), (r4, a0.2.2.2))), (0 : Int)))
      else none)
    else some (a0, (4 : Int)))
  else some (a0, (2 : Int))
/-! spec.MendNew -/
noncomputable def spec_MendNew.f (a0 : Int) (a1 : Int) : Option (Mend) := some (a1, (a0, (([] : List Int), (([] : List Entry), (false, (([] : List (List Int)), ()))))))
/-! spec.l13Mend -/
noncomputable def spec_l13Mend.f (k : Nat) (a0 : World) : Option (World × Int) := (spec_FirstOpen.f k a0.2.2.2.1).bind fun r1 =>
  if ((a0.2.2.2.1.1.length : Nat) : Int) < (2 : Int) then some (a0, (2 : Int))
  else if r1 = ((a0.2.2.2.1.1.length : Nat) : Int) then some (a0, (2 : Int))
  else if (0 : Int) < ((a0.2.2.2.2.2.1.length : Nat) : Int) then some (a0, (4 : Int))
  else (spec_MendNew.f r1 ((a0.2.2.2.1.1.length : Nat) : Int)).bind fun r2 =>
  some ((a0.1, (a0.2.1, (a0.2.2.1, (a0.2.2.2.1, (a0.2.2.2.2.1, (([r2] : List Mend), a0.2.2.2.2.2.2)))))), (0 : Int))
/-! spec.StoreSeal -/
noncomputable def spec_StoreSeal.f (k : Nat) (a0 : Store) (a1 : Int) : Option (Store × Bool) := (spec_StoreOk.f k a0).bind fun r1 =>
  if r1 = true then ((spec_StoreSync.f k a0).bind fun r2 =>
    if r2.2 = true then ((spec_l1In.f a1 (0 : Int) (30 : Int)).bind fun r3 =>
      if r3 = true then ((spec_l1Max.f r2.1.2.2.1 a1).bind fun r4 =>
        some ((r2.1.1, (r2.1.2.1, (r4, r2.1.2.2.2))), true))
      else (spec_l6Copy.f a0).bind fun r5 =>
      some (r5, false))
    else (spec_l6Copy.f a0).bind fun r6 =>
    some (r6, false))
  else some ((([] : List Entry), (([] : List Entry), ((0 : Int), ()))), false)
/-! spec.StoreEra -/
noncomputable def spec_StoreEra.p7 : Nat → Int → (List Entry) → Int → Store → Option ((List Entry))
  | 0, _, _, _, _ => none
  | k + 1, x0, x1, x2, x3 => if x2 < ((x3.1.length : Nat) : Int) then ((spec_StoreOk.f k x3).bind fun r1 =>
      if r1 = true then (if (0 : Int) ≤ x2 ∧ x2 < ((x3.1.length : Nat) : Int) then ((spec_EpochOf.f (x3.1.getD x2.toNat ((0 : Int), ((0 : Int), (false, ((⟨#[]⟩ : ByteArray), ()))))).1).bind fun r2 =>
          if r2 = x0 then (if (0 : Int) ≤ x2 ∧ x2 < ((x3.1.length : Nat) : Int) then (if (((x1.length : Nat) : Int) + ((([(x3.1.getD x2.toNat ((0 : Int), ((0 : Int), (false, ((⟨#[]⟩ : ByteArray), ())))))] : List Entry).length : Nat) : Int)) ≤ lim then spec_StoreEra.p7 k x0 (x1 ++ ([(x3.1.getD x2.toNat ((0 : Int), ((0 : Int), (false, ((⟨#[]⟩ : ByteArray), ())))))] : List Entry)) (wrap64 (x2 + (1 : Int))) x3
              else none)
            else none)
          else spec_StoreEra.p7 k x0 x1 (wrap64 (x2 + (1 : Int))) x3)
        else none)
      else some x1)
    else some x1
noncomputable def spec_StoreEra.f (k : Nat) (a0 : Store) (a1 : Int) : Option ((List Entry)) := spec_StoreEra.p7 k a1 ([] : List Entry) (0 : Int) a0
/-! spec.MendSeal -/
noncomputable def spec_MendSeal.p13 : Nat → (List Entry) → Int → Config → Mend → Mend → Mend → Option (Mend × Bool)
  | 0, _, _, _, _, _, _ => none
  | k + 1, x0, x1, x2, x3, x4, x5 => if x1 < ((x0.length : Nat) : Int) then (if (0 : Int) ≤ x1 ∧ x1 < ((x0.length : Nat) : Int) then ((spec_EpochOf.f (x0.getD x1.toNat ((0 : Int), ((0 : Int), (false, ((⟨#[]⟩ : ByteArray), ()))))).1).bind fun r4 =>
        if r4 = x3.2.1 then (if (0 : Int) ≤ x1 ∧ x1 < ((x0.length : Nat) : Int) then ((spec_l6Keep.f k x5.2.2.2.1 (x0.getD x1.toNat ((0 : Int), ((0 : Int), (false, ((⟨#[]⟩ : ByteArray), ())))))).bind fun r5 =>
            spec_MendSeal.p13 k x0 (wrap64 (x1 + (1 : Int))) x2 x3 x4 (x5.1, (x5.2.1, (x5.2.2.1, (r5, x5.2.2.2.2)))))
          else none)
        else spec_MendSeal.p13 k x0 (wrap64 (x1 + (1 : Int))) x2 x3 x4 x5)
      else none)
    else if x3.2.2.2.2.1 = true then ((spec_l9Copy.f k x3).bind fun r6 =>
      some (r6, false))
    else (spec_MendOk.f k x2 x5).bind fun r7 =>
    if r7 = true then some (x5, true)
    else (spec_l9Copy.f k x3).bind fun r8 =>
    some (r8, false)
noncomputable def spec_MendSeal.f (k : Nat) (a0 : Config) (a1 : Mend) (a2 : Int) (a3 : (List Entry)) : Option (Mend × Bool) := (spec_MendOk.f k a0 a1).bind fun r1 =>
  if r1 = true then ((spec_l9Copy.f k a1).bind fun r2 =>
    (spec_l4Put.f k r2.2.2.1 a2).bind fun r3 =>
    spec_MendSeal.p13 k a3 (0 : Int) a0 a1 ((0 : Int), ((0 : Int), (([] : List Int), (([] : List Entry), (false, (([] : List (List Int)), ())))))) (r2.1, (r2.2.1, (r3, r2.2.2.2))))
  else some (((0 : Int), ((0 : Int), (([] : List Int), (([] : List Entry), (false, (([] : List (List Int)), ())))))), false)
/-! spec.l13Seal -/
noncomputable def spec_l13Seal.f (k : Nat) (a0 : World) (a1 : Deed) : Option (World × Int) := if ((a0.2.2.2.2.2.1.length : Nat) : Int) = (0 : Int) then some (a0, (2 : Int))
  else if (0 : Int) ≤ (0 : Int) ∧ (0 : Int) < ((a0.2.2.2.2.2.1.length : Nat) : Int) then ((spec_l13Node.f k a0 a1.2.1).bind fun r1 =>
    if r1 = (0 : Int) then ((spec_EraNodes.f a0.2.2.2.1 (a0.2.2.2.2.2.1.getD (0 : Int).toNat ((0 : Int), ((0 : Int), (([] : List Int), (([] : List Entry), (false, (([] : List (List Int)), ()))))))).2.1).bind fun r2 =>
      (spec_l4Has.f k r2 a1.2.1).bind fun r3 =>
      if r3 = true then (if (0 : Int) ≤ a1.2.1 ∧ a1.2.1 < ((a0.2.1.length : Nat) : Int) then ((spec_StoreSeal.f k (a0.2.1.getD a1.2.1.toNat (([] : List Entry), (([] : List Entry), ((0 : Int), ())))) (wrap64 ((a0.2.2.2.2.2.1.getD (0 : Int).toNat ((0 : Int), ((0 : Int), (([] : List Int), (([] : List Entry), (false, (([] : List (List Int)), ()))))))).1 - (1 : Int)))).bind fun r4 =>
          (spec_StoreEra.f k r4.1 (a0.2.2.2.2.2.1.getD (0 : Int).toNat ((0 : Int), ((0 : Int), (([] : List Int), (([] : List Entry), (false, (([] : List (List Int)), ()))))))).2.1).bind fun r5 =>
          (spec_MendSeal.f k a0.1 (a0.2.2.2.2.2.1.getD (0 : Int).toNat ((0 : Int), ((0 : Int), (([] : List Int), (([] : List Entry), (false, (([] : List (List Int)), ()))))))) a1.2.1 r5).bind fun r6 =>
          if r4.2 = true then (if r6.2 = true then (if (0 : Int) ≤ a1.2.1 ∧ a1.2.1 < ((a0.2.1.length : Nat) : Int) then (if (0 : Int) ≤ (0 : Int) ∧ (0 : Int) < ((a0.2.2.2.2.2.1.length : Nat) : Int) then some ((a0.1, ((a0.2.1.set a1.2.1.toNat r4.1), (a0.2.2.1, (a0.2.2.2.1, (a0.2.2.2.2.1, ((a0.2.2.2.2.2.1.set (0 : Int).toNat r6.1), a0.2.2.2.2.2.2)))))), (0 : Int))
                else none)
              else none)
            else some (a0, (4 : Int)))
          else some (a0, (4 : Int)))
        else none)
      else some (a0, (2 : Int)))
    else some (a0, r1))
  else none
/-! spec.l9Both -/
noncomputable def spec_l9Both.f (k : Nat) (a0 : (List Int)) (a1 : (List Int)) : Option ((List Int)) := (spec_l4Less.f k a0 a1).bind fun r1 =>
  (spec_l4Less.f k a0 r1).bind fun r2 =>
  some r2
/-! spec.Enough -/
noncomputable def spec_Enough.f (k : Nat) (a0 : Config) (a1 : (List Int)) (a2 : (List Int)) : Option (Bool) := (spec_Holds.f k a0 a1).bind fun r1 =>
  if r1 = true then ((spec_NodesOk.f k a0 a2).bind fun r2 =>
    if r2 = true then ((spec_l4Less.f k a2 a1).bind fun r3 =>
      if (0 : Int) < ((r3.length : Nat) : Int) then some false
      else (spec_l4Less.f k a1 a2).bind fun r4 =>
      (spec_l4Span.f k a0 r4).bind fun r5 =>
      some (decide (r5 < a0.2.1)))
    else some false)
  else some false
/-! spec.MendPlan -/
noncomputable def spec_MendPlan.p17 : Nat → Int → Mend → Mend → Mend → Option (Mend × Bool)
  | 0, _, _, _, _ => none
  | k + 1, x0, x1, x2, x3 => (spec_l9Last.f x1).bind fun r5 =>
    if x0 < r5 then (if (((x3.2.2.2.2.2.1.length : Nat) : Int) + ((([([] : List Int)] : List (List Int)).length : Nat) : Int)) ≤ lim then spec_MendPlan.p17 k (wrap64 (x0 + (1 : Int))) x1 x2 (x3.1, (x3.2.1, (x3.2.2.1, (x3.2.2.2.1, (x3.2.2.2.2.1, ((x3.2.2.2.2.2.1 ++ ([([] : List Int)] : List (List Int))), x3.2.2.2.2.2.2))))))
      else none)
    else some (x3, true)
noncomputable def spec_MendPlan.f (k : Nat) (a0 : Config) (a1 : Mend) (a2 : (List Int)) : Option (Mend × Bool) := (spec_MendOk.f k a0 a1).bind fun r1 =>
  if r1 = true then ((spec_l9Copy.f k a1).bind fun r2 =>
    if a1.2.2.2.2.1 = true then some (r2, false)
    else (spec_l9Both.f k a1.2.2.1 a2).bind fun r3 =>
    (spec_Enough.f k a0 a2 r3).bind fun r4 =>
    if r4 = true then spec_MendPlan.p17 k (0 : Int) a1 ((0 : Int), ((0 : Int), (([] : List Int), (([] : List Entry), (false, (([] : List (List Int)), ())))))) (r2.1, (r2.2.1, (r2.2.2.1, (r2.2.2.2.1, (true, r2.2.2.2.2.2)))))
    else some (r2, false))
  else some (((0 : Int), ((0 : Int), (([] : List Int), (([] : List Entry), (false, (([] : List (List Int)), ())))))), false)
/-! spec.l13Plan -/
noncomputable def spec_l13Plan.f (k : Nat) (a0 : World) : Option (World × Int) := if ((a0.2.2.2.2.2.1.length : Nat) : Int) = (0 : Int) then some (a0, (2 : Int))
  else if (0 : Int) ≤ (0 : Int) ∧ (0 : Int) < ((a0.2.2.2.2.2.1.length : Nat) : Int) then (if (0 : Int) ≤ (0 : Int) ∧ (0 : Int) < ((a0.2.2.2.2.2.1.length : Nat) : Int) then ((spec_EraNodes.f a0.2.2.2.1 (a0.2.2.2.2.2.1.getD (0 : Int).toNat ((0 : Int), ((0 : Int), (([] : List Int), (([] : List Entry), (false, (([] : List (List Int)), ()))))))).2.1).bind fun r1 =>
      (spec_MendPlan.f k a0.1 (a0.2.2.2.2.2.1.getD (0 : Int).toNat ((0 : Int), ((0 : Int), (([] : List Int), (([] : List Entry), (false, (([] : List (List Int)), ()))))))) r1).bind fun r2 =>
      if r2.2 = true then (if (0 : Int) ≤ (0 : Int) ∧ (0 : Int) < ((a0.2.2.2.2.2.1.length : Nat) : Int) then some ((a0.1, (a0.2.1, (a0.2.2.1, (a0.2.2.2.1, (a0.2.2.2.2.1, ((a0.2.2.2.2.2.1.set (0 : Int).toNat r2.1), a0.2.2.2.2.2.2)))))), (0 : Int))
        else none)
      else some (a0, (4 : Int)))
    else none)
  else none
/-! spec.l13Fix -/
noncomputable def spec_l13Fix.f (k : Nat) (a0 : World) (a1 : Deed) : Option (World × Int) := if ((a0.2.2.2.2.2.1.length : Nat) : Int) = (0 : Int) then some (a0, (2 : Int))
  else if (0 : Int) ≤ (0 : Int) ∧ (0 : Int) < ((a0.2.2.2.2.2.1.length : Nat) : Int) then ((spec_MendEntry.f k (a0.2.2.2.2.2.1.getD (0 : Int).toNat ((0 : Int), ((0 : Int), (([] : List Int), (([] : List Entry), (false, (([] : List (List Int)), ()))))))) a1.2.2.1).bind fun r1 =>
    if r1.2 = true then ((spec_l13Node.f k a0 a1.2.2.2.1).bind fun r2 =>
      if r2 = (0 : Int) then (if (0 : Int) ≤ (0 : Int) ∧ (0 : Int) < ((a0.2.2.2.2.2.1.length : Nat) : Int) then ((spec_EraNodes.f a0.2.2.2.1 (a0.2.2.2.2.2.1.getD (0 : Int).toNat ((0 : Int), ((0 : Int), (([] : List Int), (([] : List Entry), (false, (([] : List (List Int)), ()))))))).2.1).bind fun r3 =>
          (spec_l4Has.f k r3 a1.2.2.2.1).bind fun r4 =>
          if r4 = true then (if (0 : Int) ≤ a1.2.2.2.1 ∧ a1.2.2.2.1 < ((a0.2.1.length : Nat) : Int) then ((spec_StorePut.f k (a0.2.1.getD a1.2.2.2.1.toNat (([] : List Entry), (([] : List Entry), ((0 : Int), ())))) r1.1).bind fun r5 =>
              if r5.2 = true then (if (0 : Int) ≤ a1.2.2.2.1 ∧ a1.2.2.2.1 < ((a0.2.1.length : Nat) : Int) then some ((a0.1, ((a0.2.1.set a1.2.2.2.1.toNat r5.1), a0.2.2)), (0 : Int))
                else none)
              else some (a0, (4 : Int)))
            else none)
          else some (a0, (2 : Int)))
        else none)
      else some (a0, r2))
    else some (a0, (2 : Int)))
  else none
/-! spec.MendReady -/
noncomputable def spec_MendReady.p9 : Nat → Int → Config → Mend → Option (Bool)
  | 0, _, _, _ => none
  | k + 1, x0, x1, x2 => if x0 < ((x2.2.2.2.2.2.1.length : Nat) : Int) then (if (0 : Int) ≤ x0 ∧ x0 < ((x2.2.2.2.2.2.1.length : Nat) : Int) then ((spec_Holds.f k x1 (x2.2.2.2.2.2.1.getD x0.toNat ([] : List Int))).bind fun r2 =>
        if r2 = true then spec_MendReady.p9 k (wrap64 (x0 + (1 : Int))) x1 x2
        else some false)
      else none)
    else some true
noncomputable def spec_MendReady.f (k : Nat) (a0 : Config) (a1 : Mend) : Option (Bool) := (spec_MendOk.f k a0 a1).bind fun r1 =>
  if r1 = true then (if a1.2.2.2.2.1 = true then spec_MendReady.p9 k (0 : Int) a0 a1
    else some false)
  else some false
/-! spec.RegClose -/
noncomputable def spec_RegClose.f (k : Nat) (a0 : Config) (a1 : Register) (a2 : Int) (a3 : Int) : Option (Register × Bool) := (spec_RegOk.f k a0 a1).bind fun r1 =>
  if r1 = true then ((spec_l7Copy.f k a1).bind fun r2 =>
    (spec_FirstOpen.f k a1).bind fun r3 =>
    if a2 = ((a1.1.length : Nat) : Int) then (if r3 = (0 : Int) then some (r2, false)
      else if a2 = r3 then some (r2, false)
      else (spec_l1In.f a3 (0 : Int) (60 : Int)).bind fun r4 =>
      if r4 = true then (if (0 : Int) ≤ (wrap64 (r3 - (1 : Int))) ∧ (wrap64 (r3 - (1 : Int))) < ((r2.1.length : Nat) : Int) then (if (0 : Int) ≤ (wrap64 (r3 - (1 : Int))) ∧ (wrap64 (r3 - (1 : Int))) < (((r2.1.set (wrap64 (r3 - (1 : Int))).toNat ((r2.1.getD (wrap64 (r3 - (1 : Int))).toNat (([] : List Int), (false, ((0 : Int), ())))).1, (true, (r2.1.getD (wrap64 (r3 - (1 : Int))).toNat (([] : List Int), (false, ((0 : Int), ())))).2.2))).length : Nat) : Int) then some ((((r2.1.set (wrap64 (r3 - (1 : Int))).toNat ((r2.1.getD (wrap64 (r3 - (1 : Int))).toNat (([] : List Int), (false, ((0 : Int), ())))).1, (true, (r2.1.getD (wrap64 (r3 - (1 : Int))).toNat (([] : List Int), (false, ((0 : Int), ())))).2.2))).set (wrap64 (r3 - (1 : Int))).toNat (((r2.1.set (wrap64 (r3 - (1 : Int))).toNat ((r2.1.getD (wrap64 (r3 - (1 : Int))).toNat (([] : List Int), (false, ((0 : Int), ())))).1, (true, (r2.1.getD (wrap64 (r3 - (1 : Int))).toNat (([] : List Int), (false, ((0 : Int), ())))).2.2))).getD (wrap64 (r3 - (1 : Int))).toNat (([] : List Int), (false, ((0 : Int), ())))).1, (((r2.1.set (wrap64 (r3 - (1 : Int))).toNat ((r2.1.getD (wrap64 (r3 - (1 : Int))).toNat (([] : List Int), (false, ((0 : Int), ())))).1, (true, (r2.1.getD (wrap64 (r3 - (1 : Int))).toNat (([] : List Int), (false, ((0 : Int), ())))).2.2))).getD (wrap64 (r3 - (1 : Int))).toNat (([] : List Int), (false, ((0 : Int), ())))).2.1, (a3, ((r2.1.set (wrap64 (r3 - (1 : Int))).toNat ((r2.1.getD (wrap64 (r3 - (1 : Int))).toNat (([] : List Int), (false, ((0 : Int), ())))).1, (true, (r2.1.getD (wrap64 (r3 - (1 : Int))).toNat (([] : List Int), (false, ((0 : Int), ())))).2.2))).getD (wrap64 (r3 - (1 : Int))).toNat (([] : List Int), (false, ((0 : Int), ())))).2.2.2)))), r2.2), true)
          else none)
        else none)
      else some (r2, false))
    else some (r2, false))
  else some ((([] : List Era), ((0 : Int), ())), false)
/-! spec.l13Close -/
noncomputable def spec_l13Close.f (k : Nat) (a0 : World) : Option (World × Int) := if ((a0.2.2.2.2.2.1.length : Nat) : Int) = (0 : Int) then some (a0, (2 : Int))
  else if (0 : Int) ≤ (0 : Int) ∧ (0 : Int) < ((a0.2.2.2.2.2.1.length : Nat) : Int) then ((spec_MendReady.f k a0.1 (a0.2.2.2.2.2.1.getD (0 : Int).toNat ((0 : Int), ((0 : Int), (([] : List Int), (([] : List Entry), (false, (([] : List (List Int)), ())))))))).bind fun r1 =>
    if r1 = true then (if (0 : Int) ≤ (0 : Int) ∧ (0 : Int) < ((a0.2.2.2.2.2.1.length : Nat) : Int) then (if (0 : Int) ≤ (0 : Int) ∧ (0 : Int) < ((a0.2.2.2.2.2.1.length : Nat) : Int) then ((spec_RegClose.f k a0.1 a0.2.2.2.1 (a0.2.2.2.2.2.1.getD (0 : Int).toNat ((0 : Int), ((0 : Int), (([] : List Int), (([] : List Entry), (false, (([] : List (List Int)), ()))))))).1 (((a0.2.2.2.2.2.1.getD (0 : Int).toNat ((0 : Int), ((0 : Int), (([] : List Int), (([] : List Entry), (false, (([] : List (List Int)), ()))))))).2.2.2.2.2.1.length : Nat) : Int)).bind fun r2 =>
          if r2.2 = true then some ((a0.1, (a0.2.1, (a0.2.2.1, (r2.1, (a0.2.2.2.2.1, (([] : List Mend), a0.2.2.2.2.2.2)))))), (0 : Int))
          else some (a0, (4 : Int)))
        else none)
      else none)
    else some (a0, (5 : Int)))
  else none
/-! spec.RegTrim -/
noncomputable def spec_RegTrim.f (k : Nat) (a0 : Config) (a1 : Register) (a2 : Int) : Option (Register × Bool) := (spec_RegOk.f k a0 a1).bind fun r1 =>
  if r1 = true then ((spec_l7Copy.f k a1).bind fun r2 =>
    (spec_PlaceOk.f a2).bind fun r3 =>
    if r3 = true then ((spec_EpochOf.f a2).bind fun r4 =>
      if ((a1.1.length : Nat) : Int) < r4 then some (r2, false)
      else (spec_l1Max.f r2.2.1 a2).bind fun r5 =>
      some ((r2.1, (r5, r2.2.2)), true))
    else some (r2, false))
  else some ((([] : List Era), ((0 : Int), ())), false)
/-! spec.WriterSure -/
noncomputable def spec_WriterSure.p5 : Nat → Int → Writer → Option (Int)
  | 0, _, _ => none
  | k + 1, x0, x1 => if x0 < ((x1.2.1.length : Nat) : Int) then (if (0 : Int) ≤ x0 ∧ x0 < ((x1.2.1.length : Nat) : Int) then (if (x1.2.1.getD x0.toNat ((⟨#[]⟩ : ByteArray), (([] : List Int), (false, ())))).2.2.1 = true then spec_WriterSure.p5 k (wrap64 (x0 + (1 : Int))) x1
        else some x0)
      else none)
    else some x0
noncomputable def spec_WriterSure.f (k : Nat) (a0 : Writer) : Option (Int) := spec_WriterSure.p5 k (0 : Int) a0
/-! spec.SureOf -/
noncomputable def spec_SureOf.p5 : Nat → Int → Int → World → Option (Int)
  | 0, _, _, _ => none
  | k + 1, x0, x1, x2 => if x1 < ((x2.2.2.2.2.1.length : Nat) : Int) then (if (0 : Int) ≤ x1 ∧ x1 < ((x2.2.2.2.2.1.length : Nat) : Int) then (if (x2.2.2.2.2.1.getD x1.toNat ((0 : Int), (([] : List Word), ()))).1 = x0 then (if (0 : Int) ≤ x1 ∧ x1 < ((x2.2.2.2.2.1.length : Nat) : Int) then ((spec_WriterSure.f k (x2.2.2.2.2.1.getD x1.toNat ((0 : Int), (([] : List Word), ())))).bind fun r1 =>
            some r1)
          else none)
        else spec_SureOf.p5 k x0 (wrap64 (x1 + (1 : Int))) x2)
      else none)
    else some (0 : Int)
noncomputable def spec_SureOf.f (k : Nat) (a0 : World) (a1 : Int) : Option (Int) := spec_SureOf.p5 k a1 (0 : Int) a0
/-! spec.l13Answers -/
noncomputable def spec_l13Answers.p9 : Nat → (List Answer) → (List Int) → Int → World → Reader → Option ((List Answer))
  | 0, _, _, _, _, _ => none
  | k + 1, x0, x1, x2, x3, x4 => if x2 < ((x1.length : Nat) : Int) then (if (0 : Int) ≤ x2 ∧ x2 < ((x1.length : Nat) : Int) then ((spec_l13Node.f k x3 (x1.getD x2.toNat (0 : Int))).bind fun r2 =>
        if r2 = (0 : Int) then (if (0 : Int) ≤ x2 ∧ x2 < ((x1.length : Nat) : Int) then (if (0 : Int) ≤ (x1.getD x2.toNat (0 : Int)) ∧ (x1.getD x2.toNat (0 : Int)) < ((x3.2.1.length : Nat) : Int) then ((spec_l1Place.f x4.1 x4.2.1).bind fun r3 =>
              (spec_l6Get.f k (x3.2.1.getD (x1.getD x2.toNat (0 : Int)).toNat (([] : List Entry), (([] : List Entry), ((0 : Int), ())))).1 r3).bind fun r4 =>
              if (0 : Int) ≤ x2 ∧ x2 < ((x1.length : Nat) : Int) then (if (((x0.length : Nat) : Int) + ((([((x1.getD x2.toNat (0 : Int)), (r4.2, (r4.1, ())))] : List Answer).length : Nat) : Int)) ≤ lim then spec_l13Answers.p9 k (x0 ++ ([((x1.getD x2.toNat (0 : Int)), (r4.2, (r4.1, ())))] : List Answer)) x1 (wrap64 (x2 + (1 : Int))) x3 x4
                else none)
              else none)
            else none)
          else none)
        else spec_l13Answers.p9 k x0 x1 (wrap64 (x2 + (1 : Int))) x3 x4)
      else none)
    else some x0
noncomputable def spec_l13Answers.f (k : Nat) (a0 : World) (a1 : Reader) (a2 : Int) : Option ((List Answer)) := (spec_MaskNodes.f k a2).bind fun r1 =>
  spec_l13Answers.p9 k ([] : List Answer) r1 (0 : Int) a0 a1
/-! spec.l10Nodes -/
noncomputable def spec_l10Nodes.p7 : Nat → (List Answer) → (List Int) → Int → Config → Option ((List Int) × Bool)
  | 0, _, _, _, _ => none
  | k + 1, x0, x1, x2, x3 => if x2 < ((x0.length : Nat) : Int) then (if (0 : Int) ≤ x2 ∧ x2 < ((x0.length : Nat) : Int) then (if (((x1.length : Nat) : Int) + ((([(x0.getD x2.toNat ((0 : Int), (false, (((0 : Int), ((0 : Int), (false, ((⟨#[]⟩ : ByteArray), ())))), ())))).1] : List Int).length : Nat) : Int)) ≤ lim then spec_l10Nodes.p7 k x0 (x1 ++ ([(x0.getD x2.toNat ((0 : Int), (false, (((0 : Int), ((0 : Int), (false, ((⟨#[]⟩ : ByteArray), ())))), ())))).1] : List Int)) (wrap64 (x2 + (1 : Int))) x3
        else none)
      else none)
    else (spec_NodesOk.f k x3 x1).bind fun r1 =>
    some (x1, r1)
noncomputable def spec_l10Nodes.f (k : Nat) (a0 : Config) (a1 : (List Answer)) : Option ((List Int) × Bool) := spec_l10Nodes.p7 k a1 ([] : List Int) (0 : Int) a0
/-! spec.l10Tell -/
noncomputable def spec_l10Tell.f (a0 : Reader) (a1 : Event) (a2 : Int) (a3 : Int) : Option (Reader) := (spec_l10Copy.f a0).bind fun r1 =>
  if (((r1.2.2.1.length : Nat) : Int) + ((([a1] : List Event).length : Nat) : Int)) ≤ lim then some (a2, (a3, ((r1.2.2.1 ++ ([a1] : List Event)), r1.2.2.2)))
  else none
/-! spec.l10Best -/
noncomputable def spec_l10Best.p9 : Nat → (List Int) → Int → (List Answer) → Bool → Int → Event → Entry → Option (Event)
  | 0, _, _, _, _, _, _, _ => none
  | k + 1, x0, x1, x2, x3, x4, x5, x6 => if x4 < ((x2.length : Nat) : Int) then (if (0 : Int) ≤ x4 ∧ x4 < ((x2.length : Nat) : Int) then (if (x2.getD x4.toNat ((0 : Int), (false, (((0 : Int), ((0 : Int), (false, ((⟨#[]⟩ : ByteArray), ())))), ())))).2.1 = true then ((spec_l4Has.f k x0 (x2.getD x4.toNat ((0 : Int), (false, (((0 : Int), ((0 : Int), (false, ((⟨#[]⟩ : ByteArray), ())))), ())))).1).bind fun r1 =>
          if r1 = true then ((spec_EntryOk.f k (x2.getD x4.toNat ((0 : Int), (false, (((0 : Int), ((0 : Int), (false, ((⟨#[]⟩ : ByteArray), ())))), ())))).2.2.1).bind fun r2 =>
            if r2 = true then (if (x2.getD x4.toNat ((0 : Int), (false, (((0 : Int), ((0 : Int), (false, ((⟨#[]⟩ : ByteArray), ())))), ())))).2.2.1.1 = x1 then (if x3 = true then ((spec_Better.f x6 (x2.getD x4.toNat ((0 : Int), (false, (((0 : Int), ((0 : Int), (false, ((⟨#[]⟩ : ByteArray), ())))), ())))).2.2.1).bind fun r3 =>
                  spec_l10Best.p9 k x0 x1 x2 true (wrap64 (x4 + (1 : Int))) x5 r3)
                else (spec_Better.f (x2.getD x4.toNat ((0 : Int), (false, (((0 : Int), ((0 : Int), (false, ((⟨#[]⟩ : ByteArray), ())))), ())))).2.2.1 (x2.getD x4.toNat ((0 : Int), (false, (((0 : Int), ((0 : Int), (false, ((⟨#[]⟩ : ByteArray), ())))), ())))).2.2.1).bind fun r4 =>
                spec_l10Best.p9 k x0 x1 x2 true (wrap64 (x4 + (1 : Int))) x5 r4)
              else spec_l10Best.p9 k x0 x1 x2 x3 (wrap64 (x4 + (1 : Int))) x5 x6)
            else spec_l10Best.p9 k x0 x1 x2 x3 (wrap64 (x4 + (1 : Int))) x5 x6)
          else spec_l10Best.p9 k x0 x1 x2 x3 (wrap64 (x4 + (1 : Int))) x5 x6)
        else spec_l10Best.p9 k x0 x1 x2 x3 (wrap64 (x4 + (1 : Int))) x5 x6)
      else none)
    else if x3 = true then (if x6.2.2.1 = true then some ((2 : Int), (x1, ((⟨#[]⟩ : ByteArray), ())))
      else some ((1 : Int), (x1, (x6.2.2.2.1, ()))))
    else some ((3 : Int), (x1, ((⟨#[]⟩ : ByteArray), ())))
noncomputable def spec_l10Best.f (k : Nat) (a0 : (List Int)) (a1 : Int) (a2 : (List Answer)) : Option (Event) := spec_l10Best.p9 k a0 a1 a2 false (0 : Int) ((0 : Int), ((0 : Int), ((⟨#[]⟩ : ByteArray), ()))) ((0 : Int), ((0 : Int), (false, ((⟨#[]⟩ : ByteArray), ()))))
/-! spec.ReaderNext -/
noncomputable def spec_ReaderNext.p32 : Nat → (List Answer) → Int → Reader → Reader → Era → Option (Reader × Int)
  | 0, _, _, _, _, _ => none
  | k + 1, x0, x1, x2, x3, x4 => (spec_l10Best.f k x4.1 x1 x0).bind fun r29 =>
    (spec_l10Tell.f x2 r29 x2.1 (wrap64 (x2.2.1 + (1 : Int)))).bind fun r30 =>
    some (r30, (0 : Int))
noncomputable def spec_ReaderNext.f (k : Nat) (a0 : Config) (a1 : Register) (a2 : Int) (a3 : Reader) (a4 : (List Answer)) : Option (Reader × Int) := (spec_l10Nodes.f k a0 a4).bind fun r1 =>
  (spec_RegOk.f k a0 a1).bind fun r2 =>
  if r2 = true then ((spec_ReaderOk.f a3).bind fun r3 =>
    if r3 = true then (if r1.2 = true then (if ((a1.1.length : Nat) : Int) < a3.1 then ((spec_l10Copy.f a3).bind fun r4 =>
          some (r4, (2 : Int)))
        else if ((a3.2.2.1.length : Nat) : Int) = (120 : Int) then ((spec_l10Copy.f a3).bind fun r5 =>
          some (r5, (2 : Int)))
        else if (0 : Int) ≤ (wrap64 (a3.1 - (1 : Int))) ∧ (wrap64 (a3.1 - (1 : Int))) < ((a1.1.length : Nat) : Int) then ((spec_l1Place.f a3.1 a3.2.1).bind fun r6 =>
          if r6 ≤ a1.2.1 then ((spec_EpochOf.f a1.2.1).bind fun r7 =>
            (spec_OffOf.f a1.2.1).bind fun r8 =>
            (spec_l10Tell.f a3 ((5 : Int), (a1.2.1, ((⟨#[]⟩ : ByteArray), ()))) r7 (wrap64 (r8 + (1 : Int)))).bind fun r9 =>
            some (r9, (0 : Int)))
          else if (a1.1.getD (wrap64 (a3.1 - (1 : Int))).toNat (([] : List Int), (false, ((0 : Int), ())))).2.1 = true then (if (a1.1.getD (wrap64 (a3.1 - (1 : Int))).toNat (([] : List Int), (false, ((0 : Int), ())))).2.2.1 < a3.2.1 then ((spec_l10Tell.f a3 ((4 : Int), ((wrap64 (a3.1 + (1 : Int))), ((⟨#[]⟩ : ByteArray), ()))) (wrap64 (a3.1 + (1 : Int))) (1 : Int)).bind fun r10 =>
              some (r10, (0 : Int)))
            else if (a1.1.getD (wrap64 (a3.1 - (1 : Int))).toNat (([] : List Int), (false, ((0 : Int), ())))).2.1 = true then (if (60 : Int) < a3.2.1 then ((spec_l10Copy.f a3).bind fun r11 =>
                some (r11, (2 : Int)))
              else (spec_l9Both.f k r1.1 (a1.1.getD (wrap64 (a3.1 - (1 : Int))).toNat (([] : List Int), (false, ((0 : Int), ())))).1).bind fun r12 =>
              (spec_Enough.f k a0 (a1.1.getD (wrap64 (a3.1 - (1 : Int))).toNat (([] : List Int), (false, ((0 : Int), ())))).1 r12).bind fun r13 =>
              if r13 = true then spec_ReaderNext.p32 k a4 r6 a3 ((0 : Int), ((0 : Int), (([] : List Event), ()))) (a1.1.getD (wrap64 (a3.1 - (1 : Int))).toNat (([] : List Int), (false, ((0 : Int), ()))))
              else (spec_l10Copy.f a3).bind fun r14 =>
              some (r14, (3 : Int)))
            else if a2 < a3.2.1 then ((spec_l10Copy.f a3).bind fun r15 =>
              some (r15, (2 : Int)))
            else if (60 : Int) < a3.2.1 then ((spec_l10Copy.f a3).bind fun r16 =>
              some (r16, (2 : Int)))
            else (spec_l9Both.f k r1.1 (a1.1.getD (wrap64 (a3.1 - (1 : Int))).toNat (([] : List Int), (false, ((0 : Int), ())))).1).bind fun r17 =>
            (spec_Enough.f k a0 (a1.1.getD (wrap64 (a3.1 - (1 : Int))).toNat (([] : List Int), (false, ((0 : Int), ())))).1 r17).bind fun r18 =>
            if r18 = true then spec_ReaderNext.p32 k a4 r6 a3 ((0 : Int), ((0 : Int), (([] : List Event), ()))) (a1.1.getD (wrap64 (a3.1 - (1 : Int))).toNat (([] : List Int), (false, ((0 : Int), ()))))
            else (spec_l10Copy.f a3).bind fun r19 =>
            some (r19, (3 : Int)))
          else if (a1.1.getD (wrap64 (a3.1 - (1 : Int))).toNat (([] : List Int), (false, ((0 : Int), ())))).2.1 = true then (if (60 : Int) < a3.2.1 then ((spec_l10Copy.f a3).bind fun r20 =>
              some (r20, (2 : Int)))
            else (spec_l9Both.f k r1.1 (a1.1.getD (wrap64 (a3.1 - (1 : Int))).toNat (([] : List Int), (false, ((0 : Int), ())))).1).bind fun r21 =>
            (spec_Enough.f k a0 (a1.1.getD (wrap64 (a3.1 - (1 : Int))).toNat (([] : List Int), (false, ((0 : Int), ())))).1 r21).bind fun r22 =>
            if r22 = true then spec_ReaderNext.p32 k a4 r6 a3 ((0 : Int), ((0 : Int), (([] : List Event), ()))) (a1.1.getD (wrap64 (a3.1 - (1 : Int))).toNat (([] : List Int), (false, ((0 : Int), ()))))
            else (spec_l10Copy.f a3).bind fun r23 =>
            some (r23, (3 : Int)))
          else if a2 < a3.2.1 then ((spec_l10Copy.f a3).bind fun r24 =>
            some (r24, (2 : Int)))
          else if (60 : Int) < a3.2.1 then ((spec_l10Copy.f a3).bind fun r25 =>
            some (r25, (2 : Int)))
          else (spec_l9Both.f k r1.1 (a1.1.getD (wrap64 (a3.1 - (1 : Int))).toNat (([] : List Int), (false, ((0 : Int), ())))).1).bind fun r26 =>
          (spec_Enough.f k a0 (a1.1.getD (wrap64 (a3.1 - (1 : Int))).toNat (([] : List Int), (false, ((0 : Int), ())))).1 r26).bind fun r27 =>
          if r27 = true then spec_ReaderNext.p32 k a4 r6 a3 ((0 : Int), ((0 : Int), (([] : List Event), ()))) (a1.1.getD (wrap64 (a3.1 - (1 : Int))).toNat (([] : List Int), (false, ((0 : Int), ()))))
          else (spec_l10Copy.f a3).bind fun r28 =>
          some (r28, (3 : Int)))
        else none)
      else some (((0 : Int), ((0 : Int), (([] : List Event), ()))), (1 : Int)))
    else some (((0 : Int), ((0 : Int), (([] : List Event), ()))), (1 : Int)))
  else some (((0 : Int), ((0 : Int), (([] : List Event), ()))), (1 : Int))
/-! spec.l13Read -/
noncomputable def spec_l13Read.f (k : Nat) (a0 : World) (a1 : Deed) : Option (World × Int) := (spec_l1In.f a1.2.1 (0 : Int) (1 : Int)).bind fun r1 =>
  if r1 = true then (if (0 : Int) ≤ a1.2.1 ∧ a1.2.1 < ((a0.2.2.2.2.2.2.1.length : Nat) : Int) then ((spec_SureOf.f k a0 (a0.2.2.2.2.2.2.1.getD a1.2.1.toNat ((0 : Int), ((0 : Int), (([] : List Event), ())))).1).bind fun r2 =>
      if (0 : Int) ≤ a1.2.1 ∧ a1.2.1 < ((a0.2.2.2.2.2.2.1.length : Nat) : Int) then (if (0 : Int) ≤ a1.2.1 ∧ a1.2.1 < ((a0.2.2.2.2.2.2.1.length : Nat) : Int) then ((spec_l13Answers.f k a0 (a0.2.2.2.2.2.2.1.getD a1.2.1.toNat ((0 : Int), ((0 : Int), (([] : List Event), ())))) a1.2.2.1).bind fun r3 =>
          (spec_ReaderNext.f k a0.1 a0.2.2.2.1 r2 (a0.2.2.2.2.2.2.1.getD a1.2.1.toNat ((0 : Int), ((0 : Int), (([] : List Event), ())))) r3).bind fun r4 =>
          if r4.2 = (0 : Int) then (if (0 : Int) ≤ a1.2.1 ∧ a1.2.1 < ((a0.2.2.2.2.2.2.1.length : Nat) : Int) then some ((a0.1, (a0.2.1, (a0.2.2.1, (a0.2.2.2.1, (a0.2.2.2.2.1, (a0.2.2.2.2.2.1, ((a0.2.2.2.2.2.2.1.set a1.2.1.toNat r4.1), a0.2.2.2.2.2.2.2))))))), (0 : Int))
            else none)
          else some (a0, (5 : Int)))
        else none)
      else none)
    else none)
  else some (a0, (2 : Int))
/-! spec.l13Drop -/
noncomputable def spec_l13Drop.p11 : Nat → (List Writer) → Int → World → Deed → World → Option (World × Int)
  | 0, _, _, _, _, _ => none
  | k + 1, x0, x1, x2, x3, x4 => if x1 < ((x2.2.2.2.2.1.length : Nat) : Int) then (if x1 = x3.2.1 then spec_l13Drop.p11 k x0 (wrap64 (x1 + (1 : Int))) x2 x3 x4
      else if (0 : Int) ≤ x1 ∧ x1 < ((x2.2.2.2.2.1.length : Nat) : Int) then (if (((x0.length : Nat) : Int) + ((([(x2.2.2.2.2.1.getD x1.toNat ((0 : Int), (([] : List Word), ())))] : List Writer).length : Nat) : Int)) ≤ lim then spec_l13Drop.p11 k (x0 ++ ([(x2.2.2.2.2.1.getD x1.toNat ((0 : Int), (([] : List Word), ())))] : List Writer)) (wrap64 (x1 + (1 : Int))) x2 x3 x4
        else none)
      else none)
    else some ((x2.1, (x2.2.1, (x2.2.2.1, (x2.2.2.2.1, (x0, x2.2.2.2.2.2))))), (0 : Int))
noncomputable def spec_l13Drop.f (k : Nat) (a0 : World) (a1 : Deed) : Option (World × Int) := (spec_l13Writer.f a0 a1.2.1).bind fun r1 =>
  if r1 = true then spec_l13Drop.p11 k ([] : List Writer) (0 : Int) a0 a1 ((([] : List Int), ((0 : Int), ())), (([] : List Store), (([] : List Int), ((([] : List Era), ((0 : Int), ())), (([] : List Writer), (([] : List Mend), (([] : List Reader), (([] : List Sent), (false, ())))))))))
  else some (a0, (2 : Int))
/-! spec.StoreTrim -/
noncomputable def spec_StoreTrim.p17 : Nat → Int → Int → Store → Store → Store → Option (Store × Bool)
  | 0, _, _, _, _, _ => none
  | k + 1, x0, x1, x2, x3, x4 => if x1 < ((x2.1.length : Nat) : Int) then (if (0 : Int) ≤ x1 ∧ x1 < ((x2.1.length : Nat) : Int) then (if x0 < (x2.1.getD x1.toNat ((0 : Int), ((0 : Int), (false, ((⟨#[]⟩ : ByteArray), ()))))).1 then (if (0 : Int) ≤ x1 ∧ x1 < ((x2.1.length : Nat) : Int) then (if (((x4.1.length : Nat) : Int) + ((([(x2.1.getD x1.toNat ((0 : Int), ((0 : Int), (false, ((⟨#[]⟩ : ByteArray), ())))))] : List Entry).length : Nat) : Int)) ≤ lim then spec_StoreTrim.p17 k x0 (wrap64 (x1 + (1 : Int))) x2 x3 ((x4.1 ++ ([(x2.1.getD x1.toNat ((0 : Int), ((0 : Int), (false, ((⟨#[]⟩ : ByteArray), ())))))] : List Entry)), x4.2)
            else none)
          else none)
        else spec_StoreTrim.p17 k x0 (wrap64 (x1 + (1 : Int))) x2 x3 x4)
      else none)
    else some (x4, true)
noncomputable def spec_StoreTrim.f (k : Nat) (a0 : Store) (a1 : Int) : Option (Store × Bool) := (spec_StoreOk.f k a0).bind fun r1 =>
  if r1 = true then ((spec_l6Copy.f a0).bind fun r2 =>
    (spec_PlaceOk.f a1).bind fun r3 =>
    if r3 = true then spec_StoreTrim.p17 k a1 (0 : Int) a0 (([] : List Entry), (([] : List Entry), ((0 : Int), ()))) (([] : List Entry), r2.2)
    else some (r2, false))
  else some ((([] : List Entry), (([] : List Entry), ((0 : Int), ()))), false)
/-! spec.l13Other -/
noncomputable def spec_l13Other.p14 : Nat → Bool → World → Deed → World → Store → Option (World × Int)
  | 0, _, _, _, _, _ => none
  | k + 1, x0, x1, x2, x3, x4 => if x0 = true then (if (0 : Int) ≤ x2.2.1 ∧ x2.2.1 < ((x1.2.1.length : Nat) : Int) then some ((x1.1, ((x1.2.1.set x2.2.1.toNat x4), x1.2.2)), (0 : Int))
      else none)
    else some (x1, (4 : Int))
noncomputable def spec_l13Other.f (k : Nat) (a0 : World) (a1 : Deed) : Option (World × Int) := (spec_l13Node.f k a0 a1.2.1).bind fun r1 =>
  if r1 = (0 : Int) then (if (0 : Int) ≤ a1.2.1 ∧ a1.2.1 < ((a0.2.1.length : Nat) : Int) then ((spec_StoreCrash.f k (a0.2.1.getD a1.2.1.toNat (([] : List Entry), (([] : List Entry), ((0 : Int), ())))) a1.2.2.1).bind fun r2 =>
      if a1.1 = (16 : Int) then (if (0 : Int) ≤ a1.2.1 ∧ a1.2.1 < ((a0.2.1.length : Nat) : Int) then ((spec_StoreTrim.f k (a0.2.1.getD a1.2.1.toNat (([] : List Entry), (([] : List Entry), ((0 : Int), ())))) a0.2.2.2.1.2.1).bind fun r3 =>
          spec_l13Other.p14 k r3.2 a0 a1 ((([] : List Int), ((0 : Int), ())), (([] : List Store), (([] : List Int), ((([] : List Era), ((0 : Int), ())), (([] : List Writer), (([] : List Mend), (([] : List Reader), (([] : List Sent), (false, ()))))))))) r3.1)
        else none)
      else spec_l13Other.p14 k r2.2 a0 a1 ((([] : List Int), ((0 : Int), ())), (([] : List Store), (([] : List Int), ((([] : List Era), ((0 : Int), ())), (([] : List Writer), (([] : List Mend), (([] : List Reader), (([] : List Sent), (false, ()))))))))) r2.1)
    else none)
  else some (a0, r1)
/-! spec.l13Do -/
noncomputable def spec_l13Do.f (k : Nat) (a0 : World) (a1 : Deed) : Option (World × Int) := if a1.1 = (1 : Int) then ((spec_l13Open.f k a0 a1).bind fun r1 =>
    some (r1.1, r1.2))
  else if a1.1 = (2 : Int) then ((spec_l13Add.f k a0 a1).bind fun r2 =>
    some (r2.1, r2.2))
  else if a1.1 = (3 : Int) then ((spec_l13Store.f k a0 a1).bind fun r3 =>
    some (r3.1, r3.2))
  else if a1.1 = (4 : Int) then ((spec_l13Sync.f k a0 a1).bind fun r4 =>
    some (r4.1, r4.2))
  else if a1.1 = (6 : Int) then ((spec_l13Lose.f k a0 a1).bind fun r5 =>
    some (r5.1, r5.2))
  else if a1.1 = (7 : Int) then ((spec_l13Fill.f k a0 a1).bind fun r6 =>
    some (r6.1, r6.2))
  else if a1.1 = (8 : Int) then ((spec_l13Mend.f k a0).bind fun r7 =>
    some (r7.1, r7.2))
  else if a1.1 = (9 : Int) then ((spec_l13Seal.f k a0 a1).bind fun r8 =>
    some (r8.1, r8.2))
  else if a1.1 = (10 : Int) then ((spec_l13Plan.f k a0).bind fun r9 =>
    some (r9.1, r9.2))
  else if a1.1 = (11 : Int) then ((spec_l13Fix.f k a0 a1).bind fun r10 =>
    some (r10.1, r10.2))
  else if a1.1 = (12 : Int) then ((spec_l13Close.f k a0).bind fun r11 =>
    some (r11.1, r11.2))
  else if a1.1 = (13 : Int) then ((spec_RegTrim.f k a0.1 a0.2.2.2.1 a1.2.1).bind fun r12 =>
    if r12.2 = true then some ((a0.1, (a0.2.1, (a0.2.2.1, (r12.1, a0.2.2.2.2)))), (0 : Int))
    else some (a0, (4 : Int)))
  else if a1.1 = (14 : Int) then ((spec_l13Read.f k a0 a1).bind fun r13 =>
    some (r13.1, r13.2))
  else if a1.1 = (15 : Int) then ((spec_l13Drop.f k a0 a1).bind fun r14 =>
    some (r14.1, r14.2))
  else (spec_l13Other.f k a0 a1).bind fun r15 =>
  some (r15.1, r15.2)
/-! spec.WorldDo -/
noncomputable def spec_WorldDo.f (k : Nat) (a0 : World) (a1 : Deed) : Option (World × Int × World) := (spec_WorldOk.f k a0).bind fun r1 =>
  if r1 = true then ((spec_DeedOk.f a1).bind fun r2 =>
    if r2 = true then ((spec_l12Copy.f k a0).bind fun r3 =>
      (spec_l13Do.f k r3 a1).bind fun r4 =>
      if r4.2 = (0 : Int) then some (r4.1, r4.2, a0)
      else (spec_l12Copy.f k a0).bind fun r5 =>
      some (r5, r4.2, a0))
    else some (((([] : List Int), ((0 : Int), ())), (([] : List Store), (([] : List Int), ((([] : List Era), ((0 : Int), ())), (([] : List Writer), (([] : List Mend), (([] : List Reader), (([] : List Sent), (false, ()))))))))), (1 : Int), a0))
  else some (((([] : List Int), ((0 : Int), ())), (([] : List Store), (([] : List Int), ((([] : List Era), ((0 : Int), ())), (([] : List Writer), (([] : List Mend), (([] : List Reader), (([] : List Sent), (false, ()))))))))), (1 : Int), a0)
/-! spec.l13DrawRun -/
mutual
noncomputable def spec_l13DrawRun_w.p9 : Nat → Int → (List Int) → Int → World → World → Config → l1Cur → Option (World × (List Deed) × World × l1Cur)
  | 0, _, _, _, _, _, _, _ => none
  | k + 1, x0, x1, x2, x3, x4, x5, x6 => if x2 < ((x5.1.length : Nat) : Int) then (if (((x1.length : Nat) : Int) + ((([x2] : List Int).length : Nat) : Int)) ≤ lim then spec_l13DrawRun_w.p9 k x0 (x1 ++ ([x2] : List Int)) (wrap64 (x2 + (1 : Int))) x3 x4 x5 x6
      else none)
    else spec_l13DrawRun_w.p15 k x0 x1 x3 x4 x5 x6
noncomputable def spec_l13DrawRun_w.p15 : Nat → Int → (List Int) → World → World → Config → l1Cur → Option (World × (List Deed) × World × l1Cur)
  | 0, _, _, _, _, _, _ => none
  | k + 1, x0, x1, x2, x3, x4, x5 => if (1 : Int) < x4.2.1 then ((spec_Holds.f k x4 x1).bind fun r2 =>
      if r2 = true then spec_l13DrawRun_w.p18 k x0 x2 x3 x4 x5
      else spec_l13DrawRun_w.p15 k x0 x1 x2 x3 (x4.1, ((wrap64 (x4.2.1 - (1 : Int))), x4.2.2)) x5)
    else spec_l13DrawRun_w.p18 k x0 x2 x3 x4 x5
noncomputable def spec_l13DrawRun_w.p18 : Nat → Int → World → World → Config → l1Cur → Option (World × (List Deed) × World × l1Cur)
  | 0, _, _, _, _, _ => none
  | k + 1, x0, x1, x2, x3, x4 => (spec_WorldNew.f k x3).bind fun r3 =>
    (spec_l1Below.f x4 (wrap64 (x0 + (1 : Int)))).bind fun r4 =>
    spec_l13DrawRun_w.p29 k ([] : List Deed) r4.1 (0 : Int) x1 x2 r3.1 r3.1 r4.2
noncomputable def spec_l13DrawRun_w.p29 : Nat → (List Deed) → Int → Int → World → World → World → World → l1Cur → Option (World × (List Deed) × World × l1Cur)
  | 0, _, _, _, _, _, _, _, _ => none
  | k + 1, x0, x1, x2, x3, x4, x5, x6, x7 => if x2 < x1 then ((spec_l13DrawNext.f k x7 x6).bind fun r5 =>
      if (((x0.length : Nat) : Int) + ((([r5.1] : List Deed).length : Nat) : Int)) ≤ lim then ((spec_WorldDo.f k r5.2.2 r5.1).bind fun r6 =>
        if r6.2.1 = (0 : Int) then spec_l13DrawRun_w.p29 k (x0 ++ ([r5.1] : List Deed)) x1 (wrap64 (x2 + (1 : Int))) x3 x4 x5 r6.1 r5.2.1
        else spec_l13DrawRun_w.p29 k (x0 ++ ([r5.1] : List Deed)) x1 (wrap64 (x2 + (1 : Int))) x3 x4 x5 r6.2.2 r5.2.1)
      else none)
    else some (x5, x0, x6, x7)
end
noncomputable def spec_l13DrawRun_w.f (k : Nat) (a0 : l1Cur) (a1 : Int) : Option (World × (List Deed) × World × l1Cur) := (spec_l4DrawRight.f k a0).bind fun r1 =>
  spec_l13DrawRun_w.p9 k a1 ([] : List Int) (0 : Int) ((([] : List Int), ((0 : Int), ())), (([] : List Store), (([] : List Int), ((([] : List Era), ((0 : Int), ())), (([] : List Writer), (([] : List Mend), (([] : List Reader), (([] : List Sent), (false, ()))))))))) ((([] : List Int), ((0 : Int), ())), (([] : List Store), (([] : List Int), ((([] : List Era), ((0 : Int), ())), (([] : List Writer), (([] : List Mend), (([] : List Reader), (([] : List Sent), (false, ()))))))))) r1.1 r1.2
/-! spec.l3DrawRight -/
noncomputable def spec_l3DrawRight.f (a0 : l1Cur) : Option (Entry × l1Cur) := (spec_l1Below.f a0 (3 : Int)).bind fun r1 =>
  (spec_l1Below.f r1.2 (6 : Int)).bind fun r2 =>
  (spec_l1Place.f (wrap64 ((1 : Int) + r1.1)) (wrap64 ((1 : Int) + r2.1))).bind fun r3 =>
  (spec_l1Pick.f r2.2 ([(⟨#[]⟩ : ByteArray), (⟨#[97]⟩ : ByteArray), (⟨#[98, 99]⟩ : ByteArray), (⟨#[0]⟩ : ByteArray), (⟨#[119, 111, 114, 100]⟩ : ByteArray)] : List ByteArray)).bind fun r4 =>
  (spec_l1Once.f r4.2 (3 : Int)).bind fun r5 =>
  if r5.1 = true then ((spec_EpochOf.f r3).bind fun r6 =>
    (spec_l1Below.f r5.2 (3 : Int)).bind fun r7 =>
    (spec_l1Once.f r7.2 (2 : Int)).bind fun r8 =>
    if r8.1 = true then some ((r3, ((wrap64 ((wrap64 (r6 + (1 : Int))) + r7.1)), (true, ((⟨#[]⟩ : ByteArray), ())))), r8.2)
    else some ((r3, ((wrap64 ((wrap64 (r6 + (1 : Int))) + r7.1)), (false, (r4.1, ())))), r8.2))
  else some ((r3, ((0 : Int), (false, (r4.1, ())))), r5.2)
/-! spec.l6DrawRight -/
mutual
noncomputable def spec_l6DrawRight.p9 : Nat → Int → Int → Store → Store → l1Cur → Option (Store × l1Cur)
  | 0, _, _, _, _, _ => none
  | k + 1, x0, x1, x2, x3, x4 => if x1 < x0 then ((spec_l3DrawRight.f x4).bind fun r2 =>
      (spec_StorePut.f k x3 r2.1).bind fun r3 =>
      (spec_l1Below.f r2.2 (6 : Int)).bind fun r4 =>
      if r4.1 = (0 : Int) then ((spec_StoreSync.f k x3).bind fun r5 =>
        if r5.2 = true then spec_l6DrawRight.p9 k x0 (wrap64 (x1 + (1 : Int))) x2 r5.1 r4.2
        else spec_l6DrawRight.p9 k x0 (wrap64 (x1 + (1 : Int))) x2 x3 r4.2)
      else if r4.1 = (1 : Int) then ((spec_StoreSync.f k r3.1).bind fun r6 =>
        if r6.2 = true then spec_l6DrawRight.p9 k x0 (wrap64 (x1 + (1 : Int))) x2 r6.1 r4.2
        else spec_l6DrawRight.p9 k x0 (wrap64 (x1 + (1 : Int))) x2 x3 r4.2)
      else if r4.1 = (2 : Int) then ((spec_l1Once.f r4.2 (3 : Int)).bind fun r7 =>
        if r7.1 = true then ((spec_l1Below.f r7.2 (4 : Int)).bind fun r8 =>
          (spec_StoreSeal.f k x3 r8.1).bind fun r9 =>
          if r9.2 = true then spec_l6DrawRight.p9 k x0 (wrap64 (x1 + (1 : Int))) x2 r9.1 r8.2
          else spec_l6DrawRight.p9 k x0 (wrap64 (x1 + (1 : Int))) x2 x3 r8.2)
        else if r3.2 = true then spec_l6DrawRight.p9 k x0 (wrap64 (x1 + (1 : Int))) x2 r3.1 r7.2
        else spec_l6DrawRight.p9 k x0 (wrap64 (x1 + (1 : Int))) x2 x3 r7.2)
      else if r3.2 = true then spec_l6DrawRight.p9 k x0 (wrap64 (x1 + (1 : Int))) x2 r3.1 r4.2
      else spec_l6DrawRight.p9 k x0 (wrap64 (x1 + (1 : Int))) x2 x3 r4.2)
    else (spec_l1Once.f x4 (40 : Int)).bind fun r10 =>
    if r10.1 = true then spec_l6DrawRight.p41 k (1 : Int) x2 (([] : List Entry), x3.2) r10.2
    else some (x3, r10.2)
noncomputable def spec_l6DrawRight.p41 : Nat → Int → Store → Store → l1Cur → Option (Store × l1Cur)
  | 0, _, _, _, _ => none
  | k + 1, x0, x1, x2, x3 => if x0 ≤ (4 : Int) then spec_l6DrawRight.p47 k x0 (1 : Int) x1 x2 x3
    else some (x2, x3)
noncomputable def spec_l6DrawRight.p47 : Nat → Int → Int → Store → Store → l1Cur → Option (Store × l1Cur)
  | 0, _, _, _, _, _ => none
  | k + 1, x0, x1, x2, x3, x4 => if x1 ≤ (50 : Int) then ((spec_l1Place.f x0 x1).bind fun r11 =>
      if (((x3.1.length : Nat) : Int) + ((([(r11, ((0 : Int), (false, ((⟨#[]⟩ : ByteArray), ()))))] : List Entry).length : Nat) : Int)) ≤ lim then spec_l6DrawRight.p47 k x0 (wrap64 (x1 + (1 : Int))) x2 ((x3.1 ++ ([(r11, ((0 : Int), (false, ((⟨#[]⟩ : ByteArray), ()))))] : List Entry)), x3.2) x4
      else none)
    else spec_l6DrawRight.p41 k (wrap64 (x0 + (1 : Int))) x2 x3 x4
end
noncomputable def spec_l6DrawRight.f (k : Nat) (a0 : l1Cur) : Option (Store × l1Cur) := (spec_l1Below.f a0 (8 : Int)).bind fun r1 =>
  spec_l6DrawRight.p9 k r1.1 (0 : Int) (([] : List Entry), (([] : List Entry), ((0 : Int), ()))) (([] : List Entry), (([] : List Entry), ((0 : Int), ()))) r1.2
/-! spec.l1DrawPlace -/
noncomputable def spec_l1DrawPlace.f (a0 : l1Cur) : Option (Int × l1Cur) := (spec_l1Below.f a0 (3 : Int)).bind fun r1 =>
  (spec_l1Below.f r1.2 (6 : Int)).bind fun r2 =>
  (spec_l1Place.f (wrap64 ((1 : Int) + r1.1)) (wrap64 ((1 : Int) + r2.1))).bind fun r3 =>
  (spec_l1Below.f r2.2 (15 : Int)).bind fun r4 =>
  if r4.1 = (0 : Int) then ((spec_l1PickInt.f r4.2 ([(0 : Int), (-1 : Int), (4294967296 : Int), (4294967297 : Int), (9223372036854775807 : Int), (-9223372036854775808 : Int)] : List Int)).bind fun r5 =>
    some (r5.1, r5.2))
  else if r4.1 = (1 : Int) then ((spec_l1PickInt.f r4.2 ([(0 : Int), (30 : Int), (31 : Int)] : List Int)).bind fun r6 =>
    (spec_l1PickInt.f r6.2 ([(0 : Int), (60 : Int), (61 : Int)] : List Int)).bind fun r7 =>
    (spec_l1Place.f r6.1 r7.1).bind fun r8 =>
    some (r8, r7.2))
  else some (r3, r4.2)
/-! spec.l3Draw -/
noncomputable def spec_l3Draw.f (a0 : l1Cur) : Option (Entry × l1Cur) := (spec_l3DrawRight.f a0).bind fun r1 =>
  (spec_l1Below.f r1.2 (15 : Int)).bind fun r2 =>
  if r2.1 = (0 : Int) then ((spec_l1DrawPlace.f r2.2).bind fun r3 =>
    some ((r3.1, r1.1.2), r3.2))
  else if r2.1 = (1 : Int) then ((spec_l1PickInt.f r2.2 ([(-1 : Int), (1 : Int), (30 : Int), (31 : Int)] : List Int)).bind fun r4 =>
    some ((r1.1.1, (r4.1, r1.1.2.2)), r4.2))
  else if r2.1 = (2 : Int) then some ((r1.1.1, (r1.1.2.1, (true, r1.1.2.2.2))), r2.2)
  else if r2.1 = (3 : Int) then ((spec_l1Below.f r2.2 (2 : Int)).bind fun r5 =>
    if (0 : Int) ≤ (wrap64 ((40 : Int) + r5.1)) ∧ (wrap64 ((40 : Int) + r5.1)) ≤ (wrap64 ((40 : Int) + r5.1)) ∧ (wrap64 ((40 : Int) + r5.1)) ≤ lim then some ((r1.1.1, (r1.1.2.1, (r1.1.2.2.1, ((bytesOf (List.replicate (wrap64 ((40 : Int) + r5.1)).toNat (0 : Int))), r1.1.2.2.2.2)))), r5.2)
    else none)
  else some (r1.1, r2.2)
/-! spec.l6Draw -/
noncomputable def spec_l6Draw.p21 : Nat → Store → Store → l1Cur → Option (Store × l1Cur)
  | 0, _, _, _ => none
  | k + 1, x0, x1, x2 => (spec_l1Below.f x2 (2 : Int)).bind fun r6 =>
    if ((x1.2.1.length : Nat) : Int) < (wrap64 ((20 : Int) + r6.1)) then ((spec_l1Place.f (5 : Int) (1 : Int)).bind fun r7 =>
      if (((x1.2.1.length : Nat) : Int) + ((([(r7, ((0 : Int), (false, ((⟨#[]⟩ : ByteArray), ()))))] : List Entry).length : Nat) : Int)) ≤ lim then spec_l6Draw.p21 k x0 (x1.1, ((x1.2.1 ++ ([(r7, ((0 : Int), (false, ((⟨#[]⟩ : ByteArray), ()))))] : List Entry)), x1.2.2)) r6.2
      else none)
    else some (x1, r6.2)
noncomputable def spec_l6Draw.f (k : Nat) (a0 : l1Cur) : Option (Store × l1Cur) := (spec_l6DrawRight.f k a0).bind fun r1 =>
  (spec_l1Below.f r1.2 (25 : Int)).bind fun r2 =>
  if r2.1 = (0 : Int) then ((spec_l1PickInt.f r2.2 ([(-1 : Int), (30 : Int), (31 : Int)] : List Int)).bind fun r3 =>
    some ((r1.1.1, (r1.1.2.1, (r3.1, r1.1.2.2.2))), r3.2))
  else if r2.1 = (1 : Int) then ((spec_l3Draw.f r2.2).bind fun r4 =>
    if (((r1.1.1.length : Nat) : Int) + ((([r4.1] : List Entry).length : Nat) : Int)) ≤ lim then some (((r1.1.1 ++ ([r4.1] : List Entry)), r1.1.2), r4.2)
    else none)
  else if r2.1 = (2 : Int) then ((spec_l3Draw.f r2.2).bind fun r5 =>
    if (((r1.1.2.1.length : Nat) : Int) + ((([r5.1] : List Entry).length : Nat) : Int)) ≤ lim then some ((r1.1.1, ((r1.1.2.1 ++ ([r5.1] : List Entry)), r1.1.2.2)), r5.2)
    else none)
  else if r2.1 = (3 : Int) then spec_l6Draw.p21 k (([] : List Entry), (([] : List Entry), ((0 : Int), ()))) r1.1 r2.2
  else some (r1.1, r2.2)
/-! spec.l7DrawRight -/
noncomputable def spec_l7DrawRight.p7 : Nat → Int → Config → Register → Register → l1Cur → Option (Register × l1Cur)
  | 0, _, _, _, _, _ => none
  | k + 1, x0, x1, x2, x3, x4 => (spec_l1Below.f x4 (7 : Int)).bind fun r1 =>
    if x0 < r1.1 then ((spec_l7DrawSet.f k r1.2 x1).bind fun r2 =>
      (spec_RegOpen.f k x1 x3 r2.1).bind fun r3 =>
      (spec_l1Below.f r2.2 (4 : Int)).bind fun r4 =>
      if r4.1 = (0 : Int) then ((spec_l1Below.f r4.2 (5 : Int)).bind fun r5 =>
        (spec_RegClose.f k x1 x3 ((x3.1.length : Nat) : Int) r5.1).bind fun r6 =>
        if r6.2 = true then spec_l7DrawRight.p7 k (wrap64 (x0 + (1 : Int))) x1 x2 r6.1 r5.2
        else spec_l7DrawRight.p7 k (wrap64 (x0 + (1 : Int))) x1 x2 x3 r5.2)
      else if r4.1 = (1 : Int) then ((spec_l1Below.f r4.2 (2 : Int)).bind fun r7 =>
        (spec_l1Below.f r7.2 (4 : Int)).bind fun r8 =>
        (spec_l1Place.f (wrap64 ((1 : Int) + r7.1)) (wrap64 ((1 : Int) + r8.1))).bind fun r9 =>
        (spec_RegTrim.f k x1 x3 r9).bind fun r10 =>
        if r10.2 = true then spec_l7DrawRight.p7 k (wrap64 (x0 + (1 : Int))) x1 x2 r10.1 r8.2
        else spec_l7DrawRight.p7 k (wrap64 (x0 + (1 : Int))) x1 x2 x3 r8.2)
      else if r3.2.2 = true then spec_l7DrawRight.p7 k (wrap64 (x0 + (1 : Int))) x1 x2 r3.1 r4.2
      else spec_l7DrawRight.p7 k (wrap64 (x0 + (1 : Int))) x1 x2 x3 r4.2)
    else some (x3, r1.2)
noncomputable def spec_l7DrawRight.f (k : Nat) (a0 : l1Cur) (a1 : Config) : Option (Register × l1Cur) := spec_l7DrawRight.p7 k (0 : Int) a1 (([] : List Era), ((0 : Int), ())) (([] : List Era), ((0 : Int), ())) a0
/-! spec.l7Draw -/
noncomputable def spec_l7Draw.p35 : Nat → (List Int) → Register → Register → l1Cur → Option (Register × l1Cur)
  | 0, _, _, _, _ => none
  | k + 1, x0, x1, x2, x3 => (spec_l1Below.f x3 (2 : Int)).bind fun r7 =>
    if ((x2.1.length : Nat) : Int) < (wrap64 ((30 : Int) + r7.1)) then (if (((x2.1.length : Nat) : Int) + ((([(x0, (false, ((0 : Int), ())))] : List Era).length : Nat) : Int)) ≤ lim then spec_l7Draw.p35 k x0 x1 ((x2.1 ++ ([(x0, (false, ((0 : Int), ())))] : List Era)), x2.2) r7.2
      else none)
    else some (x2, r7.2)
noncomputable def spec_l7Draw.f (k : Nat) (a0 : l1Cur) (a1 : Config) : Option (Register × l1Cur) := (spec_l7DrawRight.f k a0 a1).bind fun r1 =>
  (spec_l1Below.f r1.2 (25 : Int)).bind fun r2 =>
  if r2.1 = (0 : Int) then ((spec_l1DrawPlace.f r2.2).bind fun r3 =>
    some ((r1.1.1, (r3.1, r1.1.2.2)), r3.2))
  else if r2.1 = (1 : Int) then (if (0 : Int) < ((r1.1.1.length : Nat) : Int) then (if (0 : Int) ≤ (wrap64 (((r1.1.1.length : Nat) : Int) - (1 : Int))) ∧ (wrap64 (((r1.1.1.length : Nat) : Int) - (1 : Int))) < ((r1.1.1.length : Nat) : Int) then some (((r1.1.1.set (wrap64 (((r1.1.1.length : Nat) : Int) - (1 : Int))).toNat ((r1.1.1.getD (wrap64 (((r1.1.1.length : Nat) : Int) - (1 : Int))).toNat (([] : List Int), (false, ((0 : Int), ())))).1, (true, (r1.1.1.getD (wrap64 (((r1.1.1.length : Nat) : Int) - (1 : Int))).toNat (([] : List Int), (false, ((0 : Int), ())))).2.2))), r1.1.2), r2.2)
      else none)
    else some (r1.1, r2.2))
  else if r2.1 = (2 : Int) then (if (0 : Int) < ((r1.1.1.length : Nat) : Int) then ((spec_l1PickInt.f r2.2 ([(-1 : Int), (1 : Int), (60 : Int), (61 : Int)] : List Int)).bind fun r4 =>
      if (0 : Int) ≤ (0 : Int) ∧ (0 : Int) < ((r1.1.1.length : Nat) : Int) then some (((r1.1.1.set (0 : Int).toNat ((r1.1.1.getD (0 : Int).toNat (([] : List Int), (false, ((0 : Int), ())))).1, ((r1.1.1.getD (0 : Int).toNat (([] : List Int), (false, ((0 : Int), ())))).2.1, (r4.1, (r1.1.1.getD (0 : Int).toNat (([] : List Int), (false, ((0 : Int), ())))).2.2.2)))), r1.1.2), r4.2)
      else none)
    else some (r1.1, r2.2))
  else if r2.1 = (3 : Int) then (if (0 : Int) < ((r1.1.1.length : Nat) : Int) then ((spec_l4DrawNodes.f k r2.2 a1).bind fun r5 =>
      if (0 : Int) ≤ (0 : Int) ∧ (0 : Int) < ((r1.1.1.length : Nat) : Int) then some (((r1.1.1.set (0 : Int).toNat (r5.1, (r1.1.1.getD (0 : Int).toNat (([] : List Int), (false, ((0 : Int), ())))).2)), r1.1.2), r5.2)
      else none)
    else some (r1.1, r2.2))
  else if r2.1 = (4 : Int) then ((spec_l7DrawSet.f k r2.2 a1).bind fun r6 =>
    spec_l7Draw.p35 k r6.1 (([] : List Era), ((0 : Int), ())) r1.1 r6.2)
  else some (r1.1, r2.2)
/-! spec.l8DrawRight -/
noncomputable def spec_l8DrawRight.p7 : Nat → Int → Config → Writer → Writer → l1Cur → Option (Writer × l1Cur)
  | 0, _, _, _, _, _ => none
  | k + 1, x0, x1, x2, x3, x4 => (spec_l1Below.f x4 (14 : Int)).bind fun r2 =>
    if x0 < r2.1 then ((spec_l1Pick.f r2.2 ([(⟨#[]⟩ : ByteArray), (⟨#[97]⟩ : ByteArray), (⟨#[98, 99]⟩ : ByteArray)] : List ByteArray)).bind fun r3 =>
      (spec_WriterAdd.f k x1 x3 r3.1).bind fun r4 =>
      (spec_l1Once.f r3.2 (2 : Int)).bind fun r5 =>
      if r5.1 = true then ((spec_l1Max.f ((x3.2.1.length : Nat) : Int) (1 : Int)).bind fun r6 =>
        (spec_l1Below.f r5.2 r6).bind fun r7 =>
        (spec_l1Below.f r7.2 ((x1.1.length : Nat) : Int)).bind fun r8 =>
        (spec_WriterAck.f k x1 x3 (wrap64 ((1 : Int) + r7.1)) r8.1).bind fun r9 =>
        if r9.2 = true then spec_l8DrawRight.p7 k (wrap64 (x0 + (1 : Int))) x1 x2 r9.1 r8.2
        else spec_l8DrawRight.p7 k (wrap64 (x0 + (1 : Int))) x1 x2 x3 r8.2)
      else if r4.2.2 = true then spec_l8DrawRight.p7 k (wrap64 (x0 + (1 : Int))) x1 x2 r4.1 r5.2
      else spec_l8DrawRight.p7 k (wrap64 (x0 + (1 : Int))) x1 x2 x3 r5.2)
    else some (x3, r2.2)
noncomputable def spec_l8DrawRight.f (k : Nat) (a0 : l1Cur) (a1 : Config) : Option (Writer × l1Cur) := (spec_l1Below.f a0 (4 : Int)).bind fun r1 =>
  spec_l8DrawRight.p7 k (0 : Int) a1 ((0 : Int), (([] : List Word), ())) ((wrap64 ((1 : Int) + r1.1)), (([] : List Word), ())) r1.2
/-! spec.l8Draw -/
noncomputable def spec_l8Draw.p23 : Nat → Writer → Writer → l1Cur → Option (Writer × l1Cur)
  | 0, _, _, _ => none
  | k + 1, x0, x1, x2 => if ((x1.2.1.length : Nat) : Int) < (60 : Int) then (if (0 : Int) < ((x1.2.1.length : Nat) : Int) then (if (0 : Int) ≤ (0 : Int) ∧ (0 : Int) < ((x1.2.1.length : Nat) : Int) then (if (((x1.2.1.length : Nat) : Int) + ((([(x1.2.1.getD (0 : Int).toNat ((⟨#[]⟩ : ByteArray), (([] : List Int), (false, ()))))] : List Word).length : Nat) : Int)) ≤ lim then spec_l8Draw.p23 k x0 (x1.1, ((x1.2.1 ++ ([(x1.2.1.getD (0 : Int).toNat ((⟨#[]⟩ : ByteArray), (([] : List Int), (false, ()))))] : List Word)), x1.2.2)) x2
          else none)
        else none)
      else some (x1, x2))
    else some (x1, x2)
noncomputable def spec_l8Draw.f (k : Nat) (a0 : l1Cur) (a1 : Config) : Option (Writer × l1Cur) := (spec_l8DrawRight.f k a0 a1).bind fun r1 =>
  (spec_l1Below.f r1.2 (25 : Int)).bind fun r2 =>
  if r2.1 = (0 : Int) then ((spec_l1PickInt.f r2.2 ([(0 : Int), (30 : Int), (31 : Int)] : List Int)).bind fun r3 =>
    some ((r3.1, r1.1.2), r3.2))
  else if r2.1 = (1 : Int) then (if (0 : Int) < ((r1.1.2.1.length : Nat) : Int) then (if (0 : Int) ≤ (0 : Int) ∧ (0 : Int) < ((r1.1.2.1.length : Nat) : Int) then (if (0 : Int) ≤ (0 : Int) ∧ (0 : Int) < ((r1.1.2.1.length : Nat) : Int) then some ((r1.1.1, ((r1.1.2.1.set (0 : Int).toNat ((r1.1.2.1.getD (0 : Int).toNat ((⟨#[]⟩ : ByteArray), (([] : List Int), (false, ())))).1, ((r1.1.2.1.getD (0 : Int).toNat ((⟨#[]⟩ : ByteArray), (([] : List Int), (false, ())))).2.1, ((!(decide ((r1.1.2.1.getD (0 : Int).toNat ((⟨#[]⟩ : ByteArray), (([] : List Int), (false, ())))).2.2.1 = true))), (r1.1.2.1.getD (0 : Int).toNat ((⟨#[]⟩ : ByteArray), (([] : List Int), (false, ())))).2.2.2)))), r1.1.2.2)), r2.2)
        else none)
      else none)
    else some (r1.1, r2.2))
  else if r2.1 = (2 : Int) then ((spec_l1Below.f r2.2 (2 : Int)).bind fun r4 =>
    if (0 : Int) ≤ (wrap64 ((40 : Int) + r4.1)) ∧ (wrap64 ((40 : Int) + r4.1)) ≤ (wrap64 ((40 : Int) + r4.1)) ∧ (wrap64 ((40 : Int) + r4.1)) ≤ lim then (if (((r1.1.2.1.length : Nat) : Int) + ((([((bytesOf (List.replicate (wrap64 ((40 : Int) + r4.1)).toNat (0 : Int))), (([] : List Int), (false, ())))] : List Word).length : Nat) : Int)) ≤ lim then some ((r1.1.1, ((r1.1.2.1 ++ ([((bytesOf (List.replicate (wrap64 ((40 : Int) + r4.1)).toNat (0 : Int))), (([] : List Int), (false, ())))] : List Word)), r1.1.2.2)), r4.2)
      else none)
    else none)
  else if r2.1 = (3 : Int) then spec_l8Draw.p23 k ((0 : Int), (([] : List Word), ())) r1.1 r2.2
  else some (r1.1, r2.2)
/-! spec.l9Cover -/
noncomputable def spec_l9Cover.p7 : Nat → (List Int) → Int → Config → Option ((List Int))
  | 0, _, _, _ => none
  | k + 1, x0, x1, x2 => if x1 < ((x2.1.length : Nat) : Int) then ((spec_Holds.f k x2 x0).bind fun r1 =>
      if r1 = true then some x0
      else (spec_l4Put.f k x0 x1).bind fun r2 =>
      spec_l9Cover.p7 k r2 (wrap64 (x1 + (1 : Int))) x2)
    else some x0
noncomputable def spec_l9Cover.f (k : Nat) (a0 : Config) (a1 : Mend) : Option ((List Int)) := if (((([] : List Int).length : Nat) : Int) + ((a1.2.2.1.length : Nat) : Int)) ≤ lim then spec_l9Cover.p7 k (([] : List Int) ++ a1.2.2.1) (0 : Int) a0
  else none
/-! spec.l9DrawRight -/
mutual
noncomputable def spec_l9DrawRight.p9 : Nat → Int → Int → Config → Mend → Mend → l1Cur → Option (Mend × l1Cur)
  | 0, _, _, _, _, _, _ => none
  | k + 1, x0, x1, x2, x3, x4, x5 => if x1 < x0 then ((spec_l1Below.f x5 ((x2.1.length : Nat) : Int)).bind fun r4 =>
      (spec_l6DrawRight.f k r4.2).bind fun r5 =>
      (spec_StoreEra.f k r5.1 x4.2.1).bind fun r6 =>
      (spec_MendSeal.f k x2 x4 r4.1 r6).bind fun r7 =>
      if r7.2 = true then spec_l9DrawRight.p9 k x0 (wrap64 (x1 + (1 : Int))) x2 x3 r7.1 r5.2
      else spec_l9DrawRight.p9 k x0 (wrap64 (x1 + (1 : Int))) x2 x3 x4 r5.2)
    else (spec_l1Once.f x5 (3 : Int)).bind fun r8 =>
    if r8.1 = true then some (x4, r8.2)
    else (spec_l9Cover.f k x2 x4).bind fun r9 =>
    (spec_MendPlan.f k x2 x4 r9).bind fun r10 =>
    if r10.2 = true then spec_l9DrawRight.p28 k x2 x3 r10.1 r8.2
    else spec_l9DrawRight.p28 k x2 x3 x4 r8.2
noncomputable def spec_l9DrawRight.p28 : Nat → Config → Mend → Mend → l1Cur → Option (Mend × l1Cur)
  | 0, _, _, _, _ => none
  | k + 1, x0, x1, x2, x3 => spec_l9DrawRight.p31 k (0 : Int) x0 x1 x2 x3
noncomputable def spec_l9DrawRight.p31 : Nat → Int → Config → Mend → Mend → l1Cur → Option (Mend × l1Cur)
  | 0, _, _, _, _, _ => none
  | k + 1, x0, x1, x2, x3, x4 => (spec_l1Below.f x4 (9 : Int)).bind fun r11 =>
    if x0 < r11.1 then ((spec_l1Max.f ((x3.2.2.2.2.2.1.length : Nat) : Int) (1 : Int)).bind fun r12 =>
      (spec_l1Below.f r11.2 r12).bind fun r13 =>
      (spec_l1Below.f r13.2 ((x1.1.length : Nat) : Int)).bind fun r14 =>
      (spec_MendAck.f k x1 x3 (wrap64 ((1 : Int) + r13.1)) r14.1).bind fun r15 =>
      if r15.2 = true then spec_l9DrawRight.p31 k (wrap64 (x0 + (1 : Int))) x1 x2 r15.1 r14.2
      else spec_l9DrawRight.p31 k (wrap64 (x0 + (1 : Int))) x1 x2 x3 r14.2)
    else some (x3, r11.2)
end
noncomputable def spec_l9DrawRight.f (k : Nat) (a0 : l1Cur) (a1 : Config) : Option (Mend × l1Cur) := (spec_l1Below.f a0 (2 : Int)).bind fun r1 =>
  (spec_MendNew.f (wrap64 ((1 : Int) + r1.1)) (4 : Int)).bind fun r2 =>
  (spec_l1Below.f r1.2 (5 : Int)).bind fun r3 =>
  spec_l9DrawRight.p9 k r3.1 (0 : Int) a1 ((0 : Int), ((0 : Int), (([] : List Int), (([] : List Entry), (false, (([] : List (List Int)), ())))))) r2 r3.2
/-! spec.l9Draw -/
noncomputable def spec_l9Draw.f (k : Nat) (a0 : l1Cur) (a1 : Config) : Option (Mend × l1Cur) := (spec_l9DrawRight.f k a0 a1).bind fun r1 =>
  (spec_l1Below.f r1.2 (25 : Int)).bind fun r2 =>
  if r2.1 = (0 : Int) then ((spec_l1PickInt.f r2.2 ([r1.1.2.1, (30 : Int), (31 : Int)] : List Int)).bind fun r3 =>
    some ((r3.1, r1.1.2), r3.2))
  else if r2.1 = (1 : Int) then some ((r1.1.1, (r1.1.2.1, (r1.1.2.2.1, (r1.1.2.2.2.1, ((!(decide (r1.1.2.2.2.2.1 = true))), r1.1.2.2.2.2.2))))), r2.2)
  else if r2.1 = (2 : Int) then ((spec_l4DrawNodes.f k r2.2 a1).bind fun r4 =>
    if (((r1.1.2.2.2.2.2.1.length : Nat) : Int) + ((([r4.1] : List (List Int)).length : Nat) : Int)) ≤ lim then some ((r1.1.1, (r1.1.2.1, (r1.1.2.2.1, (r1.1.2.2.2.1, (r1.1.2.2.2.2.1, ((r1.1.2.2.2.2.2.1 ++ ([r4.1] : List (List Int))), r1.1.2.2.2.2.2.2)))))), r4.2)
    else none)
  else if r2.1 = (3 : Int) then ((spec_l3Draw.f r2.2).bind fun r5 =>
    if (((r1.1.2.2.2.1.length : Nat) : Int) + ((([r5.1] : List Entry).length : Nat) : Int)) ≤ lim then some ((r1.1.1, (r1.1.2.1, (r1.1.2.2.1, ((r1.1.2.2.2.1 ++ ([r5.1] : List Entry)), r1.1.2.2.2.2)))), r5.2)
    else none)
  else if r2.1 = (4 : Int) then ((spec_l4DrawNodes.f k r2.2 a1).bind fun r6 =>
    some ((r1.1.1, (r1.1.2.1, (r6.1, r1.1.2.2.2))), r6.2))
  else some (r1.1, r2.2)
/-! spec.l10DrawReader -/
noncomputable def spec_l10DrawReader.p7 : Nat → Int → Reader → Reader → l1Cur → Option (Reader × l1Cur)
  | 0, _, _, _, _ => none
  | k + 1, x0, x1, x2, x3 => (spec_l1Below.f x3 (4 : Int)).bind fun r3 =>
    if x0 < r3.1 then ((spec_l1Below.f r3.2 (5 : Int)).bind fun r4 =>
      (spec_l1DrawPlace.f r4.2).bind fun r5 =>
      if (((x2.2.2.1.length : Nat) : Int) + ((([((wrap64 ((1 : Int) + r4.1)), (r5.1, ((⟨#[]⟩ : ByteArray), ())))] : List Event).length : Nat) : Int)) ≤ lim then spec_l10DrawReader.p7 k (wrap64 (x0 + (1 : Int))) x1 (x2.1, (x2.2.1, ((x2.2.2.1 ++ ([((wrap64 ((1 : Int) + r4.1)), (r5.1, ((⟨#[]⟩ : ByteArray), ())))] : List Event)), x2.2.2.2))) r5.2
      else none)
    else (spec_l1Below.f r3.2 (25 : Int)).bind fun r6 =>
    if r6.1 = (0 : Int) then ((spec_l1PickInt.f r6.2 ([(0 : Int), (31 : Int), (32 : Int)] : List Int)).bind fun r7 =>
      some ((r7.1, x2.2), r7.2))
    else if r6.1 = (1 : Int) then ((spec_l1PickInt.f r6.2 ([(0 : Int), (60 : Int), (61 : Int), (62 : Int)] : List Int)).bind fun r8 =>
      some ((x2.1, (r8.1, x2.2.2)), r8.2))
    else if r6.1 = (2 : Int) then ((spec_l1Below.f r6.2 (2 : Int)).bind fun r9 =>
      if (0 : Int) ≤ (wrap64 ((120 : Int) + r9.1)) ∧ (wrap64 ((120 : Int) + r9.1)) ≤ (wrap64 ((120 : Int) + r9.1)) ∧ (wrap64 ((120 : Int) + r9.1)) ≤ lim then some ((x2.1, (x2.2.1, ((List.replicate (wrap64 ((120 : Int) + r9.1)).toNat ((0 : Int), ((0 : Int), ((⟨#[]⟩ : ByteArray), ())))), x2.2.2.2))), r9.2)
      else none)
    else some (x2, r6.2)
noncomputable def spec_l10DrawReader.f (k : Nat) (a0 : l1Cur) : Option (Reader × l1Cur) := (spec_l1Below.f a0 (3 : Int)).bind fun r1 =>
  (spec_l1Below.f r1.2 (5 : Int)).bind fun r2 =>
  spec_l10DrawReader.p7 k (0 : Int) ((0 : Int), ((0 : Int), (([] : List Event), ()))) ((wrap64 ((1 : Int) + r1.1)), ((wrap64 ((1 : Int) + r2.1)), (([] : List Event), ()))) r2.2
/-! spec.l4Draw -/
noncomputable def spec_l4Draw.f (k : Nat) (a0 : l1Cur) : Option (Config × l1Cur) := (spec_l4DrawRight.f k a0).bind fun r1 =>
  (spec_l1Below.f r1.2 (20 : Int)).bind fun r2 =>
  if r2.1 = (0 : Int) then ((spec_l1PickInt.f r2.2 ([(0 : Int), (4 : Int), (5 : Int)] : List Int)).bind fun r3 =>
    some ((r1.1.1, (r3.1, r1.1.2.2)), r3.2))
  else if r2.1 = (1 : Int) then ((spec_l1PickInt.f r2.2 ([(-1 : Int), (7 : Int), (8 : Int)] : List Int)).bind fun r4 =>
    if (0 : Int) ≤ (0 : Int) ∧ (0 : Int) < ((r1.1.1.length : Nat) : Int) then some (((r1.1.1.set (0 : Int).toNat r4.1), r1.1.2), r4.2)
    else none)
  else if r2.1 = (2 : Int) then ((spec_l1PickInt.f r2.2 ([(0 : Int), (8 : Int), (9 : Int)] : List Int)).bind fun r5 =>
    if (0 : Int) ≤ r5.1 ∧ r5.1 ≤ r5.1 ∧ r5.1 ≤ lim then some (((List.replicate r5.1.toNat (0 : Int)), r1.1.2), r5.2)
    else none)
  else some (r1.1, r2.2)
/-! spec.l13DrawWorld -/
noncomputable def spec_l13DrawWorld.f (k : Nat) (a0 : l1Cur) (a1 : (List Int)) : Option (World × l1Cur) := (spec_l1Long.f a1 (40 : Int) (90 : Int)).bind fun r1 =>
  (spec_l13DrawRun_w.f k a0 r1).bind fun r2 =>
  (spec_l1Below.f r2.2.2.2 (40 : Int)).bind fun r3 =>
  if r3.1 = (0 : Int) then ((spec_l4DrawNodes.f k r3.2 r2.2.2.1.1).bind fun r4 =>
    some ((r2.2.2.1.1, (r2.2.2.1.2.1, (r4.1, r2.2.2.1.2.2.2))), r4.2))
  else if r3.1 = (1 : Int) then ((spec_l6Draw.f k r3.2).bind fun r5 =>
    if (0 : Int) ≤ (0 : Int) ∧ (0 : Int) < ((r2.2.2.1.2.1.length : Nat) : Int) then some ((r2.2.2.1.1, ((r2.2.2.1.2.1.set (0 : Int).toNat r5.1), r2.2.2.1.2.2)), r5.2)
    else none)
  else if r3.1 = (2 : Int) then ((spec_l7Draw.f k r3.2 r2.2.2.1.1).bind fun r6 =>
    some ((r2.2.2.1.1, (r2.2.2.1.2.1, (r2.2.2.1.2.2.1, (r6.1, r2.2.2.1.2.2.2.2)))), r6.2))
  else if r3.1 = (3 : Int) then ((spec_l8Draw.f k r3.2 r2.2.2.1.1).bind fun r7 =>
    if (((r2.2.2.1.2.2.2.2.1.length : Nat) : Int) + ((([r7.1] : List Writer).length : Nat) : Int)) ≤ lim then some ((r2.2.2.1.1, (r2.2.2.1.2.1, (r2.2.2.1.2.2.1, (r2.2.2.1.2.2.2.1, ((r2.2.2.1.2.2.2.2.1 ++ ([r7.1] : List Writer)), r2.2.2.1.2.2.2.2.2))))), r7.2)
    else none)
  else if r3.1 = (4 : Int) then ((spec_l9Draw.f k r3.2 r2.2.2.1.1).bind fun r8 =>
    if (((r2.2.2.1.2.2.2.2.2.1.length : Nat) : Int) + ((([r8.1] : List Mend).length : Nat) : Int)) ≤ lim then some ((r2.2.2.1.1, (r2.2.2.1.2.1, (r2.2.2.1.2.2.1, (r2.2.2.1.2.2.2.1, (r2.2.2.1.2.2.2.2.1, ((r2.2.2.1.2.2.2.2.2.1 ++ ([r8.1] : List Mend)), r2.2.2.1.2.2.2.2.2.2)))))), r8.2)
    else none)
  else if r3.1 = (5 : Int) then ((spec_l10DrawReader.f k r3.2).bind fun r9 =>
    if (0 : Int) ≤ (0 : Int) ∧ (0 : Int) < ((r2.2.2.1.2.2.2.2.2.2.1.length : Nat) : Int) then some ((r2.2.2.1.1, (r2.2.2.1.2.1, (r2.2.2.1.2.2.1, (r2.2.2.1.2.2.2.1, (r2.2.2.1.2.2.2.2.1, (r2.2.2.1.2.2.2.2.2.1, ((r2.2.2.1.2.2.2.2.2.2.1.set (0 : Int).toNat r9.1), r2.2.2.1.2.2.2.2.2.2.2))))))), r9.2)
    else none)
  else if r3.1 = (6 : Int) then ((spec_l1DrawPlace.f r3.2).bind fun r10 =>
    if (((r2.2.2.1.2.2.2.2.2.2.2.1.length : Nat) : Int) + ((([(r10.1, ((⟨#[]⟩ : ByteArray), (false, ())))] : List Sent).length : Nat) : Int)) ≤ lim then some ((r2.2.2.1.1, (r2.2.2.1.2.1, (r2.2.2.1.2.2.1, (r2.2.2.1.2.2.2.1, (r2.2.2.1.2.2.2.2.1, (r2.2.2.1.2.2.2.2.2.1, (r2.2.2.1.2.2.2.2.2.2.1, ((r2.2.2.1.2.2.2.2.2.2.2.1 ++ ([(r10.1, ((⟨#[]⟩ : ByteArray), (false, ())))] : List Sent)), r2.2.2.1.2.2.2.2.2.2.2.2)))))))), r10.2)
    else none)
  else if r3.1 = (7 : Int) then some ((r2.2.2.1.1, (r2.2.2.1.2.1, (r2.2.2.1.2.2.1, (r2.2.2.1.2.2.2.1, (r2.2.2.1.2.2.2.2.1, (r2.2.2.1.2.2.2.2.2.1, (r2.2.2.1.2.2.2.2.2.2.1, (r2.2.2.1.2.2.2.2.2.2.2.1, ((!(decide (r2.2.2.1.2.2.2.2.2.2.2.2.1 = true))), r2.2.2.1.2.2.2.2.2.2.2.2.2))))))))), r3.2)
  else if r3.1 = (8 : Int) then ((spec_l4Draw.f k r3.2).bind fun r11 =>
    some ((r11.1, r2.2.2.1.2), r11.2))
  else some (r2.2.2.1, r3.2)
/-! spec.l13DrawPlace -/
noncomputable def spec_l13DrawPlace.f (a0 : l1Cur) (a1 : World) : Option (Int × l1Cur) := if (0 : Int) < ((a1.2.2.2.2.2.2.2.1.length : Nat) : Int) then ((spec_l1Once.f a0 (4 : Int)).bind fun r1 =>
    if r1.1 = true then ((spec_l1DrawPlace.f r1.2).bind fun r2 =>
      some (r2.1, r2.2))
    else (spec_l1Below.f r1.2 ((a1.2.2.2.2.2.2.2.1.length : Nat) : Int)).bind fun r3 =>
    if (0 : Int) ≤ r3.1 ∧ r3.1 < ((a1.2.2.2.2.2.2.2.1.length : Nat) : Int) then some ((a1.2.2.2.2.2.2.2.1.getD r3.1.toNat ((0 : Int), ((⟨#[]⟩ : ByteArray), (false, ())))).1, r3.2)
    else none)
  else (spec_l1DrawPlace.f a0).bind fun r4 =>
  some (r4.1, r4.2)
/-! spec.DrawHoldersOf -/
noncomputable def spec_DrawHoldersOf.f (k : Nat) (a0 : (List Int)) : Option (World × Int) := (spec_l1New.f k a0).bind fun r1 =>
  (spec_l13DrawWorld.f k r1 a0).bind fun r2 =>
  (spec_l13DrawPlace.f r2.2 r2.1).bind fun r3 =>
  some (r2.1, r3.1)
/-! impl.within -/
noncomputable def impl_within.f (a0 : Int) (a1 : Int) (a2 : Int) : Option (Bool) := if a1 ≤ a0 then some (decide (a0 ≤ a2))
  else some false
/-! impl.ConfigOk -/
noncomputable def impl_ConfigOk.p5 : Nat → (List Int) → Int → Int → Config → Option (Bool)
  | 0, _, _, _, _ => none
  | k + 1, x0, x1, x2, x3 => if x2 < x1 then (if (0 : Int) ≤ x2 ∧ x2 < ((x0.length : Nat) : Int) then ((impl_within.f (x0.getD x2.toNat (0 : Int)) (0 : Int) (7 : Int)).bind fun r1 =>
        if r1 = true then impl_ConfigOk.p5 k x0 x1 (wrap64 (x2 + (1 : Int))) x3
        else some false)
      else none)
    else (impl_within.f ((x3.1.length : Nat) : Int) (1 : Int) (8 : Int)).bind fun r2 =>
    if r2 = true then ((impl_within.f x3.2.1 (1 : Int) (4 : Int)).bind fun r3 =>
      some r3)
    else some false
noncomputable def impl_ConfigOk.f (k : Nat) (a0 : Config) : Option (Bool) := impl_ConfigOk.p5 k a0.1 ((a0.1.length : Nat) : Int) (0 : Int) a0
/-! impl.ascends -/
noncomputable def impl_ascends.p5 : Nat → (List Int) → Int → (List Int) → Int → Int → Option (Bool)
  | 0, _, _, _, _, _ => none
  | k + 1, x0, x1, x2, x3, x4 => if x4 < x3 then (if (0 : Int) ≤ x4 ∧ x4 < ((x2.length : Nat) : Int) then ((impl_within.f (x2.getD x4.toNat (0 : Int)) (0 : Int) x1).bind fun r1 =>
        if r1 = true then (if (0 : Int) < x4 then (if (0 : Int) ≤ (wrap64 (x4 - (1 : Int))) ∧ (wrap64 (x4 - (1 : Int))) < ((x0.length : Nat) : Int) then (if (x2.getD x4.toNat (0 : Int)) ≤ (x0.getD (wrap64 (x4 - (1 : Int))).toNat (0 : Int)) then some false
              else impl_ascends.p5 k x0 x1 x2 x3 (wrap64 (x4 + (1 : Int))))
            else none)
          else impl_ascends.p5 k x0 x1 x2 x3 (wrap64 (x4 + (1 : Int))))
        else some false)
      else none)
    else some true
noncomputable def impl_ascends.f (k : Nat) (a0 : (List Int)) (a1 : Int) : Option (Bool) := impl_ascends.p5 k a0 a1 a0 ((a0.length : Nat) : Int) (0 : Int)
/-! impl.NodesOk -/
noncomputable def impl_NodesOk.f (k : Nat) (a0 : Config) (a1 : (List Int)) : Option (Bool) := (impl_ConfigOk.f k a0).bind fun r1 =>
  if r1 = true then ((impl_ascends.f k a1 (wrap64 (((a0.1.length : Nat) : Int) - (1 : Int)))).bind fun r2 =>
    some r2)
  else some false
/-! impl.isEpoch -/
noncomputable def impl_isEpoch.f (a0 : Int) : Option (Bool) := (impl_within.f a0 (1 : Int) (30 : Int)).bind fun r1 =>
  some r1
/-! impl.isOff -/
noncomputable def impl_isOff.f (a0 : Int) : Option (Bool) := (impl_within.f a0 (1 : Int) (60 : Int)).bind fun r1 =>
  some r1
/-! impl.PlaceOk -/
noncomputable def impl_PlaceOk.f (a0 : Int) : Option (Bool) := (impl_isEpoch.f (wrap64 ((Int.tdiv a0 (4294967296 : Int))))).bind fun r1 =>
  if r1 = true then ((impl_isOff.f (Int.tmod a0 (4294967296 : Int))).bind fun r2 =>
    some r2)
  else some false
/-! impl.dataOk -/
noncomputable def impl_dataOk.f (a0 : ByteArray) : Option (Bool) := some (decide (((a0.size : Nat) : Int) ≤ (40 : Int)))
/-! impl.EpochOf -/
noncomputable def impl_EpochOf.f (a0 : Int) : Option (Int) := (impl_PlaceOk.f a0).bind fun r1 =>
  if r1 = true then some (wrap64 ((Int.tdiv a0 (4294967296 : Int))))
  else some (0 : Int)
/-! impl.EntryOk -/
mutual
noncomputable def impl_EntryOk.p4 : Nat → Bool → Entry → Option (Bool)
  | 0, _, _ => none
  | k + 1, x0, x1 => if x1.2.2.1 = true then (if (0 : Int) < x1.2.1 then impl_EntryOk.p6 k x0 (decide (x1.2.2.2.1 = (⟨#[]⟩ : ByteArray))) x1
      else impl_EntryOk.p6 k x0 false x1)
    else impl_EntryOk.p6 k x0 true x1
noncomputable def impl_EntryOk.p6 : Nat → Bool → Bool → Entry → Option (Bool)
  | 0, _, _, _ => none
  | k + 1, x0, x1, x2 => (impl_PlaceOk.f x2.1).bind fun r3 =>
    if r3 = true then (if x0 = true then (if x1 = true then ((impl_dataOk.f x2.2.2.2.1).bind fun r4 =>
          some r4)
        else some false)
      else some false)
    else some false
end
noncomputable def impl_EntryOk.f (k : Nat) (a0 : Entry) : Option (Bool) := (impl_within.f a0.2.1 (0 : Int) (30 : Int)).bind fun r1 =>
  if r1 = true then (if a0.2.1 = (0 : Int) then impl_EntryOk.p4 k true a0
    else (impl_EpochOf.f a0.1).bind fun r2 =>
    impl_EntryOk.p4 k (decide (r2 < a0.2.1)) a0)
  else impl_EntryOk.p4 k false a0
/-! impl.entriesOk -/
noncomputable def impl_entriesOk.p5 : Nat → (List Entry) → Int → Int → Option (Bool)
  | 0, _, _, _ => none
  | k + 1, x0, x1, x2 => if x2 < x1 then (if (0 : Int) ≤ x2 ∧ x2 < ((x0.length : Nat) : Int) then ((impl_EntryOk.f k (x0.getD x2.toNat ((0 : Int), ((0 : Int), (false, ((⟨#[]⟩ : ByteArray), ())))))).bind fun r1 =>
        if r1 = true then impl_entriesOk.p5 k x0 x1 (wrap64 (x2 + (1 : Int)))
        else some false)
      else none)
    else some true
noncomputable def impl_entriesOk.f (k : Nat) (a0 : (List Entry)) : Option (Bool) := impl_entriesOk.p5 k a0 ((a0.length : Nat) : Int) (0 : Int)
/-! impl.placesAscend -/
noncomputable def impl_placesAscend.p5 : Nat → (List Entry) → (List Entry) → Int → Int → Option (Bool)
  | 0, _, _, _, _ => none
  | k + 1, x0, x1, x2, x3 => if x3 < x2 then (if (0 : Int) ≤ x3 ∧ x3 < ((x1.length : Nat) : Int) then (if (0 : Int) < x3 then (if (0 : Int) ≤ (wrap64 (x3 - (1 : Int))) ∧ (wrap64 (x3 - (1 : Int))) < ((x0.length : Nat) : Int) then (if (x1.getD x3.toNat ((0 : Int), ((0 : Int), (false, ((⟨#[]⟩ : ByteArray), ()))))).1 ≤ (x0.getD (wrap64 (x3 - (1 : Int))).toNat ((0 : Int), ((0 : Int), (false, ((⟨#[]⟩ : ByteArray), ()))))).1 then some false
            else impl_placesAscend.p5 k x0 x1 x2 (wrap64 (x3 + (1 : Int))))
          else none)
        else impl_placesAscend.p5 k x0 x1 x2 (wrap64 (x3 + (1 : Int))))
      else none)
    else some true
noncomputable def impl_placesAscend.f (k : Nat) (a0 : (List Entry)) : Option (Bool) := impl_placesAscend.p5 k a0 a0 ((a0.length : Nat) : Int) (0 : Int)
/-! impl.StoreOk -/
noncomputable def impl_StoreOk.f (k : Nat) (a0 : Store) : Option (Bool) := if (200 : Int) < ((a0.1.length : Nat) : Int) then some false
  else if (20 : Int) < ((a0.2.1.length : Nat) : Int) then some false
  else (impl_entriesOk.f k a0.1).bind fun r1 =>
  if r1 = true then ((impl_entriesOk.f k a0.2.1).bind fun r2 =>
    if r2 = true then ((impl_placesAscend.f k a0.1).bind fun r3 =>
      if r3 = true then ((impl_within.f a0.2.2.1 (0 : Int) (30 : Int)).bind fun r4 =>
        some r4)
      else some false)
    else some false)
  else some false
/-! impl.copyInts -/
noncomputable def impl_copyInts.f (a0 : (List Int)) : Option ((List Int)) := if (((([] : List Int).length : Nat) : Int) + ((a0.length : Nat) : Int)) ≤ lim then some (([] : List Int) ++ a0)
  else none
/-! slices.DeleteFunc[[]int,int] at impl.both$1 -/
def slices_DeleteFunc_int_int_impl_both_1.okp (y : ((List Int) × Unit)) : Prop := y.1.length ≤ 1073741824
instance : DecidablePred slices_DeleteFunc_int_int_impl_both_1.okp := fun y => by unfold slices_DeleteFunc_int_int_impl_both_1.okp; infer_instance
def slices_DeleteFunc_int_int_impl_both_1.pred (y : ((List Int) × Unit)) (v : Int) : Bool := !(y.1.any fun u => decide (v = u))
noncomputable def slices_DeleteFunc_int_int_impl_both_1.f (a0 : List Int) (a1 : ((List Int) × Unit)) : Option (List Int) := if ((List.length a0 : Nat) : Int) ≤ lim ∧ slices_DeleteFunc_int_int_impl_both_1.okp a1 then some (List.filter (fun v => !slices_DeleteFunc_int_int_impl_both_1.pred a1 v) a0) else none

/-! impl.both -/
noncomputable def impl_both.f (a0 : (List Int)) (a1 : (List Int)) : Option ((List Int)) := (impl_copyInts.f a0).bind fun r1 =>
  (slices_DeleteFunc_int_int_impl_both_1.f r1 (a1, ())).bind fun r2 =>
  some r2
/-! impl.World).isLost -/
noncomputable def impl_World_isLost.f (a0 : World) (a1 : Int) : Option (Bool) := (impl_both.f ([a1] : List Int) a0.2.2.1).bind fun r1 =>
  some (decide ((0 : Int) < ((r1.length : Nat) : Int)))
/-! slices.Index[[]int,int] -/
noncomputable def slices_Index_int_int.p5 : Nat → (List Int) → Int → Int → Int → Option (Int)
  | 0, _, _, _, _ => none
  | k + 1, x0, x1, x2, x3 => if x3 < x2 then (if (0 : Int) ≤ x3 ∧ x3 < ((x0.length : Nat) : Int) then (if x1 = (x0.getD x3.toNat (0 : Int)) then some x3
        else slices_Index_int_int.p5 k x0 x1 x2 (wrap64 (x3 + (1 : Int))))
      else none)
    else some (-1 : Int)
noncomputable def slices_Index_int_int.f (k : Nat) (a0 : (List Int)) (a1 : Int) : Option (Int) := slices_Index_int_int.p5 k a0 a1 ((a0.length : Nat) : Int) (0 : Int)
/-! slices.Contains[[]int,int] -/
noncomputable def slices_Contains_int_int.f (k : Nat) (a0 : (List Int)) (a1 : Int) : Option (Bool) := (slices_Index_int_int.f k a0 a1).bind fun r1 =>
  some (decide ((0 : Int) ≤ r1))
/-! impl.SpanOf -/
noncomputable def impl_SpanOf.p11 : Nat → (List Int) → (List Int) → Int → Int → Config → Option (Int)
  | 0, _, _, _, _, _ => none
  | k + 1, x0, x1, x2, x3, x4 => if x3 < x2 then (if (0 : Int) ≤ x3 ∧ x3 < ((x1.length : Nat) : Int) then (if (0 : Int) ≤ (x1.getD x3.toNat (0 : Int)) ∧ (x1.getD x3.toNat (0 : Int)) < ((x4.1.length : Nat) : Int) then ((slices_Contains_int_int.f k x0 (x4.1.getD (x1.getD x3.toNat (0 : Int)).toNat (0 : Int))).bind fun r2 =>
          if r2 = true then impl_SpanOf.p11 k x0 x1 x2 (wrap64 (x3 + (1 : Int))) x4
          else if (0 : Int) ≤ (x1.getD x3.toNat (0 : Int)) ∧ (x1.getD x3.toNat (0 : Int)) < ((x4.1.length : Nat) : Int) then (if (((x0.length : Nat) : Int) + ((([(x4.1.getD (x1.getD x3.toNat (0 : Int)).toNat (0 : Int))] : List Int).length : Nat) : Int)) ≤ lim then impl_SpanOf.p11 k (x0 ++ ([(x4.1.getD (x1.getD x3.toNat (0 : Int)).toNat (0 : Int))] : List Int)) x1 x2 (wrap64 (x3 + (1 : Int))) x4
            else none)
          else none)
        else none)
      else none)
    else some ((x0.length : Nat) : Int)
noncomputable def impl_SpanOf.f (k : Nat) (a0 : Config) (a1 : (List Int)) : Option (Int) := (impl_NodesOk.f k a0 a1).bind fun r1 =>
  if r1 = true then impl_SpanOf.p11 k ([] : List Int) a1 ((a1.length : Nat) : Int) (0 : Int) a0
  else some (-1 : Int)
/-! impl.Holds -/
noncomputable def impl_Holds.f (k : Nat) (a0 : Config) (a1 : (List Int)) : Option (Bool) := (impl_NodesOk.f k a0 a1).bind fun r1 =>
  if r1 = true then ((impl_SpanOf.f k a0 a1).bind fun r2 =>
    some (decide (a0.2.1 ≤ r2)))
  else some false
/-! impl.World).storesOk -/
noncomputable def impl_World_storesOk.p9 : Nat → World → (List Store) → Int → Int → Option (Bool)
  | 0, _, _, _, _ => none
  | k + 1, x0, x1, x2, x3 => if x3 < x2 then (if (0 : Int) ≤ x3 ∧ x3 < ((x1.length : Nat) : Int) then ((impl_StoreOk.f k (x1.getD x3.toNat (([] : List Entry), (([] : List Entry), ((0 : Int), ()))))).bind fun r2 =>
        if r2 = true then ((impl_World_isLost.f x0 x3).bind fun r3 =>
          if r3 = true then (if (0 : Int) < (wrap64 ((wrap64 ((((x1.getD x3.toNat (([] : List Entry), (([] : List Entry), ((0 : Int), ())))).1.length : Nat) : Int) + (((x1.getD x3.toNat (([] : List Entry), (([] : List Entry), ((0 : Int), ())))).2.1.length : Nat) : Int))) + (x1.getD x3.toNat (([] : List Entry), (([] : List Entry), ((0 : Int), ())))).2.2.1)) then some false
            else impl_World_storesOk.p9 k x0 x1 x2 (wrap64 (x3 + (1 : Int))))
          else impl_World_storesOk.p9 k x0 x1 x2 (wrap64 (x3 + (1 : Int))))
        else some false)
      else none)
    else if x0.2.2.2.2.2.2.2.2.1 = true then some true
    else (impl_Holds.f k x0.1 x0.2.2.1).bind fun r4 =>
    some (!(decide (r4 = true)))
noncomputable def impl_World_storesOk.f (k : Nat) (a0 : World) : Option (Bool) := if ((a0.2.1.length : Nat) : Int) = ((a0.1.1.length : Nat) : Int) then ((impl_NodesOk.f k a0.1 a0.2.2.1).bind fun r1 =>
    if r1 = true then impl_World_storesOk.p9 k a0 a0.2.1 ((a0.2.1.length : Nat) : Int) (0 : Int)
    else some false)
  else some false
/-! impl.eraOk -/
noncomputable def impl_eraOk.f (k : Nat) (a0 : Config) (a1 : Era) : Option (Bool) := (impl_Holds.f k a0 a1.1).bind fun r1 =>
  if r1 = true then ((impl_within.f a1.2.2.1 (0 : Int) (60 : Int)).bind fun r2 =>
    if r2 = true then (if a1.2.1 = true then some true
      else some (decide (a1.2.2.1 = (0 : Int))))
    else some false)
  else some false
/-! impl.RegOk -/
mutual
noncomputable def impl_RegOk.p5 : Nat → (List Era) → Int → Int → Config → Register → Option (Bool)
  | 0, _, _, _, _, _ => none
  | k + 1, x0, x1, x2, x3, x4 => if x2 < x1 then (if (0 : Int) ≤ x2 ∧ x2 < ((x0.length : Nat) : Int) then ((impl_eraOk.f k x3 (x0.getD x2.toNat (([] : List Int), (false, ((0 : Int), ()))))).bind fun r1 =>
        if r1 = true then (if (x0.getD x2.toNat (([] : List Int), (false, ((0 : Int), ())))).2.1 = true then (if x2 = (wrap64 (((x4.1.length : Nat) : Int) - (1 : Int))) then some false
            else if (0 : Int) < x2 then (if (0 : Int) ≤ (wrap64 (x2 - (1 : Int))) ∧ (wrap64 (x2 - (1 : Int))) < ((x4.1.length : Nat) : Int) then (if (x4.1.getD (wrap64 (x2 - (1 : Int))).toNat (([] : List Int), (false, ((0 : Int), ())))).2.1 = true then impl_RegOk.p5 k x0 x1 (wrap64 (x2 + (1 : Int))) x3 x4
                else some false)
              else none)
            else impl_RegOk.p5 k x0 x1 (wrap64 (x2 + (1 : Int))) x3 x4)
          else impl_RegOk.p5 k x0 x1 (wrap64 (x2 + (1 : Int))) x3 x4)
        else some false)
      else none)
    else if x4.2.1 = (0 : Int) then impl_RegOk.p16 k true x3 x4
    else (impl_EpochOf.f x4.2.1).bind fun r2 =>
    (impl_within.f r2 (1 : Int) ((x4.1.length : Nat) : Int)).bind fun r3 =>
    impl_RegOk.p16 k r3 x3 x4
noncomputable def impl_RegOk.p16 : Nat → Bool → Config → Register → Option (Bool)
  | 0, _, _, _ => none
  | k + 1, x0, x1, x2 => (impl_ConfigOk.f k x1).bind fun r4 =>
    if r4 = true then (if ((x2.1.length : Nat) : Int) ≤ (30 : Int) then some x0
      else some false)
    else some false
end
noncomputable def impl_RegOk.f (k : Nat) (a0 : Config) (a1 : Register) : Option (Bool) := impl_RegOk.p5 k a1.1 ((a1.1.length : Nat) : Int) (0 : Int) a0 a1
/-! impl.flagNum -/
noncomputable def impl_flagNum.f (a0 : Bool) : Option (Int) := if a0 = true then some (1 : Int)
  else some (0 : Int)
/-! impl.WriterOk -/
noncomputable def impl_WriterOk.p7 : Nat → Int → (List Word) → Int → Int → Config → Writer → Option (Bool)
  | 0, _, _, _, _, _, _ => none
  | k + 1, x0, x1, x2, x3, x4, x5 => if x3 < x2 then (if (0 : Int) ≤ x3 ∧ x3 < ((x1.length : Nat) : Int) then ((impl_dataOk.f (x1.getD x3.toNat ((⟨#[]⟩ : ByteArray), (([] : List Int), (false, ())))).1).bind fun r1 =>
        if r1 = true then ((impl_NodesOk.f k x4 (x1.getD x3.toNat ((⟨#[]⟩ : ByteArray), (([] : List Int), (false, ())))).2.1).bind fun r2 =>
          if r2 = true then ((impl_Holds.f k x4 (x1.getD x3.toNat ((⟨#[]⟩ : ByteArray), (([] : List Int), (false, ())))).2.1).bind fun r3 =>
            if (x1.getD x3.toNat ((⟨#[]⟩ : ByteArray), (([] : List Int), (false, ())))).2.2.1 = r3 then ((impl_flagNum.f (!(decide ((x1.getD x3.toNat ((⟨#[]⟩ : ByteArray), (([] : List Int), (false, ())))).2.2.1 = true)))).bind fun r4 =>
              impl_WriterOk.p7 k (wrap64 (x0 + r4)) x1 x2 (wrap64 (x3 + (1 : Int))) x4 x5)
            else some false)
          else some false)
        else some false)
      else none)
    else (impl_ConfigOk.f k x4).bind fun r5 =>
    if r5 = true then ((impl_isEpoch.f x5.1).bind fun r6 =>
      if r6 = true then (if ((x5.2.1.length : Nat) : Int) ≤ (60 : Int) then some (decide (x0 ≤ (6 : Int)))
        else some false)
      else some false)
    else some false
noncomputable def impl_WriterOk.f (k : Nat) (a0 : Config) (a1 : Writer) : Option (Bool) := impl_WriterOk.p7 k (0 : Int) a1.2.1 ((a1.2.1.length : Nat) : Int) (0 : Int) a0 a1
/-! impl.World).isThere -/
noncomputable def impl_World_isThere.f (a0 : World) (a1 : Int) : Option (Bool) := (impl_within.f a1 (1 : Int) ((a0.2.2.2.1.1.length : Nat) : Int)).bind fun r1 =>
  some r1
/-! impl.World).writersOk -/
noncomputable def impl_World_writersOk.p5 : Nat → World → (List Writer) → Int → Int → Option (Bool)
  | 0, _, _, _, _ => none
  | k + 1, x0, x1, x2, x3 => if x3 < x2 then (if (0 : Int) ≤ x3 ∧ x3 < ((x1.length : Nat) : Int) then ((impl_WriterOk.f k x0.1 (x1.getD x3.toNat ((0 : Int), (([] : List Word), ())))).bind fun r1 =>
        if r1 = true then ((impl_World_isThere.f x0 (x1.getD x3.toNat ((0 : Int), (([] : List Word), ()))).1).bind fun r2 =>
          if r2 = true then (if (0 : Int) < x3 then (if (0 : Int) ≤ (wrap64 (x3 - (1 : Int))) ∧ (wrap64 (x3 - (1 : Int))) < ((x0.2.2.2.2.1.length : Nat) : Int) then (if (x1.getD x3.toNat ((0 : Int), (([] : List Word), ()))).1 ≤ (x0.2.2.2.2.1.getD (wrap64 (x3 - (1 : Int))).toNat ((0 : Int), (([] : List Word), ()))).1 then some false
                else impl_World_writersOk.p5 k x0 x1 x2 (wrap64 (x3 + (1 : Int))))
              else none)
            else impl_World_writersOk.p5 k x0 x1 x2 (wrap64 (x3 + (1 : Int))))
          else some false)
        else some false)
      else none)
    else some (decide (((x0.2.2.2.2.1.length : Nat) : Int) ≤ (4 : Int)))
noncomputable def impl_World_writersOk.f (k : Nat) (a0 : World) : Option (Bool) := impl_World_writersOk.p5 k a0 a0.2.2.2.2.1 ((a0.2.2.2.2.1.length : Nat) : Int) (0 : Int)
/-! impl.OffOf -/
noncomputable def impl_OffOf.f (a0 : Int) : Option (Int) := (impl_PlaceOk.f a0).bind fun r1 =>
  if r1 = true then some (Int.tmod a0 (4294967296 : Int))
  else some (0 : Int)
/-! impl.lastOff -/
noncomputable def impl_lastOff.f (a0 : Mend) : Option (Int) := if ((a0.2.2.2.1.length : Nat) : Int) = (0 : Int) then some (0 : Int)
  else if (0 : Int) ≤ (wrap64 (((a0.2.2.2.1.length : Nat) : Int) - (1 : Int))) ∧ (wrap64 (((a0.2.2.2.1.length : Nat) : Int) - (1 : Int))) < ((a0.2.2.2.1.length : Nat) : Int) then ((impl_OffOf.f (a0.2.2.2.1.getD (wrap64 (((a0.2.2.2.1.length : Nat) : Int) - (1 : Int))).toNat ((0 : Int), ((0 : Int), (false, ((⟨#[]⟩ : ByteArray), ()))))).1).bind fun r1 =>
    some r1)
  else none
/-! impl.seenOk -/
noncomputable def impl_seenOk.p5 : Nat → (List Entry) → Int → Int → Mend → Option (Bool)
  | 0, _, _, _, _ => none
  | k + 1, x0, x1, x2, x3 => if x2 < x1 then (if (0 : Int) ≤ x2 ∧ x2 < ((x0.length : Nat) : Int) then ((impl_EntryOk.f k (x0.getD x2.toNat ((0 : Int), ((0 : Int), (false, ((⟨#[]⟩ : ByteArray), ())))))).bind fun r1 =>
        if r1 = true then ((impl_EpochOf.f (x0.getD x2.toNat ((0 : Int), ((0 : Int), (false, ((⟨#[]⟩ : ByteArray), ()))))).1).bind fun r2 =>
          if r2 = x3.2.1 then (if x3.1 ≤ (x0.getD x2.toNat ((0 : Int), ((0 : Int), (false, ((⟨#[]⟩ : ByteArray), ()))))).2.1 then some false
            else impl_seenOk.p5 k x0 x1 (wrap64 (x2 + (1 : Int))) x3)
          else some false)
        else some false)
      else none)
    else (impl_placesAscend.f k x3.2.2.2.1).bind fun r3 =>
    some r3
noncomputable def impl_seenOk.f (k : Nat) (a0 : Mend) : Option (Bool) := impl_seenOk.p5 k a0.2.2.2.1 ((a0.2.2.2.1.length : Nat) : Int) (0 : Int) a0
/-! impl.MendOk -/
mutual
noncomputable def impl_MendOk.p5 : Nat → (List (List Int)) → Int → Int → Config → Mend → Option (Bool)
  | 0, _, _, _, _, _ => none
  | k + 1, x0, x1, x2, x3, x4 => if x2 < x1 then (if (0 : Int) ≤ x2 ∧ x2 < ((x0.length : Nat) : Int) then ((impl_NodesOk.f k x3 (x0.getD x2.toNat ([] : List Int))).bind fun r1 =>
        if r1 = true then impl_MendOk.p5 k x0 x1 (wrap64 (x2 + (1 : Int))) x3 x4
        else some false)
      else none)
    else if x4.2.2.2.2.1 = true then ((impl_lastOff.f x4).bind fun r2 =>
      impl_MendOk.p20 k r2 x3 x4)
    else impl_MendOk.p20 k (0 : Int) x3 x4
noncomputable def impl_MendOk.p20 : Nat → Int → Config → Mend → Option (Bool)
  | 0, _, _, _ => none
  | k + 1, x0, x1, x2 => (impl_isEpoch.f x2.2.1).bind fun r3 =>
    if r3 = true then ((impl_within.f x2.1 (wrap64 (x2.2.1 + (1 : Int))) (30 : Int)).bind fun r4 =>
      impl_MendOk.p22 k x0 r4 x1 x2)
    else impl_MendOk.p22 k x0 false x1 x2
noncomputable def impl_MendOk.p22 : Nat → Int → Bool → Config → Mend → Option (Bool)
  | 0, _, _, _, _ => none
  | k + 1, x0, x1, x2, x3 => (impl_ConfigOk.f k x2).bind fun r5 =>
    if r5 = true then (if x1 = true then ((impl_NodesOk.f k x2 x3.2.2.1).bind fun r6 =>
        if r6 = true then ((impl_seenOk.f k x3).bind fun r7 =>
          if r7 = true then some (decide (((x3.2.2.2.2.2.1.length : Nat) : Int) = x0))
          else some false)
        else some false)
      else some false)
    else some false
end
noncomputable def impl_MendOk.f (k : Nat) (a0 : Config) (a1 : Mend) : Option (Bool) := impl_MendOk.p5 k a1.2.2.2.2.2.1 ((a1.2.2.2.2.2.1.length : Nat) : Int) (0 : Int) a0 a1
/-! impl.FirstOpen -/
noncomputable def impl_FirstOpen.p5 : Nat → (List Era) → Int → Int → Option (Int)
  | 0, _, _, _ => none
  | k + 1, x0, x1, x2 => if x2 < x1 then (if (0 : Int) ≤ x2 ∧ x2 < ((x0.length : Nat) : Int) then (if (x0.getD x2.toNat (([] : List Int), (false, ((0 : Int), ())))).2.1 = true then impl_FirstOpen.p5 k x0 x1 (wrap64 (x2 + (1 : Int)))
        else some (wrap64 (x2 + (1 : Int))))
      else none)
    else some (0 : Int)
noncomputable def impl_FirstOpen.f (k : Nat) (a0 : Register) : Option (Int) := impl_FirstOpen.p5 k a0.1 ((a0.1.length : Nat) : Int) (0 : Int)
/-! impl.World).mendsOk -/
noncomputable def impl_World_mendsOk.p5 : Nat → World → (List Mend) → Int → Int → Option (Bool)
  | 0, _, _, _, _ => none
  | k + 1, x0, x1, x2, x3 => if x3 < x2 then (if (0 : Int) ≤ x3 ∧ x3 < ((x1.length : Nat) : Int) then ((impl_MendOk.f k x0.1 (x1.getD x3.toNat ((0 : Int), ((0 : Int), (([] : List Int), (([] : List Entry), (false, (([] : List (List Int)), ())))))))).bind fun r1 =>
        if r1 = true then (if (x1.getD x3.toNat ((0 : Int), ((0 : Int), (([] : List Int), (([] : List Entry), (false, (([] : List (List Int)), ()))))))).1 = ((x0.2.2.2.1.1.length : Nat) : Int) then ((impl_FirstOpen.f k x0.2.2.2.1).bind fun r2 =>
            if (x1.getD x3.toNat ((0 : Int), ((0 : Int), (([] : List Int), (([] : List Entry), (false, (([] : List (List Int)), ()))))))).2.1 = r2 then impl_World_mendsOk.p5 k x0 x1 x2 (wrap64 (x3 + (1 : Int)))
            else some false)
          else some false)
        else some false)
      else none)
    else some (decide (((x0.2.2.2.2.2.1.length : Nat) : Int) ≤ (1 : Int)))
noncomputable def impl_World_mendsOk.f (k : Nat) (a0 : World) : Option (Bool) := impl_World_mendsOk.p5 k a0 a0.2.2.2.2.2.1 ((a0.2.2.2.2.2.1.length : Nat) : Int) (0 : Int)
/-! impl.ReaderOk -/
noncomputable def impl_ReaderOk.f (a0 : Reader) : Option (Bool) := (impl_within.f a0.1 (1 : Int) (31 : Int)).bind fun r1 =>
  if r1 = true then ((impl_within.f a0.2.1 (1 : Int) (61 : Int)).bind fun r2 =>
    if r2 = true then some (decide (((a0.2.2.1.length : Nat) : Int) ≤ (120 : Int)))
    else some false)
  else some false
/-! impl.World).readersOk -/
noncomputable def impl_World_readersOk.p5 : Nat → World → (List Reader) → Int → Int → Option (Bool)
  | 0, _, _, _, _ => none
  | k + 1, x0, x1, x2, x3 => if x3 < x2 then (if (0 : Int) ≤ x3 ∧ x3 < ((x1.length : Nat) : Int) then ((impl_ReaderOk.f (x1.getD x3.toNat ((0 : Int), ((0 : Int), (([] : List Event), ()))))).bind fun r1 =>
        if r1 = true then impl_World_readersOk.p5 k x0 x1 x2 (wrap64 (x3 + (1 : Int)))
        else some false)
      else none)
    else some (decide (((x0.2.2.2.2.2.2.1.length : Nat) : Int) = (2 : Int)))
noncomputable def impl_World_readersOk.f (k : Nat) (a0 : World) : Option (Bool) := impl_World_readersOk.p5 k a0 a0.2.2.2.2.2.2.1 ((a0.2.2.2.2.2.2.1.length : Nat) : Int) (0 : Int)
/-! impl.World).sentOk -/
noncomputable def impl_World_sentOk.p5 : Nat → World → (List Sent) → Int → Int → Option (Bool)
  | 0, _, _, _, _ => none
  | k + 1, x0, x1, x2, x3 => if x3 < x2 then (if (0 : Int) ≤ x3 ∧ x3 < ((x1.length : Nat) : Int) then ((impl_EpochOf.f (x1.getD x3.toNat ((0 : Int), ((⟨#[]⟩ : ByteArray), (false, ())))).1).bind fun r1 =>
        (impl_World_isThere.f x0 r1).bind fun r2 =>
        if r2 = true then ((impl_dataOk.f (x1.getD x3.toNat ((0 : Int), ((⟨#[]⟩ : ByteArray), (false, ())))).2.1).bind fun r3 =>
          if r3 = true then (if (0 : Int) < x3 then (if (0 : Int) ≤ (wrap64 (x3 - (1 : Int))) ∧ (wrap64 (x3 - (1 : Int))) < ((x0.2.2.2.2.2.2.2.1.length : Nat) : Int) then (if (x1.getD x3.toNat ((0 : Int), ((⟨#[]⟩ : ByteArray), (false, ())))).1 ≤ (x0.2.2.2.2.2.2.2.1.getD (wrap64 (x3 - (1 : Int))).toNat ((0 : Int), ((⟨#[]⟩ : ByteArray), (false, ())))).1 then some false
                else impl_World_sentOk.p5 k x0 x1 x2 (wrap64 (x3 + (1 : Int))))
              else none)
            else impl_World_sentOk.p5 k x0 x1 x2 (wrap64 (x3 + (1 : Int))))
          else some false)
        else some false)
      else none)
    else some (decide (((x0.2.2.2.2.2.2.2.1.length : Nat) : Int) ≤ (120 : Int)))
noncomputable def impl_World_sentOk.f (k : Nat) (a0 : World) : Option (Bool) := impl_World_sentOk.p5 k a0 a0.2.2.2.2.2.2.2.1 ((a0.2.2.2.2.2.2.2.1.length : Nat) : Int) (0 : Int)
/-! impl.WorldOk -/
noncomputable def impl_WorldOk.p4 : Nat → Bool → World → Option (Bool)
  | 0, _, _ => none
  | k + 1, x0, x1 => if x0 = true then ((impl_World_writersOk.f k x1).bind fun r4 =>
      if r4 = true then ((impl_World_mendsOk.f k x1).bind fun r5 =>
        if r5 = true then ((impl_World_readersOk.f k x1).bind fun r6 =>
          if r6 = true then ((impl_World_sentOk.f k x1).bind fun r7 =>
            some r7)
          else some false)
        else some false)
      else some false)
    else some false
noncomputable def impl_WorldOk.f (k : Nat) (a0 : World) : Option (Bool) := (impl_ConfigOk.f k a0.1).bind fun r1 =>
  if r1 = true then ((impl_World_storesOk.f k a0).bind fun r2 =>
    if r2 = true then ((impl_RegOk.f k a0.1 a0.2.2.2.1).bind fun r3 =>
      impl_WorldOk.p4 k r3 a0)
    else impl_WorldOk.p4 k false a0)
  else impl_WorldOk.p4 k false a0
/-! impl.placeIn$1 -/
noncomputable def impl_placeIn_1.f (a0 : Entry) (a1 : Int) : Option (Int) := if a0.1 < a1 then some (-1 : Int)
  else if a1 < a0.1 then some (1 : Int)
  else some (0 : Int)
/-! impl.Entry,int] -/
noncomputable def slices_BinarySearchFunc_impl_Entry_impl_Entry_int_impl_placeIn_1.p7 : Nat → (List Entry) → Int → Unit → Int → Int → Int → Option (Int × Bool)
  | 0, _, _, _, _, _, _ => none
  | k + 1, x0, x1, x2, x3, x4, x5 => if x4 < x5 then (if (0 : Int) ≤ (wrap64 ((shrK .u64 (IntKind.wrap .u64 ((wrap64 (x4 + x5)))) (1 : Int)))) ∧ (wrap64 ((shrK .u64 (IntKind.wrap .u64 ((wrap64 (x4 + x5)))) (1 : Int)))) < ((x0.length : Nat) : Int) then ((impl_placeIn_1.f (x0.getD (wrap64 ((shrK .u64 (IntKind.wrap .u64 ((wrap64 (x4 + x5)))) (1 : Int)))).toNat ((0 : Int), ((0 : Int), (false, ((⟨#[]⟩ : ByteArray), ()))))) x1).bind fun r1 =>
        if r1 < (0 : Int) then slices_BinarySearchFunc_impl_Entry_impl_Entry_int_impl_placeIn_1.p7 k x0 x1 x2 x3 (wrap64 ((wrap64 ((shrK .u64 (IntKind.wrap .u64 ((wrap64 (x4 + x5)))) (1 : Int)))) + (1 : Int))) x5
        else slices_BinarySearchFunc_impl_Entry_impl_Entry_int_impl_placeIn_1.p7 k x0 x1 x2 x3 x4 (wrap64 ((shrK .u64 (IntKind.wrap .u64 ((wrap64 (x4 + x5)))) (1 : Int)))))
      else none)
    else if x4 < x3 then (if (0 : Int) ≤ x4 ∧ x4 < ((x0.length : Nat) : Int) then ((impl_placeIn_1.f (x0.getD x4.toNat ((0 : Int), ((0 : Int), (false, ((⟨#[]⟩ : ByteArray), ()))))) x1).bind fun r2 =>
        some (x4, (decide (r2 = (0 : Int)))))
      else none)
    else some (x4, false)
noncomputable def slices_BinarySearchFunc_impl_Entry_impl_Entry_int_impl_placeIn_1.f (k : Nat) (a0 : (List Entry)) (a1 : Int) (a2 : Unit) : Option (Int × Bool) := slices_BinarySearchFunc_impl_Entry_impl_Entry_int_impl_placeIn_1.p7 k a0 a1 a2 ((a0.length : Nat) : Int) (0 : Int) ((a0.length : Nat) : Int)
/-! impl.placeIn -/
noncomputable def impl_placeIn.f (k : Nat) (a0 : (List Entry)) (a1 : Int) : Option (Int × Bool) := (slices_BinarySearchFunc_impl_Entry_impl_Entry_int_impl_placeIn_1.f k a0 a1 ()).bind fun r1 =>
  some (r1.1, r1.2)
/-! impl.StoreGet -/
noncomputable def impl_StoreGet.f (k : Nat) (a0 : Store) (a1 : Int) : Option (Entry × Bool) := (impl_StoreOk.f k a0).bind fun r1 =>
  if r1 = true then ((impl_placeIn.f k a0.1 a1).bind fun r2 =>
    if r2.2 = true then (if (0 : Int) ≤ r2.1 ∧ r2.1 < ((a0.1.length : Nat) : Int) then some ((a0.1.getD r2.1.toNat ((0 : Int), ((0 : Int), (false, ((⟨#[]⟩ : ByteArray), ()))))), true)
      else none)
    else some (((0 : Int), ((0 : Int), (false, ((⟨#[]⟩ : ByteArray), ())))), false))
  else some (((0 : Int), ((0 : Int), (false, ((⟨#[]⟩ : ByteArray), ())))), false)
/-! impl.HoldersOf -/
noncomputable def impl_HoldersOf.p11 : Nat → Int → (List Int) → (List Store) → Int → Int → Option ((List Int))
  | 0, _, _, _, _, _ => none
  | k + 1, x0, x1, x2, x3, x4 => if x4 < x3 then (if (0 : Int) ≤ x4 ∧ x4 < ((x2.length : Nat) : Int) then ((impl_StoreGet.f k (x2.getD x4.toNat (([] : List Entry), (([] : List Entry), ((0 : Int), ())))) x0).bind fun r2 =>
        if r2.2 = true then (if (((x1.length : Nat) : Int) + ((([x4] : List Int).length : Nat) : Int)) ≤ lim then impl_HoldersOf.p11 k x0 (x1 ++ ([x4] : List Int)) x2 x3 (wrap64 (x4 + (1 : Int)))
          else none)
        else impl_HoldersOf.p11 k x0 x1 x2 x3 (wrap64 (x4 + (1 : Int))))
      else none)
    else some x1
noncomputable def impl_HoldersOf.f (k : Nat) (a0 : World) (a1 : Int) : Option ((List Int)) := (impl_WorldOk.f k a0).bind fun r1 =>
  if r1 = true then impl_HoldersOf.p11 k a1 ([] : List Int) a0.2.1 ((a0.2.1.length : Nat) : Int) (0 : Int)
  else some ([] : List Int)
/-! spec.HoldersOf -/
noncomputable def spec_HoldersOf.p7 : Nat → Int → (List Int) → Int → World → Option ((List Int))
  | 0, _, _, _, _ => none
  | k + 1, x0, x1, x2, x3 => if x2 < ((x3.2.1.length : Nat) : Int) then ((spec_WorldOk.f k x3).bind fun r1 =>
      if r1 = true then (if (0 : Int) ≤ x2 ∧ x2 < ((x3.2.1.length : Nat) : Int) then ((spec_l6Get.f k (x3.2.1.getD x2.toNat (([] : List Entry), (([] : List Entry), ((0 : Int), ())))).1 x0).bind fun r2 =>
          if r2.2 = true then (if (((x1.length : Nat) : Int) + ((([x2] : List Int).length : Nat) : Int)) ≤ lim then spec_HoldersOf.p7 k x0 (x1 ++ ([x2] : List Int)) (wrap64 (x2 + (1 : Int))) x3
            else none)
          else spec_HoldersOf.p7 k x0 x1 (wrap64 (x2 + (1 : Int))) x3)
        else none)
      else some x1)
    else some x1
noncomputable def spec_HoldersOf.f (k : Nat) (a0 : World) (a1 : Int) : Option ((List Int)) := spec_HoldersOf.p7 k a1 ([] : List Int) (0 : Int) a0
/-! laws.sameInts -/
noncomputable def laws_sameInts.p9 : Nat → (List Int) → (List Int) → Int → Option (Bool)
  | 0, _, _, _ => none
  | k + 1, x0, x1, x2 => if x2 < ((x0.length : Nat) : Int) then (if (0 : Int) ≤ x2 ∧ x2 < ((x0.length : Nat) : Int) then (if (0 : Int) ≤ x2 ∧ x2 < ((x1.length : Nat) : Int) then (if (x0.getD x2.toNat (0 : Int)) = (x1.getD x2.toNat (0 : Int)) then laws_sameInts.p9 k x0 x1 (wrap64 (x2 + (1 : Int)))
          else some false)
        else none)
      else none)
    else some true
noncomputable def laws_sameInts.f (k : Nat) (a0 : (List Int)) (a1 : (List Int)) : Option (Bool) := if ((a0.length : Nat) : Int) = ((a1.length : Nat) : Int) then laws_sameInts.p9 k a0 a1 (0 : Int)
  else some false
/-! laws.within -/
noncomputable def laws_within.p5 : Nat → (List Int) → Int → Int → Option (Bool)
  | 0, _, _, _ => none
  | k + 1, x0, x1, x2 => if x2 < ((x0.length : Nat) : Int) then (if (0 : Int) ≤ x2 ∧ x2 < ((x0.length : Nat) : Int) then (if (x0.getD x2.toNat (0 : Int)) = x1 then some true
        else laws_within.p5 k x0 x1 (wrap64 (x2 + (1 : Int))))
      else none)
    else some false
noncomputable def laws_within.f (k : Nat) (a0 : (List Int)) (a1 : Int) : Option (Bool) := laws_within.p5 k a0 a1 (0 : Int)
/-! spec.DrawSureOf -/
noncomputable def spec_DrawSureOf.f (k : Nat) (a0 : (List Int)) : Option (World × Int) := (spec_l1New.f k a0).bind fun r1 =>
  (spec_l13DrawWorld.f k r1 a0).bind fun r2 =>
  if (0 : Int) < ((r2.1.2.2.2.2.1.length : Nat) : Int) then ((spec_l1Once.f r2.2 (4 : Int)).bind fun r3 =>
    if r3.1 = true then ((spec_l1Below.f r3.2 (6 : Int)).bind fun r4 =>
      some (r2.1, r4.1))
    else (spec_l1Below.f r3.2 ((r2.1.2.2.2.2.1.length : Nat) : Int)).bind fun r5 =>
    if (0 : Int) ≤ r5.1 ∧ r5.1 < ((r2.1.2.2.2.2.1.length : Nat) : Int) then some (r2.1, (r2.1.2.2.2.2.1.getD r5.1.toNat ((0 : Int), (([] : List Word), ()))).1)
    else none)
  else (spec_l1Below.f r2.2 (6 : Int)).bind fun r6 =>
  some (r2.1, r6.1)
/-! impl.WriterSure -/
noncomputable def impl_WriterSure.p5 : Nat → (List Word) → Int → Int → Writer → Option (Int)
  | 0, _, _, _, _ => none
  | k + 1, x0, x1, x2, x3 => if x2 < x1 then (if (0 : Int) ≤ x2 ∧ x2 < ((x0.length : Nat) : Int) then (if (x0.getD x2.toNat ((⟨#[]⟩ : ByteArray), (([] : List Int), (false, ())))).2.2.1 = true then impl_WriterSure.p5 k x0 x1 (wrap64 (x2 + (1 : Int))) x3
        else some x2)
      else none)
    else some ((x3.2.1.length : Nat) : Int)
noncomputable def impl_WriterSure.f (k : Nat) (a0 : Writer) : Option (Int) := impl_WriterSure.p5 k a0.2.1 ((a0.2.1.length : Nat) : Int) (0 : Int) a0
/-! impl.SureOf -/
noncomputable def impl_SureOf.p5 : Nat → Int → (List Writer) → Int → Int → Option (Int)
  | 0, _, _, _, _ => none
  | k + 1, x0, x1, x2, x3 => if x3 < x2 then (if (0 : Int) ≤ x3 ∧ x3 < ((x1.length : Nat) : Int) then (if (x1.getD x3.toNat ((0 : Int), (([] : List Word), ()))).1 = x0 then ((impl_WriterSure.f k (x1.getD x3.toNat ((0 : Int), (([] : List Word), ())))).bind fun r1 =>
          some r1)
        else impl_SureOf.p5 k x0 x1 x2 (wrap64 (x3 + (1 : Int))))
      else none)
    else some (0 : Int)
noncomputable def impl_SureOf.f (k : Nat) (a0 : World) (a1 : Int) : Option (Int) := impl_SureOf.p5 k a1 a0.2.2.2.2.1 ((a0.2.2.2.2.1.length : Nat) : Int) (0 : Int)
/-! laws.FnWorlds -/
noncomputable def laws_FnWorlds.p19 : Nat → (List Int) → Int → Bool → (List Int) → Int → World → Option (Bool)
  | 0, _, _, _, _, _, _ => none
  | k + 1, x0, x1, x2, x3, x4, x5 => if x4 < ((x3.length : Nat) : Int) then (if (0 : Int) ≤ x4 ∧ x4 < ((x3.length : Nat) : Int) then (if (0 : Int) ≤ (x3.getD x4.toNat (0 : Int)) ∧ (x3.getD x4.toNat (0 : Int)) < ((x5.2.1.length : Nat) : Int) then ((impl_StoreGet.f k (x5.2.1.getD (x3.getD x4.toNat (0 : Int)).toNat (([] : List Entry), (([] : List Entry), ((0 : Int), ())))) x1).bind fun r8 =>
          if r8.2 = true then (if r8.1.1 = x1 then (if (0 : Int) ≤ x4 ∧ x4 < ((x3.length : Nat) : Int) then ((laws_within.f k x5.2.2.1 (x3.getD x4.toNat (0 : Int))).bind fun r9 =>
                if r9 = true then some false
                else laws_FnWorlds.p19 k x0 x1 x2 x3 (wrap64 (x4 + (1 : Int))) x5)
              else none)
            else some false)
          else some false)
        else none)
      else none)
    else (spec_DrawSureOf.f k x0).bind fun r10 =>
    (impl_SureOf.f k r10.1 r10.2).bind fun r11 =>
    (spec_SureOf.f k r10.1 r10.2).bind fun r12 =>
    if r11 = r12 then (if (0 : Int) ≤ r11 then (if x2 = true then some true
        else some (decide (((x3.length : Nat) : Int) = (0 : Int))))
      else some false)
    else some false
noncomputable def laws_FnWorlds.f (k : Nat) (a0 : (List Int)) : Option (Bool) := (laws_big.f a0).bind fun r1 =>
  if r1 = true then some true
  else (spec_DrawHoldersOf.f k a0).bind fun r2 =>
  (impl_WorldOk.f k r2.1).bind fun r3 =>
  (impl_HoldersOf.f k r2.1 r2.2).bind fun r4 =>
  (spec_WorldOk.f k r2.1).bind fun r5 =>
  if r3 = r5 then ((spec_HoldersOf.f k r2.1 r2.2).bind fun r6 =>
    (laws_sameInts.f k r4 r6).bind fun r7 =>
    if r7 = true then laws_FnWorlds.p19 k a0 r2.2 r3 r4 (0 : Int) r2.1
    else some false)
  else some false
end Go.Proofs.YtngfjichhphjeaaGreat.OmFnWorlds
