import Derived.Test.YtllmifioelbleaaOmD
set_option maxRecDepth 1000000
set_option linter.unusedVariables false
namespace Go.Proofs.Ytllmifioelbleaa.OmFnForgotten
open Go Go.OM
@[reducible] noncomputable def tConfig : Ty := .pair (.sl (.int .i64)) (.pair (.int .i64) (.unit))
@[reducible] noncomputable def Config : Type := (List Int) × Int × Unit
@[reducible] noncomputable def tEntry : Ty := .pair (.int .i64) (.pair (.int .i64) (.pair .bool (.pair .str (.unit))))
@[reducible] noncomputable def Entry : Type := Int × Int × Bool × ByteArray × Unit
@[reducible] noncomputable def tMend : Ty := .pair (.int .i64) (.pair (.int .i64) (.pair (.sl (.int .i64)) (.pair (.sl tEntry) (.pair .bool (.pair (.sl (.sl (.int .i64))) (.unit))))))
@[reducible] noncomputable def Mend : Type := Int × Int × (List Int) × (List Entry) × Bool × (List (List Int)) × Unit
@[reducible] noncomputable def tEra : Ty := .pair (.sl (.int .i64)) (.pair .bool (.pair (.int .i64) (.unit)))
@[reducible] noncomputable def Era : Type := (List Int) × Bool × Int × Unit
@[reducible] noncomputable def tRegister : Ty := .pair (.sl tEra) (.pair (.int .i64) (.unit))
@[reducible] noncomputable def Register : Type := (List Era) × Int × Unit
@[reducible] noncomputable def tStore : Ty := .pair (.sl tEntry) (.pair (.sl tEntry) (.pair (.int .i64) (.unit)))
@[reducible] noncomputable def Store : Type := (List Entry) × (List Entry) × Int × Unit
@[reducible] noncomputable def tWord : Ty := .pair .str (.pair (.sl (.int .i64)) (.pair .bool (.unit)))
@[reducible] noncomputable def Word : Type := ByteArray × (List Int) × Bool × Unit
@[reducible] noncomputable def tWriter : Ty := .pair (.int .i64) (.pair (.sl tWord) (.unit))
@[reducible] noncomputable def Writer : Type := Int × (List Word) × Unit
@[reducible] noncomputable def treader : Ty := .pair (.sl (.int .u8)) (.pair (.int .i64) (.pair .bool (.unit)))
@[reducible] noncomputable def reader : Type := (List Int) × Int × Bool × Unit
@[reducible] noncomputable def tl1Cur : Ty := .pair (.sl (.int .u8)) (.pair (.int .i64) (.pair (.int .i64) (.unit)))
@[reducible] noncomputable def l1Cur : Type := (List Int) × Int × Int × Unit
/-! laws.big -/
noncomputable def laws_big.f (a0 : (List Int)) : Option (Bool) := some (decide ((1048576 : Int) < ((a0.length : Nat) : Int)))
/-! spec.l1New -/
noncomputable def spec_l1New.p7 : Nat → (List Int) → Int → Int → Option (l1Cur)
  | 0, _, _, _ => none
  | k + 1, x0, x1, x2 => if x2 < ((x0.length : Nat) : Int) then (if x2 < (4000 : Int) then (if (0 : Int) ≤ x2 ∧ x2 < ((x0.length : Nat) : Int) then spec_l1New.p7 k x0 (andK .i64 (wrap64 ((wrap64 ((wrap64 (x1 * (131 : Int))) + (wrap64 ((x0.getD x2.toNat (0 : Int)))))) + (7 : Int))) (1073741823 : Int)) (wrap64 (x2 + (1 : Int)))
        else none)
      else some (x0, ((0 : Int), (x1, ()))))
    else some (x0, ((0 : Int), (x1, ())))
noncomputable def spec_l1New.f (k : Nat) (a0 : (List Int)) : Option (l1Cur) := spec_l1New.p7 k a0 (wrap64 ((17817 : Int) + ((a0.length : Nat) : Int))) (0 : Int)
/-! spec.l1Byte -/
noncomputable def spec_l1Byte.f (a0 : l1Cur) : Option (Int × l1Cur) := if a0.2.1 < ((a0.1.length : Nat) : Int) then (if (0 : Int) ≤ a0.2.1 ∧ a0.2.1 < ((a0.1.length : Nat) : Int) then some ((andK .i64 (wrap64 ((andK .i64 (xorK .i64 (shrK .i64 (wrap64 ((wrap64 (a0.2.2.1 * (6364136223846793005 : Int))) + (1442695040888963407 : Int))) (33 : Int)) (shrK .i64 (wrap64 ((wrap64 (a0.2.2.1 * (6364136223846793005 : Int))) + (1442695040888963407 : Int))) (45 : Int))) (255 : Int)) + (wrap64 ((a0.1.getD a0.2.1.toNat (0 : Int)))))) (255 : Int)), (a0.1, ((wrap64 (a0.2.1 + (1 : Int))), ((wrap64 ((wrap64 (a0.2.2.1 * (6364136223846793005 : Int))) + (1442695040888963407 : Int))), a0.2.2.2))))
    else none)
  else some ((andK .i64 (xorK .i64 (shrK .i64 (wrap64 ((wrap64 (a0.2.2.1 * (6364136223846793005 : Int))) + (1442695040888963407 : Int))) (33 : Int)) (shrK .i64 (wrap64 ((wrap64 (a0.2.2.1 * (6364136223846793005 : Int))) + (1442695040888963407 : Int))) (45 : Int))) (255 : Int)), (a0.1, (a0.2.1, ((wrap64 ((wrap64 (a0.2.2.1 * (6364136223846793005 : Int))) + (1442695040888963407 : Int))), a0.2.2.2))))
/-! spec.l1Below -/
noncomputable def spec_l1Below.f (a0 : l1Cur) (a1 : Int) : Option (Int × l1Cur) := if a1 ≤ (0 : Int) then some ((0 : Int), a0)
  else if a1 ≤ (256 : Int) then ((spec_l1Byte.f a0).bind fun r1 =>
    if a1 = (0 : Int) then none
    else some ((Int.tmod r1.1 a1), r1.2))
  else (spec_l1Byte.f a0).bind fun r2 =>
  (spec_l1Byte.f r2.2).bind fun r3 =>
  (spec_l1Byte.f r3.2).bind fun r4 =>
  (spec_l1Byte.f r4.2).bind fun r5 =>
  if a1 = (0 : Int) then none
  else some ((Int.tmod (wrap64 ((wrap64 ((wrap64 ((wrap64 (r2.1 * (16777216 : Int))) + (wrap64 (r3.1 * (65536 : Int))))) + (wrap64 (r4.1 * (256 : Int))))) + r5.1)) a1), r5.2)
/-! spec.l1Once -/
noncomputable def spec_l1Once.f (a0 : l1Cur) (a1 : Int) : Option (Bool × l1Cur) := (spec_l1Below.f a0 a1).bind fun r1 =>
  some ((decide (r1.1 = (0 : Int))), r1.2)
/-! spec.l4DrawRight -/
noncomputable def spec_l4DrawRight.p9 : Nat → Int → Int → Config → Config → l1Cur → Option (Config × l1Cur)
  | 0, _, _, _, _, _ => none
  | k + 1, x0, x1, x2, x3, x4 => if x1 < x0 then ((spec_l1Below.f x4 (5 : Int)).bind fun r3 =>
      if (((x3.1.length : Nat) : Int) + ((([r3.1] : List Int).length : Nat) : Int)) ≤ lim then spec_l4DrawRight.p9 k x0 (wrap64 (x1 + (1 : Int))) x2 ((x3.1 ++ ([r3.1] : List Int)), x3.2) r3.2
      else none)
    else (spec_l1Once.f x4 (2 : Int)).bind fun r4 =>
    if r4.1 = true then some ((x3.1, ((2 : Int), x3.2.2)), r4.2)
    else some (x3, r4.2)
noncomputable def spec_l4DrawRight.f (k : Nat) (a0 : l1Cur) : Option (Config × l1Cur) := (spec_l1Below.f a0 (3 : Int)).bind fun r1 =>
  (spec_l1Below.f r1.2 (5 : Int)).bind fun r2 =>
  spec_l4DrawRight.p9 k (wrap64 ((3 : Int) + r2.1)) (0 : Int) (([] : List Int), ((0 : Int), ())) (([] : List Int), ((wrap64 ((1 : Int) + r1.1)), ())) r2.2
/-! spec.l1PickInt -/
noncomputable def spec_l1PickInt.f (a0 : l1Cur) (a1 : (List Int)) : Option (Int × l1Cur) := (spec_l1Below.f a0 ((a1.length : Nat) : Int)).bind fun r1 =>
  if (0 : Int) ≤ r1.1 ∧ r1.1 < ((a1.length : Nat) : Int) then some ((a1.getD r1.1.toNat (0 : Int)), r1.2)
  else none
/-! spec.l4Draw -/
noncomputable def spec_l4Draw.f (k : Nat) (a0 : l1Cur) : Option (Config × l1Cur) := (spec_l4DrawRight.f k a0).bind fun r1 =>
  (spec_l1Below.f r1.2 (20 : Int)).bind fun r2 =>
  if r2.1 = (0 : Int) then ((spec_l1PickInt.f r2.2 ([(0 : Int), (4 : Int), (5 : Int)] : List Int)).bind fun r3 =>
    some ((r1.1.1, (r3.1, r1.1.2.2)), r3.2))
  else if r2.1 = (1 : Int) then ((spec_l1PickInt.f r2.2 ([(-1 : Int), (7 : Int), (8 : Int)] : List Int)).bind fun r4 =>
    if (0 : Int) ≤ (0 : Int) ∧ (0 : Int) < ((r1.1.1.length : Nat) : Int) then some (((r1.1.1.set (0 : Int).toNat r4.1), r1.1.2), r4.2)
    else none)
  else if r2.1 = (2 : Int) then ((spec_l1PickInt.f r2.2 ([(0 : Int), (8 : Int), (9 : Int)] : List Int)).bind fun r5 =>
    if (0 : Int) ≤ r5.1 ∧ r5.1 ≤ r5.1 ∧ r5.1 ≤ lim then some (((List.replicate r5.1.toNat (0 : Int)), r1.1.2), r5.2)
    else none)
  else some (r1.1, r2.2)
/-! spec.l1Pick -/
noncomputable def spec_l1Pick.f (a0 : l1Cur) (a1 : (List ByteArray)) : Option (ByteArray × l1Cur) := (spec_l1Below.f a0 ((a1.length : Nat) : Int)).bind fun r1 =>
  if (0 : Int) ≤ r1.1 ∧ r1.1 < ((a1.length : Nat) : Int) then some ((a1.getD r1.1.toNat (⟨#[]⟩ : ByteArray)), r1.2)
  else none
/-! spec.l1In -/
noncomputable def spec_l1In.f (a0 : Int) (a1 : Int) (a2 : Int) : Option (Bool) := if a1 ≤ a0 then some (decide (a0 ≤ a2))
  else some false
/-! spec.ConfigOk -/
noncomputable def spec_ConfigOk.p9 : Nat → Int → Config → Option (Bool)
  | 0, _, _ => none
  | k + 1, x0, x1 => if x0 < ((x1.1.length : Nat) : Int) then (if (0 : Int) ≤ x0 ∧ x0 < ((x1.1.length : Nat) : Int) then ((spec_l1In.f (x1.1.getD x0.toNat (0 : Int)) (0 : Int) (7 : Int)).bind fun r3 =>
        if r3 = true then spec_ConfigOk.p9 k (wrap64 (x0 + (1 : Int))) x1
        else some false)
      else none)
    else some true
noncomputable def spec_ConfigOk.f (k : Nat) (a0 : Config) : Option (Bool) := (spec_l1In.f ((a0.1.length : Nat) : Int) (1 : Int) (8 : Int)).bind fun r1 =>
  if r1 = true then ((spec_l1In.f a0.2.1 (1 : Int) (4 : Int)).bind fun r2 =>
    if r2 = true then spec_ConfigOk.p9 k (0 : Int) a0
    else some false)
  else some false
/-! spec.l4Asc -/
noncomputable def spec_l4Asc.p5 : Nat → (List Int) → Int → Int → Int → Option (Bool)
  | 0, _, _, _, _ => none
  | k + 1, x0, x1, x2, x3 => if x3 < ((x0.length : Nat) : Int) then (if (0 : Int) ≤ x3 ∧ x3 < ((x0.length : Nat) : Int) then ((spec_l1In.f (x0.getD x3.toNat (0 : Int)) x1 x2).bind fun r1 =>
        if r1 = true then (if (0 : Int) < x3 then (if (0 : Int) ≤ (wrap64 (x3 - (1 : Int))) ∧ (wrap64 (x3 - (1 : Int))) < ((x0.length : Nat) : Int) then (if (0 : Int) ≤ x3 ∧ x3 < ((x0.length : Nat) : Int) then (if (x0.getD x3.toNat (0 : Int)) ≤ (x0.getD (wrap64 (x3 - (1 : Int))).toNat (0 : Int)) then some false
                else spec_l4Asc.p5 k x0 x1 x2 (wrap64 (x3 + (1 : Int))))
              else none)
            else none)
          else spec_l4Asc.p5 k x0 x1 x2 (wrap64 (x3 + (1 : Int))))
        else some false)
      else none)
    else some true
noncomputable def spec_l4Asc.f (k : Nat) (a0 : (List Int)) (a1 : Int) (a2 : Int) : Option (Bool) := spec_l4Asc.p5 k a0 a1 a2 (0 : Int)
/-! spec.NodesOk -/
noncomputable def spec_NodesOk.f (k : Nat) (a0 : Config) (a1 : (List Int)) : Option (Bool) := (spec_ConfigOk.f k a0).bind fun r1 =>
  if r1 = true then ((spec_l4Asc.f k a1 (0 : Int) (wrap64 (((a0.1.length : Nat) : Int) - (1 : Int)))).bind fun r2 =>
    some r2)
  else some false
/-! spec.l4Span -/
noncomputable def spec_l4Span.p9 : Nat → (List Int) → (List Bool) → Int → Int → Config → Option (Int)
  | 0, _, _, _, _, _ => none
  | k + 1, x0, x1, x2, x3, x4 => if x3 < ((x0.length : Nat) : Int) then (if (0 : Int) ≤ x3 ∧ x3 < ((x0.length : Nat) : Int) then (if (0 : Int) ≤ (x0.getD x3.toNat (0 : Int)) ∧ (x0.getD x3.toNat (0 : Int)) < ((x4.1.length : Nat) : Int) then (if (0 : Int) ≤ (x4.1.getD (x0.getD x3.toNat (0 : Int)).toNat (0 : Int)) ∧ (x4.1.getD (x0.getD x3.toNat (0 : Int)).toNat (0 : Int)) < ((x1.length : Nat) : Int) then (if (x1.getD (x4.1.getD (x0.getD x3.toNat (0 : Int)).toNat (0 : Int)).toNat false) = true then spec_l4Span.p9 k x0 x1 x2 (wrap64 (x3 + (1 : Int))) x4
            else if (0 : Int) ≤ (x4.1.getD (x0.getD x3.toNat (0 : Int)).toNat (0 : Int)) ∧ (x4.1.getD (x0.getD x3.toNat (0 : Int)).toNat (0 : Int)) < ((x1.length : Nat) : Int) then spec_l4Span.p9 k x0 (x1.set (x4.1.getD (x0.getD x3.toNat (0 : Int)).toNat (0 : Int)).toNat true) (wrap64 (x2 + (1 : Int))) (wrap64 (x3 + (1 : Int))) x4
            else none)
          else none)
        else none)
      else none)
    else some x2
noncomputable def spec_l4Span.f (k : Nat) (a0 : Config) (a1 : (List Int)) : Option (Int) := if (0 : Int) ≤ (8 : Int) ∧ (8 : Int) ≤ (8 : Int) ∧ (8 : Int) ≤ lim then spec_l4Span.p9 k a1 (List.replicate (8 : Int).toNat false) (0 : Int) (0 : Int) a0
  else none
/-! spec.Holds -/
noncomputable def spec_Holds.f (k : Nat) (a0 : Config) (a1 : (List Int)) : Option (Bool) := (spec_NodesOk.f k a0 a1).bind fun r1 =>
  if r1 = true then ((spec_l4Span.f k a0 a1).bind fun r2 =>
    some (decide (a0.2.1 ≤ r2)))
  else some false
/-! spec.WriterOk -/
noncomputable def spec_WriterOk.p11 : Nat → Int → Int → Config → Writer → Option (Bool)
  | 0, _, _, _, _ => none
  | k + 1, x0, x1, x2, x3 => if x1 < ((x3.2.1.length : Nat) : Int) then (if (0 : Int) ≤ x1 ∧ x1 < ((x3.2.1.length : Nat) : Int) then (if (40 : Int) < (((x3.2.1.getD x1.toNat ((⟨#[]⟩ : ByteArray), (([] : List Int), (false, ())))).1.size : Nat) : Int) then some false
        else (spec_NodesOk.f k x2 (x3.2.1.getD x1.toNat ((⟨#[]⟩ : ByteArray), (([] : List Int), (false, ())))).2.1).bind fun r3 =>
        if r3 = true then ((spec_Holds.f k x2 (x3.2.1.getD x1.toNat ((⟨#[]⟩ : ByteArray), (([] : List Int), (false, ())))).2.1).bind fun r4 =>
          if r4 = (x3.2.1.getD x1.toNat ((⟨#[]⟩ : ByteArray), (([] : List Int), (false, ())))).2.2.1 then (if (x3.2.1.getD x1.toNat ((⟨#[]⟩ : ByteArray), (([] : List Int), (false, ())))).2.2.1 = true then spec_WriterOk.p11 k x0 (wrap64 (x1 + (1 : Int))) x2 x3
            else spec_WriterOk.p11 k (wrap64 (x0 + (1 : Int))) (wrap64 (x1 + (1 : Int))) x2 x3)
          else some false)
        else some false)
      else none)
    else some (decide (x0 ≤ (6 : Int)))
noncomputable def spec_WriterOk.f (k : Nat) (a0 : Config) (a1 : Writer) : Option (Bool) := (spec_ConfigOk.f k a0).bind fun r1 =>
  if r1 = true then ((spec_l1In.f a1.1 (1 : Int) (30 : Int)).bind fun r2 =>
    if r2 = true then (if (60 : Int) < ((a1.2.1.length : Nat) : Int) then some false
      else spec_WriterOk.p11 k (0 : Int) (0 : Int) a0 a1)
    else some false)
  else some false
/-! spec.l8Copy -/
noncomputable def spec_l8Copy.p7 : Nat → Int → Writer → Writer → Writer → Option (Writer)
  | 0, _, _, _, _ => none
  | k + 1, x0, x1, x2, x3 => if x0 < ((x1.2.1.length : Nat) : Int) then (if (0 : Int) ≤ x0 ∧ x0 < ((x1.2.1.length : Nat) : Int) then (if (((([] : List Int).length : Nat) : Int) + (((x1.2.1.getD x0.toNat ((⟨#[]⟩ : ByteArray), (([] : List Int), (false, ())))).2.1.length : Nat) : Int)) ≤ lim then (if (((x3.2.1.length : Nat) : Int) + ((([((x1.2.1.getD x0.toNat ((⟨#[]⟩ : ByteArray), (([] : List Int), (false, ())))).1, ((([] : List Int) ++ (x1.2.1.getD x0.toNat ((⟨#[]⟩ : ByteArray), (([] : List Int), (false, ())))).2.1), (x1.2.1.getD x0.toNat ((⟨#[]⟩ : ByteArray), (([] : List Int), (false, ())))).2.2))] : List Word).length : Nat) : Int)) ≤ lim then spec_l8Copy.p7 k (wrap64 (x0 + (1 : Int))) x1 x2 (x3.1, ((x3.2.1 ++ ([((x1.2.1.getD x0.toNat ((⟨#[]⟩ : ByteArray), (([] : List Int), (false, ())))).1, ((([] : List Int) ++ (x1.2.1.getD x0.toNat ((⟨#[]⟩ : ByteArray), (([] : List Int), (false, ())))).2.1), (x1.2.1.getD x0.toNat ((⟨#[]⟩ : ByteArray), (([] : List Int), (false, ())))).2.2))] : List Word)), x3.2.2))
          else none)
        else none)
      else none)
    else some x3
noncomputable def spec_l8Copy.f (k : Nat) (a0 : Writer) : Option (Writer) := spec_l8Copy.p7 k (0 : Int) a0 ((0 : Int), (([] : List Word), ())) (a0.1, (([] : List Word), ()))
/-! spec.WriterAdd -/
noncomputable def spec_WriterAdd.f (k : Nat) (a0 : Config) (a1 : Writer) (a2 : ByteArray) : Option (Writer × Int × Bool) := (spec_WriterOk.f k a0 a1).bind fun r1 =>
  if r1 = true then ((spec_l8Copy.f k a1).bind fun r2 =>
    if (((r2.2.1.length : Nat) : Int) + ((([(a2, (([] : List Int), (false, ())))] : List Word).length : Nat) : Int)) ≤ lim then ((spec_WriterOk.f k a0 (r2.1, ((r2.2.1 ++ ([(a2, (([] : List Int), (false, ())))] : List Word)), r2.2.2))).bind fun r3 =>
      if r3 = true then some ((r2.1, ((r2.2.1 ++ ([(a2, (([] : List Int), (false, ())))] : List Word)), r2.2.2)), (((r2.2.1 ++ ([(a2, (([] : List Int), (false, ())))] : List Word)).length : Nat) : Int), true)
      else (spec_l8Copy.f k a1).bind fun r4 =>
      some (r4, (0 : Int), false))
    else none)
  else some (((0 : Int), (([] : List Word), ())), (0 : Int), false)
/-! spec.l1Max -/
noncomputable def spec_l1Max.f (a0 : Int) (a1 : Int) : Option (Int) := if a1 < a0 then some a0
  else some a1
/-! spec.l4Has -/
noncomputable def spec_l4Has.p5 : Nat → (List Int) → Int → Int → Option (Bool)
  | 0, _, _, _ => none
  | k + 1, x0, x1, x2 => if x2 < ((x0.length : Nat) : Int) then (if (0 : Int) ≤ x2 ∧ x2 < ((x0.length : Nat) : Int) then (if (x0.getD x2.toNat (0 : Int)) = x1 then some true
        else spec_l4Has.p5 k x0 x1 (wrap64 (x2 + (1 : Int))))
      else none)
    else some false
noncomputable def spec_l4Has.f (k : Nat) (a0 : (List Int)) (a1 : Int) : Option (Bool) := spec_l4Has.p5 k a0 a1 (0 : Int)
/-! spec.l4Put -/
noncomputable def spec_l4Put.p9 : Nat → (List Int) → Int → (List Int) → Bool → Int → Option ((List Int))
  | 0, _, _, _, _, _ => none
  | k + 1, x0, x1, x2, x3, x4 => if x4 < ((x0.length : Nat) : Int) then (if x3 = true then (if (0 : Int) ≤ x4 ∧ x4 < ((x0.length : Nat) : Int) then (if (((x2.length : Nat) : Int) + ((([(x0.getD x4.toNat (0 : Int))] : List Int).length : Nat) : Int)) ≤ lim then spec_l4Put.p9 k x0 x1 (x2 ++ ([(x0.getD x4.toNat (0 : Int))] : List Int)) x3 (wrap64 (x4 + (1 : Int)))
          else none)
        else none)
      else if (0 : Int) ≤ x4 ∧ x4 < ((x0.length : Nat) : Int) then (if x1 < (x0.getD x4.toNat (0 : Int)) then (if (((x2.length : Nat) : Int) + ((([x1] : List Int).length : Nat) : Int)) ≤ lim then (if (0 : Int) ≤ x4 ∧ x4 < ((x0.length : Nat) : Int) then (if ((((x2 ++ ([x1] : List Int)).length : Nat) : Int) + ((([(x0.getD x4.toNat (0 : Int))] : List Int).length : Nat) : Int)) ≤ lim then spec_l4Put.p9 k x0 x1 ((x2 ++ ([x1] : List Int)) ++ ([(x0.getD x4.toNat (0 : Int))] : List Int)) true (wrap64 (x4 + (1 : Int)))
              else none)
            else none)
          else none)
        else if (0 : Int) ≤ x4 ∧ x4 < ((x0.length : Nat) : Int) then (if (((x2.length : Nat) : Int) + ((([(x0.getD x4.toNat (0 : Int))] : List Int).length : Nat) : Int)) ≤ lim then spec_l4Put.p9 k x0 x1 (x2 ++ ([(x0.getD x4.toNat (0 : Int))] : List Int)) x3 (wrap64 (x4 + (1 : Int)))
          else none)
        else none)
      else none)
    else if x3 = true then some x2
    else if (((x2.length : Nat) : Int) + ((([x1] : List Int).length : Nat) : Int)) ≤ lim then some (x2 ++ ([x1] : List Int))
    else none
noncomputable def spec_l4Put.f (k : Nat) (a0 : (List Int)) (a1 : Int) : Option ((List Int)) := (spec_l4Has.f k a0 a1).bind fun r1 =>
  spec_l4Put.p9 k a0 a1 ([] : List Int) r1 (0 : Int)
/-! spec.WriterAck -/
noncomputable def spec_WriterAck.f (k : Nat) (a0 : Config) (a1 : Writer) (a2 : Int) (a3 : Int) : Option (Writer × Bool) := (spec_WriterOk.f k a0 a1).bind fun r1 =>
  if r1 = true then ((spec_l8Copy.f k a1).bind fun r2 =>
    (spec_l1In.f a2 (1 : Int) ((a1.2.1.length : Nat) : Int)).bind fun r3 =>
    if r3 = true then ((spec_l1In.f a3 (0 : Int) (wrap64 (((a0.1.length : Nat) : Int) - (1 : Int)))).bind fun r4 =>
      if r4 = true then (if (0 : Int) ≤ (wrap64 (a2 - (1 : Int))) ∧ (wrap64 (a2 - (1 : Int))) < ((a1.2.1.length : Nat) : Int) then (if (a1.2.1.getD (wrap64 (a2 - (1 : Int))).toNat ((⟨#[]⟩ : ByteArray), (([] : List Int), (false, ())))).2.2.1 = true then some (r2, false)
          else if (0 : Int) ≤ (wrap64 (a2 - (1 : Int))) ∧ (wrap64 (a2 - (1 : Int))) < ((r2.2.1.length : Nat) : Int) then ((spec_l4Put.f k (r2.2.1.getD (wrap64 (a2 - (1 : Int))).toNat ((⟨#[]⟩ : ByteArray), (([] : List Int), (false, ())))).2.1 a3).bind fun r5 =>
            if (0 : Int) ≤ (wrap64 (a2 - (1 : Int))) ∧ (wrap64 (a2 - (1 : Int))) < ((r2.2.1.length : Nat) : Int) then (if (0 : Int) ≤ (wrap64 (a2 - (1 : Int))) ∧ (wrap64 (a2 - (1 : Int))) < (((r2.2.1.set (wrap64 (a2 - (1 : Int))).toNat ((r2.2.1.getD (wrap64 (a2 - (1 : Int))).toNat ((⟨#[]⟩ : ByteArray), (([] : List Int), (false, ())))).1, (r5, (r2.2.1.getD (wrap64 (a2 - (1 : Int))).toNat ((⟨#[]⟩ : ByteArray), (([] : List Int), (false, ())))).2.2))).length : Nat) : Int) then ((spec_Holds.f k a0 ((r2.2.1.set (wrap64 (a2 - (1 : Int))).toNat ((r2.2.1.getD (wrap64 (a2 - (1 : Int))).toNat ((⟨#[]⟩ : ByteArray), (([] : List Int), (false, ())))).1, (r5, (r2.2.1.getD (wrap64 (a2 - (1 : Int))).toNat ((⟨#[]⟩ : ByteArray), (([] : List Int), (false, ())))).2.2))).getD (wrap64 (a2 - (1 : Int))).toNat ((⟨#[]⟩ : ByteArray), (([] : List Int), (false, ())))).2.1).bind fun r6 =>
                if (0 : Int) ≤ (wrap64 (a2 - (1 : Int))) ∧ (wrap64 (a2 - (1 : Int))) < (((r2.2.1.set (wrap64 (a2 - (1 : Int))).toNat ((r2.2.1.getD (wrap64 (a2 - (1 : Int))).toNat ((⟨#[]⟩ : ByteArray), (([] : List Int), (false, ())))).1, (r5, (r2.2.1.getD (wrap64 (a2 - (1 : Int))).toNat ((⟨#[]⟩ : ByteArray), (([] : List Int), (false, ())))).2.2))).length : Nat) : Int) then some ((r2.1, (((r2.2.1.set (wrap64 (a2 - (1 : Int))).toNat ((r2.2.1.getD (wrap64 (a2 - (1 : Int))).toNat ((⟨#[]⟩ : ByteArray), (([] : List Int), (false, ())))).1, (r5, (r2.2.1.getD (wrap64 (a2 - (1 : Int))).toNat ((⟨#[]⟩ : ByteArray), (([] : List Int), (false, ())))).2.2))).set (wrap64 (a2 - (1 : Int))).toNat (((r2.2.1.set (wrap64 (a2 - (1 : Int))).toNat ((r2.2.1.getD (wrap64 (a2 - (1 : Int))).toNat ((⟨#[]⟩ : ByteArray), (([] : List Int), (false, ())))).1, (r5, (r2.2.1.getD (wrap64 (a2 - (1 : Int))).toNat ((⟨#[]⟩ : ByteArray), (([] : List Int), (false, ())))).2.2))).getD (wrap64 (a2 - (1 : Int))).toNat ((⟨#[]⟩ : ByteArray), (([] : List Int), (false, ())))).1, (((r2.2.1.set (wrap64 (a2 - (1 : Int))).toNat ((r2.2.1.getD (wrap64 (a2 - (1 : Int))).toNat ((⟨#[]⟩ : ByteArray), (([] : List Int), (false, ())))).1, (r5, (r2.2.1.getD (wrap64 (a2 - (1 : Int))).toNat ((⟨#[]⟩ : ByteArray), (([] : List Int), (false, ())))).2.2))).getD (wrap64 (a2 - (1 : Int))).toNat ((⟨#[]⟩ : ByteArray), (([] : List Int), (false, ())))).2.1, (r6, ((r2.2.1.set (wrap64 (a2 - (1 : Int))).toNat ((r2.2.1.getD (wrap64 (a2 - (1 : Int))).toNat ((⟨#[]⟩ : ByteArray), (([] : List Int), (false, ())))).1, (r5, (r2.2.1.getD (wrap64 (a2 - (1 : Int))).toNat ((⟨#[]⟩ : ByteArray), (([] : List Int), (false, ())))).2.2))).getD (wrap64 (a2 - (1 : Int))).toNat ((⟨#[]⟩ : ByteArray), (([] : List Int), (false, ())))).2.2.2)))), r2.2.2)), true)
                else none)
              else none)
            else none)
          else none)
        else none)
      else some (r2, false))
    else some (r2, false))
  else some (((0 : Int), (([] : List Word), ())), false)
/-! spec.l8DrawRight -/
noncomputable def spec_l8DrawRight.p7 : Nat → Int → Config → Writer → Writer → l1Cur → Option (Writer × l1Cur)
  | 0, _, _, _, _, _ => none
  | k + 1, x0, x1, x2, x3, x4 => (spec_l1Below.f x4 (14 : Int)).bind fun r2 =>
    if x0 < r2.1 then ((spec_l1Pick.f r2.2 ([(⟨#[]⟩ : ByteArray), (⟨#[97]⟩ : ByteArray), (⟨#[98, 99]⟩ : ByteArray)] : List ByteArray)).bind fun r3 =>
      (spec_WriterAdd.f k x1 x3 r3.1).bind fun r4 =>
      (spec_l1Once.f r3.2 (2 : Int)).bind fun r5 =>
      if r5.1 = true then ((spec_l1Max.f ((x3.2.1.length : Nat) : Int) (1 : Int)).bind fun r6 =>
        (spec_l1Below.f r5.2 r6).bind fun r7 =>
        (spec_l1Below.f r7.2 ((x1.1.length : Nat) : Int)).bind fun r8 =>
        (spec_WriterAck.f k x1 x3 (wrap64 ((1 : Int) + r7.1)) r8.1).bind fun r9 =>
        if r9.2 = true then spec_l8DrawRight.p7 k (wrap64 (x0 + (1 : Int))) x1 x2 r9.1 r8.2
        else spec_l8DrawRight.p7 k (wrap64 (x0 + (1 : Int))) x1 x2 x3 r8.2)
      else if r4.2.2 = true then spec_l8DrawRight.p7 k (wrap64 (x0 + (1 : Int))) x1 x2 r4.1 r5.2
      else spec_l8DrawRight.p7 k (wrap64 (x0 + (1 : Int))) x1 x2 x3 r5.2)
    else some (x3, r2.2)
noncomputable def spec_l8DrawRight.f (k : Nat) (a0 : l1Cur) (a1 : Config) : Option (Writer × l1Cur) := (spec_l1Below.f a0 (4 : Int)).bind fun r1 =>
  spec_l8DrawRight.p7 k (0 : Int) a1 ((0 : Int), (([] : List Word), ())) ((wrap64 ((1 : Int) + r1.1)), (([] : List Word), ())) r1.2
/-! spec.l8Draw -/
noncomputable def spec_l8Draw.p23 : Nat → Writer → Writer → l1Cur → Option (Writer × l1Cur)
  | 0, _, _, _ => none
  | k + 1, x0, x1, x2 => if ((x1.2.1.length : Nat) : Int) < (60 : Int) then (if (0 : Int) < ((x1.2.1.length : Nat) : Int) then (if (0 : Int) ≤ (0 : Int) ∧ (0 : Int) < ((x1.2.1.length : Nat) : Int) then (if (((x1.2.1.length : Nat) : Int) + ((([(x1.2.1.getD (0 : Int).toNat ((⟨#[]⟩ : ByteArray), (([] : List Int), (false, ()))))] : List Word).length : Nat) : Int)) ≤ lim then spec_l8Draw.p23 k x0 (x1.1, ((x1.2.1 ++ ([(x1.2.1.getD (0 : Int).toNat ((⟨#[]⟩ : ByteArray), (([] : List Int), (false, ()))))] : List Word)), x1.2.2)) x2
          else none)
        else none)
      else some (x1, x2))
    else some (x1, x2)
noncomputable def spec_l8Draw.f (k : Nat) (a0 : l1Cur) (a1 : Config) : Option (Writer × l1Cur) := (spec_l8DrawRight.f k a0 a1).bind fun r1 =>
  (spec_l1Below.f r1.2 (25 : Int)).bind fun r2 =>
  if r2.1 = (0 : Int) then ((spec_l1PickInt.f r2.2 ([(0 : Int), (30 : Int), (31 : Int)] : List Int)).bind fun r3 =>
    some ((r3.1, r1.1.2), r3.2))
  else if r2.1 = (1 : Int) then (if (0 : Int) < ((r1.1.2.1.length : Nat) : Int) then (if (0 : Int) ≤ (0 : Int) ∧ (0 : Int) < ((r1.1.2.1.length : Nat) : Int) then (if (0 : Int) ≤ (0 : Int) ∧ (0 : Int) < ((r1.1.2.1.length : Nat) : Int) then some ((r1.1.1, ((r1.1.2.1.set (0 : Int).toNat ((r1.1.2.1.getD (0 : Int).toNat ((⟨#[]⟩ : ByteArray), (([] : List Int), (false, ())))).1, ((r1.1.2.1.getD (0 : Int).toNat ((⟨#[]⟩ : ByteArray), (([] : List Int), (false, ())))).2.1, ((!(decide ((r1.1.2.1.getD (0 : Int).toNat ((⟨#[]⟩ : ByteArray), (([] : List Int), (false, ())))).2.2.1 = true))), (r1.1.2.1.getD (0 : Int).toNat ((⟨#[]⟩ : ByteArray), (([] : List Int), (false, ())))).2.2.2)))), r1.1.2.2)), r2.2)
        else none)
      else none)
    else some (r1.1, r2.2))
  else if r2.1 = (2 : Int) then ((spec_l1Below.f r2.2 (2 : Int)).bind fun r4 =>
    if (0 : Int) ≤ (wrap64 ((40 : Int) + r4.1)) ∧ (wrap64 ((40 : Int) + r4.1)) ≤ (wrap64 ((40 : Int) + r4.1)) ∧ (wrap64 ((40 : Int) + r4.1)) ≤ lim then (if (((r1.1.2.1.length : Nat) : Int) + ((([((bytesOf (List.replicate (wrap64 ((40 : Int) + r4.1)).toNat (0 : Int))), (([] : List Int), (false, ())))] : List Word).length : Nat) : Int)) ≤ lim then some ((r1.1.1, ((r1.1.2.1 ++ ([((bytesOf (List.replicate (wrap64 ((40 : Int) + r4.1)).toNat (0 : Int))), (([] : List Int), (false, ())))] : List Word)), r1.1.2.2)), r4.2)
      else none)
    else none)
  else if r2.1 = (3 : Int) then spec_l8Draw.p23 k ((0 : Int), (([] : List Word), ())) r1.1 r2.2
  else some (r1.1, r2.2)
/-! spec.DrawWriterForget -/
noncomputable def spec_DrawWriterForget.f (k : Nat) (a0 : (List Int)) : Option (Config × Writer × Int) := (spec_l1New.f k a0).bind fun r1 =>
  (spec_l4Draw.f k r1).bind fun r2 =>
  (spec_l8Draw.f k r2.2 r2.1).bind fun r3 =>
  (spec_l1Below.f r3.2 (wrap64 (((r2.1.1.length : Nat) : Int) + (1 : Int)))).bind fun r4 =>
  some (r2.1, r3.1, r4.1)
/-! impl.dataOk -/
noncomputable def impl_dataOk.f (a0 : ByteArray) : Option (Bool) := some (decide (((a0.size : Nat) : Int) ≤ (40 : Int)))
/-! impl.within -/
noncomputable def impl_within.f (a0 : Int) (a1 : Int) (a2 : Int) : Option (Bool) := if a1 ≤ a0 then some (decide (a0 ≤ a2))
  else some false
/-! impl.ConfigOk -/
noncomputable def impl_ConfigOk.p5 : Nat → (List Int) → Int → Int → Config → Option (Bool)
  | 0, _, _, _, _ => none
  | k + 1, x0, x1, x2, x3 => if x2 < x1 then (if (0 : Int) ≤ x2 ∧ x2 < ((x0.length : Nat) : Int) then ((impl_within.f (x0.getD x2.toNat (0 : Int)) (0 : Int) (7 : Int)).bind fun r1 =>
        if r1 = true then impl_ConfigOk.p5 k x0 x1 (wrap64 (x2 + (1 : Int))) x3
        else some false)
      else none)
    else (impl_within.f ((x3.1.length : Nat) : Int) (1 : Int) (8 : Int)).bind fun r2 =>
    if r2 = true then ((impl_within.f x3.2.1 (1 : Int) (4 : Int)).bind fun r3 =>
      some r3)
    else some false
noncomputable def impl_ConfigOk.f (k : Nat) (a0 : Config) : Option (Bool) := impl_ConfigOk.p5 k a0.1 ((a0.1.length : Nat) : Int) (0 : Int) a0
/-! impl.ascends -/
noncomputable def impl_ascends.p5 : Nat → (List Int) → Int → (List Int) → Int → Int → Option (Bool)
  | 0, _, _, _, _, _ => none
  | k + 1, x0, x1, x2, x3, x4 => if x4 < x3 then (if (0 : Int) ≤ x4 ∧ x4 < ((x2.length : Nat) : Int) then ((impl_within.f (x2.getD x4.toNat (0 : Int)) (0 : Int) x1).bind fun r1 =>
        if r1 = true then (if (0 : Int) < x4 then (if (0 : Int) ≤ (wrap64 (x4 - (1 : Int))) ∧ (wrap64 (x4 - (1 : Int))) < ((x0.length : Nat) : Int) then (if (x2.getD x4.toNat (0 : Int)) ≤ (x0.getD (wrap64 (x4 - (1 : Int))).toNat (0 : Int)) then some false
              else impl_ascends.p5 k x0 x1 x2 x3 (wrap64 (x4 + (1 : Int))))
            else none)
          else impl_ascends.p5 k x0 x1 x2 x3 (wrap64 (x4 + (1 : Int))))
        else some false)
      else none)
    else some true
noncomputable def impl_ascends.f (k : Nat) (a0 : (List Int)) (a1 : Int) : Option (Bool) := impl_ascends.p5 k a0 a1 a0 ((a0.length : Nat) : Int) (0 : Int)
/-! impl.NodesOk -/
noncomputable def impl_NodesOk.f (k : Nat) (a0 : Config) (a1 : (List Int)) : Option (Bool) := (impl_ConfigOk.f k a0).bind fun r1 =>
  if r1 = true then ((impl_ascends.f k a1 (wrap64 (((a0.1.length : Nat) : Int) - (1 : Int)))).bind fun r2 =>
    some r2)
  else some false
/-! slices.Index[[]int,int] -/
noncomputable def slices_Index_int_int.p5 : Nat → (List Int) → Int → Int → Int → Option (Int)
  | 0, _, _, _, _ => none
  | k + 1, x0, x1, x2, x3 => if x3 < x2 then (if (0 : Int) ≤ x3 ∧ x3 < ((x0.length : Nat) : Int) then (if x1 = (x0.getD x3.toNat (0 : Int)) then some x3
        else slices_Index_int_int.p5 k x0 x1 x2 (wrap64 (x3 + (1 : Int))))
      else none)
    else some (-1 : Int)
noncomputable def slices_Index_int_int.f (k : Nat) (a0 : (List Int)) (a1 : Int) : Option (Int) := slices_Index_int_int.p5 k a0 a1 ((a0.length : Nat) : Int) (0 : Int)
/-! slices.Contains[[]int,int] -/
noncomputable def slices_Contains_int_int.f (k : Nat) (a0 : (List Int)) (a1 : Int) : Option (Bool) := (slices_Index_int_int.f k a0 a1).bind fun r1 =>
  some (decide ((0 : Int) ≤ r1))
/-! impl.SpanOf -/
noncomputable def impl_SpanOf.p11 : Nat → (List Int) → (List Int) → Int → Int → Config → Option (Int)
  | 0, _, _, _, _, _ => none
  | k + 1, x0, x1, x2, x3, x4 => if x3 < x2 then (if (0 : Int) ≤ x3 ∧ x3 < ((x1.length : Nat) : Int) then (if (0 : Int) ≤ (x1.getD x3.toNat (0 : Int)) ∧ (x1.getD x3.toNat (0 : Int)) < ((x4.1.length : Nat) : Int) then ((slices_Contains_int_int.f k x0 (x4.1.getD (x1.getD x3.toNat (0 : Int)).toNat (0 : Int))).bind fun r2 =>
          if r2 = true then impl_SpanOf.p11 k x0 x1 x2 (wrap64 (x3 + (1 : Int))) x4
          else if (0 : Int) ≤ (x1.getD x3.toNat (0 : Int)) ∧ (x1.getD x3.toNat (0 : Int)) < ((x4.1.length : Nat) : Int) then (if (((x0.length : Nat) : Int) + ((([(x4.1.getD (x1.getD x3.toNat (0 : Int)).toNat (0 : Int))] : List Int).length : Nat) : Int)) ≤ lim then impl_SpanOf.p11 k (x0 ++ ([(x4.1.getD (x1.getD x3.toNat (0 : Int)).toNat (0 : Int))] : List Int)) x1 x2 (wrap64 (x3 + (1 : Int))) x4
            else none)
          else none)
        else none)
      else none)
    else some ((x0.length : Nat) : Int)
noncomputable def impl_SpanOf.f (k : Nat) (a0 : Config) (a1 : (List Int)) : Option (Int) := (impl_NodesOk.f k a0 a1).bind fun r1 =>
  if r1 = true then impl_SpanOf.p11 k ([] : List Int) a1 ((a1.length : Nat) : Int) (0 : Int) a0
  else some (-1 : Int)
/-! impl.Holds -/
noncomputable def impl_Holds.f (k : Nat) (a0 : Config) (a1 : (List Int)) : Option (Bool) := (impl_NodesOk.f k a0 a1).bind fun r1 =>
  if r1 = true then ((impl_SpanOf.f k a0 a1).bind fun r2 =>
    some (decide (a0.2.1 ≤ r2)))
  else some false
/-! impl.flagNum -/
noncomputable def impl_flagNum.f (a0 : Bool) : Option (Int) := if a0 = true then some (1 : Int)
  else some (0 : Int)
/-! impl.isEpoch -/
noncomputable def impl_isEpoch.f (a0 : Int) : Option (Bool) := (impl_within.f a0 (1 : Int) (30 : Int)).bind fun r1 =>
  some r1
/-! impl.WriterOk -/
noncomputable def impl_WriterOk.p7 : Nat → Int → (List Word) → Int → Int → Config → Writer → Option (Bool)
  | 0, _, _, _, _, _, _ => none
  | k + 1, x0, x1, x2, x3, x4, x5 => if x3 < x2 then (if (0 : Int) ≤ x3 ∧ x3 < ((x1.length : Nat) : Int) then ((impl_dataOk.f (x1.getD x3.toNat ((⟨#[]⟩ : ByteArray), (([] : List Int), (false, ())))).1).bind fun r1 =>
        if r1 = true then ((impl_NodesOk.f k x4 (x1.getD x3.toNat ((⟨#[]⟩ : ByteArray), (([] : List Int), (false, ())))).2.1).bind fun r2 =>
          if r2 = true then ((impl_Holds.f k x4 (x1.getD x3.toNat ((⟨#[]⟩ : ByteArray), (([] : List Int), (false, ())))).2.1).bind fun r3 =>
            if (x1.getD x3.toNat ((⟨#[]⟩ : ByteArray), (([] : List Int), (false, ())))).2.2.1 = r3 then ((impl_flagNum.f (!(decide ((x1.getD x3.toNat ((⟨#[]⟩ : ByteArray), (([] : List Int), (false, ())))).2.2.1 = true)))).bind fun r4 =>
              impl_WriterOk.p7 k (wrap64 (x0 + r4)) x1 x2 (wrap64 (x3 + (1 : Int))) x4 x5)
            else some false)
          else some false)
        else some false)
      else none)
    else (impl_ConfigOk.f k x4).bind fun r5 =>
    if r5 = true then ((impl_isEpoch.f x5.1).bind fun r6 =>
      if r6 = true then (if ((x5.2.1.length : Nat) : Int) ≤ (60 : Int) then some (decide (x0 ≤ (6 : Int)))
        else some false)
      else some false)
    else some false
noncomputable def impl_WriterOk.f (k : Nat) (a0 : Config) (a1 : Writer) : Option (Bool) := impl_WriterOk.p7 k (0 : Int) a1.2.1 ((a1.2.1.length : Nat) : Int) (0 : Int) a0 a1
/-! impl.copyInts -/
noncomputable def impl_copyInts.f (a0 : (List Int)) : Option ((List Int)) := if (((([] : List Int).length : Nat) : Int) + ((a0.length : Nat) : Int)) ≤ lim then some (([] : List Int) ++ a0)
  else none
/-! impl.copyWriter -/
noncomputable def impl_copyWriter.p7 : Nat → (List Word) → Int → Int → Writer → Writer → Option (Writer)
  | 0, _, _, _, _, _ => none
  | k + 1, x0, x1, x2, x3, x4 => if x2 < x1 then (if (0 : Int) ≤ x2 ∧ x2 < ((x0.length : Nat) : Int) then ((impl_copyInts.f (x0.getD x2.toNat ((⟨#[]⟩ : ByteArray), (([] : List Int), (false, ())))).2.1).bind fun r1 =>
        if (((x4.2.1.length : Nat) : Int) + ((([((x0.getD x2.toNat ((⟨#[]⟩ : ByteArray), (([] : List Int), (false, ())))).1, (r1, (x0.getD x2.toNat ((⟨#[]⟩ : ByteArray), (([] : List Int), (false, ())))).2.2))] : List Word).length : Nat) : Int)) ≤ lim then impl_copyWriter.p7 k x0 x1 (wrap64 (x2 + (1 : Int))) x3 (x4.1, ((x4.2.1 ++ ([((x0.getD x2.toNat ((⟨#[]⟩ : ByteArray), (([] : List Int), (false, ())))).1, (r1, (x0.getD x2.toNat ((⟨#[]⟩ : ByteArray), (([] : List Int), (false, ())))).2.2))] : List Word)), x4.2.2))
        else none)
      else none)
    else some x4
noncomputable def impl_copyWriter.f (k : Nat) (a0 : Writer) : Option (Writer) := impl_copyWriter.p7 k a0.2.1 ((a0.2.1.length : Nat) : Int) (0 : Int) ((0 : Int), (([] : List Word), ())) (a0.1, (([] : List Word), ()))
/-! slices.DeleteFunc[[]int,int] at impl.withoutNode$1 -/
def slices_DeleteFunc_int_int_impl_withoutNode_1.okp (y : (Int × Unit)) : Prop := True
instance : DecidablePred slices_DeleteFunc_int_int_impl_withoutNode_1.okp := fun y => by unfold slices_DeleteFunc_int_int_impl_withoutNode_1.okp; infer_instance
def slices_DeleteFunc_int_int_impl_withoutNode_1.pred (y : (Int × Unit)) (v : Int) : Bool := decide (v = y.1)
noncomputable def slices_DeleteFunc_int_int_impl_withoutNode_1.f (a0 : List Int) (a1 : (Int × Unit)) : Option (List Int) := if ((List.length a0 : Nat) : Int) ≤ lim ∧ slices_DeleteFunc_int_int_impl_withoutNode_1.okp a1 then some (List.filter (fun v => !slices_DeleteFunc_int_int_impl_withoutNode_1.pred a1 v) a0) else none

/-! impl.withoutNode -/
noncomputable def impl_withoutNode.f (a0 : (List Int)) (a1 : Int) : Option ((List Int)) := (impl_copyInts.f a0).bind fun r1 =>
  (slices_DeleteFunc_int_int_impl_withoutNode_1.f r1 (a1, ())).bind fun r2 =>
  some r2
/-! impl.WriterForget -/
noncomputable def impl_WriterForget.p11 : Nat → Int → (List Word) → Int → Int → Writer → Writer → Option (Writer × Bool)
  | 0, _, _, _, _, _, _ => none
  | k + 1, x0, x1, x2, x3, x4, x5 => if x3 < x2 then (if (0 : Int) ≤ x3 ∧ x3 < ((x1.length : Nat) : Int) then (if (x1.getD x3.toNat ((⟨#[]⟩ : ByteArray), (([] : List Int), (false, ())))).2.2.1 = true then impl_WriterForget.p11 k x0 x1 x2 (wrap64 (x3 + (1 : Int))) x4 x5
        else (impl_withoutNode.f (x1.getD x3.toNat ((⟨#[]⟩ : ByteArray), (([] : List Int), (false, ())))).2.1 x0).bind fun r3 =>
        if (0 : Int) ≤ x3 ∧ x3 < ((x5.2.1.length : Nat) : Int) then impl_WriterForget.p11 k x0 x1 x2 (wrap64 (x3 + (1 : Int))) x4 (x5.1, ((x5.2.1.set x3.toNat ((x5.2.1.getD x3.toNat ((⟨#[]⟩ : ByteArray), (([] : List Int), (false, ())))).1, (r3, (x5.2.1.getD x3.toNat ((⟨#[]⟩ : ByteArray), (([] : List Int), (false, ())))).2.2))), x5.2.2))
        else none)
      else none)
    else some (x5, true)
noncomputable def impl_WriterForget.f (k : Nat) (a0 : Config) (a1 : Writer) (a2 : Int) : Option (Writer × Bool) := (impl_WriterOk.f k a0 a1).bind fun r1 =>
  if r1 = true then ((impl_copyWriter.f k a1).bind fun r2 =>
    impl_WriterForget.p11 k a2 a1.2.1 ((a1.2.1.length : Nat) : Int) (0 : Int) ((0 : Int), (([] : List Word), ())) r2)
  else some (((0 : Int), (([] : List Word), ())), false)
/-! spec.l4Less -/
noncomputable def spec_l4Less.p7 : Nat → (List Int) → (List Int) → (List Int) → Int → Option ((List Int))
  | 0, _, _, _, _ => none
  | k + 1, x0, x1, x2, x3 => if x3 < ((x0.length : Nat) : Int) then (if (0 : Int) ≤ x3 ∧ x3 < ((x0.length : Nat) : Int) then ((spec_l4Has.f k x1 (x0.getD x3.toNat (0 : Int))).bind fun r1 =>
        if r1 = true then spec_l4Less.p7 k x0 x1 x2 (wrap64 (x3 + (1 : Int)))
        else if (0 : Int) ≤ x3 ∧ x3 < ((x0.length : Nat) : Int) then (if (((x2.length : Nat) : Int) + ((([(x0.getD x3.toNat (0 : Int))] : List Int).length : Nat) : Int)) ≤ lim then spec_l4Less.p7 k x0 x1 (x2 ++ ([(x0.getD x3.toNat (0 : Int))] : List Int)) (wrap64 (x3 + (1 : Int)))
          else none)
        else none)
      else none)
    else some x2
noncomputable def spec_l4Less.f (k : Nat) (a0 : (List Int)) (a1 : (List Int)) : Option ((List Int)) := spec_l4Less.p7 k a0 a1 ([] : List Int) (0 : Int)
/-! spec.WriterForget -/
noncomputable def spec_WriterForget.p11 : Nat → Int → Int → Writer → Writer → Option (Writer × Bool)
  | 0, _, _, _, _ => none
  | k + 1, x0, x1, x2, x3 => if x1 < ((x3.2.1.length : Nat) : Int) then (if (0 : Int) ≤ x1 ∧ x1 < ((x3.2.1.length : Nat) : Int) then (if (x3.2.1.getD x1.toNat ((⟨#[]⟩ : ByteArray), (([] : List Int), (false, ())))).2.2.1 = true then spec_WriterForget.p11 k x0 (wrap64 (x1 + (1 : Int))) x2 x3
        else if (0 : Int) ≤ x1 ∧ x1 < ((x3.2.1.length : Nat) : Int) then ((spec_l4Less.f k (x3.2.1.getD x1.toNat ((⟨#[]⟩ : ByteArray), (([] : List Int), (false, ())))).2.1 ([x0] : List Int)).bind fun r3 =>
          if (0 : Int) ≤ x1 ∧ x1 < ((x3.2.1.length : Nat) : Int) then spec_WriterForget.p11 k x0 (wrap64 (x1 + (1 : Int))) x2 (x3.1, ((x3.2.1.set x1.toNat ((x3.2.1.getD x1.toNat ((⟨#[]⟩ : ByteArray), (([] : List Int), (false, ())))).1, (r3, (x3.2.1.getD x1.toNat ((⟨#[]⟩ : ByteArray), (([] : List Int), (false, ())))).2.2))), x3.2.2))
          else none)
        else none)
      else none)
    else some (x3, true)
noncomputable def spec_WriterForget.f (k : Nat) (a0 : Config) (a1 : Writer) (a2 : Int) : Option (Writer × Bool) := (spec_WriterOk.f k a0 a1).bind fun r1 =>
  if r1 = true then ((spec_l8Copy.f k a1).bind fun r2 =>
    spec_WriterForget.p11 k a2 (0 : Int) ((0 : Int), (([] : List Word), ())) r2)
  else some (((0 : Int), (([] : List Word), ())), false)
/-! laws.sameInts -/
noncomputable def laws_sameInts.p9 : Nat → (List Int) → (List Int) → Int → Option (Bool)
  | 0, _, _, _ => none
  | k + 1, x0, x1, x2 => if x2 < ((x0.length : Nat) : Int) then (if (0 : Int) ≤ x2 ∧ x2 < ((x0.length : Nat) : Int) then (if (0 : Int) ≤ x2 ∧ x2 < ((x1.length : Nat) : Int) then (if (x0.getD x2.toNat (0 : Int)) = (x1.getD x2.toNat (0 : Int)) then laws_sameInts.p9 k x0 x1 (wrap64 (x2 + (1 : Int)))
          else some false)
        else none)
      else none)
    else some true
noncomputable def laws_sameInts.f (k : Nat) (a0 : (List Int)) (a1 : (List Int)) : Option (Bool) := if ((a0.length : Nat) : Int) = ((a1.length : Nat) : Int) then laws_sameInts.p9 k a0 a1 (0 : Int)
  else some false
/-! laws.within -/
noncomputable def laws_within.p5 : Nat → (List Int) → Int → Int → Option (Bool)
  | 0, _, _, _ => none
  | k + 1, x0, x1, x2 => if x2 < ((x0.length : Nat) : Int) then (if (0 : Int) ≤ x2 ∧ x2 < ((x0.length : Nat) : Int) then (if (x0.getD x2.toNat (0 : Int)) = x1 then some true
        else laws_within.p5 k x0 x1 (wrap64 (x2 + (1 : Int))))
      else none)
    else some false
noncomputable def laws_within.f (k : Nat) (a0 : (List Int)) (a1 : Int) : Option (Bool) := laws_within.p5 k a0 a1 (0 : Int)
/-! impl.WriterSure -/
noncomputable def impl_WriterSure.p5 : Nat → (List Word) → Int → Int → Writer → Option (Int)
  | 0, _, _, _, _ => none
  | k + 1, x0, x1, x2, x3 => if x2 < x1 then (if (0 : Int) ≤ x2 ∧ x2 < ((x0.length : Nat) : Int) then (if (x0.getD x2.toNat ((⟨#[]⟩ : ByteArray), (([] : List Int), (false, ())))).2.2.1 = true then impl_WriterSure.p5 k x0 x1 (wrap64 (x2 + (1 : Int))) x3
        else some x2)
      else none)
    else some ((x3.2.1.length : Nat) : Int)
noncomputable def impl_WriterSure.f (k : Nat) (a0 : Writer) : Option (Int) := impl_WriterSure.p5 k a0.2.1 ((a0.2.1.length : Nat) : Int) (0 : Int) a0
/-! spec.WriterSure -/
noncomputable def spec_WriterSure.p5 : Nat → Int → Writer → Option (Int)
  | 0, _, _ => none
  | k + 1, x0, x1 => if x0 < ((x1.2.1.length : Nat) : Int) then (if (0 : Int) ≤ x0 ∧ x0 < ((x1.2.1.length : Nat) : Int) then (if (x1.2.1.getD x0.toNat ((⟨#[]⟩ : ByteArray), (([] : List Int), (false, ())))).2.2.1 = true then spec_WriterSure.p5 k (wrap64 (x0 + (1 : Int))) x1
        else some x0)
      else none)
    else some x0
noncomputable def spec_WriterSure.f (k : Nat) (a0 : Writer) : Option (Int) := spec_WriterSure.p5 k (0 : Int) a0
/-! laws.FnForgotten -/
noncomputable def laws_FnForgotten.p23 : Nat → Int → Int → Config → Writer → Writer → Option (Bool)
  | 0, _, _, _, _, _ => none
  | k + 1, x0, x1, x2, x3, x4 => if x1 < ((x3.2.1.length : Nat) : Int) then (if (0 : Int) ≤ x1 ∧ x1 < ((x3.2.1.length : Nat) : Int) then (if (0 : Int) ≤ x1 ∧ x1 < ((x4.2.1.length : Nat) : Int) then (if (x3.2.1.getD x1.toNat ((⟨#[]⟩ : ByteArray), (([] : List Int), (false, ())))).2.2.1 = (x4.2.1.getD x1.toNat ((⟨#[]⟩ : ByteArray), (([] : List Int), (false, ())))).2.2.1 then (if (x3.2.1.getD x1.toNat ((⟨#[]⟩ : ByteArray), (([] : List Int), (false, ())))).2.2.1 = true then ((laws_sameInts.f k (x3.2.1.getD x1.toNat ((⟨#[]⟩ : ByteArray), (([] : List Int), (false, ())))).2.1 (x4.2.1.getD x1.toNat ((⟨#[]⟩ : ByteArray), (([] : List Int), (false, ())))).2.1).bind fun r5 =>
              if r5 = true then (if (x3.2.1.getD x1.toNat ((⟨#[]⟩ : ByteArray), (([] : List Int), (false, ())))).2.2.1 = true then laws_FnForgotten.p23 k x0 (wrap64 (x1 + (1 : Int))) x2 x3 x4
                else (laws_within.f k (x4.2.1.getD x1.toNat ((⟨#[]⟩ : ByteArray), (([] : List Int), (false, ())))).2.1 x0).bind fun r6 =>
                if r6 = true then some false
                else laws_FnForgotten.p23 k x0 (wrap64 (x1 + (1 : Int))) x2 x3 x4)
              else some false)
            else if (x3.2.1.getD x1.toNat ((⟨#[]⟩ : ByteArray), (([] : List Int), (false, ())))).2.2.1 = true then laws_FnForgotten.p23 k x0 (wrap64 (x1 + (1 : Int))) x2 x3 x4
            else (laws_within.f k (x4.2.1.getD x1.toNat ((⟨#[]⟩ : ByteArray), (([] : List Int), (false, ())))).2.1 x0).bind fun r7 =>
            if r7 = true then some false
            else laws_FnForgotten.p23 k x0 (wrap64 (x1 + (1 : Int))) x2 x3 x4)
          else some false)
        else none)
      else none)
    else (impl_WriterSure.f k x4).bind fun r8 =>
    (spec_WriterSure.f k x3).bind fun r9 =>
    if r8 = r9 then ((impl_WriterOk.f k x2 x4).bind fun r10 =>
      some r10)
    else some false
noncomputable def laws_FnForgotten.f (k : Nat) (a0 : (List Int)) : Option (Bool) := (laws_big.f a0).bind fun r1 =>
  if r1 = true then some true
  else (spec_DrawWriterForget.f k a0).bind fun r2 =>
  (impl_WriterForget.f k r2.1 r2.2.1 r2.2.2).bind fun r3 =>
  (spec_WriterForget.f k r2.1 r2.2.1 r2.2.2).bind fun r4 =>
  if r3.2 = r4.2 then (if r3.2 = true then laws_FnForgotten.p23 k r2.2.2 (0 : Int) r2.1 r2.2.1 r3.1
    else some (decide (((r3.1.2.1.length : Nat) : Int) = (0 : Int))))
  else some false
end Go.Proofs.Ytllmifioelbleaa.OmFnForgotten
