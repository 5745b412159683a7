import Derived.Test.YtllmifioelbleabOmD
set_option maxRecDepth 1000000
set_option linter.unusedVariables false
namespace Go.Proofs.Ytllmifioelbleab.OmFnExactWriterForget
open Go Go.OM
@[reducible] noncomputable def tWord : Ty := .pair .str (.pair (.sl (.int .i64)) (.pair .bool (.unit)))
@[reducible] noncomputable def Word : Type := ByteArray × (List Int) × Bool × Unit
@[reducible] noncomputable def tWriter : Ty := .pair (.int .i64) (.pair (.sl tWord) (.unit))
@[reducible] noncomputable def Writer : Type := Int × (List Word) × Unit
@[reducible] noncomputable def tConfig : Ty := .pair (.sl (.int .i64)) (.pair (.int .i64) (.unit))
@[reducible] noncomputable def Config : Type := (List Int) × Int × Unit
@[reducible] noncomputable def tEntry : Ty := .pair (.int .i64) (.pair (.int .i64) (.pair .bool (.pair .str (.unit))))
@[reducible] noncomputable def Entry : Type := Int × Int × Bool × ByteArray × Unit
@[reducible] noncomputable def tMend : Ty := .pair (.int .i64) (.pair (.int .i64) (.pair (.sl (.int .i64)) (.pair (.sl tEntry) (.pair .bool (.pair (.sl (.sl (.int .i64))) (.unit))))))
@[reducible] noncomputable def Mend : Type := Int × Int × (List Int) × (List Entry) × Bool × (List (List Int)) × Unit
@[reducible] noncomputable def tl1Cur : Ty := .pair (.sl (.int .u8)) (.pair (.int .i64) (.pair (.int .i64) (.unit)))
@[reducible] noncomputable def l1Cur : Type := (List Int) × Int × Int × Unit
/-! laws.szIntS -/
noncomputable def laws_szIntS.f (a0 : (List Int)) (a1 : Int) : Option (Int) := if (wrap64 (a1 - ((a0.length : Nat) : Int))) < (0 : Int) then some (-1 : Int)
  else some (wrap64 (a1 - ((a0.length : Nat) : Int)))
/-! laws.szConfig -/
noncomputable def laws_szConfig.f (a0 : Config) (a1 : Int) : Option (Int) := (laws_szIntS.f a0.1 a1).bind fun r1 =>
  if r1 < (0 : Int) then some (-1 : Int)
  else some r1
/-! laws.szWord -/
noncomputable def laws_szWord.f (a0 : Word) (a1 : Int) : Option (Int) := if (wrap64 (a1 - ((a0.1.size : Nat) : Int))) < (0 : Int) then some (-1 : Int)
  else (laws_szIntS.f a0.2.1 (wrap64 (a1 - ((a0.1.size : Nat) : Int)))).bind fun r1 =>
  if r1 < (0 : Int) then some (-1 : Int)
  else some r1
/-! laws.szWordS -/
noncomputable def laws_szWordS.p11 : Nat → (List Word) → Int → Int → Option (Int)
  | 0, _, _, _ => none
  | k + 1, x0, x1, x2 => if x2 < ((x0.length : Nat) : Int) then (if (0 : Int) ≤ x2 ∧ x2 < ((x0.length : Nat) : Int) then ((laws_szWord.f (x0.getD x2.toNat ((⟨#[]⟩ : ByteArray), (([] : List Int), (false, ())))) x1).bind fun r1 =>
        if r1 < (0 : Int) then some (-1 : Int)
        else laws_szWordS.p11 k x0 r1 (wrap64 (x2 + (1 : Int))))
      else none)
    else some x1
noncomputable def laws_szWordS.f (k : Nat) (a0 : (List Word)) (a1 : Int) : Option (Int) := if (wrap64 (a1 - ((a0.length : Nat) : Int))) < (0 : Int) then some (-1 : Int)
  else laws_szWordS.p11 k a0 (wrap64 (a1 - ((a0.length : Nat) : Int))) (0 : Int)
/-! laws.szWriter -/
noncomputable def laws_szWriter.f (k : Nat) (a0 : Writer) (a1 : Int) : Option (Int) := (laws_szWordS.f k a0.2.1 a1).bind fun r1 =>
  if r1 < (0 : Int) then some (-1 : Int)
  else some r1
/-! laws.toIntS -/
noncomputable def laws_toIntS.p7 : Nat → (List Int) → (List Int) → Int → Option ((List Int))
  | 0, _, _, _ => none
  | k + 1, x0, x1, x2 => if x2 < ((x0.length : Nat) : Int) then (if (0 : Int) ≤ x2 ∧ x2 < ((x0.length : Nat) : Int) then (if (0 : Int) ≤ x2 ∧ x2 < ((x1.length : Nat) : Int) then laws_toIntS.p7 k x0 (x1.set x2.toNat (x0.getD x2.toNat (0 : Int))) (wrap64 (x2 + (1 : Int)))
        else none)
      else none)
    else some x1
noncomputable def laws_toIntS.f (k : Nat) (a0 : (List Int)) : Option ((List Int)) := if (0 : Int) ≤ ((a0.length : Nat) : Int) ∧ ((a0.length : Nat) : Int) ≤ ((a0.length : Nat) : Int) ∧ ((a0.length : Nat) : Int) ≤ lim then laws_toIntS.p7 k a0 (List.replicate ((a0.length : Nat) : Int).toNat (0 : Int)) (0 : Int)
  else none
/-! laws.toConfig -/
noncomputable def laws_toConfig.f (k : Nat) (a0 : Config) : Option (Config) := (laws_toIntS.f k a0.1).bind fun r1 =>
  some (r1, (a0.2.1, ()))
/-! laws.toWord -/
noncomputable def laws_toWord.f (k : Nat) (a0 : Word) : Option (Word) := (laws_toIntS.f k a0.2.1).bind fun r1 =>
  some (a0.1, (r1, (a0.2.2.1, ())))
/-! laws.toWordS -/
noncomputable def laws_toWordS.p7 : Nat → (List Word) → (List Word) → Int → Option ((List Word))
  | 0, _, _, _ => none
  | k + 1, x0, x1, x2 => if x2 < ((x0.length : Nat) : Int) then (if (0 : Int) ≤ x2 ∧ x2 < ((x0.length : Nat) : Int) then ((laws_toWord.f k (x0.getD x2.toNat ((⟨#[]⟩ : ByteArray), (([] : List Int), (false, ()))))).bind fun r1 =>
        if (0 : Int) ≤ x2 ∧ x2 < ((x1.length : Nat) : Int) then laws_toWordS.p7 k x0 (x1.set x2.toNat r1) (wrap64 (x2 + (1 : Int)))
        else none)
      else none)
    else some x1
noncomputable def laws_toWordS.f (k : Nat) (a0 : (List Word)) : Option ((List Word)) := if (0 : Int) ≤ ((a0.length : Nat) : Int) ∧ ((a0.length : Nat) : Int) ≤ ((a0.length : Nat) : Int) ∧ ((a0.length : Nat) : Int) ≤ lim then laws_toWordS.p7 k a0 (List.replicate ((a0.length : Nat) : Int).toNat ((⟨#[]⟩ : ByteArray), (([] : List Int), (false, ())))) (0 : Int)
  else none
/-! laws.toWriter -/
noncomputable def laws_toWriter.f (k : Nat) (a0 : Writer) : Option (Writer) := (laws_toWordS.f k a0.2.1).bind fun r1 =>
  some (a0.1, (r1, ()))
/-! spec.l1In -/
noncomputable def spec_l1In.f (a0 : Int) (a1 : Int) (a2 : Int) : Option (Bool) := if a1 ≤ a0 then some (decide (a0 ≤ a2))
  else some false
/-! spec.ConfigOk -/
noncomputable def spec_ConfigOk.p9 : Nat → Int → Config → Option (Bool)
  | 0, _, _ => none
  | k + 1, x0, x1 => if x0 < ((x1.1.length : Nat) : Int) then (if (0 : Int) ≤ x0 ∧ x0 < ((x1.1.length : Nat) : Int) then ((spec_l1In.f (x1.1.getD x0.toNat (0 : Int)) (0 : Int) (7 : Int)).bind fun r3 =>
        if r3 = true then spec_ConfigOk.p9 k (wrap64 (x0 + (1 : Int))) x1
        else some false)
      else none)
    else some true
noncomputable def spec_ConfigOk.f (k : Nat) (a0 : Config) : Option (Bool) := (spec_l1In.f ((a0.1.length : Nat) : Int) (1 : Int) (8 : Int)).bind fun r1 =>
  if r1 = true then ((spec_l1In.f a0.2.1 (1 : Int) (4 : Int)).bind fun r2 =>
    if r2 = true then spec_ConfigOk.p9 k (0 : Int) a0
    else some false)
  else some false
/-! spec.l4Asc -/
noncomputable def spec_l4Asc.p5 : Nat → (List Int) → Int → Int → Int → Option (Bool)
  | 0, _, _, _, _ => none
  | k + 1, x0, x1, x2, x3 => if x3 < ((x0.length : Nat) : Int) then (if (0 : Int) ≤ x3 ∧ x3 < ((x0.length : Nat) : Int) then ((spec_l1In.f (x0.getD x3.toNat (0 : Int)) x1 x2).bind fun r1 =>
        if r1 = true then (if (0 : Int) < x3 then (if (0 : Int) ≤ (wrap64 (x3 - (1 : Int))) ∧ (wrap64 (x3 - (1 : Int))) < ((x0.length : Nat) : Int) then (if (0 : Int) ≤ x3 ∧ x3 < ((x0.length : Nat) : Int) then (if (x0.getD x3.toNat (0 : Int)) ≤ (x0.getD (wrap64 (x3 - (1 : Int))).toNat (0 : Int)) then some false
                else spec_l4Asc.p5 k x0 x1 x2 (wrap64 (x3 + (1 : Int))))
              else none)
            else none)
          else spec_l4Asc.p5 k x0 x1 x2 (wrap64 (x3 + (1 : Int))))
        else some false)
      else none)
    else some true
noncomputable def spec_l4Asc.f (k : Nat) (a0 : (List Int)) (a1 : Int) (a2 : Int) : Option (Bool) := spec_l4Asc.p5 k a0 a1 a2 (0 : Int)
/-! spec.NodesOk -/
noncomputable def spec_NodesOk.f (k : Nat) (a0 : Config) (a1 : (List Int)) : Option (Bool) := (spec_ConfigOk.f k a0).bind fun r1 =>
  if r1 = true then ((spec_l4Asc.f k a1 (0 : Int) (wrap64 (((a0.1.length : Nat) : Int) - (1 : Int)))).bind fun r2 =>
    some r2)
  else some false
/-! spec.l4Span -/
noncomputable def spec_l4Span.p9 : Nat → (List Int) → (List Bool) → Int → Int → Config → Option (Int)
  | 0, _, _, _, _, _ => none
  | k + 1, x0, x1, x2, x3, x4 => if x3 < ((x0.length : Nat) : Int) then (if (0 : Int) ≤ x3 ∧ x3 < ((x0.length : Nat) : Int) then (if (0 : Int) ≤ (x0.getD x3.toNat (0 : Int)) ∧ (x0.getD x3.toNat (0 : Int)) < ((x4.1.length : Nat) : Int) then (if (0 : Int) ≤ (x4.1.getD (x0.getD x3.toNat (0 : Int)).toNat (0 : Int)) ∧ (x4.1.getD (x0.getD x3.toNat (0 : Int)).toNat (0 : Int)) < ((x1.length : Nat) : Int) then (if (x1.getD (x4.1.getD (x0.getD x3.toNat (0 : Int)).toNat (0 : Int)).toNat false) = true then spec_l4Span.p9 k x0 x1 x2 (wrap64 (x3 + (1 : Int))) x4
            else if (0 : Int) ≤ (x4.1.getD (x0.getD x3.toNat (0 : Int)).toNat (0 : Int)) ∧ (x4.1.getD (x0.getD x3.toNat (0 : Int)).toNat (0 : Int)) < ((x1.length : Nat) : Int) then spec_l4Span.p9 k x0 (x1.set (x4.1.getD (x0.getD x3.toNat (0 : Int)).toNat (0 : Int)).toNat true) (wrap64 (x2 + (1 : Int))) (wrap64 (x3 + (1 : Int))) x4
            else none)
          else none)
        else none)
      else none)
    else some x2
noncomputable def spec_l4Span.f (k : Nat) (a0 : Config) (a1 : (List Int)) : Option (Int) := if (0 : Int) ≤ (8 : Int) ∧ (8 : Int) ≤ (8 : Int) ∧ (8 : Int) ≤ lim then spec_l4Span.p9 k a1 (List.replicate (8 : Int).toNat false) (0 : Int) (0 : Int) a0
  else none
/-! spec.Holds -/
noncomputable def spec_Holds.f (k : Nat) (a0 : Config) (a1 : (List Int)) : Option (Bool) := (spec_NodesOk.f k a0 a1).bind fun r1 =>
  if r1 = true then ((spec_l4Span.f k a0 a1).bind fun r2 =>
    some (decide (a0.2.1 ≤ r2)))
  else some false
/-! spec.WriterOk -/
noncomputable def spec_WriterOk.p11 : Nat → Int → Int → Config → Writer → Option (Bool)
  | 0, _, _, _, _ => none
  | k + 1, x0, x1, x2, x3 => if x1 < ((x3.2.1.length : Nat) : Int) then (if (0 : Int) ≤ x1 ∧ x1 < ((x3.2.1.length : Nat) : Int) then (if (40 : Int) < (((x3.2.1.getD x1.toNat ((⟨#[]⟩ : ByteArray), (([] : List Int), (false, ())))).1.size : Nat) : Int) then some false
        else (spec_NodesOk.f k x2 (x3.2.1.getD x1.toNat ((⟨#[]⟩ : ByteArray), (([] : List Int), (false, ())))).2.1).bind fun r3 =>
        if r3 = true then ((spec_Holds.f k x2 (x3.2.1.getD x1.toNat ((⟨#[]⟩ : ByteArray), (([] : List Int), (false, ())))).2.1).bind fun r4 =>
          if r4 = (x3.2.1.getD x1.toNat ((⟨#[]⟩ : ByteArray), (([] : List Int), (false, ())))).2.2.1 then (if (x3.2.1.getD x1.toNat ((⟨#[]⟩ : ByteArray), (([] : List Int), (false, ())))).2.2.1 = true then spec_WriterOk.p11 k x0 (wrap64 (x1 + (1 : Int))) x2 x3
            else spec_WriterOk.p11 k (wrap64 (x0 + (1 : Int))) (wrap64 (x1 + (1 : Int))) x2 x3)
          else some false)
        else some false)
      else none)
    else some (decide (x0 ≤ (6 : Int)))
noncomputable def spec_WriterOk.f (k : Nat) (a0 : Config) (a1 : Writer) : Option (Bool) := (spec_ConfigOk.f k a0).bind fun r1 =>
  if r1 = true then ((spec_l1In.f a1.1 (1 : Int) (30 : Int)).bind fun r2 =>
    if r2 = true then (if (60 : Int) < ((a1.2.1.length : Nat) : Int) then some false
      else spec_WriterOk.p11 k (0 : Int) (0 : Int) a0 a1)
    else some false)
  else some false
/-! spec.l8Copy -/
noncomputable def spec_l8Copy.p7 : Nat → Int → Writer → Writer → Writer → Option (Writer)
  | 0, _, _, _, _ => none
  | k + 1, x0, x1, x2, x3 => if x0 < ((x1.2.1.length : Nat) : Int) then (if (0 : Int) ≤ x0 ∧ x0 < ((x1.2.1.length : Nat) : Int) then (if (((([] : List Int).length : Nat) : Int) + (((x1.2.1.getD x0.toNat ((⟨#[]⟩ : ByteArray), (([] : List Int), (false, ())))).2.1.length : Nat) : Int)) ≤ lim then (if (((x3.2.1.length : Nat) : Int) + ((([((x1.2.1.getD x0.toNat ((⟨#[]⟩ : ByteArray), (([] : List Int), (false, ())))).1, ((([] : List Int) ++ (x1.2.1.getD x0.toNat ((⟨#[]⟩ : ByteArray), (([] : List Int), (false, ())))).2.1), (x1.2.1.getD x0.toNat ((⟨#[]⟩ : ByteArray), (([] : List Int), (false, ())))).2.2))] : List Word).length : Nat) : Int)) ≤ lim then spec_l8Copy.p7 k (wrap64 (x0 + (1 : Int))) x1 x2 (x3.1, ((x3.2.1 ++ ([((x1.2.1.getD x0.toNat ((⟨#[]⟩ : ByteArray), (([] : List Int), (false, ())))).1, ((([] : List Int) ++ (x1.2.1.getD x0.toNat ((⟨#[]⟩ : ByteArray), (([] : List Int), (false, ())))).2.1), (x1.2.1.getD x0.toNat ((⟨#[]⟩ : ByteArray), (([] : List Int), (false, ())))).2.2))] : List Word)), x3.2.2))
          else none)
        else none)
      else none)
    else some x3
noncomputable def spec_l8Copy.f (k : Nat) (a0 : Writer) : Option (Writer) := spec_l8Copy.p7 k (0 : Int) a0 ((0 : Int), (([] : List Word), ())) (a0.1, (([] : List Word), ()))
/-! spec.l4Has -/
noncomputable def spec_l4Has.p5 : Nat → (List Int) → Int → Int → Option (Bool)
  | 0, _, _, _ => none
  | k + 1, x0, x1, x2 => if x2 < ((x0.length : Nat) : Int) then (if (0 : Int) ≤ x2 ∧ x2 < ((x0.length : Nat) : Int) then (if (x0.getD x2.toNat (0 : Int)) = x1 then some true
        else spec_l4Has.p5 k x0 x1 (wrap64 (x2 + (1 : Int))))
      else none)
    else some false
noncomputable def spec_l4Has.f (k : Nat) (a0 : (List Int)) (a1 : Int) : Option (Bool) := spec_l4Has.p5 k a0 a1 (0 : Int)
/-! spec.l4Less -/
noncomputable def spec_l4Less.p7 : Nat → (List Int) → (List Int) → (List Int) → Int → Option ((List Int))
  | 0, _, _, _, _ => none
  | k + 1, x0, x1, x2, x3 => if x3 < ((x0.length : Nat) : Int) then (if (0 : Int) ≤ x3 ∧ x3 < ((x0.length : Nat) : Int) then ((spec_l4Has.f k x1 (x0.getD x3.toNat (0 : Int))).bind fun r1 =>
        if r1 = true then spec_l4Less.p7 k x0 x1 x2 (wrap64 (x3 + (1 : Int)))
        else if (0 : Int) ≤ x3 ∧ x3 < ((x0.length : Nat) : Int) then (if (((x2.length : Nat) : Int) + ((([(x0.getD x3.toNat (0 : Int))] : List Int).length : Nat) : Int)) ≤ lim then spec_l4Less.p7 k x0 x1 (x2 ++ ([(x0.getD x3.toNat (0 : Int))] : List Int)) (wrap64 (x3 + (1 : Int)))
          else none)
        else none)
      else none)
    else some x2
noncomputable def spec_l4Less.f (k : Nat) (a0 : (List Int)) (a1 : (List Int)) : Option ((List Int)) := spec_l4Less.p7 k a0 a1 ([] : List Int) (0 : Int)
/-! spec.WriterForget -/
noncomputable def spec_WriterForget.p11 : Nat → Int → Int → Writer → Writer → Option (Writer × Bool)
  | 0, _, _, _, _ => none
  | k + 1, x0, x1, x2, x3 => if x1 < ((x3.2.1.length : Nat) : Int) then (if (0 : Int) ≤ x1 ∧ x1 < ((x3.2.1.length : Nat) : Int) then (if (x3.2.1.getD x1.toNat ((⟨#[]⟩ : ByteArray), (([] : List Int), (false, ())))).2.2.1 = true then spec_WriterForget.p11 k x0 (wrap64 (x1 + (1 : Int))) x2 x3
        else if (0 : Int) ≤ x1 ∧ x1 < ((x3.2.1.length : Nat) : Int) then ((spec_l4Less.f k (x3.2.1.getD x1.toNat ((⟨#[]⟩ : ByteArray), (([] : List Int), (false, ())))).2.1 ([x0] : List Int)).bind fun r3 =>
          if (0 : Int) ≤ x1 ∧ x1 < ((x3.2.1.length : Nat) : Int) then spec_WriterForget.p11 k x0 (wrap64 (x1 + (1 : Int))) x2 (x3.1, ((x3.2.1.set x1.toNat ((x3.2.1.getD x1.toNat ((⟨#[]⟩ : ByteArray), (([] : List Int), (false, ())))).1, (r3, (x3.2.1.getD x1.toNat ((⟨#[]⟩ : ByteArray), (([] : List Int), (false, ())))).2.2))), x3.2.2))
          else none)
        else none)
      else none)
    else some (x3, true)
noncomputable def spec_WriterForget.f (k : Nat) (a0 : Config) (a1 : Writer) (a2 : Int) : Option (Writer × Bool) := (spec_WriterOk.f k a0 a1).bind fun r1 =>
  if r1 = true then ((spec_l8Copy.f k a1).bind fun r2 =>
    spec_WriterForget.p11 k a2 (0 : Int) ((0 : Int), (([] : List Word), ())) r2)
  else some (((0 : Int), (([] : List Word), ())), false)
/-! impl.dataOk -/
noncomputable def impl_dataOk.f (a0 : ByteArray) : Option (Bool) := some (decide (((a0.size : Nat) : Int) ≤ (40 : Int)))
/-! impl.within -/
noncomputable def impl_within.f (a0 : Int) (a1 : Int) (a2 : Int) : Option (Bool) := if a1 ≤ a0 then some (decide (a0 ≤ a2))
  else some false
/-! impl.ConfigOk -/
noncomputable def impl_ConfigOk.p5 : Nat → (List Int) → Int → Int → Config → Option (Bool)
  | 0, _, _, _, _ => none
  | k + 1, x0, x1, x2, x3 => if x2 < x1 then (if (0 : Int) ≤ x2 ∧ x2 < ((x0.length : Nat) : Int) then ((impl_within.f (x0.getD x2.toNat (0 : Int)) (0 : Int) (7 : Int)).bind fun r1 =>
        if r1 = true then impl_ConfigOk.p5 k x0 x1 (wrap64 (x2 + (1 : Int))) x3
        else some false)
      else none)
    else (impl_within.f ((x3.1.length : Nat) : Int) (1 : Int) (8 : Int)).bind fun r2 =>
    if r2 = true then ((impl_within.f x3.2.1 (1 : Int) (4 : Int)).bind fun r3 =>
      some r3)
    else some false
noncomputable def impl_ConfigOk.f (k : Nat) (a0 : Config) : Option (Bool) := impl_ConfigOk.p5 k a0.1 ((a0.1.length : Nat) : Int) (0 : Int) a0
/-! impl.ascends -/
noncomputable def impl_ascends.p5 : Nat → (List Int) → Int → (List Int) → Int → Int → Option (Bool)
  | 0, _, _, _, _, _ => none
  | k + 1, x0, x1, x2, x3, x4 => if x4 < x3 then (if (0 : Int) ≤ x4 ∧ x4 < ((x2.length : Nat) : Int) then ((impl_within.f (x2.getD x4.toNat (0 : Int)) (0 : Int) x1).bind fun r1 =>
        if r1 = true then (if (0 : Int) < x4 then (if (0 : Int) ≤ (wrap64 (x4 - (1 : Int))) ∧ (wrap64 (x4 - (1 : Int))) < ((x0.length : Nat) : Int) then (if (x2.getD x4.toNat (0 : Int)) ≤ (x0.getD (wrap64 (x4 - (1 : Int))).toNat (0 : Int)) then some false
              else impl_ascends.p5 k x0 x1 x2 x3 (wrap64 (x4 + (1 : Int))))
            else none)
          else impl_ascends.p5 k x0 x1 x2 x3 (wrap64 (x4 + (1 : Int))))
        else some false)
      else none)
    else some true
noncomputable def impl_ascends.f (k : Nat) (a0 : (List Int)) (a1 : Int) : Option (Bool) := impl_ascends.p5 k a0 a1 a0 ((a0.length : Nat) : Int) (0 : Int)
/-! impl.NodesOk -/
noncomputable def impl_NodesOk.f (k : Nat) (a0 : Config) (a1 : (List Int)) : Option (Bool) := (impl_ConfigOk.f k a0).bind fun r1 =>
  if r1 = true then ((impl_ascends.f k a1 (wrap64 (((a0.1.length : Nat) : Int) - (1 : Int)))).bind fun r2 =>
    some r2)
  else some false
/-! slices.Index[[]int,int] -/
noncomputable def slices_Index_int_int.p5 : Nat → (List Int) → Int → Int → Int → Option (Int)
  | 0, _, _, _, _ => none
  | k + 1, x0, x1, x2, x3 => if x3 < x2 then (if (0 : Int) ≤ x3 ∧ x3 < ((x0.length : Nat) : Int) then (if x1 = (x0.getD x3.toNat (0 : Int)) then some x3
        else slices_Index_int_int.p5 k x0 x1 x2 (wrap64 (x3 + (1 : Int))))
      else none)
    else some (-1 : Int)
noncomputable def slices_Index_int_int.f (k : Nat) (a0 : (List Int)) (a1 : Int) : Option (Int) := slices_Index_int_int.p5 k a0 a1 ((a0.length : Nat) : Int) (0 : Int)
/-! slices.Contains[[]int,int] -/
noncomputable def slices_Contains_int_int.f (k : Nat) (a0 : (List Int)) (a1 : Int) : Option (Bool) := (slices_Index_int_int.f k a0 a1).bind fun r1 =>
  some (decide ((0 : Int) ≤ r1))
/-! impl.SpanOf -/
noncomputable def impl_SpanOf.p11 : Nat → (List Int) → (List Int) → Int → Int → Config → Option (Int)
  | 0, _, _, _, _, _ => none
  | k + 1, x0, x1, x2, x3, x4 => if x3 < x2 then (if (0 : Int) ≤ x3 ∧ x3 < ((x1.length : Nat) : Int) then (if (0 : Int) ≤ (x1.getD x3.toNat (0 : Int)) ∧ (x1.getD x3.toNat (0 : Int)) < ((x4.1.length : Nat) : Int) then ((slices_Contains_int_int.f k x0 (x4.1.getD (x1.getD x3.toNat (0 : Int)).toNat (0 : Int))).bind fun r2 =>
          if r2 = true then impl_SpanOf.p11 k x0 x1 x2 (wrap64 (x3 + (1 : Int))) x4
          else if (0 : Int) ≤ (x1.getD x3.toNat (0 : Int)) ∧ (x1.getD x3.toNat (0 : Int)) < ((x4.1.length : Nat) : Int) then (if (((x0.length : Nat) : Int) + ((([(x4.1.getD (x1.getD x3.toNat (0 : Int)).toNat (0 : Int))] : List Int).length : Nat) : Int)) ≤ lim then impl_SpanOf.p11 k (x0 ++ ([(x4.1.getD (x1.getD x3.toNat (0 : Int)).toNat (0 : Int))] : List Int)) x1 x2 (wrap64 (x3 + (1 : Int))) x4
            else none)
          else none)
        else none)
      else none)
    else some ((x0.length : Nat) : Int)
noncomputable def impl_SpanOf.f (k : Nat) (a0 : Config) (a1 : (List Int)) : Option (Int) := (impl_NodesOk.f k a0 a1).bind fun r1 =>
  if r1 = true then impl_SpanOf.p11 k ([] : List Int) a1 ((a1.length : Nat) : Int) (0 : Int) a0
  else some (-1 : Int)
/-! impl.Holds -/
noncomputable def impl_Holds.f (k : Nat) (a0 : Config) (a1 : (List Int)) : Option (Bool) := (impl_NodesOk.f k a0 a1).bind fun r1 =>
  if r1 = true then ((impl_SpanOf.f k a0 a1).bind fun r2 =>
    some (decide (a0.2.1 ≤ r2)))
  else some false
/-! impl.flagNum -/
noncomputable def impl_flagNum.f (a0 : Bool) : Option (Int) := if a0 = true then some (1 : Int)
  else some (0 : Int)
/-! impl.isEpoch -/
noncomputable def impl_isEpoch.f (a0 : Int) : Option (Bool) := (impl_within.f a0 (1 : Int) (30 : Int)).bind fun r1 =>
  some r1
/-! impl.WriterOk -/
noncomputable def impl_WriterOk.p7 : Nat → Int → (List Word) → Int → Int → Config → Writer → Option (Bool)
  | 0, _, _, _, _, _, _ => none
  | k + 1, x0, x1, x2, x3, x4, x5 => if x3 < x2 then (if (0 : Int) ≤ x3 ∧ x3 < ((x1.length : Nat) : Int) then ((impl_dataOk.f (x1.getD x3.toNat ((⟨#[]⟩ : ByteArray), (([] : List Int), (false, ())))).1).bind fun r1 =>
        if r1 = true then ((impl_NodesOk.f k x4 (x1.getD x3.toNat ((⟨#[]⟩ : ByteArray), (([] : List Int), (false, ())))).2.1).bind fun r2 =>
          if r2 = true then ((impl_Holds.f k x4 (x1.getD x3.toNat ((⟨#[]⟩ : ByteArray), (([] : List Int), (false, ())))).2.1).bind fun r3 =>
            if (x1.getD x3.toNat ((⟨#[]⟩ : ByteArray), (([] : List Int), (false, ())))).2.2.1 = r3 then ((impl_flagNum.f (!(decide ((x1.getD x3.toNat ((⟨#[]⟩ : ByteArray), (([] : List Int), (false, ())))).2.2.1 = true)))).bind fun r4 =>
              impl_WriterOk.p7 k (wrap64 (x0 + r4)) x1 x2 (wrap64 (x3 + (1 : Int))) x4 x5)
            else some false)
          else some false)
        else some false)
      else none)
    else (impl_ConfigOk.f k x4).bind fun r5 =>
    if r5 = true then ((impl_isEpoch.f x5.1).bind fun r6 =>
      if r6 = true then (if ((x5.2.1.length : Nat) : Int) ≤ (60 : Int) then some (decide (x0 ≤ (6 : Int)))
        else some false)
      else some false)
    else some false
noncomputable def impl_WriterOk.f (k : Nat) (a0 : Config) (a1 : Writer) : Option (Bool) := impl_WriterOk.p7 k (0 : Int) a1.2.1 ((a1.2.1.length : Nat) : Int) (0 : Int) a0 a1
/-! impl.copyInts -/
noncomputable def impl_copyInts.f (a0 : (List Int)) : Option ((List Int)) := if (((([] : List Int).length : Nat) : Int) + ((a0.length : Nat) : Int)) ≤ lim then some (([] : List Int) ++ a0)
  else none
/-! impl.copyWriter -/
noncomputable def impl_copyWriter.p7 : Nat → (List Word) → Int → Int → Writer → Writer → Option (Writer)
  | 0, _, _, _, _, _ => none
  | k + 1, x0, x1, x2, x3, x4 => if x2 < x1 then (if (0 : Int) ≤ x2 ∧ x2 < ((x0.length : Nat) : Int) then ((impl_copyInts.f (x0.getD x2.toNat ((⟨#[]⟩ : ByteArray), (([] : List Int), (false, ())))).2.1).bind fun r1 =>
        if (((x4.2.1.length : Nat) : Int) + ((([((x0.getD x2.toNat ((⟨#[]⟩ : ByteArray), (([] : List Int), (false, ())))).1, (r1, (x0.getD x2.toNat ((⟨#[]⟩ : ByteArray), (([] : List Int), (false, ())))).2.2))] : List Word).length : Nat) : Int)) ≤ lim then impl_copyWriter.p7 k x0 x1 (wrap64 (x2 + (1 : Int))) x3 (x4.1, ((x4.2.1 ++ ([((x0.getD x2.toNat ((⟨#[]⟩ : ByteArray), (([] : List Int), (false, ())))).1, (r1, (x0.getD x2.toNat ((⟨#[]⟩ : ByteArray), (([] : List Int), (false, ())))).2.2))] : List Word)), x4.2.2))
        else none)
      else none)
    else some x4
noncomputable def impl_copyWriter.f (k : Nat) (a0 : Writer) : Option (Writer) := impl_copyWriter.p7 k a0.2.1 ((a0.2.1.length : Nat) : Int) (0 : Int) ((0 : Int), (([] : List Word), ())) (a0.1, (([] : List Word), ()))
/-! slices.DeleteFunc[[]int,int] at impl.withoutNode$1 -/
def slices_DeleteFunc_int_int_impl_withoutNode_1.okp (y : (Int × Unit)) : Prop := True
instance : DecidablePred slices_DeleteFunc_int_int_impl_withoutNode_1.okp := fun y => by unfold slices_DeleteFunc_int_int_impl_withoutNode_1.okp; infer_instance
def slices_DeleteFunc_int_int_impl_withoutNode_1.pred (y : (Int × Unit)) (v : Int) : Bool := decide (v = y.1)
noncomputable def slices_DeleteFunc_int_int_impl_withoutNode_1.f (a0 : List Int) (a1 : (Int × Unit)) : Option (List Int) := if ((List.length a0 : Nat) : Int) ≤ lim ∧ slices_DeleteFunc_int_int_impl_withoutNode_1.okp a1 then some (List.filter (fun v => !slices_DeleteFunc_int_int_impl_withoutNode_1.pred a1 v) a0) else none

/-! impl.withoutNode -/
noncomputable def impl_withoutNode.f (a0 : (List Int)) (a1 : Int) : Option ((List Int)) := (impl_copyInts.f a0).bind fun r1 =>
  (slices_DeleteFunc_int_int_impl_withoutNode_1.f r1 (a1, ())).bind fun r2 =>
  some r2
/-! impl.WriterForget -/
noncomputable def impl_WriterForget.p11 : Nat → Int → (List Word) → Int → Int → Writer → Writer → Option (Writer × Bool)
  | 0, _, _, _, _, _, _ => none
  | k + 1, x0, x1, x2, x3, x4, x5 => if x3 < x2 then (if (0 : Int) ≤ x3 ∧ x3 < ((x1.length : Nat) : Int) then (if (x1.getD x3.toNat ((⟨#[]⟩ : ByteArray), (([] : List Int), (false, ())))).2.2.1 = true then impl_WriterForget.p11 k x0 x1 x2 (wrap64 (x3 + (1 : Int))) x4 x5
        else (impl_withoutNode.f (x1.getD x3.toNat ((⟨#[]⟩ : ByteArray), (([] : List Int), (false, ())))).2.1 x0).bind fun r3 =>
        if (0 : Int) ≤ x3 ∧ x3 < ((x5.2.1.length : Nat) : Int) then impl_WriterForget.p11 k x0 x1 x2 (wrap64 (x3 + (1 : Int))) x4 (x5.1, ((x5.2.1.set x3.toNat ((x5.2.1.getD x3.toNat ((⟨#[]⟩ : ByteArray), (([] : List Int), (false, ())))).1, (r3, (x5.2.1.getD x3.toNat ((⟨#[]⟩ : ByteArray), (([] : List Int), (false, ())))).2.2))), x5.2.2))
        else none)
      else none)
    else some (x5, true)
noncomputable def impl_WriterForget.f (k : Nat) (a0 : Config) (a1 : Writer) (a2 : Int) : Option (Writer × Bool) := (impl_WriterOk.f k a0 a1).bind fun r1 =>
  if r1 = true then ((impl_copyWriter.f k a1).bind fun r2 =>
    impl_WriterForget.p11 k a2 a1.2.1 ((a1.2.1.length : Nat) : Int) (0 : Int) ((0 : Int), (([] : List Word), ())) r2)
  else some (((0 : Int), (([] : List Word), ())), false)
/-! laws.eqIntS -/
noncomputable def laws_eqIntS.p9 : Nat → (List Int) → (List Int) → Int → Option (Bool)
  | 0, _, _, _ => none
  | k + 1, x0, x1, x2 => if x2 < ((x0.length : Nat) : Int) then (if (0 : Int) ≤ x2 ∧ x2 < ((x0.length : Nat) : Int) then (if (0 : Int) ≤ x2 ∧ x2 < ((x1.length : Nat) : Int) then (if (x0.getD x2.toNat (0 : Int)) = (x1.getD x2.toNat (0 : Int)) then laws_eqIntS.p9 k x0 x1 (wrap64 (x2 + (1 : Int)))
          else some false)
        else none)
      else none)
    else some true
noncomputable def laws_eqIntS.f (k : Nat) (a0 : (List Int)) (a1 : (List Int)) : Option (Bool) := if ((a0.length : Nat) : Int) = ((a1.length : Nat) : Int) then laws_eqIntS.p9 k a0 a1 (0 : Int)
  else some false
/-! laws.eqWord -/
noncomputable def laws_eqWord.f (k : Nat) (a0 : Word) (a1 : Word) : Option (Bool) := if a0.1 = a1.1 then ((laws_eqIntS.f k a0.2.1 a1.2.1).bind fun r1 =>
    if r1 = true then (if a0.2.2.1 = a1.2.2.1 then some true
      else some false)
    else some false)
  else some false
/-! laws.eqWordS -/
noncomputable def laws_eqWordS.p9 : Nat → (List Word) → (List Word) → Int → Option (Bool)
  | 0, _, _, _ => none
  | k + 1, x0, x1, x2 => if x2 < ((x0.length : Nat) : Int) then (if (0 : Int) ≤ x2 ∧ x2 < ((x0.length : Nat) : Int) then (if (0 : Int) ≤ x2 ∧ x2 < ((x1.length : Nat) : Int) then ((laws_eqWord.f k (x0.getD x2.toNat ((⟨#[]⟩ : ByteArray), (([] : List Int), (false, ())))) (x1.getD x2.toNat ((⟨#[]⟩ : ByteArray), (([] : List Int), (false, ()))))).bind fun r1 =>
          if r1 = true then laws_eqWordS.p9 k x0 x1 (wrap64 (x2 + (1 : Int)))
          else some false)
        else none)
      else none)
    else some true
noncomputable def laws_eqWordS.f (k : Nat) (a0 : (List Word)) (a1 : (List Word)) : Option (Bool) := if ((a0.length : Nat) : Int) = ((a1.length : Nat) : Int) then laws_eqWordS.p9 k a0 a1 (0 : Int)
  else some false
/-! laws.eqWriter -/
noncomputable def laws_eqWriter.f (k : Nat) (a0 : Writer) (a1 : Writer) : Option (Bool) := if a0.1 = a1.1 then ((laws_eqWordS.f k a0.2.1 a1.2.1).bind fun r1 =>
    if r1 = true then some true
    else some false)
  else some false
/-! laws.eqConfig -/
noncomputable def laws_eqConfig.f (k : Nat) (a0 : Config) (a1 : Config) : Option (Bool) := (laws_eqIntS.f k a0.1 a1.1).bind fun r1 =>
  if r1 = true then (if a0.2.1 = a1.2.1 then some true
    else some false)
  else some false
/-! laws.markIntS -/
noncomputable def laws_markIntS.p5 : Nat → (List Int) → Int → Int → Option (Int × (List Int))
  | 0, _, _, _ => none
  | k + 1, x0, x1, x2 => if x2 < ((x0.length : Nat) : Int) then (if (0 : Int) ≤ x2 ∧ x2 < ((x0.length : Nat) : Int) then laws_markIntS.p5 k (x0.set x2.toNat x1) (wrap64 (x1 + (1 : Int))) (wrap64 (x2 + (1 : Int)))
      else none)
    else some (x1, x0)
noncomputable def laws_markIntS.f (k : Nat) (a0 : (List Int)) (a1 : Int) : Option (Int × (List Int)) := laws_markIntS.p5 k a0 a1 (0 : Int)
/-! laws.markConfig -/
noncomputable def laws_markConfig.f (k : Nat) (a0 : Config) (a1 : Int) : Option (Int × Config) := (laws_markIntS.f k a0.1 a1).bind fun r1 =>
  some (r1.1, (r1.2, a0.2))
/-! laws.markText -/
noncomputable def laws_markText.p9 : Nat → Int → ByteArray → Option (ByteArray)
  | 0, _, _ => none
  | k + 1, x0, x1 => if (0 : Int) < x0 then (if ((((bytesOf ([(IntKind.wrap .u8 ((wrap64 ((48 : Int) + (Int.tmod x0 (10 : Int))))))] : List Int)).size : Nat) : Int) + ((x1.size : Nat) : Int)) ≤ (9223372036854775807 : Int) then laws_markText.p9 k (wrap64 ((Int.tdiv x0 (10 : Int)))) ((bytesOf ([(IntKind.wrap .u8 ((wrap64 ((48 : Int) + (Int.tmod x0 (10 : Int))))))] : List Int)) ++ x1)
      else none)
    else if ((((⟨#[109]⟩ : ByteArray).size : Nat) : Int) + ((x1.size : Nat) : Int)) ≤ (9223372036854775807 : Int) then some ((⟨#[109]⟩ : ByteArray) ++ x1)
    else none
noncomputable def laws_markText.f (k : Nat) (a0 : Int) : Option (ByteArray) := if a0 ≤ (0 : Int) then some (⟨#[109, 48]⟩ : ByteArray)
  else laws_markText.p9 k a0 (⟨#[]⟩ : ByteArray)
/-! laws.markWordS -/
noncomputable def laws_markWordS.p5 : Nat → (List Word) → Int → Int → Option (Int × (List Word))
  | 0, _, _, _ => none
  | k + 1, x0, x1, x2 => if x2 < ((x0.length : Nat) : Int) then ((laws_markText.f k x1).bind fun r1 =>
      if (0 : Int) ≤ x2 ∧ x2 < ((x0.length : Nat) : Int) then (if (0 : Int) ≤ x2 ∧ x2 < (((x0.set x2.toNat (r1, (x0.getD x2.toNat ((⟨#[]⟩ : ByteArray), (([] : List Int), (false, ())))).2)).length : Nat) : Int) then ((laws_markIntS.f k ((x0.set x2.toNat (r1, (x0.getD x2.toNat ((⟨#[]⟩ : ByteArray), (([] : List Int), (false, ())))).2)).getD x2.toNat ((⟨#[]⟩ : ByteArray), (([] : List Int), (false, ())))).2.1 (wrap64 (x1 + (1 : Int)))).bind fun r2 =>
          if (0 : Int) ≤ x2 ∧ x2 < ((((x0.set x2.toNat (r1, (x0.getD x2.toNat ((⟨#[]⟩ : ByteArray), (([] : List Int), (false, ())))).2)).set x2.toNat (((x0.set x2.toNat (r1, (x0.getD x2.toNat ((⟨#[]⟩ : ByteArray), (([] : List Int), (false, ())))).2)).getD x2.toNat ((⟨#[]⟩ : ByteArray), (([] : List Int), (false, ())))).1, (r2.2, ((x0.set x2.toNat (r1, (x0.getD x2.toNat ((⟨#[]⟩ : ByteArray), (([] : List Int), (false, ())))).2)).getD x2.toNat ((⟨#[]⟩ : ByteArray), (([] : List Int), (false, ())))).2.2))).length : Nat) : Int) then laws_markWordS.p5 k (((x0.set x2.toNat (r1, (x0.getD x2.toNat ((⟨#[]⟩ : ByteArray), (([] : List Int), (false, ())))).2)).set x2.toNat (((x0.set x2.toNat (r1, (x0.getD x2.toNat ((⟨#[]⟩ : ByteArray), (([] : List Int), (false, ())))).2)).getD x2.toNat ((⟨#[]⟩ : ByteArray), (([] : List Int), (false, ())))).1, (r2.2, ((x0.set x2.toNat (r1, (x0.getD x2.toNat ((⟨#[]⟩ : ByteArray), (([] : List Int), (false, ())))).2)).getD x2.toNat ((⟨#[]⟩ : ByteArray), (([] : List Int), (false, ())))).2.2))).set x2.toNat ((((x0.set x2.toNat (r1, (x0.getD x2.toNat ((⟨#[]⟩ : ByteArray), (([] : List Int), (false, ())))).2)).set x2.toNat (((x0.set x2.toNat (r1, (x0.getD x2.toNat ((⟨#[]⟩ : ByteArray), (([] : List Int), (false, ())))).2)).getD x2.toNat ((⟨#[]⟩ : ByteArray), (([] : List Int), (false, ())))).1, (r2.2, ((x0.set x2.toNat (r1, (x0.getD x2.toNat ((⟨#[]⟩ : ByteArray), (([] : List Int), (false, ())))).2)).getD x2.toNat ((⟨#[]⟩ : ByteArray), (([] : List Int), (false, ())))).2.2))).getD x2.toNat ((⟨#[]⟩ : ByteArray), (([] : List Int), (false, ())))).1, ((((x0.set x2.toNat (r1, (x0.getD x2.toNat ((⟨#[]⟩ : ByteArray), (([] : List Int), (false, ())))).2)).set x2.toNat (((x0.set x2.toNat (r1, (x0.getD x2.toNat ((⟨#[]⟩ : ByteArray), (([] : List Int), (false, ())))).2)).getD x2.toNat ((⟨#[]⟩ : ByteArray), (([] : List Int), (false, ())))).1, (r2.2, ((x0.set x2.toNat (r1, (x0.getD x2.toNat ((⟨#[]⟩ : ByteArray), (([] : List Int), (false, ())))).2)).getD x2.toNat ((⟨#[]⟩ : ByteArray), (([] : List Int), (false, ())))).2.2))).getD x2.toNat ((⟨#[]⟩ : ByteArray), (([] : List Int), (false, ())))).2.1, ((decide ((Int.tmod r2.1 (3 : Int)) = (0 : Int))), (((x0.set x2.toNat (r1, (x0.getD x2.toNat ((⟨#[]⟩ : ByteArray), (([] : List Int), (false, ())))).2)).set x2.toNat (((x0.set x2.toNat (r1, (x0.getD x2.toNat ((⟨#[]⟩ : ByteArray), (([] : List Int), (false, ())))).2)).getD x2.toNat ((⟨#[]⟩ : ByteArray), (([] : List Int), (false, ())))).1, (r2.2, ((x0.set x2.toNat (r1, (x0.getD x2.toNat ((⟨#[]⟩ : ByteArray), (([] : List Int), (false, ())))).2)).getD x2.toNat ((⟨#[]⟩ : ByteArray), (([] : List Int), (false, ())))).2.2))).getD x2.toNat ((⟨#[]⟩ : ByteArray), (([] : List Int), (false, ())))).2.2.2)))) (wrap64 (r2.1 + (1 : Int))) (wrap64 (x2 + (1 : Int)))
          else none)
        else none)
      else none)
    else some (x1, x0)
noncomputable def laws_markWordS.f (k : Nat) (a0 : (List Word)) (a1 : Int) : Option (Int × (List Word)) := laws_markWordS.p5 k a0 a1 (0 : Int)
/-! laws.markWriter -/
noncomputable def laws_markWriter.f (k : Nat) (a0 : Writer) (a1 : Int) : Option (Int × Writer) := (laws_markWordS.f k a0.2.1 a1).bind fun r1 =>
  some (r1.1, (a0.1, (r1.2, a0.2.2)))
/-! laws.heldIntS -/
noncomputable def laws_heldIntS.p5 : Nat → (List Int) → Int → Int → Option (Int)
  | 0, _, _, _ => none
  | k + 1, x0, x1, x2 => if x2 < ((x0.length : Nat) : Int) then (if (0 : Int) ≤ x2 ∧ x2 < ((x0.length : Nat) : Int) then (if (x0.getD x2.toNat (0 : Int)) = x1 then laws_heldIntS.p5 k x0 (wrap64 (x1 + (1 : Int))) (wrap64 (x2 + (1 : Int)))
        else some (-1 : Int))
      else none)
    else some x1
noncomputable def laws_heldIntS.f (k : Nat) (a0 : (List Int)) (a1 : Int) : Option (Int) := laws_heldIntS.p5 k a0 a1 (0 : Int)
/-! laws.heldWordS -/
noncomputable def laws_heldWordS.p5 : Nat → (List Word) → Int → Int → Option (Int)
  | 0, _, _, _ => none
  | k + 1, x0, x1, x2 => if x2 < ((x0.length : Nat) : Int) then (if (0 : Int) ≤ x2 ∧ x2 < ((x0.length : Nat) : Int) then ((laws_markText.f k x1).bind fun r1 =>
        if (x0.getD x2.toNat ((⟨#[]⟩ : ByteArray), (([] : List Int), (false, ())))).1 = r1 then (if (0 : Int) ≤ x2 ∧ x2 < ((x0.length : Nat) : Int) then ((laws_heldIntS.f k (x0.getD x2.toNat ((⟨#[]⟩ : ByteArray), (([] : List Int), (false, ())))).2.1 (wrap64 (x1 + (1 : Int)))).bind fun r2 =>
            if r2 < (0 : Int) then some (-1 : Int)
            else if (0 : Int) ≤ x2 ∧ x2 < ((x0.length : Nat) : Int) then (if (x0.getD x2.toNat ((⟨#[]⟩ : ByteArray), (([] : List Int), (false, ())))).2.2.1 = (decide ((Int.tmod r2 (3 : Int)) = (0 : Int))) then laws_heldWordS.p5 k x0 (wrap64 (r2 + (1 : Int))) (wrap64 (x2 + (1 : Int)))
              else some (-1 : Int))
            else none)
          else none)
        else some (-1 : Int))
      else none)
    else some x1
noncomputable def laws_heldWordS.f (k : Nat) (a0 : (List Word)) (a1 : Int) : Option (Int) := laws_heldWordS.p5 k a0 a1 (0 : Int)
/-! laws.heldWriter -/
noncomputable def laws_heldWriter.f (k : Nat) (a0 : Writer) (a1 : Int) : Option (Int) := (laws_heldWordS.f k a0.2.1 a1).bind fun r1 =>
  if r1 < (0 : Int) then some (-1 : Int)
  else some r1
/-! laws.FnExactWriterForget -/
noncomputable def laws_FnExactWriterForget.f (k : Nat) (a0 : Config) (a1 : Writer) (a2 : Int) : Option (Bool) := (laws_szConfig.f a0 (1048576 : Int)).bind fun r1 =>
  if r1 < (0 : Int) then some true
  else (laws_szWriter.f k a1 r1).bind fun r2 =>
  if r2 < (0 : Int) then some true
  else (laws_toConfig.f k a0).bind fun r3 =>
  (laws_toWriter.f k a1).bind fun r4 =>
  (spec_WriterForget.f k r3 r4 a2).bind fun r5 =>
  (laws_toConfig.f k a0).bind fun r6 =>
  (laws_toWriter.f k a1).bind fun r7 =>
  (impl_WriterForget.f k r6 r7 a2).bind fun r8 =>
  (laws_eqWriter.f k r8.1 r5.1).bind fun r9 =>
  if r9 = true then (if r8.2 = r5.2 then ((laws_toConfig.f k a0).bind fun r10 =>
      (laws_eqConfig.f k r6 r10).bind fun r11 =>
      if r11 = true then ((laws_toWriter.f k a1).bind fun r12 =>
        (laws_eqWriter.f k r7 r12).bind fun r13 =>
        if r13 = true then ((laws_markConfig.f k r6 (1 : Int)).bind fun r14 =>
          (laws_markWriter.f k r7 r14.1).bind fun r15 =>
          if r15.1 < (0 : Int) then some false
          else (laws_eqWriter.f k r8.1 r5.1).bind fun r16 =>
          if r16 = true then (if r8.2 = r5.2 then ((laws_markWriter.f k r8.1 (1 : Int)).bind fun r17 =>
              (laws_heldWriter.f k r17.2 (1 : Int)).bind fun r18 =>
              if r18 < (0 : Int) then some false
              else if r18 = r17.1 then ((laws_toConfig.f k a0).bind fun r19 =>
                (laws_toWriter.f k a1).bind fun r20 =>
                (impl_WriterForget.f k r19 r20 a2).bind fun r21 =>
                (laws_eqWriter.f k r21.1 r5.1).bind fun r22 =>
                if r22 = true then (if r21.2 = r5.2 then ((laws_heldWriter.f k r17.2 (1 : Int)).bind fun r23 =>
                    if r23 < (0 : Int) then some false
                    else if r23 = r17.1 then some true
                    else some false)
                  else some false)
                else some false)
              else some false)
            else some false)
          else some false)
        else some false)
      else some false)
    else some false)
  else some false
end Go.Proofs.Ytllmifioelbleab.OmFnExactWriterForget
