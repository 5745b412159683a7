import Derived.Test.YtepefeclpdnfmaaOmD
set_option maxRecDepth 1000000
set_option linter.unusedVariables false
namespace Go.Proofs.Ytepefeclpdnfmaa.OmFnExactDeedOk
open Go Go.OM
@[reducible] noncomputable def tEvent : Ty := .pair (.int .i64) (.pair (.int .i64) (.pair .str (.unit)))
@[reducible] noncomputable def Event : Type := Int × Int × ByteArray × Unit
@[reducible] noncomputable def tDeed : Ty := .pair (.int .i64) (.pair (.int .i64) (.pair (.int .i64) (.pair (.int .i64) (.pair .str (.unit)))))
@[reducible] noncomputable def Deed : Type := Int × Int × Int × Int × ByteArray × Unit
@[reducible] noncomputable def tReader : Ty := .pair (.int .i64) (.pair (.int .i64) (.pair (.sl tEvent) (.unit)))
@[reducible] noncomputable def Reader : Type := Int × Int × (List Event) × Unit
@[reducible] noncomputable def tWord : Ty := .pair .str (.pair (.sl (.int .i64)) (.pair .bool (.unit)))
@[reducible] noncomputable def Word : Type := ByteArray × (List Int) × Bool × Unit
@[reducible] noncomputable def tWriter : Ty := .pair (.int .i64) (.pair (.sl tWord) (.unit))
@[reducible] noncomputable def Writer : Type := Int × (List Word) × Unit
@[reducible] noncomputable def tConfig : Ty := .pair (.sl (.int .i64)) (.pair (.int .i64) (.unit))
@[reducible] noncomputable def Config : Type := (List Int) × Int × Unit
@[reducible] noncomputable def tEra : Ty := .pair (.sl (.int .i64)) (.pair .bool (.pair (.int .i64) (.unit)))
@[reducible] noncomputable def Era : Type := (List Int) × Bool × Int × Unit
@[reducible] noncomputable def tRegister : Ty := .pair (.sl tEra) (.pair (.int .i64) (.unit))
@[reducible] noncomputable def Register : Type := (List Era) × Int × Unit
@[reducible] noncomputable def tEntry : Ty := .pair (.int .i64) (.pair (.int .i64) (.pair .bool (.pair .str (.unit))))
@[reducible] noncomputable def Entry : Type := Int × Int × Bool × ByteArray × Unit
@[reducible] noncomputable def tAnswer : Ty := .pair (.int .i64) (.pair .bool (.pair tEntry (.unit)))
@[reducible] noncomputable def Answer : Type := Int × Bool × Entry × Unit
@[reducible] noncomputable def tl1Cur : Ty := .pair (.sl (.int .u8)) (.pair (.int .i64) (.pair (.int .i64) (.unit)))
@[reducible] noncomputable def l1Cur : Type := (List Int) × Int × Int × Unit
/-! laws.szDeed -/
noncomputable def laws_szDeed.f (a0 : Deed) (a1 : Int) : Option (Int) := if (wrap64 (a1 - ((a0.2.2.2.2.1.size : Nat) : Int))) < (0 : Int) then some (-1 : Int)
  else some (wrap64 (a1 - ((a0.2.2.2.2.1.size : Nat) : Int)))
/-! laws.toDeed -/
noncomputable def laws_toDeed.f (a0 : Deed) : Option (Deed) := some (a0.1, (a0.2.1, (a0.2.2.1, (a0.2.2.2.1, (a0.2.2.2.2.1, ())))))
/-! spec.l1In -/
noncomputable def spec_l1In.f (a0 : Int) (a1 : Int) (a2 : Int) : Option (Bool) := if a1 ≤ a0 then some (decide (a0 ≤ a2))
  else some false
/-! spec.l13Names -/
noncomputable def spec_l13Names.f (a0 : Deed) : Option (Deed) := if a0.1 = (1 : Int) then (if a0.1 = (1 : Int) then some (a0.1, (a0.2.1, ((0 : Int), ((0 : Int), ((⟨#[]⟩ : ByteArray), ())))))
    else if a0.1 = (2 : Int) then some (a0.1, (a0.2.1, ((0 : Int), ((0 : Int), (a0.2.2.2.2.1, ())))))
    else if a0.1 = (3 : Int) then some (a0.1, (a0.2.1, (a0.2.2.1, (a0.2.2.2.1, ((⟨#[]⟩ : ByteArray), ())))))
    else if a0.1 = (5 : Int) then (if a0.1 = (5 : Int) then some (a0.1, (a0.2.1, (a0.2.2.1, ((0 : Int), ((⟨#[]⟩ : ByteArray), ())))))
      else if a0.1 = (11 : Int) then some (a0.1, ((0 : Int), (a0.2.2.1, (a0.2.2.2.1, ((⟨#[]⟩ : ByteArray), ())))))
      else some (a0.1, ((0 : Int), ((0 : Int), ((0 : Int), ((⟨#[]⟩ : ByteArray), ()))))))
    else if a0.1 = (14 : Int) then some (a0.1, (a0.2.1, (a0.2.2.1, ((0 : Int), ((⟨#[]⟩ : ByteArray), ())))))
    else if a0.1 = (11 : Int) then some (a0.1, ((0 : Int), (a0.2.2.1, (a0.2.2.2.1, ((⟨#[]⟩ : ByteArray), ())))))
    else some (a0.1, ((0 : Int), ((0 : Int), ((0 : Int), ((⟨#[]⟩ : ByteArray), ()))))))
  else if a0.1 = (4 : Int) then (if a0.1 = (4 : Int) then some (a0.1, (a0.2.1, ((0 : Int), ((0 : Int), ((⟨#[]⟩ : ByteArray), ())))))
    else if a0.1 = (2 : Int) then some (a0.1, (a0.2.1, ((0 : Int), ((0 : Int), (a0.2.2.2.2.1, ())))))
    else if a0.1 = (3 : Int) then some (a0.1, (a0.2.1, (a0.2.2.1, (a0.2.2.2.1, ((⟨#[]⟩ : ByteArray), ())))))
    else if a0.1 = (5 : Int) then (if a0.1 = (5 : Int) then some (a0.1, (a0.2.1, (a0.2.2.1, ((0 : Int), ((⟨#[]⟩ : ByteArray), ())))))
      else if a0.1 = (11 : Int) then some (a0.1, ((0 : Int), (a0.2.2.1, (a0.2.2.2.1, ((⟨#[]⟩ : ByteArray), ())))))
      else some (a0.1, ((0 : Int), ((0 : Int), ((0 : Int), ((⟨#[]⟩ : ByteArray), ()))))))
    else if a0.1 = (14 : Int) then some (a0.1, (a0.2.1, (a0.2.2.1, ((0 : Int), ((⟨#[]⟩ : ByteArray), ())))))
    else if a0.1 = (11 : Int) then some (a0.1, ((0 : Int), (a0.2.2.1, (a0.2.2.2.1, ((⟨#[]⟩ : ByteArray), ())))))
    else some (a0.1, ((0 : Int), ((0 : Int), ((0 : Int), ((⟨#[]⟩ : ByteArray), ()))))))
  else if a0.1 = (6 : Int) then (if a0.1 = (6 : Int) then some (a0.1, (a0.2.1, ((0 : Int), ((0 : Int), ((⟨#[]⟩ : ByteArray), ())))))
    else if a0.1 = (2 : Int) then some (a0.1, (a0.2.1, ((0 : Int), ((0 : Int), (a0.2.2.2.2.1, ())))))
    else if a0.1 = (3 : Int) then some (a0.1, (a0.2.1, (a0.2.2.1, (a0.2.2.2.1, ((⟨#[]⟩ : ByteArray), ())))))
    else if a0.1 = (5 : Int) then (if a0.1 = (5 : Int) then some (a0.1, (a0.2.1, (a0.2.2.1, ((0 : Int), ((⟨#[]⟩ : ByteArray), ())))))
      else if a0.1 = (11 : Int) then some (a0.1, ((0 : Int), (a0.2.2.1, (a0.2.2.2.1, ((⟨#[]⟩ : ByteArray), ())))))
      else some (a0.1, ((0 : Int), ((0 : Int), ((0 : Int), ((⟨#[]⟩ : ByteArray), ()))))))
    else if a0.1 = (14 : Int) then some (a0.1, (a0.2.1, (a0.2.2.1, ((0 : Int), ((⟨#[]⟩ : ByteArray), ())))))
    else if a0.1 = (11 : Int) then some (a0.1, ((0 : Int), (a0.2.2.1, (a0.2.2.2.1, ((⟨#[]⟩ : ByteArray), ())))))
    else some (a0.1, ((0 : Int), ((0 : Int), ((0 : Int), ((⟨#[]⟩ : ByteArray), ()))))))
  else if a0.1 = (7 : Int) then (if a0.1 = (7 : Int) then some (a0.1, (a0.2.1, ((0 : Int), ((0 : Int), ((⟨#[]⟩ : ByteArray), ())))))
    else if a0.1 = (2 : Int) then some (a0.1, (a0.2.1, ((0 : Int), ((0 : Int), (a0.2.2.2.2.1, ())))))
    else if a0.1 = (3 : Int) then some (a0.1, (a0.2.1, (a0.2.2.1, (a0.2.2.2.1, ((⟨#[]⟩ : ByteArray), ())))))
    else if a0.1 = (5 : Int) then (if a0.1 = (5 : Int) then some (a0.1, (a0.2.1, (a0.2.2.1, ((0 : Int), ((⟨#[]⟩ : ByteArray), ())))))
      else if a0.1 = (11 : Int) then some (a0.1, ((0 : Int), (a0.2.2.1, (a0.2.2.2.1, ((⟨#[]⟩ : ByteArray), ())))))
      else some (a0.1, ((0 : Int), ((0 : Int), ((0 : Int), ((⟨#[]⟩ : ByteArray), ()))))))
    else if a0.1 = (14 : Int) then some (a0.1, (a0.2.1, (a0.2.2.1, ((0 : Int), ((⟨#[]⟩ : ByteArray), ())))))
    else if a0.1 = (11 : Int) then some (a0.1, ((0 : Int), (a0.2.2.1, (a0.2.2.2.1, ((⟨#[]⟩ : ByteArray), ())))))
    else some (a0.1, ((0 : Int), ((0 : Int), ((0 : Int), ((⟨#[]⟩ : ByteArray), ()))))))
  else if a0.1 = (9 : Int) then (if a0.1 = (9 : Int) then some (a0.1, (a0.2.1, ((0 : Int), ((0 : Int), ((⟨#[]⟩ : ByteArray), ())))))
    else if a0.1 = (2 : Int) then some (a0.1, (a0.2.1, ((0 : Int), ((0 : Int), (a0.2.2.2.2.1, ())))))
    else if a0.1 = (3 : Int) then some (a0.1, (a0.2.1, (a0.2.2.1, (a0.2.2.2.1, ((⟨#[]⟩ : ByteArray), ())))))
    else if a0.1 = (5 : Int) then (if a0.1 = (5 : Int) then some (a0.1, (a0.2.1, (a0.2.2.1, ((0 : Int), ((⟨#[]⟩ : ByteArray), ())))))
      else if a0.1 = (11 : Int) then some (a0.1, ((0 : Int), (a0.2.2.1, (a0.2.2.2.1, ((⟨#[]⟩ : ByteArray), ())))))
      else some (a0.1, ((0 : Int), ((0 : Int), ((0 : Int), ((⟨#[]⟩ : ByteArray), ()))))))
    else if a0.1 = (14 : Int) then some (a0.1, (a0.2.1, (a0.2.2.1, ((0 : Int), ((⟨#[]⟩ : ByteArray), ())))))
    else if a0.1 = (11 : Int) then some (a0.1, ((0 : Int), (a0.2.2.1, (a0.2.2.2.1, ((⟨#[]⟩ : ByteArray), ())))))
    else some (a0.1, ((0 : Int), ((0 : Int), ((0 : Int), ((⟨#[]⟩ : ByteArray), ()))))))
  else if a0.1 = (13 : Int) then (if a0.1 = (13 : Int) then some (a0.1, (a0.2.1, ((0 : Int), ((0 : Int), ((⟨#[]⟩ : ByteArray), ())))))
    else if a0.1 = (2 : Int) then some (a0.1, (a0.2.1, ((0 : Int), ((0 : Int), (a0.2.2.2.2.1, ())))))
    else if a0.1 = (3 : Int) then some (a0.1, (a0.2.1, (a0.2.2.1, (a0.2.2.2.1, ((⟨#[]⟩ : ByteArray), ())))))
    else if a0.1 = (5 : Int) then (if a0.1 = (5 : Int) then some (a0.1, (a0.2.1, (a0.2.2.1, ((0 : Int), ((⟨#[]⟩ : ByteArray), ())))))
      else if a0.1 = (11 : Int) then some (a0.1, ((0 : Int), (a0.2.2.1, (a0.2.2.2.1, ((⟨#[]⟩ : ByteArray), ())))))
      else some (a0.1, ((0 : Int), ((0 : Int), ((0 : Int), ((⟨#[]⟩ : ByteArray), ()))))))
    else if a0.1 = (14 : Int) then some (a0.1, (a0.2.1, (a0.2.2.1, ((0 : Int), ((⟨#[]⟩ : ByteArray), ())))))
    else if a0.1 = (11 : Int) then some (a0.1, ((0 : Int), (a0.2.2.1, (a0.2.2.2.1, ((⟨#[]⟩ : ByteArray), ())))))
    else some (a0.1, ((0 : Int), ((0 : Int), ((0 : Int), ((⟨#[]⟩ : ByteArray), ()))))))
  else if a0.1 = (15 : Int) then (if a0.1 = (15 : Int) then some (a0.1, (a0.2.1, ((0 : Int), ((0 : Int), ((⟨#[]⟩ : ByteArray), ())))))
    else if a0.1 = (2 : Int) then some (a0.1, (a0.2.1, ((0 : Int), ((0 : Int), (a0.2.2.2.2.1, ())))))
    else if a0.1 = (3 : Int) then some (a0.1, (a0.2.1, (a0.2.2.1, (a0.2.2.2.1, ((⟨#[]⟩ : ByteArray), ())))))
    else if a0.1 = (5 : Int) then (if a0.1 = (5 : Int) then some (a0.1, (a0.2.1, (a0.2.2.1, ((0 : Int), ((⟨#[]⟩ : ByteArray), ())))))
      else if a0.1 = (11 : Int) then some (a0.1, ((0 : Int), (a0.2.2.1, (a0.2.2.2.1, ((⟨#[]⟩ : ByteArray), ())))))
      else some (a0.1, ((0 : Int), ((0 : Int), ((0 : Int), ((⟨#[]⟩ : ByteArray), ()))))))
    else if a0.1 = (14 : Int) then some (a0.1, (a0.2.1, (a0.2.2.1, ((0 : Int), ((⟨#[]⟩ : ByteArray), ())))))
    else if a0.1 = (11 : Int) then some (a0.1, ((0 : Int), (a0.2.2.1, (a0.2.2.2.1, ((⟨#[]⟩ : ByteArray), ())))))
    else some (a0.1, ((0 : Int), ((0 : Int), ((0 : Int), ((⟨#[]⟩ : ByteArray), ()))))))
  else if a0.1 = (16 : Int) then some (a0.1, (a0.2.1, ((0 : Int), ((0 : Int), ((⟨#[]⟩ : ByteArray), ())))))
  else if a0.1 = (2 : Int) then some (a0.1, (a0.2.1, ((0 : Int), ((0 : Int), (a0.2.2.2.2.1, ())))))
  else if a0.1 = (3 : Int) then some (a0.1, (a0.2.1, (a0.2.2.1, (a0.2.2.2.1, ((⟨#[]⟩ : ByteArray), ())))))
  else if a0.1 = (5 : Int) then (if a0.1 = (5 : Int) then some (a0.1, (a0.2.1, (a0.2.2.1, ((0 : Int), ((⟨#[]⟩ : ByteArray), ())))))
    else if a0.1 = (11 : Int) then some (a0.1, ((0 : Int), (a0.2.2.1, (a0.2.2.2.1, ((⟨#[]⟩ : ByteArray), ())))))
    else some (a0.1, ((0 : Int), ((0 : Int), ((0 : Int), ((⟨#[]⟩ : ByteArray), ()))))))
  else if a0.1 = (14 : Int) then some (a0.1, (a0.2.1, (a0.2.2.1, ((0 : Int), ((⟨#[]⟩ : ByteArray), ())))))
  else if a0.1 = (11 : Int) then some (a0.1, ((0 : Int), (a0.2.2.1, (a0.2.2.2.1, ((⟨#[]⟩ : ByteArray), ())))))
  else some (a0.1, ((0 : Int), ((0 : Int), ((0 : Int), ((⟨#[]⟩ : ByteArray), ())))))
/-! spec.DeedOk -/
noncomputable def spec_DeedOk.f (a0 : Deed) : Option (Bool) := (spec_l1In.f a0.1 (1 : Int) (16 : Int)).bind fun r1 =>
  if r1 = true then ((spec_l13Names.f a0).bind fun r2 =>
    if a0 = r2 then some (decide (((a0.2.2.2.2.1.size : Nat) : Int) ≤ (40 : Int)))
    else some false)
  else some false
/-! impl.deedHas -/
noncomputable def impl_deedHas.f (a0 : Int) : Option (ByteArray) := if a0 = (8 : Int) then (if a0 = (8 : Int) then some (⟨#[]⟩ : ByteArray)
    else if a0 = (2 : Int) then some (⟨#[65, 84]⟩ : ByteArray)
    else if a0 = (3 : Int) then some (⟨#[65, 66, 67]⟩ : ByteArray)
    else if a0 = (5 : Int) then (if a0 = (5 : Int) then some (⟨#[65, 66]⟩ : ByteArray)
      else if a0 = (11 : Int) then some (⟨#[66, 67]⟩ : ByteArray)
      else if a0 = (13 : Int) then some (⟨#[80]⟩ : ByteArray)
      else some (⟨#[65]⟩ : ByteArray))
    else if a0 = (14 : Int) then some (⟨#[65, 66]⟩ : ByteArray)
    else if a0 = (11 : Int) then some (⟨#[66, 67]⟩ : ByteArray)
    else if a0 = (13 : Int) then some (⟨#[80]⟩ : ByteArray)
    else some (⟨#[65]⟩ : ByteArray))
  else if a0 = (10 : Int) then (if a0 = (10 : Int) then some (⟨#[]⟩ : ByteArray)
    else if a0 = (2 : Int) then some (⟨#[65, 84]⟩ : ByteArray)
    else if a0 = (3 : Int) then some (⟨#[65, 66, 67]⟩ : ByteArray)
    else if a0 = (5 : Int) then (if a0 = (5 : Int) then some (⟨#[65, 66]⟩ : ByteArray)
      else if a0 = (11 : Int) then some (⟨#[66, 67]⟩ : ByteArray)
      else if a0 = (13 : Int) then some (⟨#[80]⟩ : ByteArray)
      else some (⟨#[65]⟩ : ByteArray))
    else if a0 = (14 : Int) then some (⟨#[65, 66]⟩ : ByteArray)
    else if a0 = (11 : Int) then some (⟨#[66, 67]⟩ : ByteArray)
    else if a0 = (13 : Int) then some (⟨#[80]⟩ : ByteArray)
    else some (⟨#[65]⟩ : ByteArray))
  else if a0 = (12 : Int) then some (⟨#[]⟩ : ByteArray)
  else if a0 = (2 : Int) then some (⟨#[65, 84]⟩ : ByteArray)
  else if a0 = (3 : Int) then some (⟨#[65, 66, 67]⟩ : ByteArray)
  else if a0 = (5 : Int) then (if a0 = (5 : Int) then some (⟨#[65, 66]⟩ : ByteArray)
    else if a0 = (11 : Int) then some (⟨#[66, 67]⟩ : ByteArray)
    else if a0 = (13 : Int) then some (⟨#[80]⟩ : ByteArray)
    else some (⟨#[65]⟩ : ByteArray))
  else if a0 = (14 : Int) then some (⟨#[65, 66]⟩ : ByteArray)
  else if a0 = (11 : Int) then some (⟨#[66, 67]⟩ : ByteArray)
  else if a0 = (13 : Int) then some (⟨#[80]⟩ : ByteArray)
  else some (⟨#[65]⟩ : ByteArray)
/-! impl.within -/
noncomputable def impl_within.f (a0 : Int) (a1 : Int) (a2 : Int) : Option (Bool) := if a1 ≤ a0 then some (decide (a0 ≤ a2))
  else some false
/-! impl.dataOk -/
noncomputable def impl_dataOk.f (a0 : ByteArray) : Option (Bool) := some (decide (((a0.size : Nat) : Int) ≤ (40 : Int)))
/-! impl.DeedOk -/
noncomputable def impl_DeedOk.p9 : Nat → (List Int) → Int → Int → Deed → Deed → Option (Bool)
  | 0, _, _, _, _, _ => none
  | k + 1, x0, x1, x2, x3, x4 => if x2 < x1 then (if (0 : Int) ≤ x2 ∧ x2 < ((x0.length : Nat) : Int) then (if (x0.getD x2.toNat (0 : Int)) = (65 : Int) then (if (x0.getD x2.toNat (0 : Int)) = (65 : Int) then impl_DeedOk.p9 k x0 x1 (wrap64 (x2 + (1 : Int))) x3 (x4.1, ((0 : Int), x4.2.2))
          else if (x0.getD x2.toNat (0 : Int)) = (66 : Int) then impl_DeedOk.p9 k x0 x1 (wrap64 (x2 + (1 : Int))) x3 (x4.1, (x4.2.1, ((0 : Int), x4.2.2.2)))
          else if (x0.getD x2.toNat (0 : Int)) = (67 : Int) then impl_DeedOk.p9 k x0 x1 (wrap64 (x2 + (1 : Int))) x3 (x4.1, (x4.2.1, (x4.2.2.1, ((0 : Int), x4.2.2.2.2))))
          else if (x0.getD x2.toNat (0 : Int)) = (84 : Int) then impl_DeedOk.p9 k x0 x1 (wrap64 (x2 + (1 : Int))) x3 (x4.1, (x4.2.1, (x4.2.2.1, (x4.2.2.2.1, ((⟨#[]⟩ : ByteArray), x4.2.2.2.2.2)))))
          else impl_DeedOk.p9 k x0 x1 (wrap64 (x2 + (1 : Int))) x3 x4)
        else if (x0.getD x2.toNat (0 : Int)) = (80 : Int) then impl_DeedOk.p9 k x0 x1 (wrap64 (x2 + (1 : Int))) x3 (x4.1, ((0 : Int), x4.2.2))
        else if (x0.getD x2.toNat (0 : Int)) = (66 : Int) then impl_DeedOk.p9 k x0 x1 (wrap64 (x2 + (1 : Int))) x3 (x4.1, (x4.2.1, ((0 : Int), x4.2.2.2)))
        else if (x0.getD x2.toNat (0 : Int)) = (67 : Int) then impl_DeedOk.p9 k x0 x1 (wrap64 (x2 + (1 : Int))) x3 (x4.1, (x4.2.1, (x4.2.2.1, ((0 : Int), x4.2.2.2.2))))
        else if (x0.getD x2.toNat (0 : Int)) = (84 : Int) then impl_DeedOk.p9 k x0 x1 (wrap64 (x2 + (1 : Int))) x3 (x4.1, (x4.2.1, (x4.2.2.1, (x4.2.2.2.1, ((⟨#[]⟩ : ByteArray), x4.2.2.2.2.2)))))
        else impl_DeedOk.p9 k x0 x1 (wrap64 (x2 + (1 : Int))) x3 x4)
      else none)
    else (impl_within.f x3.1 (1 : Int) (16 : Int)).bind fun r2 =>
    if r2 = true then (if x4 = ((0 : Int), ((0 : Int), ((0 : Int), ((0 : Int), ((⟨#[]⟩ : ByteArray), ()))))) then ((impl_dataOk.f x3.2.2.2.2.1).bind fun r3 =>
        some r3)
      else some false)
    else some false
noncomputable def impl_DeedOk.f (k : Nat) (a0 : Deed) : Option (Bool) := (impl_deedHas.f a0.1).bind fun r1 =>
  impl_DeedOk.p9 k (listOf r1) (((listOf r1).length : Nat) : Int) (0 : Int) a0 ((0 : Int), a0.2)
/-! laws.FnExactDeedOk -/
noncomputable def laws_FnExactDeedOk.f (k : Nat) (a0 : Deed) : Option (Bool) := (laws_szDeed.f a0 (1048576 : Int)).bind fun r1 =>
  if r1 < (0 : Int) then some true
  else (laws_toDeed.f a0).bind fun r2 =>
  (spec_DeedOk.f r2).bind fun r3 =>
  (laws_toDeed.f a0).bind fun r4 =>
  (impl_DeedOk.f k r4).bind fun r5 =>
  if r5 = r3 then some true
  else some false
end Go.Proofs.Ytepefeclpdnfmaa.OmFnExactDeedOk
