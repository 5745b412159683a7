import Derived.Test.YtdkdhciogedoiaaOmD
set_option maxRecDepth 1000000
set_option linter.unusedVariables false
namespace Go.Proofs.Ytdkdhciogedoiaa.OmFnExactMendNew
open Go Go.OM
@[reducible] noncomputable def tEra : Ty := .pair (.sl (.int .i64)) (.pair .bool (.pair (.int .i64) (.unit)))
@[reducible] noncomputable def Era : Type := (List Int) × Bool × Int × Unit
@[reducible] noncomputable def tRegister : Ty := .pair (.sl tEra) (.pair (.int .i64) (.unit))
@[reducible] noncomputable def Register : Type := (List Era) × Int × Unit
@[reducible] noncomputable def tEntry : Ty := .pair (.int .i64) (.pair (.int .i64) (.pair .bool (.pair .str (.unit))))
@[reducible] noncomputable def Entry : Type := Int × Int × Bool × ByteArray × Unit
@[reducible] noncomputable def tMend : Ty := .pair (.int .i64) (.pair (.int .i64) (.pair (.sl (.int .i64)) (.pair (.sl tEntry) (.pair .bool (.pair (.sl (.sl (.int .i64))) (.unit))))))
@[reducible] noncomputable def Mend : Type := Int × Int × (List Int) × (List Entry) × Bool × (List (List Int)) × Unit
@[reducible] noncomputable def tWord : Ty := .pair .str (.pair (.sl (.int .i64)) (.pair .bool (.unit)))
@[reducible] noncomputable def Word : Type := ByteArray × (List Int) × Bool × Unit
@[reducible] noncomputable def tWriter : Ty := .pair (.int .i64) (.pair (.sl tWord) (.unit))
@[reducible] noncomputable def Writer : Type := Int × (List Word) × Unit
@[reducible] noncomputable def tConfig : Ty := .pair (.sl (.int .i64)) (.pair (.int .i64) (.unit))
@[reducible] noncomputable def Config : Type := (List Int) × Int × Unit
@[reducible] noncomputable def tl1Cur : Ty := .pair (.sl (.int .u8)) (.pair (.int .i64) (.pair (.int .i64) (.unit)))
@[reducible] noncomputable def l1Cur : Type := (List Int) × Int × Int × Unit
@[reducible] noncomputable def tStore : Ty := .pair (.sl tEntry) (.pair (.sl tEntry) (.pair (.int .i64) (.unit)))
@[reducible] noncomputable def Store : Type := (List Entry) × (List Entry) × Int × Unit
/-! spec.MendNew -/
noncomputable def spec_MendNew.f (a0 : Int) (a1 : Int) : Option (Mend) := some (a1, (a0, (([] : List Int), (([] : List Entry), (false, (([] : List (List Int)), ()))))))
/-! impl.MendNew -/
noncomputable def impl_MendNew.f (a0 : Int) (a1 : Int) : Option (Mend) := some (a1, (a0, (([] : List Int), (([] : List Entry), (false, (([] : List (List Int)), ()))))))
/-! laws.eqIntS -/
noncomputable def laws_eqIntS.p9 : Nat → (List Int) → (List Int) → Int → Option (Bool)
  | 0, _, _, _ => none
  | k + 1, x0, x1, x2 => if x2 < ((x0.length : Nat) : Int) then (if (0 : Int) ≤ x2 ∧ x2 < ((x0.length : Nat) : Int) then (if (0 : Int) ≤ x2 ∧ x2 < ((x1.length : Nat) : Int) then (if (x0.getD x2.toNat (0 : Int)) = (x1.getD x2.toNat (0 : Int)) then laws_eqIntS.p9 k x0 x1 (wrap64 (x2 + (1 : Int)))
          else some false)
        else none)
      else none)
    else some true
noncomputable def laws_eqIntS.f (k : Nat) (a0 : (List Int)) (a1 : (List Int)) : Option (Bool) := if ((a0.length : Nat) : Int) = ((a1.length : Nat) : Int) then laws_eqIntS.p9 k a0 a1 (0 : Int)
  else some false
/-! laws.eqEntry -/
noncomputable def laws_eqEntry.f (a0 : Entry) (a1 : Entry) : Option (Bool) := if a0.1 = a1.1 then (if a0.2.1 = a1.2.1 then (if a0.2.2.1 = a1.2.2.1 then (if a0.2.2.2.1 = a1.2.2.2.1 then some true
        else some false)
      else some false)
    else some false)
  else some false
/-! laws.eqEntryS -/
noncomputable def laws_eqEntryS.p9 : Nat → (List Entry) → (List Entry) → Int → Option (Bool)
  | 0, _, _, _ => none
  | k + 1, x0, x1, x2 => if x2 < ((x0.length : Nat) : Int) then (if (0 : Int) ≤ x2 ∧ x2 < ((x0.length : Nat) : Int) then (if (0 : Int) ≤ x2 ∧ x2 < ((x1.length : Nat) : Int) then ((laws_eqEntry.f (x0.getD x2.toNat ((0 : Int), ((0 : Int), (false, ((⟨#[]⟩ : ByteArray), ()))))) (x1.getD x2.toNat ((0 : Int), ((0 : Int), (false, ((⟨#[]⟩ : ByteArray), ())))))).bind fun r1 =>
          if r1 = true then laws_eqEntryS.p9 k x0 x1 (wrap64 (x2 + (1 : Int)))
          else some false)
        else none)
      else none)
    else some true
noncomputable def laws_eqEntryS.f (k : Nat) (a0 : (List Entry)) (a1 : (List Entry)) : Option (Bool) := if ((a0.length : Nat) : Int) = ((a1.length : Nat) : Int) then laws_eqEntryS.p9 k a0 a1 (0 : Int)
  else some false
/-! laws.eqIntSS -/
noncomputable def laws_eqIntSS.p9 : Nat → (List (List Int)) → (List (List Int)) → Int → Option (Bool)
  | 0, _, _, _ => none
  | k + 1, x0, x1, x2 => if x2 < ((x0.length : Nat) : Int) then (if (0 : Int) ≤ x2 ∧ x2 < ((x0.length : Nat) : Int) then (if (0 : Int) ≤ x2 ∧ x2 < ((x1.length : Nat) : Int) then ((laws_eqIntS.f k (x0.getD x2.toNat ([] : List Int)) (x1.getD x2.toNat ([] : List Int))).bind fun r1 =>
          if r1 = true then laws_eqIntSS.p9 k x0 x1 (wrap64 (x2 + (1 : Int)))
          else some false)
        else none)
      else none)
    else some true
noncomputable def laws_eqIntSS.f (k : Nat) (a0 : (List (List Int))) (a1 : (List (List Int))) : Option (Bool) := if ((a0.length : Nat) : Int) = ((a1.length : Nat) : Int) then laws_eqIntSS.p9 k a0 a1 (0 : Int)
  else some false
/-! laws.eqMend -/
noncomputable def laws_eqMend.f (k : Nat) (a0 : Mend) (a1 : Mend) : Option (Bool) := if a0.1 = a1.1 then (if a0.2.1 = a1.2.1 then ((laws_eqIntS.f k a0.2.2.1 a1.2.2.1).bind fun r1 =>
      if r1 = true then ((laws_eqEntryS.f k a0.2.2.2.1 a1.2.2.2.1).bind fun r2 =>
        if r2 = true then (if a0.2.2.2.2.1 = a1.2.2.2.2.1 then ((laws_eqIntSS.f k a0.2.2.2.2.2.1 a1.2.2.2.2.2.1).bind fun r3 =>
            if r3 = true then some true
            else some false)
          else some false)
        else some false)
      else some false)
    else some false)
  else some false
/-! laws.markIntS -/
noncomputable def laws_markIntS.p5 : Nat → (List Int) → Int → Int → Option (Int × (List Int))
  | 0, _, _, _ => none
  | k + 1, x0, x1, x2 => if x2 < ((x0.length : Nat) : Int) then (if (0 : Int) ≤ x2 ∧ x2 < ((x0.length : Nat) : Int) then laws_markIntS.p5 k (x0.set x2.toNat x1) (wrap64 (x1 + (1 : Int))) (wrap64 (x2 + (1 : Int)))
      else none)
    else some (x1, x0)
noncomputable def laws_markIntS.f (k : Nat) (a0 : (List Int)) (a1 : Int) : Option (Int × (List Int)) := laws_markIntS.p5 k a0 a1 (0 : Int)
/-! laws.markText -/
noncomputable def laws_markText.p9 : Nat → Int → ByteArray → Option (ByteArray)
  | 0, _, _ => none
  | k + 1, x0, x1 => if (0 : Int) < x0 then (if ((((bytesOf ([(IntKind.wrap .u8 ((wrap64 ((48 : Int) + (Int.tmod x0 (10 : Int))))))] : List Int)).size : Nat) : Int) + ((x1.size : Nat) : Int)) ≤ (9223372036854775807 : Int) then laws_markText.p9 k (wrap64 ((Int.tdiv x0 (10 : Int)))) ((bytesOf ([(IntKind.wrap .u8 ((wrap64 ((48 : Int) + (Int.tmod x0 (10 : Int))))))] : List Int)) ++ x1)
      else none)
    else if ((((⟨#[109]⟩ : ByteArray).size : Nat) : Int) + ((x1.size : Nat) : Int)) ≤ (9223372036854775807 : Int) then some ((⟨#[109]⟩ : ByteArray) ++ x1)
    else none
noncomputable def laws_markText.f (k : Nat) (a0 : Int) : Option (ByteArray) := if a0 ≤ (0 : Int) then some (⟨#[109, 48]⟩ : ByteArray)
  else laws_markText.p9 k a0 (⟨#[]⟩ : ByteArray)
/-! laws.markEntryS -/
noncomputable def laws_markEntryS.p5 : Nat → (List Entry) → Int → Int → Option (Int × (List Entry))
  | 0, _, _, _ => none
  | k + 1, x0, x1, x2 => if x2 < ((x0.length : Nat) : Int) then (if (0 : Int) ≤ x2 ∧ x2 < ((x0.length : Nat) : Int) then (if (0 : Int) ≤ x2 ∧ x2 < (((x0.set x2.toNat (x1, (x0.getD x2.toNat ((0 : Int), ((0 : Int), (false, ((⟨#[]⟩ : ByteArray), ()))))).2)).length : Nat) : Int) then (if (0 : Int) ≤ x2 ∧ x2 < ((((x0.set x2.toNat (x1, (x0.getD x2.toNat ((0 : Int), ((0 : Int), (false, ((⟨#[]⟩ : ByteArray), ()))))).2)).set x2.toNat (((x0.set x2.toNat (x1, (x0.getD x2.toNat ((0 : Int), ((0 : Int), (false, ((⟨#[]⟩ : ByteArray), ()))))).2)).getD x2.toNat ((0 : Int), ((0 : Int), (false, ((⟨#[]⟩ : ByteArray), ()))))).1, ((wrap64 (x1 + (1 : Int))), ((x0.set x2.toNat (x1, (x0.getD x2.toNat ((0 : Int), ((0 : Int), (false, ((⟨#[]⟩ : ByteArray), ()))))).2)).getD x2.toNat ((0 : Int), ((0 : Int), (false, ((⟨#[]⟩ : ByteArray), ()))))).2.2))).length : Nat) : Int) then ((laws_markText.f k (wrap64 ((wrap64 ((wrap64 (x1 + (1 : Int))) + (1 : Int))) + (1 : Int)))).bind fun r1 =>
            if (0 : Int) ≤ x2 ∧ x2 < (((((x0.set x2.toNat (x1, (x0.getD x2.toNat ((0 : Int), ((0 : Int), (false, ((⟨#[]⟩ : ByteArray), ()))))).2)).set x2.toNat (((x0.set x2.toNat (x1, (x0.getD x2.toNat ((0 : Int), ((0 : Int), (false, ((⟨#[]⟩ : ByteArray), ()))))).2)).getD x2.toNat ((0 : Int), ((0 : Int), (false, ((⟨#[]⟩ : ByteArray), ()))))).1, ((wrap64 (x1 + (1 : Int))), ((x0.set x2.toNat (x1, (x0.getD x2.toNat ((0 : Int), ((0 : Int), (false, ((⟨#[]⟩ : ByteArray), ()))))).2)).getD x2.toNat ((0 : Int), ((0 : Int), (false, ((⟨#[]⟩ : ByteArray), ()))))).2.2))).set x2.toNat ((((x0.set x2.toNat (x1, (x0.getD x2.toNat ((0 : Int), ((0 : Int), (false, ((⟨#[]⟩ : ByteArray), ()))))).2)).set x2.toNat (((x0.set x2.toNat (x1, (x0.getD x2.toNat ((0 : Int), ((0 : Int), (false, ((⟨#[]⟩ : ByteArray), ()))))).2)).getD x2.toNat ((0 : Int), ((0 : Int), (false, ((⟨#[]⟩ : ByteArray), ()))))).1, ((wrap64 (x1 + (1 : Int))), ((x0.set x2.toNat (x1, (x0.getD x2.toNat ((0 : Int), ((0 : Int), (false, ((⟨#[]⟩ : ByteArray), ()))))).2)).getD x2.toNat ((0 : Int), ((0 : Int), (false, ((⟨#[]⟩ : ByteArray), ()))))).2.2))).getD x2.toNat ((0 : Int), ((0 : Int), (false, ((⟨#[]⟩ : ByteArray), ()))))).1, ((((x0.set x2.toNat (x1, (x0.getD x2.toNat ((0 : Int), ((0 : Int), (false, ((⟨#[]⟩ : ByteArray), ()))))).2)).set x2.toNat (((x0.set x2.toNat (x1, (x0.getD x2.toNat ((0 : Int), ((0 : Int), (false, ((⟨#[]⟩ : ByteArray), ()))))).2)).getD x2.toNat ((0 : Int), ((0 : Int), (false, ((⟨#[]⟩ : ByteArray), ()))))).1, ((wrap64 (x1 + (1 : Int))), ((x0.set x2.toNat (x1, (x0.getD x2.toNat ((0 : Int), ((0 : Int), (false, ((⟨#[]⟩ : ByteArray), ()))))).2)).getD x2.toNat ((0 : Int), ((0 : Int), (false, ((⟨#[]⟩ : ByteArray), ()))))).2.2))).getD x2.toNat ((0 : Int), ((0 : Int), (false, ((⟨#[]⟩ : ByteArray), ()))))).2.1, ((decide ((Int.tmod (wrap64 ((wrap64 (x1 + (1 : Int))) + (1 : Int))) (3 : Int)) = (0 : Int))), (((x0.set x2.toNat (x1, (x0.getD x2.toNat ((0 : Int), ((0 : Int), (false, ((⟨#[]⟩ : ByteArray), ()))))).2)).set x2.toNat (((x0.set x2.toNat (x1, (x0.getD x2.toNat ((0 : Int), ((0 : Int), (false, ((⟨#[]⟩ : ByteArray), ()))))).2)).getD x2.toNat ((0 : Int), ((0 : Int), (false, ((⟨#[]⟩ : ByteArray), ()))))).1, ((wrap64 (x1 + (1 : Int))), ((x0.set x2.toNat (x1, (x0.getD x2.toNat ((0 : Int), ((0 : Int), (false, ((⟨#[]⟩ : ByteArray), ()))))).2)).getD x2.toNat ((0 : Int), ((0 : Int), (false, ((⟨#[]⟩ : ByteArray), ()))))).2.2))).getD x2.toNat ((0 : Int), ((0 : Int), (false, ((⟨#[]⟩ : ByteArray), ()))))).2.2.2)))).length : Nat) : Int) then laws_markEntryS.p5 k ((((x0.set x2.toNat (x1, (x0.getD x2.toNat ((0 : Int), ((0 : Int), (false, ((⟨#[]⟩ : ByteArray), ()))))).2)).set x2.toNat (((x0.set x2.toNat (x1, (x0.getD x2.toNat ((0 : Int), ((0 : Int), (false, ((⟨#[]⟩ : ByteArray), ()))))).2)).getD x2.toNat ((0 : Int), ((0 : Int), (false, ((⟨#[]⟩ : ByteArray), ()))))).1, ((wrap64 (x1 + (1 : Int))), ((x0.set x2.toNat (x1, (x0.getD x2.toNat ((0 : Int), ((0 : Int), (false, ((⟨#[]⟩ : ByteArray), ()))))).2)).getD x2.toNat ((0 : Int), ((0 : Int), (false, ((⟨#[]⟩ : ByteArray), ()))))).2.2))).set x2.toNat ((((x0.set x2.toNat (x1, (x0.getD x2.toNat ((0 : Int), ((0 : Int), (false, ((⟨#[]⟩ : ByteArray), ()))))).2)).set x2.toNat (((x0.set x2.toNat (x1, (x0.getD x2.toNat ((0 : Int), ((0 : Int), (false, ((⟨#[]⟩ : ByteArray), ()))))).2)).getD x2.toNat ((0 : Int), ((0 : Int), (false, ((⟨#[]⟩ : ByteArray), ()))))).1, ((wrap64 (x1 + (1 : Int))), ((x0.set x2.toNat (x1, (x0.getD x2.toNat ((0 : Int), ((0 : Int), (false, ((⟨#[]⟩ : ByteArray), ()))))).2)).getD x2.toNat ((0 : Int), ((0 : Int), (false, ((⟨#[]⟩ : ByteArray), ()))))).2.2))).getD x2.toNat ((0 : Int), ((0 : Int), (false, ((⟨#[]⟩ : ByteArray), ()))))).1, ((((x0.set x2.toNat (x1, (x0.getD x2.toNat ((0 : Int), ((0 : Int), (false, ((⟨#[]⟩ : ByteArray), ()))))).2)).set x2.toNat (((x0.set x2.toNat (x1, (x0.getD x2.toNat ((0 : Int), ((0 : Int), (false, ((⟨#[]⟩ : ByteArray), ()))))).2)).getD x2.toNat ((0 : Int), ((0 : Int), (false, ((⟨#[]⟩ : ByteArray), ()))))).1, ((wrap64 (x1 + (1 : Int))), ((x0.set x2.toNat (x1, (x0.getD x2.toNat ((0 : Int), ((0 : Int), (false, ((⟨#[]⟩ : ByteArray), ()))))).2)).getD x2.toNat ((0 : Int), ((0 : Int), (false, ((⟨#[]⟩ : ByteArray), ()))))).2.2))).getD x2.toNat ((0 : Int), ((0 : Int), (false, ((⟨#[]⟩ : ByteArray), ()))))).2.1, ((decide ((Int.tmod (wrap64 ((wrap64 (x1 + (1 : Int))) + (1 : Int))) (3 : Int)) = (0 : Int))), (((x0.set x2.toNat (x1, (x0.getD x2.toNat ((0 : Int), ((0 : Int), (false, ((⟨#[]⟩ : ByteArray), ()))))).2)).set x2.toNat (((x0.set x2.toNat (x1, (x0.getD x2.toNat ((0 : Int), ((0 : Int), (false, ((⟨#[]⟩ : ByteArray), ()))))).2)).getD x2.toNat ((0 : Int), ((0 : Int), (false, ((⟨#[]⟩ : ByteArray), ()))))).1, ((wrap64 (x1 + (1 : Int))), ((x0.set x2.toNat (x1, (x0.getD x2.toNat ((0 : Int), ((0 : Int), (false, ((⟨#[]⟩ : ByteArray), ()))))).2)).getD x2.toNat ((0 : Int), ((0 : Int), (false, ((⟨#[]⟩ : ByteArray), ()))))).2.2))).getD x2.toNat ((0 : Int), ((0 : Int), (false, ((⟨#[]⟩ : ByteArray), ()))))).2.2.2)))).set x2.toNat (((((x0.set x2.toNat (x1, (x0.getD x2.toNat ((0 : Int), ((0 : Int), (false, ((⟨#[]⟩ : ByteArray), ()))))).2)).set x2.toNat (((x0.set x2.toNat (x1, (x0.getD x2.toNat ((0 : Int), ((0 : Int), (false, ((⟨#[]⟩ : ByteArray), ()))))).2)).getD x2.toNat ((0 : Int), ((0 : Int), (false, ((⟨#[]⟩ : ByteArray), ()))))).1, ((wrap64 (x1 + (1 : Int))), ((x0.set x2.toNat (x1, (x0.getD x2.toNat ((0 : Int), ((0 : Int), (false, ((⟨#[]⟩ : ByteArray), ()))))).2)).getD x2.toNat ((0 : Int), ((0 : Int), (false, ((⟨#[]⟩ : ByteArray), ()))))).2.2))).set x2.toNat ((((x0.set x2.toNat (x1, (x0.getD x2.toNat ((0 : Int), ((0 : Int), (false, ((⟨#[]⟩ : ByteArray), ()))))).2)).set x2.toNat (((x0.set x2.toNat (x1, (x0.getD x2.toNat ((0 : Int), ((0 : Int), (false, ((⟨#[]⟩ : ByteArray), ()))))).2)).getD x2.toNat ((0 : Int), ((0 : Int), (false, ((⟨#[]⟩ : ByteArray), ()))))).1, ((wrap64 (x1 + (1 : Int))), ((x0.set x2.toNat (x1, (x0.getD x2.toNat ((0 : Int), ((0 : Int), (false, ((⟨#[]⟩ : ByteArray), ()))))).2)).getD x2.toNat ((0 : Int), ((0 : Int), (false, ((⟨#[]⟩ : ByteArray), ()))))).2.2))).getD x2.toNat ((0 : Int), ((0 : Int), (false, ((⟨#[]⟩ : ByteArray), ()))))).1, ((((x0.set x2.toNat (x1, (x0.getD x2.toNat ((0 : Int), ((0 : Int), (false, ((⟨#[]⟩ : ByteArray), ()))))).2)).set x2.toNat (((x0.set x2.toNat (x1, (x0.getD x2.toNat ((0 : Int), ((0 : Int), (false, ((⟨#[]⟩ : ByteArray), ()))))).2)).getD x2.toNat ((0 : Int), ((0 : Int), (false, ((⟨#[]⟩ : ByteArray), ()))))).1, ((wrap64 (x1 + (1 : Int))), ((x0.set x2.toNat (x1, (x0.getD x2.toNat ((0 : Int), ((0 : Int), (false, ((⟨#[]⟩ : ByteArray), ()))))).2)).getD x2.toNat ((0 : Int), ((0 : Int), (false, ((⟨#[]⟩ : ByteArray), ()))))).2.2))).getD x2.toNat ((0 : Int), ((0 : Int), (false, ((⟨#[]⟩ : ByteArray), ()))))).2.1, ((decide ((Int.tmod (wrap64 ((wrap64 (x1 + (1 : Int))) + (1 : Int))) (3 : Int)) = (0 : Int))), (((x0.set x2.toNat (x1, (x0.getD x2.toNat ((0 : Int), ((0 : Int), (false, ((⟨#[]⟩ : ByteArray), ()))))).2)).set x2.toNat (((x0.set x2.toNat (x1, (x0.getD x2.toNat ((0 : Int), ((0 : Int), (false, ((⟨#[]⟩ : ByteArray), ()))))).2)).getD x2.toNat ((0 : Int), ((0 : Int), (false, ((⟨#[]⟩ : ByteArray), ()))))).1, ((wrap64 (x1 + (1 : Int))), ((x0.set x2.toNat (x1, (x0.getD x2.toNat ((0 : Int), ((0 : Int), (false, ((⟨#[]⟩ : ByteArray), ()))))).2)).getD x2.toNat ((0 : Int), ((0 : Int), (false, ((⟨#[]⟩ : ByteArray), ()))))).2.2))).getD x2.toNat ((0 : Int), ((0 : Int), (false, ((⟨#[]⟩ : ByteArray), ()))))).2.2.2)))).getD x2.toNat ((0 : Int), ((0 : Int), (false, ((⟨#[]⟩ : ByteArray), ()))))).1, (((((x0.set x2.toNat (x1, (x0.getD x2.toNat ((0 : Int), ((0 : Int), (false, ((⟨#[]⟩ : ByteArray), ()))))).2)).set x2.toNat (((x0.set x2.toNat (x1, (x0.getD x2.toNat ((0 : Int), ((0 : Int), (false, ((⟨#[]⟩ : ByteArray), ()))))).2)).getD x2.toNat ((0 : Int), ((0 : Int), (false, ((⟨#[]⟩ : ByteArray), ()))))).1, ((wrap64 (x1 + (1 : Int))), ((x0.set x2.toNat (x1, (x0.getD x2.toNat ((0 : Int), ((0 : Int), (false, ((⟨#[]⟩ : ByteArray), ()))))).2)).getD x2.toNat ((0 : Int), ((0 : Int), (false, ((⟨#[]⟩ : ByteArray), ()))))).2.2))).set x2.toNat ((((x0.set x2.toNat (x1, (x0.getD x2.toNat ((0 : Int), ((0 : Int), (false, ((⟨#[]⟩ : ByteArray), ()))))).2)).set x2.toNat (((x0.set x2.toNat (x1, (x0.getD x2.toNat ((0 : Int), ((0 : Int), (false, ((⟨#[]⟩ : ByteArray), ()))))).2)).getD x2.toNat ((0 : Int), ((0 : Int), (false, ((⟨#[]⟩ : ByteArray), ()))))).1, ((wrap64 (x1 + (1 : Int))), ((x0.set x2.toNat (x1, (x0.getD x2.toNat ((0 : Int), ((0 : Int), (false, ((⟨#[]⟩ : ByteArray), ()))))).2)).getD x2.toNat ((0 : Int), ((0 : Int), (false, ((⟨#[]⟩ : ByteArray), ()))))).2.2))).getD x2.toNat ((0 : Int), ((0 : Int), (false, ((⟨#[]⟩ : ByteArray), ()))))).1, ((((x0.set x2.toNat (x1, (x0.getD x2.toNat ((0 : Int), ((0 : Int), (false, ((⟨#[]⟩ : ByteArray), ()))))).2)).set x2.toNat (((x0.set x2.toNat (x1, (x0.getD x2.toNat ((0 : Int), ((0 : Int), (false, ((⟨#[]⟩ : ByteArray), ()))))).2)).getD x2.toNat ((0 : Int), ((0 : Int), (false, ((⟨#[]⟩ : ByteArray), ()))))).1, ((wrap64 (x1 + (1 : Int))), ((x0.set x2.toNat (x1, (x0.getD x2.toNat ((0 : Int), ((0 : Int), (false, ((⟨#[]⟩ : ByteArray), ()))))).2)).getD x2.toNat ((0 : Int), ((0 : Int), (false, ((⟨#[]⟩ : ByteArray), ()))))).2.2))).getD x2.toNat ((0 : Int), ((0 : Int), (false, ((⟨#[]⟩ : ByteArray), ()))))).2.1, ((decide ((Int.tmod (wrap64 ((wrap64 (x1 + (1 : Int))) + (1 : Int))) (3 : Int)) = (0 : Int))), (((x0.set x2.toNat (x1, (x0.getD x2.toNat ((0 : Int), ((0 : Int), (false, ((⟨#[]⟩ : ByteArray), ()))))).2)).set x2.toNat (((x0.set x2.toNat (x1, (x0.getD x2.toNat ((0 : Int), ((0 : Int), (false, ((⟨#[]⟩ : ByteArray), ()))))).2)).getD x2.toNat ((0 : Int), ((0 : Int), (false, ((⟨#[]⟩ : ByteArray), ()))))).1, ((wrap64 (x1 + (1 : Int))), ((x0.set x2.toNat (x1, (x0.getD x2.toNat ((0 : Int), ((0 : Int), (false, ((⟨#[]⟩ : ByteArray), ()))))).2)).getD x2.toNat ((0 : Int), ((0 : Int), (false, ((⟨#[]⟩ : ByteArray), ()))))).2.2))).getD x2.toNat ((0 : Int), ((0 : Int), (false, ((⟨#[]⟩ : ByteArray), ()))))).2.2.2)))).getD x2.toNat ((0 : Int), ((0 : Int), (false, ((⟨#[]⟩ : ByteArray), ()))))).2.1, (((((x0.set x2.toNat (x1, (x0.getD x2.toNat ((0 : Int), ((0 : Int), (false, ((⟨#[]⟩ : ByteArray), ()))))).2)).set x2.toNat (((x0.set x2.toNat (x1, (x0.getD x2.toNat ((0 : Int), ((0 : Int), (false, ((⟨#[]⟩ : ByteArray), ()))))).2)).getD x2.toNat ((0 : Int), ((0 : Int), (false, ((⟨#[]⟩ : ByteArray), ()))))).1, ((wrap64 (x1 + (1 : Int))), ((x0.set x2.toNat (x1, (x0.getD x2.toNat ((0 : Int), ((0 : Int), (false, ((⟨#[]⟩ : ByteArray), ()))))).2)).getD x2.toNat ((0 : Int), ((0 : Int), (false, ((⟨#[]⟩ : ByteArray), ()))))).2.2))).set x2.toNat ((((x0.set x2.toNat (x1, (x0.getD x2.toNat ((0 : Int), ((0 : Int), (false, ((⟨#[]⟩ : ByteArray), ()))))).2)).set x2.toNat (((x0.set x2.toNat (x1, (x0.getD x2.toNat ((0 : Int), ((0 : Int), (false, ((⟨#[]⟩ : ByteArray), ()))))).2)).getD x2.toNat ((0 : Int), ((0 : Int), (false, ((⟨#[]⟩ : ByteArray), ()))))).1, ((wrap64 (x1 + (1 : Int))), ((x0.set x2.toNat (x1, (x0.getD x2.toNat ((0 : Int), ((0 : Int), (false, ((⟨#[]⟩ : ByteArray), ()))))).2)).getD x2.toNat ((0 : Int), ((0 : Int), (false, ((⟨#[]⟩ : ByteArray), ()))))).2.2))).getD x2.toNat ((0 : Int), ((0 : Int), (false, ((⟨#[]⟩ : ByteArray), ()))))).1, ((((x0.set x2.toNat (x1, (x0.getD x2.toNat ((0 : Int), ((0 : Int), (false, ((⟨#[]⟩ : ByteArray), ()))))).2)).set x2.toNat (((x0.set x2.toNat (x1, (x0.getD x2.toNat ((0 : Int), ((0 : Int), (false, ((⟨#[]⟩ : ByteArray), ()))))).2)).getD x2.toNat ((0 : Int), ((0 : Int), (false, ((⟨#[]⟩ : ByteArray), ()))))).1, ((wrap64 (x1 + (1 : Int))), ((x0.set x2.toNat (x1, (x0.getD x2.toNat ((0 : Int), ((0 : Int), (false, ((⟨#[]⟩ : ByteArray), ()))))).2)).getD x2.toNat ((0 : Int), ((0 : Int), (false, ((⟨#[]⟩ : ByteArray), ()))))).2.2))).getD x2.toNat ((0 : Int), ((0 : Int), (false, ((⟨#[]⟩ : ByteArray), ()))))).2.1, ((decide ((Int.tmod (wrap64 ((wrap64 (x1 + (1 : Int))) + (1 : Int))) (3 : Int)) = (0 : Int))), (((x0.set x2.toNat (x1, (x0.getD x2.toNat ((0 : Int), ((0 : Int), (false, ((⟨#[]⟩ : ByteArray), ()))))).2)).set x2.toNat (((x0.set x2.toNat (x1, (x0.getD x2.toNat ((0 : Int), ((0 : Int), (false, ((⟨#[]⟩ : ByteArray), ()))))).2)).getD x2.toNat ((0 : Int), ((0 : Int), (false, ((⟨#[]⟩ : ByteArray), ()))))).1, ((wrap64 (x1 + (1 : Int))), ((x0.set x2.toNat (x1, (x0.getD x2.toNat ((0 : Int), ((0 : Int), (false, ((⟨#[]⟩ : ByteArray), ()))))).2)).getD x2.toNat ((0 : Int), ((0 : Int), (false, ((⟨#[]⟩ : ByteArray), ()))))).2.2))).getD x2.toNat ((0 : Int), ((0 : Int), (false, ((⟨#[]⟩ : ByteArray), ()))))).2.2.2)))).getD x2.toNat ((0 : Int), ((0 : Int), (false, ((⟨#[]⟩ : ByteArray), ()))))).2.2.1, (r1, ((((x0.set x2.toNat (x1, (x0.getD x2.toNat ((0 : Int), ((0 : Int), (false, ((⟨#[]⟩ : ByteArray), ()))))).2)).set x2.toNat (((x0.set x2.toNat (x1, (x0.getD x2.toNat ((0 : Int), ((0 : Int), (false, ((⟨#[]⟩ : ByteArray), ()))))).2)).getD x2.toNat ((0 : Int), ((0 : Int), (false, ((⟨#[]⟩ : ByteArray), ()))))).1, ((wrap64 (x1 + (1 : Int))), ((x0.set x2.toNat (x1, (x0.getD x2.toNat ((0 : Int), ((0 : Int), (false, ((⟨#[]⟩ : ByteArray), ()))))).2)).getD x2.toNat ((0 : Int), ((0 : Int), (false, ((⟨#[]⟩ : ByteArray), ()))))).2.2))).set x2.toNat ((((x0.set x2.toNat (x1, (x0.getD x2.toNat ((0 : Int), ((0 : Int), (false, ((⟨#[]⟩ : ByteArray), ()))))).2)).set x2.toNat (((x0.set x2.toNat (x1, (x0.getD x2.toNat ((0 : Int), ((0 : Int), (false, ((⟨#[]⟩ : ByteArray), ()))))).2)).getD x2.toNat ((0 : Int), ((0 : Int), (false, ((⟨#[]⟩ : ByteArray), ()))))).1, ((wrap64 (x1 + (1 : Int))), ((x0.set x2.toNat (x1, (x0.getD x2.toNat ((0 : Int), ((0 : Int), (false, ((⟨#[]⟩ : ByteArray), ()))))).2)).getD x2.toNat ((0 : Int), ((0 : Int), (false, ((⟨#[]⟩ : ByteArray), ()))))).2.2))).getD x2.toNat ((0 : Int), ((0 : Int), (false, ((⟨#[]⟩ : ByteArray), ()))))).1, ((((x0.set x2.toNat (x1, (x0.getD x2.toNat ((0 : Int), ((0 : Int), (false, ((⟨#[]⟩ : ByteArray), ()))))).2)).set x2.toNat (((x0.set x2.toNat (x1, (x0.getD x2.toNat ((0 : Int), ((0 : Int), (false, ((⟨#[]⟩ : ByteArray), ()))))).2)).getD x2.toNat ((0 : Int), ((0 : Int), (false, ((⟨#[]⟩ : ByteArray), ()))))).1, ((wrap64 (x1 + (1 : Int))), ((x0.set x2.toNat (x1, (x0.getD x2.toNat ((0 : Int), ((0 : Int), (false, ((⟨#[]⟩ : ByteArray), ()))))).2)).getD x2.toNat ((0 : Int), ((0 : Int), (false, ((⟨#[]⟩ : ByteArray), ()))))).2.2))).getD x2.toNat ((0 : Int), ((0 : Int), (false, ((⟨#[]⟩ : ByteArray), ()))))).2.1, ((decide ((Int.tmod (wrap64 ((wrap64 (x1 + (1 : Int))) + (1 : Int))) (3 : Int)) = (0 : Int))), (((x0.set x2.toNat (x1, (x0.getD x2.toNat ((0 : Int), ((0 : Int), (false, ((⟨#[]⟩ : ByteArray), ()))))).2)).set x2.toNat (((x0.set x2.toNat (x1, (x0.getD x2.toNat ((0 : Int), ((0 : Int), (false, ((⟨#[]⟩ : ByteArray), ()))))).2)).getD x2.toNat ((0 : Int), ((0 : Int), (false, ((⟨#[]⟩ : ByteArray), ()))))).1, ((wrap64 (x1 + (1 : Int))), ((x0.set x2.toNat (x1, (x0.getD x2.toNat ((0 : Int), ((0 : Int), (false, ((⟨#[]⟩ : ByteArray), ()))))).2)).getD x2.toNat ((0 : Int), ((0 : Int), (false, ((⟨#[]⟩ : ByteArray), ()))))).2.2))).getD x2.toNat ((0 : Int), ((0 : Int), (false, ((⟨#[]⟩ : ByteArray), ()))))).2.2.2)))).getD x2.toNat ((0 : Int), ((0 : Int), (false, ((⟨#[]⟩ : ByteArray), ()))))).2.2.2.2))))) (wrap64 ((wrap64 ((wrap64 ((wrap64 (x1 + (1 : Int))) + (1 : Int))) + (1 : Int))) + (1 : Int))) (wrap64 (x2 + (1 : Int)))
            else none)
          else none)
        else none)
      else none)
    else some (x1, x0)
noncomputable def laws_markEntryS.f (k : Nat) (a0 : (List Entry)) (a1 : Int) : Option (Int × (List Entry)) := laws_markEntryS.p5 k a0 a1 (0 : Int)
/-! laws.markIntSS -/
noncomputable def laws_markIntSS.p5 : Nat → (List (List Int)) → Int → Int → Option (Int × (List (List Int)))
  | 0, _, _, _ => none
  | k + 1, x0, x1, x2 => if x2 < ((x0.length : Nat) : Int) then (if (0 : Int) ≤ x2 ∧ x2 < ((x0.length : Nat) : Int) then ((laws_markIntS.f k (x0.getD x2.toNat ([] : List Int)) x1).bind fun r1 =>
        laws_markIntSS.p5 k (x0.set x2.toNat r1.2) r1.1 (wrap64 (x2 + (1 : Int))))
      else none)
    else some (x1, x0)
noncomputable def laws_markIntSS.f (k : Nat) (a0 : (List (List Int))) (a1 : Int) : Option (Int × (List (List Int))) := laws_markIntSS.p5 k a0 a1 (0 : Int)
/-! laws.markMend -/
noncomputable def laws_markMend.f (k : Nat) (a0 : Mend) (a1 : Int) : Option (Int × Mend) := (laws_markIntS.f k a0.2.2.1 a1).bind fun r1 =>
  (laws_markEntryS.f k a0.2.2.2.1 r1.1).bind fun r2 =>
  (laws_markIntSS.f k a0.2.2.2.2.2.1 r2.1).bind fun r3 =>
  some (r3.1, (a0.1, (a0.2.1, (r1.2, (r2.2, (a0.2.2.2.2.1, (r3.2, a0.2.2.2.2.2.2)))))))
/-! laws.heldIntS -/
noncomputable def laws_heldIntS.p5 : Nat → (List Int) → Int → Int → Option (Int)
  | 0, _, _, _ => none
  | k + 1, x0, x1, x2 => if x2 < ((x0.length : Nat) : Int) then (if (0 : Int) ≤ x2 ∧ x2 < ((x0.length : Nat) : Int) then (if (x0.getD x2.toNat (0 : Int)) = x1 then laws_heldIntS.p5 k x0 (wrap64 (x1 + (1 : Int))) (wrap64 (x2 + (1 : Int)))
        else some (-1 : Int))
      else none)
    else some x1
noncomputable def laws_heldIntS.f (k : Nat) (a0 : (List Int)) (a1 : Int) : Option (Int) := laws_heldIntS.p5 k a0 a1 (0 : Int)
/-! laws.heldEntryS -/
noncomputable def laws_heldEntryS.p5 : Nat → (List Entry) → Int → Int → Option (Int)
  | 0, _, _, _ => none
  | k + 1, x0, x1, x2 => if x2 < ((x0.length : Nat) : Int) then (if (0 : Int) ≤ x2 ∧ x2 < ((x0.length : Nat) : Int) then (if (x0.getD x2.toNat ((0 : Int), ((0 : Int), (false, ((⟨#[]⟩ : ByteArray), ()))))).1 = x1 then (if (0 : Int) ≤ x2 ∧ x2 < ((x0.length : Nat) : Int) then (if (x0.getD x2.toNat ((0 : Int), ((0 : Int), (false, ((⟨#[]⟩ : ByteArray), ()))))).2.1 = (wrap64 (x1 + (1 : Int))) then (if (0 : Int) ≤ x2 ∧ x2 < ((x0.length : Nat) : Int) then (if (x0.getD x2.toNat ((0 : Int), ((0 : Int), (false, ((⟨#[]⟩ : ByteArray), ()))))).2.2.1 = (decide ((Int.tmod (wrap64 ((wrap64 (x1 + (1 : Int))) + (1 : Int))) (3 : Int)) = (0 : Int))) then (if (0 : Int) ≤ x2 ∧ x2 < ((x0.length : Nat) : Int) then ((laws_markText.f k (wrap64 ((wrap64 ((wrap64 (x1 + (1 : Int))) + (1 : Int))) + (1 : Int)))).bind fun r1 =>
                    if (x0.getD x2.toNat ((0 : Int), ((0 : Int), (false, ((⟨#[]⟩ : ByteArray), ()))))).2.2.2.1 = r1 then laws_heldEntryS.p5 k x0 (wrap64 ((wrap64 ((wrap64 ((wrap64 (x1 + (1 : Int))) + (1 : Int))) + (1 : Int))) + (1 : Int))) (wrap64 (x2 + (1 : Int)))
                    else some (-1 : Int))
                  else none)
                else some (-1 : Int))
              else none)
            else some (-1 : Int))
          else none)
        else some (-1 : Int))
      else none)
    else some x1
noncomputable def laws_heldEntryS.f (k : Nat) (a0 : (List Entry)) (a1 : Int) : Option (Int) := laws_heldEntryS.p5 k a0 a1 (0 : Int)
/-! laws.heldIntSS -/
noncomputable def laws_heldIntSS.p5 : Nat → (List (List Int)) → Int → Int → Option (Int)
  | 0, _, _, _ => none
  | k + 1, x0, x1, x2 => if x2 < ((x0.length : Nat) : Int) then (if (0 : Int) ≤ x2 ∧ x2 < ((x0.length : Nat) : Int) then ((laws_heldIntS.f k (x0.getD x2.toNat ([] : List Int)) x1).bind fun r1 =>
        if r1 < (0 : Int) then some (-1 : Int)
        else laws_heldIntSS.p5 k x0 r1 (wrap64 (x2 + (1 : Int))))
      else none)
    else some x1
noncomputable def laws_heldIntSS.f (k : Nat) (a0 : (List (List Int))) (a1 : Int) : Option (Int) := laws_heldIntSS.p5 k a0 a1 (0 : Int)
/-! laws.heldMend -/
noncomputable def laws_heldMend.f (k : Nat) (a0 : Mend) (a1 : Int) : Option (Int) := (laws_heldIntS.f k a0.2.2.1 a1).bind fun r1 =>
  if r1 < (0 : Int) then some (-1 : Int)
  else (laws_heldEntryS.f k a0.2.2.2.1 r1).bind fun r2 =>
  if r2 < (0 : Int) then some (-1 : Int)
  else (laws_heldIntSS.f k a0.2.2.2.2.2.1 r2).bind fun r3 =>
  if r3 < (0 : Int) then some (-1 : Int)
  else some r3
/-! laws.FnExactMendNew -/
noncomputable def laws_FnExactMendNew.f (k : Nat) (a0 : Int) (a1 : Int) : Option (Bool) := (spec_MendNew.f a0 a1).bind fun r1 =>
  (impl_MendNew.f a0 a1).bind fun r2 =>
  (laws_eqMend.f k r2 r1).bind fun r3 =>
  if r3 = true then ((laws_markMend.f k r2 (1 : Int)).bind fun r4 =>
    (laws_heldMend.f k r4.2 (1 : Int)).bind fun r5 =>
    if r5 < (0 : Int) then some false
    else if r5 = r4.1 then ((impl_MendNew.f a0 a1).bind fun r6 =>
      (laws_eqMend.f k r6 r1).bind fun r7 =>
      if r7 = true then ((laws_heldMend.f k r4.2 (1 : Int)).bind fun r8 =>
        if r8 < (0 : Int) then some false
        else if r8 = r4.1 then some true
        else some false)
      else some false)
    else some false)
  else some false
end Go.Proofs.Ytdkdhciogedoiaa.OmFnExactMendNew
