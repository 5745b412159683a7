import Derived.Test.YthgnikafeamidacGreatOmD
set_option maxRecDepth 1000000
set_option linter.unusedVariables false
namespace Go.Proofs.YthgnikafeamidacGreat.OmFnExactHoldersOf
open Go Go.OM
@[reducible] noncomputable def tConfig : Ty := .pair (.sl (.int .i64)) (.pair (.int .i64) (.unit))
@[reducible] noncomputable def Config : Type := (List Int) × Int × Unit
@[reducible] noncomputable def tEra : Ty := .pair (.sl (.int .i64)) (.pair .bool (.pair (.int .i64) (.unit)))
@[reducible] noncomputable def Era : Type := (List Int) × Bool × Int × Unit
@[reducible] noncomputable def tRegister : Ty := .pair (.sl tEra) (.pair (.int .i64) (.unit))
@[reducible] noncomputable def Register : Type := (List Era) × Int × Unit
@[reducible] noncomputable def tEntry : Ty := .pair (.int .i64) (.pair (.int .i64) (.pair .bool (.pair .str (.unit))))
@[reducible] noncomputable def Entry : Type := Int × Int × Bool × ByteArray × Unit
@[reducible] noncomputable def tStore : Ty := .pair (.sl tEntry) (.pair (.sl tEntry) (.pair (.int .i64) (.unit)))
@[reducible] noncomputable def Store : Type := (List Entry) × (List Entry) × Int × Unit
@[reducible] noncomputable def tWord : Ty := .pair .str (.pair (.sl (.int .i64)) (.pair .bool (.unit)))
@[reducible] noncomputable def Word : Type := ByteArray × (List Int) × Bool × Unit
@[reducible] noncomputable def tWriter : Ty := .pair (.int .i64) (.pair (.sl tWord) (.unit))
@[reducible] noncomputable def Writer : Type := Int × (List Word) × Unit
@[reducible] noncomputable def tMend : Ty := .pair (.int .i64) (.pair (.int .i64) (.pair (.sl (.int .i64)) (.pair (.sl tEntry) (.pair .bool (.pair (.sl (.sl (.int .i64))) (.unit))))))
@[reducible] noncomputable def Mend : Type := Int × Int × (List Int) × (List Entry) × Bool × (List (List Int)) × Unit
@[reducible] noncomputable def tEvent : Ty := .pair (.int .i64) (.pair (.int .i64) (.pair .str (.unit)))
@[reducible] noncomputable def Event : Type := Int × Int × ByteArray × Unit
@[reducible] noncomputable def tReader : Ty := .pair (.int .i64) (.pair (.int .i64) (.pair (.sl tEvent) (.unit)))
@[reducible] noncomputable def Reader : Type := Int × Int × (List Event) × Unit
@[reducible] noncomputable def tSent : Ty := .pair (.int .i64) (.pair .str (.pair .bool (.unit)))
@[reducible] noncomputable def Sent : Type := Int × ByteArray × Bool × Unit
@[reducible] noncomputable def tWorld : Ty := .pair tConfig (.pair (.sl tStore) (.pair (.sl (.int .i64)) (.pair tRegister (.pair (.sl tWriter) (.pair (.sl tMend) (.pair (.sl tReader) (.pair (.sl tSent) (.pair .bool (.unit)))))))))
@[reducible] noncomputable def World : Type := Config × (List Store) × (List Int) × Register × (List Writer) × (List Mend) × (List Reader) × (List Sent) × Bool × Unit
@[reducible] noncomputable def tl1Cur : Ty := .pair (.sl (.int .u8)) (.pair (.int .i64) (.pair (.int .i64) (.unit)))
@[reducible] noncomputable def l1Cur : Type := (List Int) × Int × Int × Unit
@[reducible] noncomputable def tDeed : Ty := .pair (.int .i64) (.pair (.int .i64) (.pair (.int .i64) (.pair (.int .i64) (.pair .str (.unit)))))
@[reducible] noncomputable def Deed : Type := Int × Int × Int × Int × ByteArray × Unit
@[reducible] noncomputable def tAnswer : Ty := .pair (.int .i64) (.pair .bool (.pair tEntry (.unit)))
@[reducible] noncomputable def Answer : Type := Int × Bool × Entry × Unit
/-! laws.szIntS -/
noncomputable def laws_szIntS.f (a0 : (List Int)) (a1 : Int) : Option (Int) := if (wrap64 (a1 - ((a0.length : Nat) : Int))) < (0 : Int) then some (-1 : Int)
  else some (wrap64 (a1 - ((a0.length : Nat) : Int)))
/-! laws.szConfig -/
noncomputable def laws_szConfig.f (a0 : Config) (a1 : Int) : Option (Int) := (laws_szIntS.f a0.1 a1).bind fun r1 =>
  if r1 < (0 : Int) then some (-1 : Int)
  else some r1
/-! laws.szEntry -/
noncomputable def laws_szEntry.f (a0 : Entry) (a1 : Int) : Option (Int) := if (wrap64 (a1 - ((a0.2.2.2.1.size : Nat) : Int))) < (0 : Int) then some (-1 : Int)
  else some (wrap64 (a1 - ((a0.2.2.2.1.size : Nat) : Int)))
/-! laws.szEntryS -/
noncomputable def laws_szEntryS.p11 : Nat → (List Entry) → Int → Int → Option (Int)
  | 0, _, _, _ => none
  | k + 1, x0, x1, x2 => if x2 < ((x0.length : Nat) : Int) then (if (0 : Int) ≤ x2 ∧ x2 < ((x0.length : Nat) : Int) then ((laws_szEntry.f (x0.getD x2.toNat ((0 : Int), ((0 : Int), (false, ((⟨#[]⟩ : ByteArray), ()))))) x1).bind fun r1 =>
        if r1 < (0 : Int) then some (-1 : Int)
        else laws_szEntryS.p11 k x0 r1 (wrap64 (x2 + (1 : Int))))
      else none)
    else some x1
noncomputable def laws_szEntryS.f (k : Nat) (a0 : (List Entry)) (a1 : Int) : Option (Int) := if (wrap64 (a1 - ((a0.length : Nat) : Int))) < (0 : Int) then some (-1 : Int)
  else laws_szEntryS.p11 k a0 (wrap64 (a1 - ((a0.length : Nat) : Int))) (0 : Int)
/-! laws.szStore -/
noncomputable def laws_szStore.f (k : Nat) (a0 : Store) (a1 : Int) : Option (Int) := (laws_szEntryS.f k a0.1 a1).bind fun r1 =>
  if r1 < (0 : Int) then some (-1 : Int)
  else (laws_szEntryS.f k a0.2.1 r1).bind fun r2 =>
  if r2 < (0 : Int) then some (-1 : Int)
  else some r2
/-! laws.szStoreS -/
noncomputable def laws_szStoreS.p11 : Nat → (List Store) → Int → Int → Option (Int)
  | 0, _, _, _ => none
  | k + 1, x0, x1, x2 => if x2 < ((x0.length : Nat) : Int) then (if (0 : Int) ≤ x2 ∧ x2 < ((x0.length : Nat) : Int) then ((laws_szStore.f k (x0.getD x2.toNat (([] : List Entry), (([] : List Entry), ((0 : Int), ())))) x1).bind fun r1 =>
        if r1 < (0 : Int) then some (-1 : Int)
        else laws_szStoreS.p11 k x0 r1 (wrap64 (x2 + (1 : Int))))
      else none)
    else some x1
noncomputable def laws_szStoreS.f (k : Nat) (a0 : (List Store)) (a1 : Int) : Option (Int) := if (wrap64 (a1 - ((a0.length : Nat) : Int))) < (0 : Int) then some (-1 : Int)
  else laws_szStoreS.p11 k a0 (wrap64 (a1 - ((a0.length : Nat) : Int))) (0 : Int)
/-! laws.szEra -/
noncomputable def laws_szEra.f (a0 : Era) (a1 : Int) : Option (Int) := (laws_szIntS.f a0.1 a1).bind fun r1 =>
  if r1 < (0 : Int) then some (-1 : Int)
  else some r1
/-! laws.szEraS -/
noncomputable def laws_szEraS.p11 : Nat → (List Era) → Int → Int → Option (Int)
  | 0, _, _, _ => none
  | k + 1, x0, x1, x2 => if x2 < ((x0.length : Nat) : Int) then (if (0 : Int) ≤ x2 ∧ x2 < ((x0.length : Nat) : Int) then ((laws_szEra.f (x0.getD x2.toNat (([] : List Int), (false, ((0 : Int), ())))) x1).bind fun r1 =>
        if r1 < (0 : Int) then some (-1 : Int)
        else laws_szEraS.p11 k x0 r1 (wrap64 (x2 + (1 : Int))))
      else none)
    else some x1
noncomputable def laws_szEraS.f (k : Nat) (a0 : (List Era)) (a1 : Int) : Option (Int) := if (wrap64 (a1 - ((a0.length : Nat) : Int))) < (0 : Int) then some (-1 : Int)
  else laws_szEraS.p11 k a0 (wrap64 (a1 - ((a0.length : Nat) : Int))) (0 : Int)
/-! laws.szRegister -/
noncomputable def laws_szRegister.f (k : Nat) (a0 : Register) (a1 : Int) : Option (Int) := (laws_szEraS.f k a0.1 a1).bind fun r1 =>
  if r1 < (0 : Int) then some (-1 : Int)
  else some r1
/-! laws.szWord -/
noncomputable def laws_szWord.f (a0 : Word) (a1 : Int) : Option (Int) := if (wrap64 (a1 - ((a0.1.size : Nat) : Int))) < (0 : Int) then some (-1 : Int)
  else (laws_szIntS.f a0.2.1 (wrap64 (a1 - ((a0.1.size : Nat) : Int)))).bind fun r1 =>
  if r1 < (0 : Int) then some (-1 : Int)
  else some r1
/-! laws.szWordS -/
noncomputable def laws_szWordS.p11 : Nat → (List Word) → Int → Int → Option (Int)
  | 0, _, _, _ => none
  | k + 1, x0, x1, x2 => if x2 < ((x0.length : Nat) : Int) then (if (0 : Int) ≤ x2 ∧ x2 < ((x0.length : Nat) : Int) then ((laws_szWord.f (x0.getD x2.toNat ((⟨#[]⟩ : ByteArray), (([] : List Int), (false, ())))) x1).bind fun r1 =>
        if r1 < (0 : Int) then some (-1 : Int)
        else laws_szWordS.p11 k x0 r1 (wrap64 (x2 + (1 : Int))))
      else none)
    else some x1
noncomputable def laws_szWordS.f (k : Nat) (a0 : (List Word)) (a1 : Int) : Option (Int) := if (wrap64 (a1 - ((a0.length : Nat) : Int))) < (0 : Int) then some (-1 : Int)
  else laws_szWordS.p11 k a0 (wrap64 (a1 - ((a0.length : Nat) : Int))) (0 : Int)
/-! laws.szWriter -/
noncomputable def laws_szWriter.f (k : Nat) (a0 : Writer) (a1 : Int) : Option (Int) := (laws_szWordS.f k a0.2.1 a1).bind fun r1 =>
  if r1 < (0 : Int) then some (-1 : Int)
  else some r1
/-! laws.szWriterS -/
noncomputable def laws_szWriterS.p11 : Nat → (List Writer) → Int → Int → Option (Int)
  | 0, _, _, _ => none
  | k + 1, x0, x1, x2 => if x2 < ((x0.length : Nat) : Int) then (if (0 : Int) ≤ x2 ∧ x2 < ((x0.length : Nat) : Int) then ((laws_szWriter.f k (x0.getD x2.toNat ((0 : Int), (([] : List Word), ()))) x1).bind fun r1 =>
        if r1 < (0 : Int) then some (-1 : Int)
        else laws_szWriterS.p11 k x0 r1 (wrap64 (x2 + (1 : Int))))
      else none)
    else some x1
noncomputable def laws_szWriterS.f (k : Nat) (a0 : (List Writer)) (a1 : Int) : Option (Int) := if (wrap64 (a1 - ((a0.length : Nat) : Int))) < (0 : Int) then some (-1 : Int)
  else laws_szWriterS.p11 k a0 (wrap64 (a1 - ((a0.length : Nat) : Int))) (0 : Int)
/-! laws.szIntSS -/
noncomputable def laws_szIntSS.p11 : Nat → (List (List Int)) → Int → Int → Option (Int)
  | 0, _, _, _ => none
  | k + 1, x0, x1, x2 => if x2 < ((x0.length : Nat) : Int) then (if (0 : Int) ≤ x2 ∧ x2 < ((x0.length : Nat) : Int) then ((laws_szIntS.f (x0.getD x2.toNat ([] : List Int)) x1).bind fun r1 =>
        if r1 < (0 : Int) then some (-1 : Int)
        else laws_szIntSS.p11 k x0 r1 (wrap64 (x2 + (1 : Int))))
      else none)
    else some x1
noncomputable def laws_szIntSS.f (k : Nat) (a0 : (List (List Int))) (a1 : Int) : Option (Int) := if (wrap64 (a1 - ((a0.length : Nat) : Int))) < (0 : Int) then some (-1 : Int)
  else laws_szIntSS.p11 k a0 (wrap64 (a1 - ((a0.length : Nat) : Int))) (0 : Int)
/-! laws.szMend -/
noncomputable def laws_szMend.f (k : Nat) (a0 : Mend) (a1 : Int) : Option (Int) := (laws_szIntS.f a0.2.2.1 a1).bind fun r1 =>
  if r1 < (0 : Int) then some (-1 : Int)
  else (laws_szEntryS.f k a0.2.2.2.1 r1).bind fun r2 =>
  if r2 < (0 : Int) then some (-1 : Int)
  else (laws_szIntSS.f k a0.2.2.2.2.2.1 r2).bind fun r3 =>
  if r3 < (0 : Int) then some (-1 : Int)
  else some r3
/-! laws.szMendS -/
noncomputable def laws_szMendS.p11 : Nat → (List Mend) → Int → Int → Option (Int)
  | 0, _, _, _ => none
  | k + 1, x0, x1, x2 => if x2 < ((x0.length : Nat) : Int) then (if (0 : Int) ≤ x2 ∧ x2 < ((x0.length : Nat) : Int) then ((laws_szMend.f k (x0.getD x2.toNat ((0 : Int), ((0 : Int), (([] : List Int), (([] : List Entry), (false, (([] : List (List Int)), ()))))))) x1).bind fun r1 =>
        if r1 < (0 : Int) then some (-1 : Int)
        else laws_szMendS.p11 k x0 r1 (wrap64 (x2 + (1 : Int))))
      else none)
    else some x1
noncomputable def laws_szMendS.f (k : Nat) (a0 : (List Mend)) (a1 : Int) : Option (Int) := if (wrap64 (a1 - ((a0.length : Nat) : Int))) < (0 : Int) then some (-1 : Int)
  else laws_szMendS.p11 k a0 (wrap64 (a1 - ((a0.length : Nat) : Int))) (0 : Int)
/-! laws.szEvent -/
noncomputable def laws_szEvent.f (a0 : Event) (a1 : Int) : Option (Int) := if (wrap64 (a1 - ((a0.2.2.1.size : Nat) : Int))) < (0 : Int) then some (-1 : Int)
  else some (wrap64 (a1 - ((a0.2.2.1.size : Nat) : Int)))
/-! laws.szEventS -/
noncomputable def laws_szEventS.p11 : Nat → (List Event) → Int → Int → Option (Int)
  | 0, _, _, _ => none
  | k + 1, x0, x1, x2 => if x2 < ((x0.length : Nat) : Int) then (if (0 : Int) ≤ x2 ∧ x2 < ((x0.length : Nat) : Int) then ((laws_szEvent.f (x0.getD x2.toNat ((0 : Int), ((0 : Int), ((⟨#[]⟩ : ByteArray), ())))) x1).bind fun r1 =>
        if r1 < (0 : Int) then some (-1 : Int)
        else laws_szEventS.p11 k x0 r1 (wrap64 (x2 + (1 : Int))))
      else none)
    else some x1
noncomputable def laws_szEventS.f (k : Nat) (a0 : (List Event)) (a1 : Int) : Option (Int) := if (wrap64 (a1 - ((a0.length : Nat) : Int))) < (0 : Int) then some (-1 : Int)
  else laws_szEventS.p11 k a0 (wrap64 (a1 - ((a0.length : Nat) : Int))) (0 : Int)
/-! laws.szReader -/
noncomputable def laws_szReader.f (k : Nat) (a0 : Reader) (a1 : Int) : Option (Int) := (laws_szEventS.f k a0.2.2.1 a1).bind fun r1 =>
  if r1 < (0 : Int) then some (-1 : Int)
  else some r1
/-! laws.szReaderS -/
noncomputable def laws_szReaderS.p11 : Nat → (List Reader) → Int → Int → Option (Int)
  | 0, _, _, _ => none
  | k + 1, x0, x1, x2 => if x2 < ((x0.length : Nat) : Int) then (if (0 : Int) ≤ x2 ∧ x2 < ((x0.length : Nat) : Int) then ((laws_szReader.f k (x0.getD x2.toNat ((0 : Int), ((0 : Int), (([] : List Event), ())))) x1).bind fun r1 =>
        if r1 < (0 : Int) then some (-1 : Int)
        else laws_szReaderS.p11 k x0 r1 (wrap64 (x2 + (1 : Int))))
      else none)
    else some x1
noncomputable def laws_szReaderS.f (k : Nat) (a0 : (List Reader)) (a1 : Int) : Option (Int) := if (wrap64 (a1 - ((a0.length : Nat) : Int))) < (0 : Int) then some (-1 : Int)
  else laws_szReaderS.p11 k a0 (wrap64 (a1 - ((a0.length : Nat) : Int))) (0 : Int)
/-! laws.szSent -/
noncomputable def laws_szSent.f (a0 : Sent) (a1 : Int) : Option (Int) := if (wrap64 (a1 - ((a0.2.1.size : Nat) : Int))) < (0 : Int) then some (-1 : Int)
  else some (wrap64 (a1 - ((a0.2.1.size : Nat) : Int)))
/-! laws.szSentS -/
noncomputable def laws_szSentS.p11 : Nat → (List Sent) → Int → Int → Option (Int)
  | 0, _, _, _ => none
  | k + 1, x0, x1, x2 => if x2 < ((x0.length : Nat) : Int) then (if (0 : Int) ≤ x2 ∧ x2 < ((x0.length : Nat) : Int) then ((laws_szSent.f (x0.getD x2.toNat ((0 : Int), ((⟨#[]⟩ : ByteArray), (false, ())))) x1).bind fun r1 =>
        if r1 < (0 : Int) then some (-1 : Int)
        else laws_szSentS.p11 k x0 r1 (wrap64 (x2 + (1 : Int))))
      else none)
    else some x1
noncomputable def laws_szSentS.f (k : Nat) (a0 : (List Sent)) (a1 : Int) : Option (Int) := if (wrap64 (a1 - ((a0.length : Nat) : Int))) < (0 : Int) then some (-1 : Int)
  else laws_szSentS.p11 k a0 (wrap64 (a1 - ((a0.length : Nat) : Int))) (0 : Int)
/-! laws.szWorld -/
noncomputable def laws_szWorld.f (k : Nat) (a0 : World) (a1 : Int) : Option (Int) := (laws_szConfig.f a0.1 a1).bind fun r1 =>
  if r1 < (0 : Int) then some (-1 : Int)
  else (laws_szStoreS.f k a0.2.1 r1).bind fun r2 =>
  if r2 < (0 : Int) then some (-1 : Int)
  else (laws_szIntS.f a0.2.2.1 r2).bind fun r3 =>
  if r3 < (0 : Int) then some (-1 : Int)
  else (laws_szRegister.f k a0.2.2.2.1 r3).bind fun r4 =>
  if r4 < (0 : Int) then some (-1 : Int)
  else (laws_szWriterS.f k a0.2.2.2.2.1 r4).bind fun r5 =>
  if r5 < (0 : Int) then some (-1 : Int)
  else (laws_szMendS.f k a0.2.2.2.2.2.1 r5).bind fun r6 =>
  if r6 < (0 : Int) then some (-1 : Int)
  else (laws_szReaderS.f k a0.2.2.2.2.2.2.1 r6).bind fun r7 =>
  if r7 < (0 : Int) then some (-1 : Int)
  else (laws_szSentS.f k a0.2.2.2.2.2.2.2.1 r7).bind fun r8 =>
  if r8 < (0 : Int) then some (-1 : Int)
  else some r8
/-! laws.toIntS -/
noncomputable def laws_toIntS.p7 : Nat → (List Int) → (List Int) → Int → Option ((List Int))
  | 0, _, _, _ => none
  | k + 1, x0, x1, x2 => if x2 < ((x0.length : Nat) : Int) then (if (0 : Int) ≤ x2 ∧ x2 < ((x0.length : Nat) : Int) then (if (0 : Int) ≤ x2 ∧ x2 < ((x1.length : Nat) : Int) then laws_toIntS.p7 k x0 (x1.set x2.toNat (x0.getD x2.toNat (0 : Int))) (wrap64 (x2 + (1 : Int)))
        else none)
      else none)
    else some x1
noncomputable def laws_toIntS.f (k : Nat) (a0 : (List Int)) : Option ((List Int)) := if (0 : Int) ≤ ((a0.length : Nat) : Int) ∧ ((a0.length : Nat) : Int) ≤ ((a0.length : Nat) : Int) ∧ ((a0.length : Nat) : Int) ≤ lim then laws_toIntS.p7 k a0 (List.replicate ((a0.length : Nat) : Int).toNat (0 : Int)) (0 : Int)
  else none
/-! laws.toConfig -/
noncomputable def laws_toConfig.f (k : Nat) (a0 : Config) : Option (Config) := (laws_toIntS.f k a0.1).bind fun r1 =>
  some (r1, (a0.2.1, ()))
/-! laws.toEntry -/
noncomputable def laws_toEntry.f (a0 : Entry) : Option (Entry) := some (a0.1, (a0.2.1, (a0.2.2.1, (a0.2.2.2.1, ()))))
/-! laws.toEntryS -/
noncomputable def laws_toEntryS.p7 : Nat → (List Entry) → (List Entry) → Int → Option ((List Entry))
  | 0, _, _, _ => none
  | k + 1, x0, x1, x2 => if x2 < ((x0.length : Nat) : Int) then (if (0 : Int) ≤ x2 ∧ x2 < ((x0.length : Nat) : Int) then ((laws_toEntry.f (x0.getD x2.toNat ((0 : Int), ((0 : Int), (false, ((⟨#[]⟩ : ByteArray), ())))))).bind fun r1 =>
        if (0 : Int) ≤ x2 ∧ x2 < ((x1.length : Nat) : Int) then laws_toEntryS.p7 k x0 (x1.set x2.toNat r1) (wrap64 (x2 + (1 : Int)))
        else none)
      else none)
    else some x1
noncomputable def laws_toEntryS.f (k : Nat) (a0 : (List Entry)) : Option ((List Entry)) := if (0 : Int) ≤ ((a0.length : Nat) : Int) ∧ ((a0.length : Nat) : Int) ≤ ((a0.length : Nat) : Int) ∧ ((a0.length : Nat) : Int) ≤ lim then laws_toEntryS.p7 k a0 (List.replicate ((a0.length : Nat) : Int).toNat ((0 : Int), ((0 : Int), (false, ((⟨#[]⟩ : ByteArray), ()))))) (0 : Int)
  else none
/-! laws.toStore -/
noncomputable def laws_toStore.f (k : Nat) (a0 : Store) : Option (Store) := (laws_toEntryS.f k a0.1).bind fun r1 =>
  (laws_toEntryS.f k a0.2.1).bind fun r2 =>
  some (r1, (r2, (a0.2.2.1, ())))
/-! laws.toStoreS -/
noncomputable def laws_toStoreS.p7 : Nat → (List Store) → (List Store) → Int → Option ((List Store))
  | 0, _, _, _ => none
  | k + 1, x0, x1, x2 => if x2 < ((x0.length : Nat) : Int) then (if (0 : Int) ≤ x2 ∧ x2 < ((x0.length : Nat) : Int) then ((laws_toStore.f k (x0.getD x2.toNat (([] : List Entry), (([] : List Entry), ((0 : Int), ()))))).bind fun r1 =>
        if (0 : Int) ≤ x2 ∧ x2 < ((x1.length : Nat) : Int) then laws_toStoreS.p7 k x0 (x1.set x2.toNat r1) (wrap64 (x2 + (1 : Int)))
        else none)
      else none)
    else some x1
noncomputable def laws_toStoreS.f (k : Nat) (a0 : (List Store)) : Option ((List Store)) := if (0 : Int) ≤ ((a0.length : Nat) : Int) ∧ ((a0.length : Nat) : Int) ≤ ((a0.length : Nat) : Int) ∧ ((a0.length : Nat) : Int) ≤ lim then laws_toStoreS.p7 k a0 (List.replicate ((a0.length : Nat) : Int).toNat (([] : List Entry), (([] : List Entry), ((0 : Int), ())))) (0 : Int)
  else none
/-! laws.toEra -/
noncomputable def laws_toEra.f (k : Nat) (a0 : Era) : Option (Era) := (laws_toIntS.f k a0.1).bind fun r1 =>
  some (r1, (a0.2.1, (a0.2.2.1, ())))
/-! laws.toEraS -/
noncomputable def laws_toEraS.p7 : Nat → (List Era) → (List Era) → Int → Option ((List Era))
  | 0, _, _, _ => none
  | k + 1, x0, x1, x2 => if x2 < ((x0.length : Nat) : Int) then (if (0 : Int) ≤ x2 ∧ x2 < ((x0.length : Nat) : Int) then ((laws_toEra.f k (x0.getD x2.toNat (([] : List Int), (false, ((0 : Int), ()))))).bind fun r1 =>
        if (0 : Int) ≤ x2 ∧ x2 < ((x1.length : Nat) : Int) then laws_toEraS.p7 k x0 (x1.set x2.toNat r1) (wrap64 (x2 + (1 : Int)))
        else none)
      else none)
    else some x1
noncomputable def laws_toEraS.f (k : Nat) (a0 : (List Era)) : Option ((List Era)) := if (0 : Int) ≤ ((a0.length : Nat) : Int) ∧ ((a0.length : Nat) : Int) ≤ ((a0.length : Nat) : Int) ∧ ((a0.length : Nat) : Int) ≤ lim then laws_toEraS.p7 k a0 (List.replicate ((a0.length : Nat) : Int).toNat (([] : List Int), (false, ((0 : Int), ())))) (0 : Int)
  else none
/-! laws.toRegister -/
noncomputable def laws_toRegister.f (k : Nat) (a0 : Register) : Option (Register) := (laws_toEraS.f k a0.1).bind fun r1 =>
  some (r1, (a0.2.1, ()))
/-! laws.toWord -/
noncomputable def laws_toWord.f (k : Nat) (a0 : Word) : Option (Word) := (laws_toIntS.f k a0.2.1).bind fun r1 =>
  some (a0.1, (r1, (a0.2.2.1, ())))
/-! laws.toWordS -/
noncomputable def laws_toWordS.p7 : Nat → (List Word) → (List Word) → Int → Option ((List Word))
  | 0, _, _, _ => none
  | k + 1, x0, x1, x2 => if x2 < ((x0.length : Nat) : Int) then (if (0 : Int) ≤ x2 ∧ x2 < ((x0.length : Nat) : Int) then ((laws_toWord.f k (x0.getD x2.toNat ((⟨#[]⟩ : ByteArray), (([] : List Int), (false, ()))))).bind fun r1 =>
        if (0 : Int) ≤ x2 ∧ x2 < ((x1.length : Nat) : Int) then laws_toWordS.p7 k x0 (x1.set x2.toNat r1) (wrap64 (x2 + (1 : Int)))
        else none)
      else none)
    else some x1
noncomputable def laws_toWordS.f (k : Nat) (a0 : (List Word)) : Option ((List Word)) := if (0 : Int) ≤ ((a0.length : Nat) : Int) ∧ ((a0.length : Nat) : Int) ≤ ((a0.length : Nat) : Int) ∧ ((a0.length : Nat) : Int) ≤ lim then laws_toWordS.p7 k a0 (List.replicate ((a0.length : Nat) : Int).toNat ((⟨#[]⟩ : ByteArray), (([] : List Int), (false, ())))) (0 : Int)
  else none
/-! laws.toWriter -/
noncomputable def laws_toWriter.f (k : Nat) (a0 : Writer) : Option (Writer) := (laws_toWordS.f k a0.2.1).bind fun r1 =>
  some (a0.1, (r1, ()))
/-! laws.toWriterS -/
noncomputable def laws_toWriterS.p7 : Nat → (List Writer) → (List Writer) → Int → Option ((List Writer))
  | 0, _, _, _ => none
  | k + 1, x0, x1, x2 => if x2 < ((x0.length : Nat) : Int) then (if (0 : Int) ≤ x2 ∧ x2 < ((x0.length : Nat) : Int) then ((laws_toWriter.f k (x0.getD x2.toNat ((0 : Int), (([] : List Word), ())))).bind fun r1 =>
        if (0 : Int) ≤ x2 ∧ x2 < ((x1.length : Nat) : Int) then laws_toWriterS.p7 k x0 (x1.set x2.toNat r1) (wrap64 (x2 + (1 : Int)))
        else none)
      else none)
    else some x1
noncomputable def laws_toWriterS.f (k : Nat) (a0 : (List Writer)) : Option ((List Writer)) := if (0 : Int) ≤ ((a0.length : Nat) : Int) ∧ ((a0.length : Nat) : Int) ≤ ((a0.length : Nat) : Int) ∧ ((a0.length : Nat) : Int) ≤ lim then laws_toWriterS.p7 k a0 (List.replicate ((a0.length : Nat) : Int).toNat ((0 : Int), (([] : List Word), ()))) (0 : Int)
  else none
/-! laws.toIntSS -/
noncomputable def laws_toIntSS.p7 : Nat → (List (List Int)) → (List (List Int)) → Int → Option ((List (List Int)))
  | 0, _, _, _ => none
  | k + 1, x0, x1, x2 => if x2 < ((x0.length : Nat) : Int) then (if (0 : Int) ≤ x2 ∧ x2 < ((x0.length : Nat) : Int) then ((laws_toIntS.f k (x0.getD x2.toNat ([] : List Int))).bind fun r1 =>
        if (0 : Int) ≤ x2 ∧ x2 < ((x1.length : Nat) : Int) then laws_toIntSS.p7 k x0 (x1.set x2.toNat r1) (wrap64 (x2 + (1 : Int)))
        else none)
      else none)
    else some x1
noncomputable def laws_toIntSS.f (k : Nat) (a0 : (List (List Int))) : Option ((List (List Int))) := if (0 : Int) ≤ ((a0.length : Nat) : Int) ∧ ((a0.length : Nat) : Int) ≤ ((a0.length : Nat) : Int) ∧ ((a0.length : Nat) : Int) ≤ lim then laws_toIntSS.p7 k a0 (List.replicate ((a0.length : Nat) : Int).toNat ([] : List Int)) (0 : Int)
  else none
/-! laws.toMend -/
noncomputable def laws_toMend.f (k : Nat) (a0 : Mend) : Option (Mend) := (laws_toIntS.f k a0.2.2.1).bind fun r1 =>
  (laws_toEntryS.f k a0.2.2.2.1).bind fun r2 =>
  (laws_toIntSS.f k a0.2.2.2.2.2.1).bind fun r3 =>
  some (a0.1, (a0.2.1, (r1, (r2, (a0.2.2.2.2.1, (r3, ()))))))
/-! laws.toMendS -/
noncomputable def laws_toMendS.p7 : Nat → (List Mend) → (List Mend) → Int → Option ((List Mend))
  | 0, _, _, _ => none
  | k + 1, x0, x1, x2 => if x2 < ((x0.length : Nat) : Int) then (if (0 : Int) ≤ x2 ∧ x2 < ((x0.length : Nat) : Int) then ((laws_toMend.f k (x0.getD x2.toNat ((0 : Int), ((0 : Int), (([] : List Int), (([] : List Entry), (false, (([] : List (List Int)), ())))))))).bind fun r1 =>
        if (0 : Int) ≤ x2 ∧ x2 < ((x1.length : Nat) : Int) then laws_toMendS.p7 k x0 (x1.set x2.toNat r1) (wrap64 (x2 + (1 : Int)))
        else none)
      else none)
    else some x1
noncomputable def laws_toMendS.f (k : Nat) (a0 : (List Mend)) : Option ((List Mend)) := if (0 : Int) ≤ ((a0.length : Nat) : Int) ∧ ((a0.length : Nat) : Int) ≤ ((a0.length : Nat) : Int) ∧ ((a0.length : Nat) : Int) ≤ lim then laws_toMendS.p7 k a0 (List.replicate ((a0.length : Nat) : Int).toNat ((0 : Int), ((0 : Int), (([] : List Int), (([] : List Entry), (false, (([] : List (List Int)), ()))))))) (0 : Int)
  else none
/-! laws.toEvent -/
noncomputable def laws_toEvent.f (a0 : Event) : Option (Event) := some (a0.1, (a0.2.1, (a0.2.2.1, ())))
/-! laws.toEventS -/
noncomputable def laws_toEventS.p7 : Nat → (List Event) → (List Event) → Int → Option ((List Event))
  | 0, _, _, _ => none
  | k + 1, x0, x1, x2 => if x2 < ((x0.length : Nat) : Int) then (if (0 : Int) ≤ x2 ∧ x2 < ((x0.length : Nat) : Int) then ((laws_toEvent.f (x0.getD x2.toNat ((0 : Int), ((0 : Int), ((⟨#[]⟩ : ByteArray), ()))))).bind fun r1 =>
        if (0 : Int) ≤ x2 ∧ x2 < ((x1.length : Nat) : Int) then laws_toEventS.p7 k x0 (x1.set x2.toNat r1) (wrap64 (x2 + (1 : Int)))
        else none)
      else none)
    else some x1
noncomputable def laws_toEventS.f (k : Nat) (a0 : (List Event)) : Option ((List Event)) := if (0 : Int) ≤ ((a0.length : Nat) : Int) ∧ ((a0.length : Nat) : Int) ≤ ((a0.length : Nat) : Int) ∧ ((a0.length : Nat) : Int) ≤ lim then laws_toEventS.p7 k a0 (List.replicate ((a0.length : Nat) : Int).toNat ((0 : Int), ((0 : Int), ((⟨#[]⟩ : ByteArray), ())))) (0 : Int)
  else none
/-! laws.toReader -/
noncomputable def laws_toReader.f (k : Nat) (a0 : Reader) : Option (Reader) := (laws_toEventS.f k a0.2.2.1).bind fun r1 =>
  some (a0.1, (a0.2.1, (r1, ())))
/-! laws.toReaderS -/
noncomputable def laws_toReaderS.p7 : Nat → (List Reader) → (List Reader) → Int → Option ((List Reader))
  | 0, _, _, _ => none
  | k + 1, x0, x1, x2 => if x2 < ((x0.length : Nat) : Int) then (if (0 : Int) ≤ x2 ∧ x2 < ((x0.length : Nat) : Int) then ((laws_toReader.f k (x0.getD x2.toNat ((0 : Int), ((0 : Int), (([] : List Event), ()))))).bind fun r1 =>
        if (0 : Int) ≤ x2 ∧ x2 < ((x1.length : Nat) : Int) then laws_toReaderS.p7 k x0 (x1.set x2.toNat r1) (wrap64 (x2 + (1 : Int)))
        else none)
      else none)
    else some x1
noncomputable def laws_toReaderS.f (k : Nat) (a0 : (List Reader)) : Option ((List Reader)) := if (0 : Int) ≤ ((a0.length : Nat) : Int) ∧ ((a0.length : Nat) : Int) ≤ ((a0.length : Nat) : Int) ∧ ((a0.length : Nat) : Int) ≤ lim then laws_toReaderS.p7 k a0 (List.replicate ((a0.length : Nat) : Int).toNat ((0 : Int), ((0 : Int), (([] : List Event), ())))) (0 : Int)
  else none
/-! laws.toSent -/
noncomputable def laws_toSent.f (a0 : Sent) : Option (Sent) := some (a0.1, (a0.2.1, (a0.2.2.1, ())))
/-! laws.toSentS -/
noncomputable def laws_toSentS.p7 : Nat → (List Sent) → (List Sent) → Int → Option ((List Sent))
  | 0, _, _, _ => none
  | k + 1, x0, x1, x2 => if x2 < ((x0.length : Nat) : Int) then (if (0 : Int) ≤ x2 ∧ x2 < ((x0.length : Nat) : Int) then ((laws_toSent.f (x0.getD x2.toNat ((0 : Int), ((⟨#[]⟩ : ByteArray), (false, ()))))).bind fun r1 =>
        if (0 : Int) ≤ x2 ∧ x2 < ((x1.length : Nat) : Int) then laws_toSentS.p7 k x0 (x1.set x2.toNat r1) (wrap64 (x2 + (1 : Int)))
        else none)
      else none)
    else some x1
noncomputable def laws_toSentS.f (k : Nat) (a0 : (List Sent)) : Option ((List Sent)) := if (0 : Int) ≤ ((a0.length : Nat) : Int) ∧ ((a0.length : Nat) : Int) ≤ ((a0.length : Nat) : Int) ∧ ((a0.length : Nat) : Int) ≤ lim then laws_toSentS.p7 k a0 (List.replicate ((a0.length : Nat) : Int).toNat ((0 : Int), ((⟨#[]⟩ : ByteArray), (false, ())))) (0 : Int)
  else none
/-! laws.toWorld -/
noncomputable def laws_toWorld.f (k : Nat) (a0 : World) : Option (World) := (laws_toConfig.f k a0.1).bind fun r1 =>
  (laws_toStoreS.f k a0.2.1).bind fun r2 =>
  (laws_toIntS.f k a0.2.2.1).bind fun r3 =>
  (laws_toRegister.f k a0.2.2.2.1).bind fun r4 =>
  (laws_toWriterS.f k a0.2.2.2.2.1).bind fun r5 =>
  (laws_toMendS.f k a0.2.2.2.2.2.1).bind fun r6 =>
  (laws_toReaderS.f k a0.2.2.2.2.2.2.1).bind fun r7 =>
  (laws_toSentS.f k a0.2.2.2.2.2.2.2.1).bind fun r8 =>
  some (r1, (r2, (r3, (r4, (r5, (r6, (r7, (r8, (a0.2.2.2.2.2.2.2.2.1, ())))))))))
/-! spec.l1In -/
noncomputable def spec_l1In.f (a0 : Int) (a1 : Int) (a2 : Int) : Option (Bool) := if a1 ≤ a0 then some (decide (a0 ≤ a2))
  else some false
/-! spec.ConfigOk -/
noncomputable def spec_ConfigOk.p9 : Nat → Int → Config → Option (Bool)
  | 0, _, _ => none
  | k + 1, x0, x1 => if x0 < ((x1.1.length : Nat) : Int) then (if (0 : Int) ≤ x0 ∧ x0 < ((x1.1.length : Nat) : Int) then ((spec_l1In.f (x1.1.getD x0.toNat (0 : Int)) (0 : Int) (7 : Int)).bind fun r3 =>
        if r3 = true then spec_ConfigOk.p9 k (wrap64 (x0 + (1 : Int))) x1
        else some false)
      else none)
    else some true
noncomputable def spec_ConfigOk.f (k : Nat) (a0 : Config) : Option (Bool) := (spec_l1In.f ((a0.1.length : Nat) : Int) (1 : Int) (8 : Int)).bind fun r1 =>
  if r1 = true then ((spec_l1In.f a0.2.1 (1 : Int) (4 : Int)).bind fun r2 =>
    if r2 = true then spec_ConfigOk.p9 k (0 : Int) a0
    else some false)
  else some false
/-! spec.l4Asc -/
noncomputable def spec_l4Asc.p5 : Nat → (List Int) → Int → Int → Int → Option (Bool)
  | 0, _, _, _, _ => none
  | k + 1, x0, x1, x2, x3 => if x3 < ((x0.length : Nat) : Int) then (if (0 : Int) ≤ x3 ∧ x3 < ((x0.length : Nat) : Int) then ((spec_l1In.f (x0.getD x3.toNat (0 : Int)) x1 x2).bind fun r1 =>
        if r1 = true then (if (0 : Int) < x3 then (if (0 : Int) ≤ (wrap64 (x3 - (1 : Int))) ∧ (wrap64 (x3 - (1 : Int))) < ((x0.length : Nat) : Int) then (if (0 : Int) ≤ x3 ∧ x3 < ((x0.length : Nat) : Int) then (if (x0.getD x3.toNat (0 : Int)) ≤ (x0.getD (wrap64 (x3 - (1 : Int))).toNat (0 : Int)) then some false
                else spec_l4Asc.p5 k x0 x1 x2 (wrap64 (x3 + (1 : Int))))
              else none)
            else none)
          else spec_l4Asc.p5 k x0 x1 x2 (wrap64 (x3 + (1 : Int))))
        else some false)
      else none)
    else some true
noncomputable def spec_l4Asc.f (k : Nat) (a0 : (List Int)) (a1 : Int) (a2 : Int) : Option (Bool) := spec_l4Asc.p5 k a0 a1 a2 (0 : Int)
/-! spec.NodesOk -/
noncomputable def spec_NodesOk.f (k : Nat) (a0 : Config) (a1 : (List Int)) : Option (Bool) := (spec_ConfigOk.f k a0).bind fun r1 =>
  if r1 = true then ((spec_l4Asc.f k a1 (0 : Int) (wrap64 (((a0.1.length : Nat) : Int) - (1 : Int)))).bind fun r2 =>
    some r2)
  else some false
/-! spec.l4Span -/
noncomputable def spec_l4Span.p9 : Nat → (List Int) → (List Bool) → Int → Int → Config → Option (Int)
  | 0, _, _, _, _, _ => none
  | k + 1, x0, x1, x2, x3, x4 => if x3 < ((x0.length : Nat) : Int) then (if (0 : Int) ≤ x3 ∧ x3 < ((x0.length : Nat) : Int) then (if (0 : Int) ≤ (x0.getD x3.toNat (0 : Int)) ∧ (x0.getD x3.toNat (0 : Int)) < ((x4.1.length : Nat) : Int) then (if (0 : Int) ≤ (x4.1.getD (x0.getD x3.toNat (0 : Int)).toNat (0 : Int)) ∧ (x4.1.getD (x0.getD x3.toNat (0 : Int)).toNat (0 : Int)) < ((x1.length : Nat) : Int) then (if (x1.getD (x4.1.getD (x0.getD x3.toNat (0 : Int)).toNat (0 : Int)).toNat false) = true then spec_l4Span.p9 k x0 x1 x2 (wrap64 (x3 + (1 : Int))) x4
            else if (0 : Int) ≤ (x4.1.getD (x0.getD x3.toNat (0 : Int)).toNat (0 : Int)) ∧ (x4.1.getD (x0.getD x3.toNat (0 : Int)).toNat (0 : Int)) < ((x1.length : Nat) : Int) then spec_l4Span.p9 k x0 (x1.set (x4.1.getD (x0.getD x3.toNat (0 : Int)).toNat (0 : Int)).toNat true) (wrap64 (x2 + (1 : Int))) (wrap64 (x3 + (1 : Int))) x4
            else none)
          else none)
        else none)
      else none)
    else some x2
noncomputable def spec_l4Span.f (k : Nat) (a0 : Config) (a1 : (List Int)) : Option (Int) := if (0 : Int) ≤ (8 : Int) ∧ (8 : Int) ≤ (8 : Int) ∧ (8 : Int) ≤ lim then spec_l4Span.p9 k a1 (List.replicate (8 : Int).toNat false) (0 : Int) (0 : Int) a0
  else none
/-! spec.Holds -/
noncomputable def spec_Holds.f (k : Nat) (a0 : Config) (a1 : (List Int)) : Option (Bool) := (spec_NodesOk.f k a0 a1).bind fun r1 =>
  if r1 = true then ((spec_l4Span.f k a0 a1).bind fun r2 =>
    some (decide (a0.2.1 ≤ r2)))
  else some false
/-! spec.PlaceOk -/
noncomputable def spec_PlaceOk.f (a0 : Int) : Option (Bool) := if (0 : Int) < a0 then ((spec_l1In.f (wrap64 ((Int.tdiv a0 (4294967296 : Int)))) (1 : Int) (30 : Int)).bind fun r1 =>
    if r1 = true then ((spec_l1In.f (Int.tmod a0 (4294967296 : Int)) (1 : Int) (60 : Int)).bind fun r2 =>
      some r2)
    else some false)
  else some false
/-! spec.EpochOf -/
noncomputable def spec_EpochOf.f (a0 : Int) : Option (Int) := (spec_PlaceOk.f a0).bind fun r1 =>
  if r1 = true then some (wrap64 ((Int.tdiv a0 (4294967296 : Int))))
  else some (0 : Int)
/-! spec.EntryOk -/
noncomputable def spec_EntryOk.p6 : Nat → Entry → Option (Bool)
  | 0, _ => none
  | k + 1, x0 => if x0.2.2.1 = true then (if (0 : Int) < x0.2.1 then some (decide (x0.2.2.2.1 = (⟨#[]⟩ : ByteArray)))
      else some false)
    else some true
noncomputable def spec_EntryOk.f (k : Nat) (a0 : Entry) : Option (Bool) := (spec_PlaceOk.f a0.1).bind fun r1 =>
  if r1 = true then ((spec_l1In.f a0.2.1 (0 : Int) (30 : Int)).bind fun r2 =>
    if r2 = true then (if (0 : Int) < a0.2.1 then ((spec_EpochOf.f a0.1).bind fun r3 =>
        if a0.2.1 ≤ r3 then some false
        else if (40 : Int) < ((a0.2.2.2.1.size : Nat) : Int) then some false
        else spec_EntryOk.p6 k a0)
      else if (40 : Int) < ((a0.2.2.2.1.size : Nat) : Int) then some false
      else spec_EntryOk.p6 k a0)
    else some false)
  else some false
/-! spec.l6List -/
noncomputable def spec_l6List.p9 : Nat → (List Entry) → Int → Option (Bool)
  | 0, _, _ => none
  | k + 1, x0, x1 => if x1 < ((x0.length : Nat) : Int) then (if (0 : Int) ≤ x1 ∧ x1 < ((x0.length : Nat) : Int) then ((spec_EntryOk.f k (x0.getD x1.toNat ((0 : Int), ((0 : Int), (false, ((⟨#[]⟩ : ByteArray), ())))))).bind fun r1 =>
        if r1 = true then spec_l6List.p9 k x0 (wrap64 (x1 + (1 : Int)))
        else some false)
      else none)
    else some true
noncomputable def spec_l6List.f (k : Nat) (a0 : (List Entry)) (a1 : Int) : Option (Bool) := if a1 < ((a0.length : Nat) : Int) then some false
  else spec_l6List.p9 k a0 (0 : Int)
/-! spec.l6Asc -/
noncomputable def spec_l6Asc.p5 : Nat → (List Entry) → Int → Option (Bool)
  | 0, _, _ => none
  | k + 1, x0, x1 => if x1 < ((x0.length : Nat) : Int) then (if (0 : Int) ≤ (wrap64 (x1 - (1 : Int))) ∧ (wrap64 (x1 - (1 : Int))) < ((x0.length : Nat) : Int) then (if (0 : Int) ≤ x1 ∧ x1 < ((x0.length : Nat) : Int) then (if (x0.getD x1.toNat ((0 : Int), ((0 : Int), (false, ((⟨#[]⟩ : ByteArray), ()))))).1 ≤ (x0.getD (wrap64 (x1 - (1 : Int))).toNat ((0 : Int), ((0 : Int), (false, ((⟨#[]⟩ : ByteArray), ()))))).1 then some false
          else spec_l6Asc.p5 k x0 (wrap64 (x1 + (1 : Int))))
        else none)
      else none)
    else some true
noncomputable def spec_l6Asc.f (k : Nat) (a0 : (List Entry)) : Option (Bool) := spec_l6Asc.p5 k a0 (1 : Int)
/-! spec.StoreOk -/
noncomputable def spec_StoreOk.f (k : Nat) (a0 : Store) : Option (Bool) := (spec_l6List.f k a0.1 (200 : Int)).bind fun r1 =>
  if r1 = true then ((spec_l6List.f k a0.2.1 (20 : Int)).bind fun r2 =>
    if r2 = true then ((spec_l6Asc.f k a0.1).bind fun r3 =>
      if r3 = true then ((spec_l1In.f a0.2.2.1 (0 : Int) (30 : Int)).bind fun r4 =>
        some r4)
      else some false)
    else some false)
  else some false
/-! spec.l4Has -/
noncomputable def spec_l4Has.p5 : Nat → (List Int) → Int → Int → Option (Bool)
  | 0, _, _, _ => none
  | k + 1, x0, x1, x2 => if x2 < ((x0.length : Nat) : Int) then (if (0 : Int) ≤ x2 ∧ x2 < ((x0.length : Nat) : Int) then (if (x0.getD x2.toNat (0 : Int)) = x1 then some true
        else spec_l4Has.p5 k x0 x1 (wrap64 (x2 + (1 : Int))))
      else none)
    else some false
noncomputable def spec_l4Has.f (k : Nat) (a0 : (List Int)) (a1 : Int) : Option (Bool) := spec_l4Has.p5 k a0 a1 (0 : Int)
/-! spec.l12Zero -/
noncomputable def spec_l12Zero.f (a0 : Store) : Option (Bool) := if ((a0.1.length : Nat) : Int) = (0 : Int) then (if ((a0.2.1.length : Nat) : Int) = (0 : Int) then some (decide (a0.2.2.1 = (0 : Int)))
    else some false)
  else some false
/-! spec.l12Nodes -/
mutual
noncomputable def spec_l12Nodes.p6 : Nat → World → Option (Bool)
  | 0, _ => none
  | k + 1, x0 => spec_l12Nodes.p9 k (0 : Int) x0
noncomputable def spec_l12Nodes.p9 : Nat → Int → World → Option (Bool)
  | 0, _, _ => none
  | k + 1, x0, x1 => if x0 < ((x1.2.1.length : Nat) : Int) then (if (0 : Int) ≤ x0 ∧ x0 < ((x1.2.1.length : Nat) : Int) then ((spec_StoreOk.f k (x1.2.1.getD x0.toNat (([] : List Entry), (([] : List Entry), ((0 : Int), ()))))).bind fun r4 =>
        if r4 = true then ((spec_l4Has.f k x1.2.2.1 x0).bind fun r5 =>
          if r5 = true then (if (0 : Int) ≤ x0 ∧ x0 < ((x1.2.1.length : Nat) : Int) then ((spec_l12Zero.f (x1.2.1.getD x0.toNat (([] : List Entry), (([] : List Entry), ((0 : Int), ()))))).bind fun r6 =>
              if r6 = true then spec_l12Nodes.p9 k (wrap64 (x0 + (1 : Int))) x1
              else some false)
            else none)
          else spec_l12Nodes.p9 k (wrap64 (x0 + (1 : Int))) x1)
        else some false)
      else none)
    else some true
end
noncomputable def spec_l12Nodes.f (k : Nat) (a0 : World) : Option (Bool) := (spec_ConfigOk.f k a0.1).bind fun r1 =>
  if r1 = true then (if ((a0.2.1.length : Nat) : Int) = ((a0.1.1.length : Nat) : Int) then ((spec_NodesOk.f k a0.1 a0.2.2.1).bind fun r2 =>
      if r2 = true then ((spec_Holds.f k a0.1 a0.2.2.1).bind fun r3 =>
        if r3 = true then (if a0.2.2.2.2.2.2.2.2.1 = true then spec_l12Nodes.p6 k a0
          else some false)
        else spec_l12Nodes.p6 k a0)
      else some false)
    else some false)
  else some false
/-! spec.RegOk -/
mutual
noncomputable def spec_RegOk.p8 : Nat → Int → Config → Register → Option (Bool)
  | 0, _, _, _ => none
  | k + 1, x0, x1, x2 => spec_RegOk.p11 k x0 (0 : Int) x1 x2
noncomputable def spec_RegOk.p11 : Nat → Int → Int → Config → Register → Option (Bool)
  | 0, _, _, _, _ => none
  | k + 1, x0, x1, x2, x3 => if x1 < x0 then (if (0 : Int) ≤ x1 ∧ x1 < ((x3.1.length : Nat) : Int) then ((spec_Holds.f k x2 (x3.1.getD x1.toNat (([] : List Int), (false, ((0 : Int), ())))).1).bind fun r4 =>
        if r4 = true then ((spec_l1In.f (x3.1.getD x1.toNat (([] : List Int), (false, ((0 : Int), ())))).2.2.1 (0 : Int) (60 : Int)).bind fun r5 =>
          if r5 = true then (if (x3.1.getD x1.toNat (([] : List Int), (false, ((0 : Int), ())))).2.1 = true then spec_RegOk.p20 k x0 x1 (x3.1.getD x1.toNat (([] : List Int), (false, ((0 : Int), ())))).2.2.1 r5 (!(decide (r5 = true))) (x3.1.getD x1.toNat (([] : List Int), (false, ((0 : Int), ())))).2.1 (!(decide ((x3.1.getD x1.toNat (([] : List Int), (false, ((0 : Int), ())))).2.1 = true))) false false x2 x3 (x3.1.getD x1.toNat (([] : List Int), (false, ((0 : Int), ()))))
            else if (x3.1.getD x1.toNat (([] : List Int), (false, ((0 : Int), ())))).2.2.1 = (0 : Int) then spec_RegOk.p20 k x0 x1 (x3.1.getD x1.toNat (([] : List Int), (false, ((0 : Int), ())))).2.2.1 r5 (!(decide (r5 = true))) (x3.1.getD x1.toNat (([] : List Int), (false, ((0 : Int), ())))).2.1 (!(decide ((x3.1.getD x1.toNat (([] : List Int), (false, ((0 : Int), ())))).2.1 = true))) true (!(decide ((x3.1.getD x1.toNat (([] : List Int), (false, ((0 : Int), ())))).2.2.1 = (0 : Int)))) x2 x3 (x3.1.getD x1.toNat (([] : List Int), (false, ((0 : Int), ()))))
            else some false)
          else some false)
        else some false)
      else none)
    else some true
noncomputable def spec_RegOk.p20 : Nat → Int → Int → Int → Bool → Bool → Bool → Bool → Bool → Bool → Config → Register → Era → Option (Bool)
  | 0, _, _, _, _, _, _, _, _, _, _, _, _ => none
  | k + 1, x0, x1, x2, x3, x4, x5, x6, x7, x8, x9, x10, x11 => if x11.2.1 = true then (if x1 = (wrap64 (x0 - (1 : Int))) then some false
      else if (0 : Int) < x1 then (if (0 : Int) ≤ (wrap64 (x1 - (1 : Int))) ∧ (wrap64 (x1 - (1 : Int))) < ((x10.1.length : Nat) : Int) then (if (x10.1.getD (wrap64 (x1 - (1 : Int))).toNat (([] : List Int), (false, ((0 : Int), ())))).2.1 = true then spec_RegOk.p11 k x0 (wrap64 (x1 + (1 : Int))) x9 x10
          else some false)
        else none)
      else spec_RegOk.p11 k x0 (wrap64 (x1 + (1 : Int))) x9 x10)
    else spec_RegOk.p11 k x0 (wrap64 (x1 + (1 : Int))) x9 x10
end
noncomputable def spec_RegOk.f (k : Nat) (a0 : Config) (a1 : Register) : Option (Bool) := (spec_ConfigOk.f k a0).bind fun r1 =>
  if r1 = true then (if (30 : Int) < ((a1.1.length : Nat) : Int) then some false
    else if a1.2.1 = (0 : Int) then spec_RegOk.p8 k ((a1.1.length : Nat) : Int) a0 a1
    else (spec_PlaceOk.f a1.2.1).bind fun r2 =>
    if r2 = true then ((spec_EpochOf.f a1.2.1).bind fun r3 =>
      if ((a1.1.length : Nat) : Int) < r3 then some false
      else spec_RegOk.p8 k ((a1.1.length : Nat) : Int) a0 a1)
    else some false)
  else some false
/-! spec.WriterOk -/
noncomputable def spec_WriterOk.p11 : Nat → Int → Int → Config → Writer → Option (Bool)
  | 0, _, _, _, _ => none
  | k + 1, x0, x1, x2, x3 => if x1 < ((x3.2.1.length : Nat) : Int) then (if (0 : Int) ≤ x1 ∧ x1 < ((x3.2.1.length : Nat) : Int) then (if (40 : Int) < (((x3.2.1.getD x1.toNat ((⟨#[]⟩ : ByteArray), (([] : List Int), (false, ())))).1.size : Nat) : Int) then some false
        else (spec_NodesOk.f k x2 (x3.2.1.getD x1.toNat ((⟨#[]⟩ : ByteArray), (([] : List Int), (false, ())))).2.1).bind fun r3 =>
        if r3 = true then ((spec_Holds.f k x2 (x3.2.1.getD x1.toNat ((⟨#[]⟩ : ByteArray), (([] : List Int), (false, ())))).2.1).bind fun r4 =>
          if r4 = (x3.2.1.getD x1.toNat ((⟨#[]⟩ : ByteArray), (([] : List Int), (false, ())))).2.2.1 then (if (x3.2.1.getD x1.toNat ((⟨#[]⟩ : ByteArray), (([] : List Int), (false, ())))).2.2.1 = true then spec_WriterOk.p11 k x0 (wrap64 (x1 + (1 : Int))) x2 x3
            else spec_WriterOk.p11 k (wrap64 (x0 + (1 : Int))) (wrap64 (x1 + (1 : Int))) x2 x3)
          else some false)
        else some false)
      else none)
    else some (decide (x0 ≤ (6 : Int)))
noncomputable def spec_WriterOk.f (k : Nat) (a0 : Config) (a1 : Writer) : Option (Bool) := (spec_ConfigOk.f k a0).bind fun r1 =>
  if r1 = true then ((spec_l1In.f a1.1 (1 : Int) (30 : Int)).bind fun r2 =>
    if r2 = true then (if (60 : Int) < ((a1.2.1.length : Nat) : Int) then some false
      else spec_WriterOk.p11 k (0 : Int) (0 : Int) a0 a1)
    else some false)
  else some false
/-! spec.OffOf -/
noncomputable def spec_OffOf.f (a0 : Int) : Option (Int) := (spec_PlaceOk.f a0).bind fun r1 =>
  if r1 = true then some (Int.tmod a0 (4294967296 : Int))
  else some (0 : Int)
/-! spec.l9Last -/
noncomputable def spec_l9Last.f (a0 : Mend) : Option (Int) := if ((a0.2.2.2.1.length : Nat) : Int) = (0 : Int) then some (0 : Int)
  else if (0 : Int) ≤ (wrap64 (((a0.2.2.2.1.length : Nat) : Int) - (1 : Int))) ∧ (wrap64 (((a0.2.2.2.1.length : Nat) : Int) - (1 : Int))) < ((a0.2.2.2.1.length : Nat) : Int) then ((spec_OffOf.f (a0.2.2.2.1.getD (wrap64 (((a0.2.2.2.1.length : Nat) : Int) - (1 : Int))).toNat ((0 : Int), ((0 : Int), (false, ((⟨#[]⟩ : ByteArray), ()))))).1).bind fun r1 =>
    some r1)
  else none
/-! spec.MendOk -/
mutual
noncomputable def spec_MendOk.p9 : Nat → Int → Config → Mend → Option (Bool)
  | 0, _, _, _ => none
  | k + 1, x0, x1, x2 => if x0 < ((x2.2.2.2.1.length : Nat) : Int) then (if (0 : Int) ≤ x0 ∧ x0 < ((x2.2.2.2.1.length : Nat) : Int) then ((spec_EntryOk.f k (x2.2.2.2.1.getD x0.toNat ((0 : Int), ((0 : Int), (false, ((⟨#[]⟩ : ByteArray), ())))))).bind fun r6 =>
        if r6 = true then (if (0 : Int) ≤ x0 ∧ x0 < ((x2.2.2.2.1.length : Nat) : Int) then ((spec_EpochOf.f (x2.2.2.2.1.getD x0.toNat ((0 : Int), ((0 : Int), (false, ((⟨#[]⟩ : ByteArray), ()))))).1).bind fun r7 =>
            if r7 = x2.2.1 then (if (0 : Int) ≤ x0 ∧ x0 < ((x2.2.2.2.1.length : Nat) : Int) then (if x2.1 ≤ (x2.2.2.2.1.getD x0.toNat ((0 : Int), ((0 : Int), (false, ((⟨#[]⟩ : ByteArray), ()))))).2.1 then some false
                else spec_MendOk.p9 k (wrap64 (x0 + (1 : Int))) x1 x2)
              else none)
            else some false)
          else none)
        else some false)
      else none)
    else spec_MendOk.p19 k (0 : Int) x1 x2
noncomputable def spec_MendOk.p19 : Nat → Int → Config → Mend → Option (Bool)
  | 0, _, _, _ => none
  | k + 1, x0, x1, x2 => if x0 < ((x2.2.2.2.2.2.1.length : Nat) : Int) then (if (0 : Int) ≤ x0 ∧ x0 < ((x2.2.2.2.2.2.1.length : Nat) : Int) then ((spec_NodesOk.f k x1 (x2.2.2.2.2.2.1.getD x0.toNat ([] : List Int))).bind fun r8 =>
        if r8 = true then spec_MendOk.p19 k (wrap64 (x0 + (1 : Int))) x1 x2
        else some false)
      else none)
    else if x2.2.2.2.2.1 = true then ((spec_l9Last.f x2).bind fun r9 =>
      some (decide (((x2.2.2.2.2.2.1.length : Nat) : Int) = r9)))
    else some (decide (((x2.2.2.2.2.2.1.length : Nat) : Int) = (0 : Int)))
end
noncomputable def spec_MendOk.f (k : Nat) (a0 : Config) (a1 : Mend) : Option (Bool) := (spec_ConfigOk.f k a0).bind fun r1 =>
  if r1 = true then ((spec_l1In.f a1.2.1 (1 : Int) (30 : Int)).bind fun r2 =>
    if r2 = true then ((spec_l1In.f a1.1 (wrap64 (a1.2.1 + (1 : Int))) (30 : Int)).bind fun r3 =>
      if r3 = true then ((spec_NodesOk.f k a0 a1.2.2.1).bind fun r4 =>
        if r4 = true then ((spec_l6Asc.f k a1.2.2.2.1).bind fun r5 =>
          if r5 = true then spec_MendOk.p9 k (0 : Int) a0 a1
          else some false)
        else some false)
      else some false)
    else some false)
  else some false
/-! spec.FirstOpen -/
noncomputable def spec_FirstOpen.p5 : Nat → Int → Register → Option (Int)
  | 0, _, _ => none
  | k + 1, x0, x1 => if x0 < ((x1.1.length : Nat) : Int) then (if (0 : Int) ≤ x0 ∧ x0 < ((x1.1.length : Nat) : Int) then (if (x1.1.getD x0.toNat (([] : List Int), (false, ((0 : Int), ())))).2.1 = true then spec_FirstOpen.p5 k (wrap64 (x0 + (1 : Int))) x1
        else some (wrap64 (x0 + (1 : Int))))
      else none)
    else some (0 : Int)
noncomputable def spec_FirstOpen.f (k : Nat) (a0 : Register) : Option (Int) := spec_FirstOpen.p5 k (0 : Int) a0
/-! spec.l12Epochs -/
mutual
noncomputable def spec_l12Epochs.p11 : Nat → Int → Int → World → Option (Bool)
  | 0, _, _, _ => none
  | k + 1, x0, x1, x2 => if x1 < ((x2.2.2.2.2.1.length : Nat) : Int) then (if (0 : Int) ≤ x1 ∧ x1 < ((x2.2.2.2.2.1.length : Nat) : Int) then ((spec_WriterOk.f k x2.1 (x2.2.2.2.2.1.getD x1.toNat ((0 : Int), (([] : List Word), ())))).bind fun r2 =>
        if r2 = true then (if (0 : Int) ≤ x1 ∧ x1 < ((x2.2.2.2.2.1.length : Nat) : Int) then (if x0 < (x2.2.2.2.2.1.getD x1.toNat ((0 : Int), (([] : List Word), ()))).1 then some false
            else if (0 : Int) < x1 then (if (0 : Int) ≤ (wrap64 (x1 - (1 : Int))) ∧ (wrap64 (x1 - (1 : Int))) < ((x2.2.2.2.2.1.length : Nat) : Int) then (if (0 : Int) ≤ x1 ∧ x1 < ((x2.2.2.2.2.1.length : Nat) : Int) then (if (x2.2.2.2.2.1.getD x1.toNat ((0 : Int), (([] : List Word), ()))).1 ≤ (x2.2.2.2.2.1.getD (wrap64 (x1 - (1 : Int))).toNat ((0 : Int), (([] : List Word), ()))).1 then some false
                  else spec_l12Epochs.p11 k x0 (wrap64 (x1 + (1 : Int))) x2)
                else none)
              else none)
            else spec_l12Epochs.p11 k x0 (wrap64 (x1 + (1 : Int))) x2)
          else none)
        else some false)
      else none)
    else spec_l12Epochs.p21 k x0 (0 : Int) x2
noncomputable def spec_l12Epochs.p21 : Nat → Int → Int → World → Option (Bool)
  | 0, _, _, _ => none
  | k + 1, x0, x1, x2 => if x1 < ((x2.2.2.2.2.2.1.length : Nat) : Int) then (if (0 : Int) ≤ x1 ∧ x1 < ((x2.2.2.2.2.2.1.length : Nat) : Int) then ((spec_MendOk.f k x2.1 (x2.2.2.2.2.2.1.getD x1.toNat ((0 : Int), ((0 : Int), (([] : List Int), (([] : List Entry), (false, (([] : List (List Int)), ())))))))).bind fun r3 =>
        if r3 = true then (if (x2.2.2.2.2.2.1.getD x1.toNat ((0 : Int), ((0 : Int), (([] : List Int), (([] : List Entry), (false, (([] : List (List Int)), ()))))))).1 = x0 then ((spec_FirstOpen.f k x2.2.2.2.1).bind fun r4 =>
            if (x2.2.2.2.2.2.1.getD x1.toNat ((0 : Int), ((0 : Int), (([] : List Int), (([] : List Entry), (false, (([] : List (List Int)), ()))))))).2.1 = r4 then spec_l12Epochs.p21 k x0 (wrap64 (x1 + (1 : Int))) x2
            else some false)
          else some false)
        else some false)
      else none)
    else some true
end
noncomputable def spec_l12Epochs.f (k : Nat) (a0 : World) : Option (Bool) := (spec_RegOk.f k a0.1 a0.2.2.2.1).bind fun r1 =>
  if r1 = true then (if (4 : Int) < ((a0.2.2.2.2.1.length : Nat) : Int) then some false
    else if (1 : Int) < ((a0.2.2.2.2.2.1.length : Nat) : Int) then some false
    else spec_l12Epochs.p11 k ((a0.2.2.2.1.1.length : Nat) : Int) (0 : Int) a0)
  else some false
/-! spec.ReaderOk -/
noncomputable def spec_ReaderOk.f (a0 : Reader) : Option (Bool) := (spec_l1In.f a0.1 (1 : Int) (31 : Int)).bind fun r1 =>
  if r1 = true then ((spec_l1In.f a0.2.1 (1 : Int) (61 : Int)).bind fun r2 =>
    if r2 = true then some (decide (((a0.2.2.1.length : Nat) : Int) ≤ (120 : Int)))
    else some false)
  else some false
/-! spec.l12Sent -/
noncomputable def spec_l12Sent.p9 : Nat → Int → World → Option (Bool)
  | 0, _, _ => none
  | k + 1, x0, x1 => if x0 < ((x1.2.2.2.2.2.2.2.1.length : Nat) : Int) then (if (0 : Int) ≤ x0 ∧ x0 < ((x1.2.2.2.2.2.2.2.1.length : Nat) : Int) then ((spec_PlaceOk.f (x1.2.2.2.2.2.2.2.1.getD x0.toNat ((0 : Int), ((⟨#[]⟩ : ByteArray), (false, ())))).1).bind fun r1 =>
        if r1 = true then ((spec_EpochOf.f (x1.2.2.2.2.2.2.2.1.getD x0.toNat ((0 : Int), ((⟨#[]⟩ : ByteArray), (false, ())))).1).bind fun r2 =>
          if ((x1.2.2.2.1.1.length : Nat) : Int) < r2 then some false
          else if (40 : Int) < (((x1.2.2.2.2.2.2.2.1.getD x0.toNat ((0 : Int), ((⟨#[]⟩ : ByteArray), (false, ())))).2.1.size : Nat) : Int) then some false
          else if (0 : Int) < x0 then (if (0 : Int) ≤ (wrap64 (x0 - (1 : Int))) ∧ (wrap64 (x0 - (1 : Int))) < ((x1.2.2.2.2.2.2.2.1.length : Nat) : Int) then (if (x1.2.2.2.2.2.2.2.1.getD x0.toNat ((0 : Int), ((⟨#[]⟩ : ByteArray), (false, ())))).1 ≤ (x1.2.2.2.2.2.2.2.1.getD (wrap64 (x0 - (1 : Int))).toNat ((0 : Int), ((⟨#[]⟩ : ByteArray), (false, ())))).1 then some false
              else spec_l12Sent.p9 k (wrap64 (x0 + (1 : Int))) x1)
            else none)
          else spec_l12Sent.p9 k (wrap64 (x0 + (1 : Int))) x1)
        else some false)
      else none)
    else some true
noncomputable def spec_l12Sent.f (k : Nat) (a0 : World) : Option (Bool) := if (120 : Int) < ((a0.2.2.2.2.2.2.2.1.length : Nat) : Int) then some false
  else spec_l12Sent.p9 k (0 : Int) a0
/-! spec.WorldOk -/
noncomputable def spec_WorldOk.f (k : Nat) (a0 : World) : Option (Bool) := (spec_l12Nodes.f k a0).bind fun r1 =>
  if r1 = true then ((spec_l12Epochs.f k a0).bind fun r2 =>
    if r2 = true then (if ((a0.2.2.2.2.2.2.1.length : Nat) : Int) = (2 : Int) then (if (0 : Int) ≤ (0 : Int) ∧ (0 : Int) < ((a0.2.2.2.2.2.2.1.length : Nat) : Int) then ((spec_ReaderOk.f (a0.2.2.2.2.2.2.1.getD (0 : Int).toNat ((0 : Int), ((0 : Int), (([] : List Event), ()))))).bind fun r3 =>
          if r3 = true then (if (0 : Int) ≤ (1 : Int) ∧ (1 : Int) < ((a0.2.2.2.2.2.2.1.length : Nat) : Int) then ((spec_ReaderOk.f (a0.2.2.2.2.2.2.1.getD (1 : Int).toNat ((0 : Int), ((0 : Int), (([] : List Event), ()))))).bind fun r4 =>
              if r4 = true then ((spec_l12Sent.f k a0).bind fun r5 =>
                some r5)
              else some false)
            else none)
          else some false)
        else none)
      else some false)
    else some false)
  else some false
/-! spec.l6Get -/
noncomputable def spec_l6Get.p5 : Nat → (List Entry) → Int → Int → Entry → Option (Entry × Bool)
  | 0, _, _, _, _ => none
  | k + 1, x0, x1, x2, x3 => if x2 < ((x0.length : Nat) : Int) then (if (0 : Int) ≤ x2 ∧ x2 < ((x0.length : Nat) : Int) then (if (x0.getD x2.toNat ((0 : Int), ((0 : Int), (false, ((⟨#[]⟩ : ByteArray), ()))))).1 = x1 then (if (0 : Int) ≤ x2 ∧ x2 < ((x0.length : Nat) : Int) then some ((x0.getD x2.toNat ((0 : Int), ((0 : Int), (false, ((⟨#[]⟩ : ByteArray), ()))))), true)
          else none)
        else spec_l6Get.p5 k x0 x1 (wrap64 (x2 + (1 : Int))) x3)
      else none)
    else some (((0 : Int), ((0 : Int), (false, ((⟨#[]⟩ : ByteArray), ())))), false)
noncomputable def spec_l6Get.f (k : Nat) (a0 : (List Entry)) (a1 : Int) : Option (Entry × Bool) := spec_l6Get.p5 k a0 a1 (0 : Int) ((0 : Int), ((0 : Int), (false, ((⟨#[]⟩ : ByteArray), ()))))
/-! spec.HoldersOf -/
noncomputable def spec_HoldersOf.p7 : Nat → Int → (List Int) → Int → World → Option ((List Int))
  | 0, _, _, _, _ => none
  | k + 1, x0, x1, x2, x3 => if x2 < ((x3.2.1.length : Nat) : Int) then ((spec_WorldOk.f k x3).bind fun r1 =>
      if r1 = true then (if (0 : Int) ≤ x2 ∧ x2 < ((x3.2.1.length : Nat) : Int) then ((spec_l6Get.f k (x3.2.1.getD x2.toNat (([] : List Entry), (([] : List Entry), ((0 : Int), ())))).1 x0).bind fun r2 =>
          if r2.2 = true then (if (((x1.length : Nat) : Int) + ((([x2] : List Int).length : Nat) : Int)) ≤ lim then spec_HoldersOf.p7 k x0 (x1 ++ ([x2] : List Int)) (wrap64 (x2 + (1 : Int))) x3
            else none)
          else spec_HoldersOf.p7 k x0 x1 (wrap64 (x2 + (1 : Int))) x3)
        else none)
      else some x1)
    else some x1
noncomputable def spec_HoldersOf.f (k : Nat) (a0 : World) (a1 : Int) : Option ((List Int)) := spec_HoldersOf.p7 k a1 ([] : List Int) (0 : Int) a0
/-! impl.within -/
noncomputable def impl_within.f (a0 : Int) (a1 : Int) (a2 : Int) : Option (Bool) := if a1 ≤ a0 then some (decide (a0 ≤ a2))
  else some false
/-! impl.ConfigOk -/
noncomputable def impl_ConfigOk.p5 : Nat → (List Int) → Int → Int → Config → Option (Bool)
  | 0, _, _, _, _ => none
  | k + 1, x0, x1, x2, x3 => if x2 < x1 then (if (0 : Int) ≤ x2 ∧ x2 < ((x0.length : Nat) : Int) then ((impl_within.f (x0.getD x2.toNat (0 : Int)) (0 : Int) (7 : Int)).bind fun r1 =>
        if r1 = true then impl_ConfigOk.p5 k x0 x1 (wrap64 (x2 + (1 : Int))) x3
        else some false)
      else none)
    else (impl_within.f ((x3.1.length : Nat) : Int) (1 : Int) (8 : Int)).bind fun r2 =>
    if r2 = true then ((impl_within.f x3.2.1 (1 : Int) (4 : Int)).bind fun r3 =>
      some r3)
    else some false
noncomputable def impl_ConfigOk.f (k : Nat) (a0 : Config) : Option (Bool) := impl_ConfigOk.p5 k a0.1 ((a0.1.length : Nat) : Int) (0 : Int) a0
/-! impl.ascends -/
noncomputable def impl_ascends.p5 : Nat → (List Int) → Int → (List Int) → Int → Int → Option (Bool)
  | 0, _, _, _, _, _ => none
  | k + 1, x0, x1, x2, x3, x4 => if x4 < x3 then (if (0 : Int) ≤ x4 ∧ x4 < ((x2.length : Nat) : Int) then ((impl_within.f (x2.getD x4.toNat (0 : Int)) (0 : Int) x1).bind fun r1 =>
        if r1 = true then (if (0 : Int) < x4 then (if (0 : Int) ≤ (wrap64 (x4 - (1 : Int))) ∧ (wrap64 (x4 - (1 : Int))) < ((x0.length : Nat) : Int) then (if (x2.getD x4.toNat (0 : Int)) ≤ (x0.getD (wrap64 (x4 - (1 : Int))).toNat (0 : Int)) then some false
              else impl_ascends.p5 k x0 x1 x2 x3 (wrap64 (x4 + (1 : Int))))
            else none)
          else impl_ascends.p5 k x0 x1 x2 x3 (wrap64 (x4 + (1 : Int))))
        else some false)
      else none)
    else some true
noncomputable def impl_ascends.f (k : Nat) (a0 : (List Int)) (a1 : Int) : Option (Bool) := impl_ascends.p5 k a0 a1 a0 ((a0.length : Nat) : Int) (0 : Int)
/-! impl.NodesOk -/
noncomputable def impl_NodesOk.f (k : Nat) (a0 : Config) (a1 : (List Int)) : Option (Bool) := (impl_ConfigOk.f k a0).bind fun r1 =>
  if r1 = true then ((impl_ascends.f k a1 (wrap64 (((a0.1.length : Nat) : Int) - (1 : Int)))).bind fun r2 =>
    some r2)
  else some false
/-! impl.isEpoch -/
noncomputable def impl_isEpoch.f (a0 : Int) : Option (Bool) := (impl_within.f a0 (1 : Int) (30 : Int)).bind fun r1 =>
  some r1
/-! impl.isOff -/
noncomputable def impl_isOff.f (a0 : Int) : Option (Bool) := (impl_within.f a0 (1 : Int) (60 : Int)).bind fun r1 =>
  some r1
/-! impl.PlaceOk -/
noncomputable def impl_PlaceOk.f (a0 : Int) : Option (Bool) := (impl_isEpoch.f (wrap64 ((Int.tdiv a0 (4294967296 : Int))))).bind fun r1 =>
  if r1 = true then ((impl_isOff.f (Int.tmod a0 (4294967296 : Int))).bind fun r2 =>
    some r2)
  else some false
/-! impl.dataOk -/
noncomputable def impl_dataOk.f (a0 : ByteArray) : Option (Bool) := some (decide (((a0.size : Nat) : Int) ≤ (40 : Int)))
/-! impl.EpochOf -/
noncomputable def impl_EpochOf.f (a0 : Int) : Option (Int) := (impl_PlaceOk.f a0).bind fun r1 =>
  if r1 = true then some (wrap64 ((Int.tdiv a0 (4294967296 : Int))))
  else some (0 : Int)
/-! impl.EntryOk -/
mutual
noncomputable def impl_EntryOk.p4 : Nat → Bool → Entry → Option (Bool)
  | 0, _, _ => none
  | k + 1, x0, x1 => if x1.2.2.1 = true then (if (0 : Int) < x1.2.1 then impl_EntryOk.p6 k x0 (decide (x1.2.2.2.1 = (⟨#[]⟩ : ByteArray))) x1
      else impl_EntryOk.p6 k x0 false x1)
    else impl_EntryOk.p6 k x0 true x1
noncomputable def impl_EntryOk.p6 : Nat → Bool → Bool → Entry → Option (Bool)
  | 0, _, _, _ => none
  | k + 1, x0, x1, x2 => (impl_PlaceOk.f x2.1).bind fun r3 =>
    if r3 = true then (if x0 = true then (if x1 = true then ((impl_dataOk.f x2.2.2.2.1).bind fun r4 =>
          some r4)
        else some false)
      else some false)
    else some false
end
noncomputable def impl_EntryOk.f (k : Nat) (a0 : Entry) : Option (Bool) := (impl_within.f a0.2.1 (0 : Int) (30 : Int)).bind fun r1 =>
  if r1 = true then (if a0.2.1 = (0 : Int) then impl_EntryOk.p4 k true a0
    else (impl_EpochOf.f a0.1).bind fun r2 =>
    impl_EntryOk.p4 k (decide (r2 < a0.2.1)) a0)
  else impl_EntryOk.p4 k false a0
/-! impl.entriesOk -/
noncomputable def impl_entriesOk.p5 : Nat → (List Entry) → Int → Int → Option (Bool)
  | 0, _, _, _ => none
  | k + 1, x0, x1, x2 => if x2 < x1 then (if (0 : Int) ≤ x2 ∧ x2 < ((x0.length : Nat) : Int) then ((impl_EntryOk.f k (x0.getD x2.toNat ((0 : Int), ((0 : Int), (false, ((⟨#[]⟩ : ByteArray), ())))))).bind fun r1 =>
        if r1 = true then impl_entriesOk.p5 k x0 x1 (wrap64 (x2 + (1 : Int)))
        else some false)
      else none)
    else some true
noncomputable def impl_entriesOk.f (k : Nat) (a0 : (List Entry)) : Option (Bool) := impl_entriesOk.p5 k a0 ((a0.length : Nat) : Int) (0 : Int)
/-! impl.placesAscend -/
noncomputable def impl_placesAscend.p5 : Nat → (List Entry) → (List Entry) → Int → Int → Option (Bool)
  | 0, _, _, _, _ => none
  | k + 1, x0, x1, x2, x3 => if x3 < x2 then (if (0 : Int) ≤ x3 ∧ x3 < ((x1.length : Nat) : Int) then (if (0 : Int) < x3 then (if (0 : Int) ≤ (wrap64 (x3 - (1 : Int))) ∧ (wrap64 (x3 - (1 : Int))) < ((x0.length : Nat) : Int) then (if (x1.getD x3.toNat ((0 : Int), ((0 : Int), (false, ((⟨#[]⟩ : ByteArray), ()))))).1 ≤ (x0.getD (wrap64 (x3 - (1 : Int))).toNat ((0 : Int), ((0 : Int), (false, ((⟨#[]⟩ : ByteArray), ()))))).1 then some false
            else impl_placesAscend.p5 k x0 x1 x2 (wrap64 (x3 + (1 : Int))))
          else none)
        else impl_placesAscend.p5 k x0 x1 x2 (wrap64 (x3 + (1 : Int))))
      else none)
    else some true
noncomputable def impl_placesAscend.f (k : Nat) (a0 : (List Entry)) : Option (Bool) := impl_placesAscend.p5 k a0 a0 ((a0.length : Nat) : Int) (0 : Int)
/-! impl.StoreOk -/
noncomputable def impl_StoreOk.f (k : Nat) (a0 : Store) : Option (Bool) := if (200 : Int) < ((a0.1.length : Nat) : Int) then some false
  else if (20 : Int) < ((a0.2.1.length : Nat) : Int) then some false
  else (impl_entriesOk.f k a0.1).bind fun r1 =>
  if r1 = true then ((impl_entriesOk.f k a0.2.1).bind fun r2 =>
    if r2 = true then ((impl_placesAscend.f k a0.1).bind fun r3 =>
      if r3 = true then ((impl_within.f a0.2.2.1 (0 : Int) (30 : Int)).bind fun r4 =>
        some r4)
      else some false)
    else some false)
  else some false
/-! impl.copyInts -/
noncomputable def impl_copyInts.f (a0 : (List Int)) : Option ((List Int)) := if (((([] : List Int).length : Nat) : Int) + ((a0.length : Nat) : Int)) ≤ lim then some (([] : List Int) ++ a0)
  else none
/-! slices.DeleteFunc[[]int,int] at impl.both$1 -/
def slices_DeleteFunc_int_int_impl_both_1.okp (y : ((List Int) × Unit)) : Prop := y.1.length ≤ 1073741824
instance : DecidablePred slices_DeleteFunc_int_int_impl_both_1.okp := fun y => by unfold slices_DeleteFunc_int_int_impl_both_1.okp; infer_instance
def slices_DeleteFunc_int_int_impl_both_1.pred (y : ((List Int) × Unit)) (v : Int) : Bool := !(y.1.any fun u => decide (v = u))
noncomputable def slices_DeleteFunc_int_int_impl_both_1.f (a0 : List Int) (a1 : ((List Int) × Unit)) : Option (List Int) := if ((List.length a0 : Nat) : Int) ≤ lim ∧ slices_DeleteFunc_int_int_impl_both_1.okp a1 then some (List.filter (fun v => !slices_DeleteFunc_int_int_impl_both_1.pred a1 v) a0) else none

/-! impl.both -/
noncomputable def impl_both.f (a0 : (List Int)) (a1 : (List Int)) : Option ((List Int)) := (impl_copyInts.f a0).bind fun r1 =>
  (slices_DeleteFunc_int_int_impl_both_1.f r1 (a1, ())).bind fun r2 =>
  some r2
/-! impl.World).isLost -/
noncomputable def impl_World_isLost.f (a0 : World) (a1 : Int) : Option (Bool) := (impl_both.f ([a1] : List Int) a0.2.2.1).bind fun r1 =>
  some (decide ((0 : Int) < ((r1.length : Nat) : Int)))
/-! slices.Index[[]int,int] -/
noncomputable def slices_Index_int_int.p5 : Nat → (List Int) → Int → Int → Int → Option (Int)
  | 0, _, _, _, _ => none
  | k + 1, x0, x1, x2, x3 => if x3 < x2 then (if (0 : Int) ≤ x3 ∧ x3 < ((x0.length : Nat) : Int) then (if x1 = (x0.getD x3.toNat (0 : Int)) then some x3
        else slices_Index_int_int.p5 k x0 x1 x2 (wrap64 (x3 + (1 : Int))))
      else none)
    else some (-1 : Int)
noncomputable def slices_Index_int_int.f (k : Nat) (a0 : (List Int)) (a1 : Int) : Option (Int) := slices_Index_int_int.p5 k a0 a1 ((a0.length : Nat) : Int) (0 : Int)
/-! slices.Contains[[]int,int] -/
noncomputable def slices_Contains_int_int.f (k : Nat) (a0 : (List Int)) (a1 : Int) : Option (Bool) := (slices_Index_int_int.f k a0 a1).bind fun r1 =>
  some (decide ((0 : Int) ≤ r1))
/-! impl.SpanOf -/
noncomputable def impl_SpanOf.p11 : Nat → (List Int) → (List Int) → Int → Int → Config → Option (Int)
  | 0, _, _, _, _, _ => none
  | k + 1, x0, x1, x2, x3, x4 => if x3 < x2 then (if (0 : Int) ≤ x3 ∧ x3 < ((x1.length : Nat) : Int) then (if (0 : Int) ≤ (x1.getD x3.toNat (0 : Int)) ∧ (x1.getD x3.toNat (0 : Int)) < ((x4.1.length : Nat) : Int) then ((slices_Contains_int_int.f k x0 (x4.1.getD (x1.getD x3.toNat (0 : Int)).toNat (0 : Int))).bind fun r2 =>
          if r2 = true then impl_SpanOf.p11 k x0 x1 x2 (wrap64 (x3 + (1 : Int))) x4
          else if (0 : Int) ≤ (x1.getD x3.toNat (0 : Int)) ∧ (x1.getD x3.toNat (0 : Int)) < ((x4.1.length : Nat) : Int) then (if (((x0.length : Nat) : Int) + ((([(x4.1.getD (x1.getD x3.toNat (0 : Int)).toNat (0 : Int))] : List Int).length : Nat) : Int)) ≤ lim then impl_SpanOf.p11 k (x0 ++ ([(x4.1.getD (x1.getD x3.toNat (0 : Int)).toNat (0 : Int))] : List Int)) x1 x2 (wrap64 (x3 + (1 : Int))) x4
            else none)
          else none)
        else none)
      else none)
    else some ((x0.length : Nat) : Int)
noncomputable def impl_SpanOf.f (k : Nat) (a0 : Config) (a1 : (List Int)) : Option (Int) := (impl_NodesOk.f k a0 a1).bind fun r1 =>
  if r1 = true then impl_SpanOf.p11 k ([] : List Int) a1 ((a1.length : Nat) : Int) (0 : Int) a0
  else some (-1 : Int)
/-! impl.Holds -/
noncomputable def impl_Holds.f (k : Nat) (a0 : Config) (a1 : (List Int)) : Option (Bool) := (impl_NodesOk.f k a0 a1).bind fun r1 =>
  if r1 = true then ((impl_SpanOf.f k a0 a1).bind fun r2 =>
    some (decide (a0.2.1 ≤ r2)))
  else some false
/-! impl.World).storesOk -/
noncomputable def impl_World_storesOk.p9 : Nat → World → (List Store) → Int → Int → Option (Bool)
  | 0, _, _, _, _ => none
  | k + 1, x0, x1, x2, x3 => if x3 < x2 then (if (0 : Int) ≤ x3 ∧ x3 < ((x1.length : Nat) : Int) then ((impl_StoreOk.f k (x1.getD x3.toNat (([] : List Entry), (([] : List Entry), ((0 : Int), ()))))).bind fun r2 =>
        if r2 = true then ((impl_World_isLost.f x0 x3).bind fun r3 =>
          if r3 = true then (if (0 : Int) < (wrap64 ((wrap64 ((((x1.getD x3.toNat (([] : List Entry), (([] : List Entry), ((0 : Int), ())))).1.length : Nat) : Int) + (((x1.getD x3.toNat (([] : List Entry), (([] : List Entry), ((0 : Int), ())))).2.1.length : Nat) : Int))) + (x1.getD x3.toNat (([] : List Entry), (([] : List Entry), ((0 : Int), ())))).2.2.1)) then some false
            else impl_World_storesOk.p9 k x0 x1 x2 (wrap64 (x3 + (1 : Int))))
          else impl_World_storesOk.p9 k x0 x1 x2 (wrap64 (x3 + (1 : Int))))
        else some false)
      else none)
    else if x0.2.2.2.2.2.2.2.2.1 = true then some true
    else (impl_Holds.f k x0.1 x0.2.2.1).bind fun r4 =>
    some (!(decide (r4 = true)))
noncomputable def impl_World_storesOk.f (k : Nat) (a0 : World) : Option (Bool) := if ((a0.2.1.length : Nat) : Int) = ((a0.1.1.length : Nat) : Int) then ((impl_NodesOk.f k a0.1 a0.2.2.1).bind fun r1 =>
    if r1 = true then impl_World_storesOk.p9 k a0 a0.2.1 ((a0.2.1.length : Nat) : Int) (0 : Int)
    else some false)
  else some false
/-! impl.eraOk -/
noncomputable def impl_eraOk.f (k : Nat) (a0 : Config) (a1 : Era) : Option (Bool) := (impl_Holds.f k a0 a1.1).bind fun r1 =>
  if r1 = true then ((impl_within.f a1.2.2.1 (0 : Int) (60 : Int)).bind fun r2 =>
    if r2 = true then (if a1.2.1 = true then some true
      else some (decide (a1.2.2.1 = (0 : Int))))
    else some false)
  else some false
/-! impl.RegOk -/
mutual
noncomputable def impl_RegOk.p5 : Nat → (List Era) → Int → Int → Config → Register → Option (Bool)
  | 0, _, _, _, _, _ => none
  | k + 1, x0, x1, x2, x3, x4 => if x2 < x1 then (if (0 : Int) ≤ x2 ∧ x2 < ((x0.length : Nat) : Int) then ((impl_eraOk.f k x3 (x0.getD x2.toNat (([] : List Int), (false, ((0 : Int), ()))))).bind fun r1 =>
        if r1 = true then (if (x0.getD x2.toNat (([] : List Int), (false, ((0 : Int), ())))).2.1 = true then (if x2 = (wrap64 (((x4.1.length : Nat) : Int) - (1 : Int))) then some false
            else if (0 : Int) < x2 then (if (0 : Int) ≤ (wrap64 (x2 - (1 : Int))) ∧ (wrap64 (x2 - (1 : Int))) < ((x4.1.length : Nat) : Int) then (if (x4.1.getD (wrap64 (x2 - (1 : Int))).toNat (([] : List Int), (false, ((0 : Int), ())))).2.1 = true then impl_RegOk.p5 k x0 x1 (wrap64 (x2 + (1 : Int))) x3 x4
                else some false)
              else none)
            else impl_RegOk.p5 k x0 x1 (wrap64 (x2 + (1 : Int))) x3 x4)
          else impl_RegOk.p5 k x0 x1 (wrap64 (x2 + (1 : Int))) x3 x4)
        else some false)
      else none)
    else if x4.2.1 = (0 : Int) then impl_RegOk.p16 k true x3 x4
    else (impl_EpochOf.f x4.2.1).bind fun r2 =>
    (impl_within.f r2 (1 : Int) ((x4.1.length : Nat) : Int)).bind fun r3 =>
    impl_RegOk.p16 k r3 x3 x4
noncomputable def impl_RegOk.p16 : Nat → Bool → Config → Register → Option (Bool)
  | 0, _, _, _ => none
  | k + 1, x0, x1, x2 => (impl_ConfigOk.f k x1).bind fun r4 =>
    if r4 = true then (if ((x2.1.length : Nat) : Int) ≤ (30 : Int) then some x0
      else some false)
    else some false
end
noncomputable def impl_RegOk.f (k : Nat) (a0 : Config) (a1 : Register) : Option (Bool) := impl_RegOk.p5 k a1.1 ((a1.1.length : Nat) : Int) (0 : Int) a0 a1
/-! impl.flagNum -/
noncomputable def impl_flagNum.f (a0 : Bool) : Option (Int) := if a0 = true then some (1 : Int)
  else some (0 : Int)
/-! impl.WriterOk -/
noncomputable def impl_WriterOk.p7 : Nat → Int → (List Word) → Int → Int → Config → Writer → Option (Bool)
  | 0, _, _, _, _, _, _ => none
  | k + 1, x0, x1, x2, x3, x4, x5 => if x3 < x2 then (if (0 : Int) ≤ x3 ∧ x3 < ((x1.length : Nat) : Int) then ((impl_dataOk.f (x1.getD x3.toNat ((⟨#[]⟩ : ByteArray), (([] : List Int), (false, ())))).1).bind fun r1 =>
        if r1 = true then ((impl_NodesOk.f k x4 (x1.getD x3.toNat ((⟨#[]⟩ : ByteArray), (([] : List Int), (false, ())))).2.1).bind fun r2 =>
          if r2 = true then ((impl_Holds.f k x4 (x1.getD x3.toNat ((⟨#[]⟩ : ByteArray), (([] : List Int), (false, ())))).2.1).bind fun r3 =>
            if (x1.getD x3.toNat ((⟨#[]⟩ : ByteArray), (([] : List Int), (false, ())))).2.2.1 = r3 then ((impl_flagNum.f (!(decide ((x1.getD x3.toNat ((⟨#[]⟩ : ByteArray), (([] : List Int), (false, ())))).2.2.1 = true)))).bind fun r4 =>
              impl_WriterOk.p7 k (wrap64 (x0 + r4)) x1 x2 (wrap64 (x3 + (1 : Int))) x4 x5)
            else some false)
          else some false)
        else some false)
      else none)
    else (impl_ConfigOk.f k x4).bind fun r5 =>
    if r5 = true then ((impl_isEpoch.f x5.1).bind fun r6 =>
      if r6 = true then (if ((x5.2.1.length : Nat) : Int) ≤ (60 : Int) then some (decide (x0 ≤ (6 : Int)))
        else some false)
      else some false)
    else some false
noncomputable def impl_WriterOk.f (k : Nat) (a0 : Config) (a1 : Writer) : Option (Bool) := impl_WriterOk.p7 k (0 : Int) a1.2.1 ((a1.2.1.length : Nat) : Int) (0 : Int) a0 a1
/-! impl.World).isThere -/
noncomputable def impl_World_isThere.f (a0 : World) (a1 : Int) : Option (Bool) := (impl_within.f a1 (1 : Int) ((a0.2.2.2.1.1.length : Nat) : Int)).bind fun r1 =>
  some r1
/-! impl.World).writersOk -/
noncomputable def impl_World_writersOk.p5 : Nat → World → (List Writer) → Int → Int → Option (Bool)
  | 0, _, _, _, _ => none
  | k + 1, x0, x1, x2, x3 => if x3 < x2 then (if (0 : Int) ≤ x3 ∧ x3 < ((x1.length : Nat) : Int) then ((impl_WriterOk.f k x0.1 (x1.getD x3.toNat ((0 : Int), (([] : List Word), ())))).bind fun r1 =>
        if r1 = true then ((impl_World_isThere.f x0 (x1.getD x3.toNat ((0 : Int), (([] : List Word), ()))).1).bind fun r2 =>
          if r2 = true then (if (0 : Int) < x3 then (if (0 : Int) ≤ (wrap64 (x3 - (1 : Int))) ∧ (wrap64 (x3 - (1 : Int))) < ((x0.2.2.2.2.1.length : Nat) : Int) then (if (x1.getD x3.toNat ((0 : Int), (([] : List Word), ()))).1 ≤ (x0.2.2.2.2.1.getD (wrap64 (x3 - (1 : Int))).toNat ((0 : Int), (([] : List Word), ()))).1 then some false
                else impl_World_writersOk.p5 k x0 x1 x2 (wrap64 (x3 + (1 : Int))))
              else none)
            else impl_World_writersOk.p5 k x0 x1 x2 (wrap64 (x3 + (1 : Int))))
          else some false)
        else some false)
      else none)
    else some (decide (((x0.2.2.2.2.1.length : Nat) : Int) ≤ (4 : Int)))
noncomputable def impl_World_writersOk.f (k : Nat) (a0 : World) : Option (Bool) := impl_World_writersOk.p5 k a0 a0.2.2.2.2.1 ((a0.2.2.2.2.1.length : Nat) : Int) (0 : Int)
/-! impl.OffOf -/
noncomputable def impl_OffOf.f (a0 : Int) : Option (Int) := (impl_PlaceOk.f a0).bind fun r1 =>
  if r1 = true then some (Int.tmod a0 (4294967296 : Int))
  else some (0 : Int)
/-! impl.lastOff -/
noncomputable def impl_lastOff.f (a0 : Mend) : Option (Int) := if ((a0.2.2.2.1.length : Nat) : Int) = (0 : Int) then some (0 : Int)
  else if (0 : Int) ≤ (wrap64 (((a0.2.2.2.1.length : Nat) : Int) - (1 : Int))) ∧ (wrap64 (((a0.2.2.2.1.length : Nat) : Int) - (1 : Int))) < ((a0.2.2.2.1.length : Nat) : Int) then ((impl_OffOf.f (a0.2.2.2.1.getD (wrap64 (((a0.2.2.2.1.length : Nat) : Int) - (1 : Int))).toNat ((0 : Int), ((0 : Int), (false, ((⟨#[]⟩ : ByteArray), ()))))).1).bind fun r1 =>
    some r1)
  else none
/-! impl.seenOk -/
noncomputable def impl_seenOk.p5 : Nat → (List Entry) → Int → Int → Mend → Option (Bool)
  | 0, _, _, _, _ => none
  | k + 1, x0, x1, x2, x3 => if x2 < x1 then (if (0 : Int) ≤ x2 ∧ x2 < ((x0.length : Nat) : Int) then ((impl_EntryOk.f k (x0.getD x2.toNat ((0 : Int), ((0 : Int), (false, ((⟨#[]⟩ : ByteArray), ())))))).bind fun r1 =>
        if r1 = true then ((impl_EpochOf.f (x0.getD x2.toNat ((0 : Int), ((0 : Int), (false, ((⟨#[]⟩ : ByteArray), ()))))).1).bind fun r2 =>
          if r2 = x3.2.1 then (if x3.1 ≤ (x0.getD x2.toNat ((0 : Int), ((0 : Int), (false, ((⟨#[]⟩ : ByteArray), ()))))).2.1 then some false
            else impl_seenOk.p5 k x0 x1 (wrap64 (x2 + (1 : Int))) x3)
          else some false)
        else some false)
      else none)
    else (impl_placesAscend.f k x3.2.2.2.1).bind fun r3 =>
    some r3
noncomputable def impl_seenOk.f (k : Nat) (a0 : Mend) : Option (Bool) := impl_seenOk.p5 k a0.2.2.2.1 ((a0.2.2.2.1.length : Nat) : Int) (0 : Int) a0
/-! impl.MendOk -/
mutual
noncomputable def impl_MendOk.p5 : Nat → (List (List Int)) → Int → Int → Config → Mend → Option (Bool)
  | 0, _, _, _, _, _ => none
  | k + 1, x0, x1, x2, x3, x4 => if x2 < x1 then (if (0 : Int) ≤ x2 ∧ x2 < ((x0.length : Nat) : Int) then ((impl_NodesOk.f k x3 (x0.getD x2.toNat ([] : List Int))).bind fun r1 =>
        if r1 = true then impl_MendOk.p5 k x0 x1 (wrap64 (x2 + (1 : Int))) x3 x4
        else some false)
      else none)
    else if x4.2.2.2.2.1 = true then ((impl_lastOff.f x4).bind fun r2 =>
      impl_MendOk.p20 k r2 x3 x4)
    else impl_MendOk.p20 k (0 : Int) x3 x4
noncomputable def impl_MendOk.p20 : Nat → Int → Config → Mend → Option (Bool)
  | 0, _, _, _ => none
  | k + 1, x0, x1, x2 => (impl_isEpoch.f x2.2.1).bind fun r3 =>
    if r3 = true then ((impl_within.f x2.1 (wrap64 (x2.2.1 + (1 : Int))) (30 : Int)).bind fun r4 =>
      impl_MendOk.p22 k x0 r4 x1 x2)
    else impl_MendOk.p22 k x0 false x1 x2
noncomputable def impl_MendOk.p22 : Nat → Int → Bool → Config → Mend → Option (Bool)
  | 0, _, _, _, _ => none
  | k + 1, x0, x1, x2, x3 => (impl_ConfigOk.f k x2).bind fun r5 =>
    if r5 = true then (if x1 = true then ((impl_NodesOk.f k x2 x3.2.2.1).bind fun r6 =>
        if r6 = true then ((impl_seenOk.f k x3).bind fun r7 =>
          if r7 = true then some (decide (((x3.2.2.2.2.2.1.length : Nat) : Int) = x0))
          else some false)
        else some false)
      else some false)
    else some false
end
noncomputable def impl_MendOk.f (k : Nat) (a0 : Config) (a1 : Mend) : Option (Bool) := impl_MendOk.p5 k a1.2.2.2.2.2.1 ((a1.2.2.2.2.2.1.length : Nat) : Int) (0 : Int) a0 a1
/-! impl.FirstOpen -/
noncomputable def impl_FirstOpen.p5 : Nat → (List Era) → Int → Int → Option (Int)
  | 0, _, _, _ => none
  | k + 1, x0, x1, x2 => if x2 < x1 then (if (0 : Int) ≤ x2 ∧ x2 < ((x0.length : Nat) : Int) then (if (x0.getD x2.toNat (([] : List Int), (false, ((0 : Int), ())))).2.1 = true then impl_FirstOpen.p5 k x0 x1 (wrap64 (x2 + (1 : Int)))
        else some (wrap64 (x2 + (1 : Int))))
      else none)
    else some (0 : Int)
noncomputable def impl_FirstOpen.f (k : Nat) (a0 : Register) : Option (Int) := impl_FirstOpen.p5 k a0.1 ((a0.1.length : Nat) : Int) (0 : Int)
/-! impl.World).mendsOk -/
noncomputable def impl_World_mendsOk.p5 : Nat → World → (List Mend) → Int → Int → Option (Bool)
  | 0, _, _, _, _ => none
  | k + 1, x0, x1, x2, x3 => if x3 < x2 then (if (0 : Int) ≤ x3 ∧ x3 < ((x1.length : Nat) : Int) then ((impl_MendOk.f k x0.1 (x1.getD x3.toNat ((0 : Int), ((0 : Int), (([] : List Int), (([] : List Entry), (false, (([] : List (List Int)), ())))))))).bind fun r1 =>
        if r1 = true then (if (x1.getD x3.toNat ((0 : Int), ((0 : Int), (([] : List Int), (([] : List Entry), (false, (([] : List (List Int)), ()))))))).1 = ((x0.2.2.2.1.1.length : Nat) : Int) then ((impl_FirstOpen.f k x0.2.2.2.1).bind fun r2 =>
            if (x1.getD x3.toNat ((0 : Int), ((0 : Int), (([] : List Int), (([] : List Entry), (false, (([] : List (List Int)), ()))))))).2.1 = r2 then impl_World_mendsOk.p5 k x0 x1 x2 (wrap64 (x3 + (1 : Int)))
            else some false)
          else some false)
        else some false)
      else none)
    else some (decide (((x0.2.2.2.2.2.1.length : Nat) : Int) ≤ (1 : Int)))
noncomputable def impl_World_mendsOk.f (k : Nat) (a0 : World) : Option (Bool) := impl_World_mendsOk.p5 k a0 a0.2.2.2.2.2.1 ((a0.2.2.2.2.2.1.length : Nat) : Int) (0 : Int)
/-! impl.ReaderOk -/
noncomputable def impl_ReaderOk.f (a0 : Reader) : Option (Bool) := (impl_within.f a0.1 (1 : Int) (31 : Int)).bind fun r1 =>
  if r1 = true then ((impl_within.f a0.2.1 (1 : Int) (61 : Int)).bind fun r2 =>
    if r2 = true then some (decide (((a0.2.2.1.length : Nat) : Int) ≤ (120 : Int)))
    else some false)
  else some false
/-! impl.World).readersOk -/
noncomputable def impl_World_readersOk.p5 : Nat → World → (List Reader) → Int → Int → Option (Bool)
  | 0, _, _, _, _ => none
  | k + 1, x0, x1, x2, x3 => if x3 < x2 then (if (0 : Int) ≤ x3 ∧ x3 < ((x1.length : Nat) : Int) then ((impl_ReaderOk.f (x1.getD x3.toNat ((0 : Int), ((0 : Int), (([] : List Event), ()))))).bind fun r1 =>
        if r1 = true then impl_World_readersOk.p5 k x0 x1 x2 (wrap64 (x3 + (1 : Int)))
        else some false)
      else none)
    else some (decide (((x0.2.2.2.2.2.2.1.length : Nat) : Int) = (2 : Int)))
noncomputable def impl_World_readersOk.f (k : Nat) (a0 : World) : Option (Bool) := impl_World_readersOk.p5 k a0 a0.2.2.2.2.2.2.1 ((a0.2.2.2.2.2.2.1.length : Nat) : Int) (0 : Int)
/-! impl.World).sentOk -/
noncomputable def impl_World_sentOk.p5 : Nat → World → (List Sent) → Int → Int → Option (Bool)
  | 0, _, _, _, _ => none
  | k + 1, x0, x1, x2, x3 => if x3 < x2 then (if (0 : Int) ≤ x3 ∧ x3 < ((x1.length : Nat) : Int) then ((impl_EpochOf.f (x1.getD x3.toNat ((0 : Int), ((⟨#[]⟩ : ByteArray), (false, ())))).1).bind fun r1 =>
        (impl_World_isThere.f x0 r1).bind fun r2 =>
        if r2 = true then ((impl_dataOk.f (x1.getD x3.toNat ((0 : Int), ((⟨#[]⟩ : ByteArray), (false, ())))).2.1).bind fun r3 =>
          if r3 = true then (if (0 : Int) < x3 then (if (0 : Int) ≤ (wrap64 (x3 - (1 : Int))) ∧ (wrap64 (x3 - (1 : Int))) < ((x0.2.2.2.2.2.2.2.1.length : Nat) : Int) then (if (x1.getD x3.toNat ((0 : Int), ((⟨#[]⟩ : ByteArray), (false, ())))).1 ≤ (x0.2.2.2.2.2.2.2.1.getD (wrap64 (x3 - (1 : Int))).toNat ((0 : Int), ((⟨#[]⟩ : ByteArray), (false, ())))).1 then some false
                else impl_World_sentOk.p5 k x0 x1 x2 (wrap64 (x3 + (1 : Int))))
              else none)
            else impl_World_sentOk.p5 k x0 x1 x2 (wrap64 (x3 + (1 : Int))))
          else some false)
        else some false)
      else none)
    else some (decide (((x0.2.2.2.2.2.2.2.1.length : Nat) : Int) ≤ (120 : Int)))
noncomputable def impl_World_sentOk.f (k : Nat) (a0 : World) : Option (Bool) := impl_World_sentOk.p5 k a0 a0.2.2.2.2.2.2.2.1 ((a0.2.2.2.2.2.2.2.1.length : Nat) : Int) (0 : Int)
/-! impl.WorldOk -/
noncomputable def impl_WorldOk.p4 : Nat → Bool → World → Option (Bool)
  | 0, _, _ => none
  | k + 1, x0, x1 => if x0 = true then ((impl_World_writersOk.f k x1).bind fun r4 =>
      if r4 = true then ((impl_World_mendsOk.f k x1).bind fun r5 =>
        if r5 = true then ((impl_World_readersOk.f k x1).bind fun r6 =>
          if r6 = true then ((impl_World_sentOk.f k x1).bind fun r7 =>
            some r7)
          else some false)
        else some false)
      else some false)
    else some false
noncomputable def impl_WorldOk.f (k : Nat) (a0 : World) : Option (Bool) := (impl_ConfigOk.f k a0.1).bind fun r1 =>
  if r1 = true then ((impl_World_storesOk.f k a0).bind fun r2 =>
    if r2 = true then ((impl_RegOk.f k a0.1 a0.2.2.2.1).bind fun r3 =>
      impl_WorldOk.p4 k r3 a0)
    else impl_WorldOk.p4 k false a0)
  else impl_WorldOk.p4 k false a0
/-! impl.placeIn$1 -/
noncomputable def impl_placeIn_1.f (a0 : Entry) (a1 : Int) : Option (Int) := if a0.1 < a1 then some (-1 : Int)
  else if a1 < a0.1 then some (1 : Int)
  else some (0 : Int)
/-! impl.Entry,int] -/
noncomputable def slices_BinarySearchFunc_impl_Entry_impl_Entry_int_impl_placeIn_1.p7 : Nat → (List Entry) → Int → Unit → Int → Int → Int → Option (Int × Bool)
  | 0, _, _, _, _, _, _ => none
  | k + 1, x0, x1, x2, x3, x4, x5 => if x4 < x5 then (if (0 : Int) ≤ (wrap64 ((shrK .u64 (IntKind.wrap .u64 ((wrap64 (x4 + x5)))) (1 : Int)))) ∧ (wrap64 ((shrK .u64 (IntKind.wrap .u64 ((wrap64 (x4 + x5)))) (1 : Int)))) < ((x0.length : Nat) : Int) then ((impl_placeIn_1.f (x0.getD (wrap64 ((shrK .u64 (IntKind.wrap .u64 ((wrap64 (x4 + x5)))) (1 : Int)))).toNat ((0 : Int), ((0 : Int), (false, ((⟨#[]⟩ : ByteArray), ()))))) x1).bind fun r1 =>
        if r1 < (0 : Int) then slices_BinarySearchFunc_impl_Entry_impl_Entry_int_impl_placeIn_1.p7 k x0 x1 x2 x3 (wrap64 ((wrap64 ((shrK .u64 (IntKind.wrap .u64 ((wrap64 (x4 + x5)))) (1 : Int)))) + (1 : Int))) x5
        else slices_BinarySearchFunc_impl_Entry_impl_Entry_int_impl_placeIn_1.p7 k x0 x1 x2 x3 x4 (wrap64 ((shrK .u64 (IntKind.wrap .u64 ((wrap64 (x4 + x5)))) (1 : Int)))))
      else none)
    else if x4 < x3 then (if (0 : Int) ≤ x4 ∧ x4 < ((x0.length : Nat) : Int) then ((impl_placeIn_1.f (x0.getD x4.toNat ((0 : Int), ((0 : Int), (false, ((⟨#[]⟩ : ByteArray), ()))))) x1).bind fun r2 =>
        some (x4, (decide (r2 = (0 : Int)))))
      else none)
    else some (x4, false)
noncomputable def slices_BinarySearchFunc_impl_Entry_impl_Entry_int_impl_placeIn_1.f (k : Nat) (a0 : (List Entry)) (a1 : Int) (a2 : Unit) : Option (Int × Bool) := slices_BinarySearchFunc_impl_Entry_impl_Entry_int_impl_placeIn_1.p7 k a0 a1 a2 ((a0.length : Nat) : Int) (0 : Int) ((a0.length : Nat) : Int)
/-! impl.placeIn -/
noncomputable def impl_placeIn.f (k : Nat) (a0 : (List Entry)) (a1 : Int) : Option (Int × Bool) := (slices_BinarySearchFunc_impl_Entry_impl_Entry_int_impl_placeIn_1.f k a0 a1 ()).bind fun r1 =>
  some (r1.1, r1.2)
/-! impl.StoreGet -/
noncomputable def impl_StoreGet.f (k : Nat) (a0 : Store) (a1 : Int) : Option (Entry × Bool) := (impl_StoreOk.f k a0).bind fun r1 =>
  if r1 = true then ((impl_placeIn.f k a0.1 a1).bind fun r2 =>
    if r2.2 = true then (if (0 : Int) ≤ r2.1 ∧ r2.1 < ((a0.1.length : Nat) : Int) then some ((a0.1.getD r2.1.toNat ((0 : Int), ((0 : Int), (false, ((⟨#[]⟩ : ByteArray), ()))))), true)
      else none)
    else some (((0 : Int), ((0 : Int), (false, ((⟨#[]⟩ : ByteArray), ())))), false))
  else some (((0 : Int), ((0 : Int), (false, ((⟨#[]⟩ : ByteArray), ())))), false)
/-! impl.HoldersOf -/
noncomputable def impl_HoldersOf.p11 : Nat → Int → (List Int) → (List Store) → Int → Int → Option ((List Int))
  | 0, _, _, _, _, _ => none
  | k + 1, x0, x1, x2, x3, x4 => if x4 < x3 then (if (0 : Int) ≤ x4 ∧ x4 < ((x2.length : Nat) : Int) then ((impl_StoreGet.f k (x2.getD x4.toNat (([] : List Entry), (([] : List Entry), ((0 : Int), ())))) x0).bind fun r2 =>
        if r2.2 = true then (if (((x1.length : Nat) : Int) + ((([x4] : List Int).length : Nat) : Int)) ≤ lim then impl_HoldersOf.p11 k x0 (x1 ++ ([x4] : List Int)) x2 x3 (wrap64 (x4 + (1 : Int)))
          else none)
        else impl_HoldersOf.p11 k x0 x1 x2 x3 (wrap64 (x4 + (1 : Int))))
      else none)
    else some x1
noncomputable def impl_HoldersOf.f (k : Nat) (a0 : World) (a1 : Int) : Option ((List Int)) := (impl_WorldOk.f k a0).bind fun r1 =>
  if r1 = true then impl_HoldersOf.p11 k a1 ([] : List Int) a0.2.1 ((a0.2.1.length : Nat) : Int) (0 : Int)
  else some ([] : List Int)
/-! laws.eqIntS -/
noncomputable def laws_eqIntS.p9 : Nat → (List Int) → (List Int) → Int → Option (Bool)
  | 0, _, _, _ => none
  | k + 1, x0, x1, x2 => if x2 < ((x0.length : Nat) : Int) then (if (0 : Int) ≤ x2 ∧ x2 < ((x0.length : Nat) : Int) then (if (0 : Int) ≤ x2 ∧ x2 < ((x1.length : Nat) : Int) then (if (x0.getD x2.toNat (0 : Int)) = (x1.getD x2.toNat (0 : Int)) then laws_eqIntS.p9 k x0 x1 (wrap64 (x2 + (1 : Int)))
          else some false)
        else none)
      else none)
    else some true
noncomputable def laws_eqIntS.f (k : Nat) (a0 : (List Int)) (a1 : (List Int)) : Option (Bool) := if ((a0.length : Nat) : Int) = ((a1.length : Nat) : Int) then laws_eqIntS.p9 k a0 a1 (0 : Int)
  else some false
/-! laws.eqConfig -/
noncomputable def laws_eqConfig.f (k : Nat) (a0 : Config) (a1 : Config) : Option (Bool) := (laws_eqIntS.f k a0.1 a1.1).bind fun r1 =>
  if r1 = true then (if a0.2.1 = a1.2.1 then some true
    else some false)
  else some false
/-! laws.eqEntry -/
noncomputable def laws_eqEntry.f (a0 : Entry) (a1 : Entry) : Option (Bool) := if a0.1 = a1.1 then (if a0.2.1 = a1.2.1 then (if a0.2.2.1 = a1.2.2.1 then (if a0.2.2.2.1 = a1.2.2.2.1 then some true
        else some false)
      else some false)
    else some false)
  else some false
/-! laws.eqEntryS -/
noncomputable def laws_eqEntryS.p9 : Nat → (List Entry) → (List Entry) → Int → Option (Bool)
  | 0, _, _, _ => none
  | k + 1, x0, x1, x2 => if x2 < ((x0.length : Nat) : Int) then (if (0 : Int) ≤ x2 ∧ x2 < ((x0.length : Nat) : Int) then (if (0 : Int) ≤ x2 ∧ x2 < ((x1.length : Nat) : Int) then ((laws_eqEntry.f (x0.getD x2.toNat ((0 : Int), ((0 : Int), (false, ((⟨#[]⟩ : ByteArray), ()))))) (x1.getD x2.toNat ((0 : Int), ((0 : Int), (false, ((⟨#[]⟩ : ByteArray), ())))))).bind fun r1 =>
          if r1 = true then laws_eqEntryS.p9 k x0 x1 (wrap64 (x2 + (1 : Int)))
          else some false)
        else none)
      else none)
    else some true
noncomputable def laws_eqEntryS.f (k : Nat) (a0 : (List Entry)) (a1 : (List Entry)) : Option (Bool) := if ((a0.length : Nat) : Int) = ((a1.length : Nat) : Int) then laws_eqEntryS.p9 k a0 a1 (0 : Int)
  else some false
/-! laws.eqStore -/
noncomputable def laws_eqStore.f (k : Nat) (a0 : Store) (a1 : Store) : Option (Bool) := (laws_eqEntryS.f k a0.1 a1.1).bind fun r1 =>
  if r1 = true then ((laws_eqEntryS.f k a0.2.1 a1.2.1).bind fun r2 =>
    if r2 = true then (if a0.2.2.1 = a1.2.2.1 then some true
      else some false)
    else some false)
  else some false
/-! laws.eqStoreS -/
noncomputable def laws_eqStoreS.p9 : Nat → (List Store) → (List Store) → Int → Option (Bool)
  | 0, _, _, _ => none
  | k + 1, x0, x1, x2 => if x2 < ((x0.length : Nat) : Int) then (if (0 : Int) ≤ x2 ∧ x2 < ((x0.length : Nat) : Int) then (if (0 : Int) ≤ x2 ∧ x2 < ((x1.length : Nat) : Int) then ((laws_eqStore.f k (x0.getD x2.toNat (([] : List Entry), (([] : List Entry), ((0 : Int), ())))) (x1.getD x2.toNat (([] : List Entry), (([] : List Entry), ((0 : Int), ()))))).bind fun r1 =>
          if r1 = true then laws_eqStoreS.p9 k x0 x1 (wrap64 (x2 + (1 : Int)))
          else some false)
        else none)
      else none)
    else some true
noncomputable def laws_eqStoreS.f (k : Nat) (a0 : (List Store)) (a1 : (List Store)) : Option (Bool) := if ((a0.length : Nat) : Int) = ((a1.length : Nat) : Int) then laws_eqStoreS.p9 k a0 a1 (0 : Int)
  else some false
/-! laws.eqEra -/
noncomputable def laws_eqEra.f (k : Nat) (a0 : Era) (a1 : Era) : Option (Bool) := (laws_eqIntS.f k a0.1 a1.1).bind fun r1 =>
  if r1 = true then (if a0.2.1 = a1.2.1 then (if a0.2.2.1 = a1.2.2.1 then some true
      else some false)
    else some false)
  else some false
/-! laws.eqEraS -/
noncomputable def laws_eqEraS.p9 : Nat → (List Era) → (List Era) → Int → Option (Bool)
  | 0, _, _, _ => none
  | k + 1, x0, x1, x2 => if x2 < ((x0.length : Nat) : Int) then (if (0 : Int) ≤ x2 ∧ x2 < ((x0.length : Nat) : Int) then (if (0 : Int) ≤ x2 ∧ x2 < ((x1.length : Nat) : Int) then ((laws_eqEra.f k (x0.getD x2.toNat (([] : List Int), (false, ((0 : Int), ())))) (x1.getD x2.toNat (([] : List Int), (false, ((0 : Int), ()))))).bind fun r1 =>
          if r1 = true then laws_eqEraS.p9 k x0 x1 (wrap64 (x2 + (1 : Int)))
          else some false)
        else none)
      else none)
    else some true
noncomputable def laws_eqEraS.f (k : Nat) (a0 : (List Era)) (a1 : (List Era)) : Option (Bool) := if ((a0.length : Nat) : Int) = ((a1.length : Nat) : Int) then laws_eqEraS.p9 k a0 a1 (0 : Int)
  else some false
/-! laws.eqRegister -/
noncomputable def laws_eqRegister.f (k : Nat) (a0 : Register) (a1 : Register) : Option (Bool) := (laws_eqEraS.f k a0.1 a1.1).bind fun r1 =>
  if r1 = true then (if a0.2.1 = a1.2.1 then some true
    else some false)
  else some false
/-! laws.eqWord -/
noncomputable def laws_eqWord.f (k : Nat) (a0 : Word) (a1 : Word) : Option (Bool) := if a0.1 = a1.1 then ((laws_eqIntS.f k a0.2.1 a1.2.1).bind fun r1 =>
    if r1 = true then (if a0.2.2.1 = a1.2.2.1 then some true
      else some false)
    else some false)
  else some false
/-! laws.eqWordS -/
noncomputable def laws_eqWordS.p9 : Nat → (List Word) → (List Word) → Int → Option (Bool)
  | 0, _, _, _ => none
  | k + 1, x0, x1, x2 => if x2 < ((x0.length : Nat) : Int) then (if (0 : Int) ≤ x2 ∧ x2 < ((x0.length : Nat) : Int) then (if (0 : Int) ≤ x2 ∧ x2 < ((x1.length : Nat) : Int) then ((laws_eqWord.f k (x0.getD x2.toNat ((⟨#[]⟩ : ByteArray), (([] : List Int), (false, ())))) (x1.getD x2.toNat ((⟨#[]⟩ : ByteArray), (([] : List Int), (false, ()))))).bind fun r1 =>
          if r1 = true then laws_eqWordS.p9 k x0 x1 (wrap64 (x2 + (1 : Int)))
          else some false)
        else none)
      else none)
    else some true
noncomputable def laws_eqWordS.f (k : Nat) (a0 : (List Word)) (a1 : (List Word)) : Option (Bool) := if ((a0.length : Nat) : Int) = ((a1.length : Nat) : Int) then laws_eqWordS.p9 k a0 a1 (0 : Int)
  else some false
/-! laws.eqWriter -/
noncomputable def laws_eqWriter.f (k : Nat) (a0 : Writer) (a1 : Writer) : Option (Bool) := if a0.1 = a1.1 then ((laws_eqWordS.f k a0.2.1 a1.2.1).bind fun r1 =>
    if r1 = true then some true
    else some false)
  else some false
/-! laws.eqWriterS -/
noncomputable def laws_eqWriterS.p9 : Nat → (List Writer) → (List Writer) → Int → Option (Bool)
  | 0, _, _, _ => none
  | k + 1, x0, x1, x2 => if x2 < ((x0.length : Nat) : Int) then (if (0 : Int) ≤ x2 ∧ x2 < ((x0.length : Nat) : Int) then (if (0 : Int) ≤ x2 ∧ x2 < ((x1.length : Nat) : Int) then ((laws_eqWriter.f k (x0.getD x2.toNat ((0 : Int), (([] : List Word), ()))) (x1.getD x2.toNat ((0 : Int), (([] : List Word), ())))).bind fun r1 =>
          if r1 = true then laws_eqWriterS.p9 k x0 x1 (wrap64 (x2 + (1 : Int)))
          else some false)
        else none)
      else none)
    else some true
noncomputable def laws_eqWriterS.f (k : Nat) (a0 : (List Writer)) (a1 : (List Writer)) : Option (Bool) := if ((a0.length : Nat) : Int) = ((a1.length : Nat) : Int) then laws_eqWriterS.p9 k a0 a1 (0 : Int)
  else some false
/-! laws.eqIntSS -/
noncomputable def laws_eqIntSS.p9 : Nat → (List (List Int)) → (List (List Int)) → Int → Option (Bool)
  | 0, _, _, _ => none
  | k + 1, x0, x1, x2 => if x2 < ((x0.length : Nat) : Int) then (if (0 : Int) ≤ x2 ∧ x2 < ((x0.length : Nat) : Int) then (if (0 : Int) ≤ x2 ∧ x2 < ((x1.length : Nat) : Int) then ((laws_eqIntS.f k (x0.getD x2.toNat ([] : List Int)) (x1.getD x2.toNat ([] : List Int))).bind fun r1 =>
          if r1 = true then laws_eqIntSS.p9 k x0 x1 (wrap64 (x2 + (1 : Int)))
          else some false)
        else none)
      else none)
    else some true
noncomputable def laws_eqIntSS.f (k : Nat) (a0 : (List (List Int))) (a1 : (List (List Int))) : Option (Bool) := if ((a0.length : Nat) : Int) = ((a1.length : Nat) : Int) then laws_eqIntSS.p9 k a0 a1 (0 : Int)
  else some false
/-! laws.eqMend -/
noncomputable def laws_eqMend.f (k : Nat) (a0 : Mend) (a1 : Mend) : Option (Bool) := if a0.1 = a1.1 then (if a0.2.1 = a1.2.1 then ((laws_eqIntS.f k a0.2.2.1 a1.2.2.1).bind fun r1 =>
      if r1 = true then ((laws_eqEntryS.f k a0.2.2.2.1 a1.2.2.2.1).bind fun r2 =>
        if r2 = true then (if a0.2.2.2.2.1 = a1.2.2.2.2.1 then ((laws_eqIntSS.f k a0.2.2.2.2.2.1 a1.2.2.2.2.2.1).bind fun r3 =>
            if r3 = true then some true
            else some false)
          else some false)
        else some false)
      else some false)
    else some false)
  else some false
/-! laws.eqMendS -/
noncomputable def laws_eqMendS.p9 : Nat → (List Mend) → (List Mend) → Int → Option (Bool)
  | 0, _, _, _ => none
  | k + 1, x0, x1, x2 => if x2 < ((x0.length : Nat) : Int) then (if (0 : Int) ≤ x2 ∧ x2 < ((x0.length : Nat) : Int) then (if (0 : Int) ≤ x2 ∧ x2 < ((x1.length : Nat) : Int) then ((laws_eqMend.f k (x0.getD x2.toNat ((0 : Int), ((0 : Int), (([] : List Int), (([] : List Entry), (false, (([] : List (List Int)), ()))))))) (x1.getD x2.toNat ((0 : Int), ((0 : Int), (([] : List Int), (([] : List Entry), (false, (([] : List (List Int)), ())))))))).bind fun r1 =>
          if r1 = true then laws_eqMendS.p9 k x0 x1 (wrap64 (x2 + (1 : Int)))
          else some false)
        else none)
      else none)
    else some true
noncomputable def laws_eqMendS.f (k : Nat) (a0 : (List Mend)) (a1 : (List Mend)) : Option (Bool) := if ((a0.length : Nat) : Int) = ((a1.length : Nat) : Int) then laws_eqMendS.p9 k a0 a1 (0 : Int)
  else some false
/-! laws.eqEvent -/
noncomputable def laws_eqEvent.f (a0 : Event) (a1 : Event) : Option (Bool) := if a0.1 = a1.1 then (if a0.2.1 = a1.2.1 then (if a0.2.2.1 = a1.2.2.1 then some true
      else some false)
    else some false)
  else some false
/-! laws.eqEventS -/
noncomputable def laws_eqEventS.p9 : Nat → (List Event) → (List Event) → Int → Option (Bool)
  | 0, _, _, _ => none
  | k + 1, x0, x1, x2 => if x2 < ((x0.length : Nat) : Int) then (if (0 : Int) ≤ x2 ∧ x2 < ((x0.length : Nat) : Int) then (if (0 : Int) ≤ x2 ∧ x2 < ((x1.length : Nat) : Int) then ((laws_eqEvent.f (x0.getD x2.toNat ((0 : Int), ((0 : Int), ((⟨#[]⟩ : ByteArray), ())))) (x1.getD x2.toNat ((0 : Int), ((0 : Int), ((⟨#[]⟩ : ByteArray), ()))))).bind fun r1 =>
          if r1 = true then laws_eqEventS.p9 k x0 x1 (wrap64 (x2 + (1 : Int)))
          else some false)
        else none)
      else none)
    else some true
noncomputable def laws_eqEventS.f (k : Nat) (a0 : (List Event)) (a1 : (List Event)) : Option (Bool) := if ((a0.length : Nat) : Int) = ((a1.length : Nat) : Int) then laws_eqEventS.p9 k a0 a1 (0 : Int)
  else some false
/-! laws.eqReader -/
noncomputable def laws_eqReader.f (k : Nat) (a0 : Reader) (a1 : Reader) : Option (Bool) := if a0.1 = a1.1 then (if a0.2.1 = a1.2.1 then ((laws_eqEventS.f k a0.2.2.1 a1.2.2.1).bind fun r1 =>
      if r1 = true then some true
      else some false)
    else some false)
  else some false
/-! laws.eqReaderS -/
noncomputable def laws_eqReaderS.p9 : Nat → (List Reader) → (List Reader) → Int → Option (Bool)
  | 0, _, _, _ => none
  | k + 1, x0, x1, x2 => if x2 < ((x0.length : Nat) : Int) then (if (0 : Int) ≤ x2 ∧ x2 < ((x0.length : Nat) : Int) then (if (0 : Int) ≤ x2 ∧ x2 < ((x1.length : Nat) : Int) then ((laws_eqReader.f k (x0.getD x2.toNat ((0 : Int), ((0 : Int), (([] : List Event), ())))) (x1.getD x2.toNat ((0 : Int), ((0 : Int), (([] : List Event), ()))))).bind fun r1 =>
          if r1 = true then laws_eqReaderS.p9 k x0 x1 (wrap64 (x2 + (1 : Int)))
          else some false)
        else none)
      else none)
    else some true
noncomputable def laws_eqReaderS.f (k : Nat) (a0 : (List Reader)) (a1 : (List Reader)) : Option (Bool) := if ((a0.length : Nat) : Int) = ((a1.length : Nat) : Int) then laws_eqReaderS.p9 k a0 a1 (0 : Int)
  else some false
/-! laws.eqSent -/
noncomputable def laws_eqSent.f (a0 : Sent) (a1 : Sent) : Option (Bool) := if a0.1 = a1.1 then (if a0.2.1 = a1.2.1 then (if a0.2.2.1 = a1.2.2.1 then some true
      else some false)
    else some false)
  else some false
/-! laws.eqSentS -/
noncomputable def laws_eqSentS.p9 : Nat → (List Sent) → (List Sent) → Int → Option (Bool)
  | 0, _, _, _ => none
  | k + 1, x0, x1, x2 => if x2 < ((x0.length : Nat) : Int) then (if (0 : Int) ≤ x2 ∧ x2 < ((x0.length : Nat) : Int) then (if (0 : Int) ≤ x2 ∧ x2 < ((x1.length : Nat) : Int) then ((laws_eqSent.f (x0.getD x2.toNat ((0 : Int), ((⟨#[]⟩ : ByteArray), (false, ())))) (x1.getD x2.toNat ((0 : Int), ((⟨#[]⟩ : ByteArray), (false, ()))))).bind fun r1 =>
          if r1 = true then laws_eqSentS.p9 k x0 x1 (wrap64 (x2 + (1 : Int)))
          else some false)
        else none)
      else none)
    else some true
noncomputable def laws_eqSentS.f (k : Nat) (a0 : (List Sent)) (a1 : (List Sent)) : Option (Bool) := if ((a0.length : Nat) : Int) = ((a1.length : Nat) : Int) then laws_eqSentS.p9 k a0 a1 (0 : Int)
  else some false
/-! laws.eqWorld -/
noncomputable def laws_eqWorld.f (k : Nat) (a0 : World) (a1 : World) : Option (Bool) := (laws_eqConfig.f k a0.1 a1.1).bind fun r1 =>
  if r1 = true then ((laws_eqStoreS.f k a0.2.1 a1.2.1).bind fun r2 =>
    if r2 = true then ((laws_eqIntS.f k a0.2.2.1 a1.2.2.1).bind fun r3 =>
      if r3 = true then ((laws_eqRegister.f k a0.2.2.2.1 a1.2.2.2.1).bind fun r4 =>
        if r4 = true then ((laws_eqWriterS.f k a0.2.2.2.2.1 a1.2.2.2.2.1).bind fun r5 =>
          if r5 = true then ((laws_eqMendS.f k a0.2.2.2.2.2.1 a1.2.2.2.2.2.1).bind fun r6 =>
            if r6 = true then ((laws_eqReaderS.f k a0.2.2.2.2.2.2.1 a1.2.2.2.2.2.2.1).bind fun r7 =>
              if r7 = true then ((laws_eqSentS.f k a0.2.2.2.2.2.2.2.1 a1.2.2.2.2.2.2.2.1).bind fun r8 =>
                if r8 = true then (if a0.2.2.2.2.2.2.2.2.1 = a1.2.2.2.2.2.2.2.2.1 then some true
                  else some false)
                else some false)
              else some false)
            else some false)
          else some false)
        else some false)
      else some false)
    else some false)
  else some false
/-! laws.markIntS -/
noncomputable def laws_markIntS.p5 : Nat → (List Int) → Int → Int → Option (Int × (List Int))
  | 0, _, _, _ => none
  | k + 1, x0, x1, x2 => if x2 < ((x0.length : Nat) : Int) then (if (0 : Int) ≤ x2 ∧ x2 < ((x0.length : Nat) : Int) then laws_markIntS.p5 k (x0.set x2.toNat x1) (wrap64 (x1 + (1 : Int))) (wrap64 (x2 + (1 : Int)))
      else none)
    else some (x1, x0)
noncomputable def laws_markIntS.f (k : Nat) (a0 : (List Int)) (a1 : Int) : Option (Int × (List Int)) := laws_markIntS.p5 k a0 a1 (0 : Int)
/-! laws.markConfig -/
noncomputable def laws_markConfig.f (k : Nat) (a0 : Config) (a1 : Int) : Option (Int × Config) := (laws_markIntS.f k a0.1 a1).bind fun r1 =>
  some (r1.1, (r1.2, a0.2))
/-! laws.markText -/
noncomputable def laws_markText.p9 : Nat → Int → ByteArray → Option (ByteArray)
  | 0, _, _ => none
  | k + 1, x0, x1 => if (0 : Int) < x0 then (if ((((bytesOf ([(IntKind.wrap .u8 ((wrap64 ((48 : Int) + (Int.tmod x0 (10 : Int))))))] : List Int)).size : Nat) : Int) + ((x1.size : Nat) : Int)) ≤ (9223372036854775807 : Int) then laws_markText.p9 k (wrap64 ((Int.tdiv x0 (10 : Int)))) ((bytesOf ([(IntKind.wrap .u8 ((wrap64 ((48 : Int) + (Int.tmod x0 (10 : Int))))))] : List Int)) ++ x1)
      else none)
    else if ((((⟨#[109]⟩ : ByteArray).size : Nat) : Int) + ((x1.size : Nat) : Int)) ≤ (9223372036854775807 : Int) then some ((⟨#[109]⟩ : ByteArray) ++ x1)
    else none
noncomputable def laws_markText.f (k : Nat) (a0 : Int) : Option (ByteArray) := if a0 ≤ (0 : Int) then some (⟨#[109, 48]⟩ : ByteArray)
  else laws_markText.p9 k a0 (⟨#[]⟩ : ByteArray)
/-! laws.markEntryS -/
noncomputable def laws_markEntryS.p5 : Nat → (List Entry) → Int → Int → Option (Int × (List Entry))
  | 0, _, _, _ => none
  | k + 1, x0, x1, x2 => if x2 < ((x0.length : Nat) : Int) then (if (0 : Int) ≤ x2 ∧ x2 < ((x0.length : Nat) : Int) then (if (0 : Int) ≤ x2 ∧ x2 < (((x0.set x2.toNat (x1, (x0.getD x2.toNat ((0 : Int), ((0 : Int), (false, ((⟨#[]⟩ : ByteArray), ()))))).2)).length : Nat) : Int) then (if (0 : Int) ≤ x2 ∧ x2 < ((((x0.set x2.toNat (x1, (x0.getD x2.toNat ((0 : Int), ((0 : Int), (false, ((⟨#[]⟩ : ByteArray), ()))))).2)).set x2.toNat (((x0.set x2.toNat (x1, (x0.getD x2.toNat ((0 : Int), ((0 : Int), (false, ((⟨#[]⟩ : ByteArray), ()))))).2)).getD x2.toNat ((0 : Int), ((0 : Int), (false, ((⟨#[]⟩ : ByteArray), ()))))).1, ((wrap64 (x1 + (1 : Int))), ((x0.set x2.toNat (x1, (x0.getD x2.toNat ((0 : Int), ((0 : Int), (false, ((⟨#[]⟩ : ByteArray), ()))))).2)).getD x2.toNat ((0 : Int), ((0 : Int), (false, ((⟨#[]⟩ : ByteArray), ()))))).2.2))).length : Nat) : Int) then ((laws_markText.f k (wrap64 ((wrap64 ((wrap64 (x1 + (1 : Int))) + (1 : Int))) + (1 : Int)))).bind fun r1 =>
            if (0 : Int) ≤ x2 ∧ x2 < (((((x0.set x2.toNat (x1, (x0.getD x2.toNat ((0 : Int), ((0 : Int), (false, ((⟨#[]⟩ : ByteArray), ()))))).2)).set x2.toNat (((x0.set x2.toNat (x1, (x0.getD x2.toNat ((0 : Int), ((0 : Int), (false, ((⟨#[]⟩ : ByteArray), ()))))).2)).getD x2.toNat ((0 : Int), ((0 : Int), (false, ((⟨#[]⟩ : ByteArray), ()))))).1, ((wrap64 (x1 + (1 : Int))), ((x0.set x2.toNat (x1, (x0.getD x2.toNat ((0 : Int), ((0 : Int), (false, ((⟨#[]⟩ : ByteArray), ()))))).2)).getD x2.toNat ((0 : Int), ((0 : Int), (false, ((⟨#[]⟩ : ByteArray), ()))))).2.2))).set x2.toNat ((((x0.set x2.toNat (x1, (x0.getD x2.toNat ((0 : Int), ((0 : Int), (false, ((⟨#[]⟩ : ByteArray), ()))))).2)).set x2.toNat (((x0.set x2.toNat (x1, (x0.getD x2.toNat ((0 : Int), ((0 : Int), (false, ((⟨#[]⟩ : ByteArray), ()))))).2)).getD x2.toNat ((0 : Int), ((0 : Int), (false, ((⟨#[]⟩ : ByteArray), ()))))).1, ((wrap64 (x1 + (1 : Int))), ((x0.set x2.toNat (x1, (x0.getD x2.toNat ((0 : Int), ((0 : Int), (false, ((⟨#[]⟩ : ByteArray), ()))))).2)).getD x2.toNat ((0 : Int), ((0 : Int), (false, ((⟨#[]⟩ : ByteArray), ()))))).2.2))).getD x2.toNat ((0 : Int), ((0 : Int), (false, ((⟨#[]⟩ : ByteArray), ()))))).1, ((((x0.set x2.toNat (x1, (x0.getD x2.toNat ((0 : Int), ((0 : Int), (false, ((⟨#[]⟩ : ByteArray), ()))))).2)).set x2.toNat (((x0.set x2.toNat (x1, (x0.getD x2.toNat ((0 : Int), ((0 : Int), (false, ((⟨#[]⟩ : ByteArray), ()))))).2)).getD x2.toNat ((0 : Int), ((0 : Int), (false, ((⟨#[]⟩ : ByteArray), ()))))).1, ((wrap64 (x1 + (1 : Int))), ((x0.set x2.toNat (x1, (x0.getD x2.toNat ((0 : Int), ((0 : Int), (false, ((⟨#[]⟩ : ByteArray), ()))))).2)).getD x2.toNat ((0 : Int), ((0 : Int), (false, ((⟨#[]⟩ : ByteArray), ()))))).2.2))).getD x2.toNat ((0 : Int), ((0 : Int), (false, ((⟨#[]⟩ : ByteArray), ()))))).2.1, ((decide ((Int.tmod (wrap64 ((wrap64 (x1 + (1 : Int))) + (1 : Int))) (3 : Int)) = (0 : Int))), (((x0.set x2.toNat (x1, (x0.getD x2.toNat ((0 : Int), ((0 : Int), (false, ((⟨#[]⟩ : ByteArray), ()))))).2)).set x2.toNat (((x0.set x2.toNat (x1, (x0.getD x2.toNat ((0 : Int), ((0 : Int), (false, ((⟨#[]⟩ : ByteArray), ()))))).2)).getD x2.toNat ((0 : Int), ((0 : Int), (false, ((⟨#[]⟩ : ByteArray), ()))))).1, ((wrap64 (x1 + (1 : Int))), ((x0.set x2.toNat (x1, (x0.getD x2.toNat ((0 : Int), ((0 : Int), (false, ((⟨#[]⟩ : ByteArray), ()))))).2)).getD x2.toNat ((0 : Int), ((0 : Int), (false, ((⟨#[]⟩ : ByteArray), ()))))).2.2))).getD x2.toNat ((0 : Int), ((0 : Int), (false, ((⟨#[]⟩ : ByteArray), ()))))).2.2.2)))).length : Nat) : Int) then laws_markEntryS.p5 k ((((x0.set x2.toNat (x1, (x0.getD x2.toNat ((0 : Int), ((0 : Int), (false, ((⟨#[]⟩ : ByteArray), ()))))).2)).set x2.toNat (((x0.set x2.toNat (x1, (x0.getD x2.toNat ((0 : Int), ((0 : Int), (false, ((⟨#[]⟩ : ByteArray), ()))))).2)).getD x2.toNat ((0 : Int), ((0 : Int), (false, ((⟨#[]⟩ : ByteArray), ()))))).1, ((wrap64 (x1 + (1 : Int))), ((x0.set x2.toNat (x1, (x0.getD x2.toNat ((0 : Int), ((0 : Int), (false, ((⟨#[]⟩ : ByteArray), ()))))).2)).getD x2.toNat ((0 : Int), ((0 : Int), (false, ((⟨#[]⟩ : ByteArray), ()))))).2.2))).set x2.toNat ((((x0.set x2.toNat (x1, (x0.getD x2.toNat ((0 : Int), ((0 : Int), (false, ((⟨#[]⟩ : ByteArray), ()))))).2)).set x2.toNat (((x0.set x2.toNat (x1, (x0.getD x2.toNat ((0 : Int), ((0 : Int), (false, ((⟨#[]⟩ : ByteArray), ()))))).2)).getD x2.toNat ((0 : Int), ((0 : Int), (false, ((⟨#[]⟩ : ByteArray), ()))))).1, ((wrap64 (x1 + (1 : Int))), ((x0.set x2.toNat (x1, (x0.getD x2.toNat ((0 : Int), ((0 : Int), (false, ((⟨#[]⟩ : ByteArray), ()))))).2)).getD x2.toNat ((0 : Int), ((0 : Int), (false, ((⟨#[]⟩ : ByteArray), ()))))).2.2))).getD x2.toNat ((0 : Int), ((0 : Int), (false, ((⟨#[]⟩ : ByteArray), ()))))).1, ((((x0.set x2.toNat (x1, (x0.getD x2.toNat ((0 : Int), ((0 : Int), (false, ((⟨#[]⟩ : ByteArray), ()))))).2)).set x2.toNat (((x0.set x2.toNat (x1, (x0.getD x2.toNat ((0 : Int), ((0 : Int), (false, ((⟨#[]⟩ : ByteArray), ()))))).2)).getD x2.toNat ((0 : Int), ((0 : Int), (false, ((⟨#[]⟩ : ByteArray), ()))))).1, ((wrap64 (x1 + (1 : Int))), ((x0.set x2.toNat (x1, (x0.getD x2.toNat ((0 : Int), ((0 : Int), (false, ((⟨#[]⟩ : ByteArray), ()))))).2)).getD x2.toNat ((0 : Int), ((0 : Int), (false, ((⟨#[]⟩ : ByteArray), ()))))).2.2))).getD x2.toNat ((0 : Int), ((0 : Int), (false, ((⟨#[]⟩ : ByteArray), ()))))).2.1, ((decide ((Int.tmod (wrap64 ((wrap64 (x1 + (1 : Int))) + (1 : Int))) (3 : Int)) = (0 : Int))), (((x0.set x2.toNat (x1, (x0.getD x2.toNat ((0 : Int), ((0 : Int), (false, ((⟨#[]⟩ : ByteArray), ()))))).2)).set x2.toNat (((x0.set x2.toNat (x1, (x0.getD x2.toNat ((0 : Int), ((0 : Int), (false, ((⟨#[]⟩ : ByteArray), ()))))).2)).getD x2.toNat ((0 : Int), ((0 : Int), (false, ((⟨#[]⟩ : ByteArray), ()))))).1, ((wrap64 (x1 + (1 : Int))), ((x0.set x2.toNat (x1, (x0.getD x2.toNat ((0 : Int), ((0 : Int), (false, ((⟨#[]⟩ : ByteArray), ()))))).2)).getD x2.toNat ((0 : Int), ((0 : Int), (false, ((⟨#[]⟩ : ByteArray), ()))))).2.2))).getD x2.toNat ((0 : Int), ((0 : Int), (false, ((⟨#[]⟩ : ByteArray), ()))))).2.2.2)))).set x2.toNat (((((x0.set x2.toNat (x1, (x0.getD x2.toNat ((0 : Int), ((0 : Int), (false, ((⟨#[]⟩ : ByteArray), ()))))).2)).set x2.toNat (((x0.set x2.toNat (x1, (x0.getD x2.toNat ((0 : Int), ((0 : Int), (false, ((⟨#[]⟩ : ByteArray), ()))))).2)).getD x2.toNat ((0 : Int), ((0 : Int), (false, ((⟨#[]⟩ : ByteArray), ()))))).1, ((wrap64 (x1 + (1 : Int))), ((x0.set x2.toNat (x1, (x0.getD x2.toNat ((0 : Int), ((0 : Int), (false, ((⟨#[]⟩ : ByteArray), ()))))).2)).getD x2.toNat ((0 : Int), ((0 : Int), (false, ((⟨#[]⟩ : ByteArray), ()))))).2.2))).set x2.toNat ((((x0.set x2.toNat (x1, (x0.getD x2.toNat ((0 : Int), ((0 : Int), (false, ((⟨#[]⟩ : ByteArray), ()))))).2)).set x2.toNat (((x0.set x2.toNat (x1, (x0.getD x2.toNat ((0 : Int), ((0 : Int), (false, ((⟨#[]⟩ : ByteArray), ()))))).2)).getD x2.toNat ((0 : Int), ((0 : Int), (false, ((⟨#[]⟩ : ByteArray), ()))))).1, ((wrap64 (x1 + (1 : Int))), ((x0.set x2.toNat (x1, (x0.getD x2.toNat ((0 : Int), ((0 : Int), (false, ((⟨#[]⟩ : ByteArray), ()))))).2)).getD x2.toNat ((0 : Int), ((0 : Int), (false, ((⟨#[]⟩ : ByteArray), ()))))).2.2))).getD x2.toNat ((0 : Int), ((0 : Int), (false, ((⟨#[]⟩ : ByteArray), ()))))).1, ((((x0.set x2.toNat (x1, (x0.getD x2.toNat ((0 : Int), ((0 : Int), (false, ((⟨#[]⟩ : ByteArray), ()))))).2)).set x2.toNat (((x0.set x2.toNat (x1, (x0.getD x2.toNat ((0 : Int), ((0 : Int), (false, ((⟨#[]⟩ : ByteArray), ()))))).2)).getD x2.toNat ((0 : Int), ((0 : Int), (false, ((⟨#[]⟩ : ByteArray), ()))))).1, ((wrap64 (x1 + (1 : Int))), ((x0.set x2.toNat (x1, (x0.getD x2.toNat ((0 : Int), ((0 : Int), (false, ((⟨#[]⟩ : ByteArray), ()))))).2)).getD x2.toNat ((0 : Int), ((0 : Int), (false, ((⟨#[]⟩ : ByteArray), ()))))).2.2))).getD x2.toNat ((0 : Int), ((0 : Int), (false, ((⟨#[]⟩ : ByteArray), ()))))).2.1, ((decide ((Int.tmod (wrap64 ((wrap64 (x1 + (1 : Int))) + (1 : Int))) (3 : Int)) = (0 : Int))), (((x0.set x2.toNat (x1, (x0.getD x2.toNat ((0 : Int), ((0 : Int), (false, ((⟨#[]⟩ : ByteArray), ()))))).2)).set x2.toNat (((x0.set x2.toNat (x1, (x0.getD x2.toNat ((0 : Int), ((0 : Int), (false, ((⟨#[]⟩ : ByteArray), ()))))).2)).getD x2.toNat ((0 : Int), ((0 : Int), (false, ((⟨#[]⟩ : ByteArray), ()))))).1, ((wrap64 (x1 + (1 : Int))), ((x0.set x2.toNat (x1, (x0.getD x2.toNat ((0 : Int), ((0 : Int), (false, ((⟨#[]⟩ : ByteArray), ()))))).2)).getD x2.toNat ((0 : Int), ((0 : Int), (false, ((⟨#[]⟩ : ByteArray), ()))))).2.2))).getD x2.toNat ((0 : Int), ((0 : Int), (false, ((⟨#[]⟩ : ByteArray), ()))))).2.2.2)))).getD x2.toNat ((0 : Int), ((0 : Int), (false, ((⟨#[]⟩ : ByteArray), ()))))).1, (((((x0.set x2.toNat (x1, (x0.getD x2.toNat ((0 : Int), ((0 : Int), (false, ((⟨#[]⟩ : ByteArray), ()))))).2)).set x2.toNat (((x0.set x2.toNat (x1, (x0.getD x2.toNat ((0 : Int), ((0 : Int), (false, ((⟨#[]⟩ : ByteArray), ()))))).2)).getD x2.toNat ((0 : Int), ((0 : Int), (false, ((⟨#[]⟩ : ByteArray), ()))))).1, ((wrap64 (x1 + (1 : Int))), ((x0.set x2.toNat (x1, (x0.getD x2.toNat ((0 : Int), ((0 : Int), (false, ((⟨#[]⟩ : ByteArray), ()))))).2)).getD x2.toNat ((0 : Int), ((0 : Int), (false, ((⟨#[]⟩ : ByteArray), ()))))).2.2))).set x2.toNat ((((x0.set x2.toNat (x1, (x0.getD x2.toNat ((0 : Int), ((0 : Int), (false, ((⟨#[]⟩ : ByteArray), ()))))).2)).set x2.toNat (((x0.set x2.toNat (x1, (x0.getD x2.toNat ((0 : Int), ((0 : Int), (false, ((⟨#[]⟩ : ByteArray), ()))))).2)).getD x2.toNat ((0 : Int), ((0 : Int), (false, ((⟨#[]⟩ : ByteArray), ()))))).1, ((wrap64 (x1 + (1 : Int))), ((x0.set x2.toNat (x1, (x0.getD x2.toNat ((0 : Int), ((0 : Int), (false, ((⟨#[]⟩ : ByteArray), ()))))).2)).getD x2.toNat ((0 : Int), ((0 : Int), (false, ((⟨#[]⟩ : ByteArray), ()))))).2.2))).getD x2.toNat ((0 : Int), ((0 : Int), (false, ((⟨#[]⟩ : ByteArray), ()))))).1, ((((x0.set x2.toNat (x1, (x0.getD x2.toNat ((0 : Int), ((0 : Int), (false, ((⟨#[]⟩ : ByteArray), ()))))).2)).set x2.toNat (((x0.set x2.toNat (x1, (x0.getD x2.toNat ((0 : Int), ((0 : Int), (false, ((⟨#[]⟩ : ByteArray), ()))))).2)).getD x2.toNat ((0 : Int), ((0 : Int), (false, ((⟨#[]⟩ : ByteArray), ()))))).1, ((wrap64 (x1 + (1 : Int))), ((x0.set x2.toNat (x1, (x0.getD x2.toNat ((0 : Int), ((0 : Int), (false, ((⟨#[]⟩ : ByteArray), ()))))).2)).getD x2.toNat ((0 : Int), ((0 : Int), (false, ((⟨#[]⟩ : ByteArray), ()))))).2.2))).getD x2.toNat ((0 : Int), ((0 : Int), (false, ((⟨#[]⟩ : ByteArray), ()))))).2.1, ((decide ((Int.tmod (wrap64 ((wrap64 (x1 + (1 : Int))) + (1 : Int))) (3 : Int)) = (0 : Int))), (((x0.set x2.toNat (x1, (x0.getD x2.toNat ((0 : Int), ((0 : Int), (false, ((⟨#[]⟩ : ByteArray), ()))))).2)).set x2.toNat (((x0.set x2.toNat (x1, (x0.getD x2.toNat ((0 : Int), ((0 : Int), (false, ((⟨#[]⟩ : ByteArray), ()))))).2)).getD x2.toNat ((0 : Int), ((0 : Int), (false, ((⟨#[]⟩ : ByteArray), ()))))).1, ((wrap64 (x1 + (1 : Int))), ((x0.set x2.toNat (x1, (x0.getD x2.toNat ((0 : Int), ((0 : Int), (false, ((⟨#[]⟩ : ByteArray), ()))))).2)).getD x2.toNat ((0 : Int), ((0 : Int), (false, ((⟨#[]⟩ : ByteArray), ()))))).2.2))).getD x2.toNat ((0 : Int), ((0 : Int), (false, ((⟨#[]⟩ : ByteArray), ()))))).2.2.2)))).getD x2.toNat ((0 : Int), ((0 : Int), (false, ((⟨#[]⟩ : ByteArray), ()))))).2.1, (((((x0.set x2.toNat (x1, (x0.getD x2.toNat ((0 : Int), ((0 : Int), (false, ((⟨#[]⟩ : ByteArray), ()))))).2)).set x2.toNat (((x0.set x2.toNat (x1, (x0.getD x2.toNat ((0 : Int), ((0 : Int), (false, ((⟨#[]⟩ : ByteArray), ()))))).2)).getD x2.toNat ((0 : Int), ((0 : Int), (false, ((⟨#[]⟩ : ByteArray), ()))))).1, ((wrap64 (x1 + (1 : Int))), ((x0.set x2.toNat (x1, (x0.getD x2.toNat ((0 : Int), ((0 : Int), (false, ((⟨#[]⟩ : ByteArray), ()))))).2)).getD x2.toNat ((0 : Int), ((0 : Int), (false, ((⟨#[]⟩ : ByteArray), ()))))).2.2))).set x2.toNat ((((x0.set x2.toNat (x1, (x0.getD x2.toNat ((0 : Int), ((0 : Int), (false, ((⟨#[]⟩ : ByteArray), ()))))).2)).set x2.toNat (((x0.set x2.toNat (x1, (x0.getD x2.toNat ((0 : Int), ((0 : Int), (false, ((⟨#[]⟩ : ByteArray), ()))))).2)).getD x2.toNat ((0 : Int), ((0 : Int), (false, ((⟨#[]⟩ : ByteArray), ()))))).1, ((wrap64 (x1 + (1 : Int))), ((x0.set x2.toNat (x1, (x0.getD x2.toNat ((0 : Int), ((0 : Int), (false, ((⟨#[]⟩ : ByteArray), ()))))).2)).getD x2.toNat ((0 : Int), ((0 : Int), (false, ((⟨#[]⟩ : ByteArray), ()))))).2.2))).getD x2.toNat ((0 : Int), ((0 : Int), (false, ((⟨#[]⟩ : ByteArray), ()))))).1, ((((x0.set x2.toNat (x1, (x0.getD x2.toNat ((0 : Int), ((0 : Int), (false, ((⟨#[]⟩ : ByteArray), ()))))).2)).set x2.toNat (((x0.set x2.toNat (x1, (x0.getD x2.toNat ((0 : Int), ((0 : Int), (false, ((⟨#[]⟩ : ByteArray), ()))))).2)).getD x2.toNat ((0 : Int), ((0 : Int), (false, ((⟨#[]⟩ : ByteArray), ()))))).1, ((wrap64 (x1 + (1 : Int))), ((x0.set x2.toNat (x1, (x0.getD x2.toNat ((0 : Int), ((0 : Int), (false, ((⟨#[]⟩ : ByteArray), ()))))).2)).getD x2.toNat ((0 : Int), ((0 : Int), (false, ((⟨#[]⟩ : ByteArray), ()))))).2.2))).getD x2.toNat ((0 : Int), ((0 : Int), (false, ((⟨#[]⟩ : ByteArray), ()))))).2.1, ((decide ((Int.tmod (wrap64 ((wrap64 (x1 + (1 : Int))) + (1 : Int))) (3 : Int)) = (0 : Int))), (((x0.set x2.toNat (x1, (x0.getD x2.toNat ((0 : Int), ((0 : Int), (false, ((⟨#[]⟩ : ByteArray), ()))))).2)).set x2.toNat (((x0.set x2.toNat (x1, (x0.getD x2.toNat ((0 : Int), ((0 : Int), (false, ((⟨#[]⟩ : ByteArray), ()))))).2)).getD x2.toNat ((0 : Int), ((0 : Int), (false, ((⟨#[]⟩ : ByteArray), ()))))).1, ((wrap64 (x1 + (1 : Int))), ((x0.set x2.toNat (x1, (x0.getD x2.toNat ((0 : Int), ((0 : Int), (false, ((⟨#[]⟩ : ByteArray), ()))))).2)).getD x2.toNat ((0 : Int), ((0 : Int), (false, ((⟨#[]⟩ : ByteArray), ()))))).2.2))).getD x2.toNat ((0 : Int), ((0 : Int), (false, ((⟨#[]⟩ : ByteArray), ()))))).2.2.2)))).getD x2.toNat ((0 : Int), ((0 : Int), (false, ((⟨#[]⟩ : ByteArray), ()))))).2.2.1, (r1, ((((x0.set x2.toNat (x1, (x0.getD x2.toNat ((0 : Int), ((0 : Int), (false, ((⟨#[]⟩ : ByteArray), ()))))).2)).set x2.toNat (((x0.set x2.toNat (x1, (x0.getD x2.toNat ((0 : Int), ((0 : Int), (false, ((⟨#[]⟩ : ByteArray), ()))))).2)).getD x2.toNat ((0 : Int), ((0 : Int), (false, ((⟨#[]⟩ : ByteArray), ()))))).1, ((wrap64 (x1 + (1 : Int))), ((x0.set x2.toNat (x1, (x0.getD x2.toNat ((0 : Int), ((0 : Int), (false, ((⟨#[]⟩ : ByteArray), ()))))).2)).getD x2.toNat ((0 : Int), ((0 : Int), (false, ((⟨#[]⟩ : ByteArray), ()))))).2.2))).set x2.toNat ((((x0.set x2.toNat (x1, (x0.getD x2.toNat ((0 : Int), ((0 : Int), (false, ((⟨#[]⟩ : ByteArray), ()))))).2)).set x2.toNat (((x0.set x2.toNat (x1, (x0.getD x2.toNat ((0 : Int), ((0 : Int), (false, ((⟨#[]⟩ : ByteArray), ()))))).2)).getD x2.toNat ((0 : Int), ((0 : Int), (false, ((⟨#[]⟩ : ByteArray), ()))))).1, ((wrap64 (x1 + (1 : Int))), ((x0.set x2.toNat (x1, (x0.getD x2.toNat ((0 : Int), ((0 : Int), (false, ((⟨#[]⟩ : ByteArray), ()))))).2)).getD x2.toNat ((0 : Int), ((0 : Int), (false, ((⟨#[]⟩ : ByteArray), ()))))).2.2))).getD x2.toNat ((0 : Int), ((0 : Int), (false, ((⟨#[]⟩ : ByteArray), ()))))).1, ((((x0.set x2.toNat (x1, (x0.getD x2.toNat ((0 : Int), ((0 : Int), (false, ((⟨#[]⟩ : ByteArray), ()))))).2)).set x2.toNat (((x0.set x2.toNat (x1, (x0.getD x2.toNat ((0 : Int), ((0 : Int), (false, ((⟨#[]⟩ : ByteArray), ()))))).2)).getD x2.toNat ((0 : Int), ((0 : Int), (false, ((⟨#[]⟩ : ByteArray), ()))))).1, ((wrap64 (x1 + (1 : Int))), ((x0.set x2.toNat (x1, (x0.getD x2.toNat ((0 : Int), ((0 : Int), (false, ((⟨#[]⟩ : ByteArray), ()))))).2)).getD x2.toNat ((0 : Int), ((0 : Int), (false, ((⟨#[]⟩ : ByteArray), ()))))).2.2))).getD x2.toNat ((0 : Int), ((0 : Int), (false, ((⟨#[]⟩ : ByteArray), ()))))).2.1, ((decide ((Int.tmod (wrap64 ((wrap64 (x1 + (1 : Int))) + (1 : Int))) (3 : Int)) = (0 : Int))), (((x0.set x2.toNat (x1, (x0.getD x2.toNat ((0 : Int), ((0 : Int), (false, ((⟨#[]⟩ : ByteArray), ()))))).2)).set x2.toNat (((x0.set x2.toNat (x1, (x0.getD x2.toNat ((0 : Int), ((0 : Int), (false, ((⟨#[]⟩ : ByteArray), ()))))).2)).getD x2.toNat ((0 : Int), ((0 : Int), (false, ((⟨#[]⟩ : ByteArray), ()))))).1, ((wrap64 (x1 + (1 : Int))), ((x0.set x2.toNat (x1, (x0.getD x2.toNat ((0 : Int), ((0 : Int), (false, ((⟨#[]⟩ : ByteArray), ()))))).2)).getD x2.toNat ((0 : Int), ((0 : Int), (false, ((⟨#[]⟩ : ByteArray), ()))))).2.2))).getD x2.toNat ((0 : Int), ((0 : Int), (false, ((⟨#[]⟩ : ByteArray), ()))))).2.2.2)))).getD x2.toNat ((0 : Int), ((0 : Int), (false, ((⟨#[]⟩ : ByteArray), ()))))).2.2.2.2))))) (wrap64 ((wrap64 ((wrap64 ((wrap64 (x1 + (1 : Int))) + (1 : Int))) + (1 : Int))) + (1 : Int))) (wrap64 (x2 + (1 : Int)))
            else none)
          else none)
        else none)
      else none)
    else some (x1, x0)
noncomputable def laws_markEntryS.f (k : Nat) (a0 : (List Entry)) (a1 : Int) : Option (Int × (List Entry)) := laws_markEntryS.p5 k a0 a1 (0 : Int)
/-! laws.markStoreS -/
noncomputable def laws_markStoreS.p5 : Nat → (List Store) → Int → Int → Option (Int × (List Store))
  | 0, _, _, _ => none
  | k + 1, x0, x1, x2 => if x2 < ((x0.length : Nat) : Int) then (if (0 : Int) ≤ x2 ∧ x2 < ((x0.length : Nat) : Int) then ((laws_markEntryS.f k (x0.getD x2.toNat (([] : List Entry), (([] : List Entry), ((0 : Int), ())))).1 x1).bind fun r1 =>
        if (0 : Int) ≤ x2 ∧ x2 < (((x0.set x2.toNat (r1.2, (x0.getD x2.toNat (([] : List Entry), (([] : List Entry), ((0 : Int), ())))).2)).length : Nat) : Int) then ((laws_markEntryS.f k ((x0.set x2.toNat (r1.2, (x0.getD x2.toNat (([] : List Entry), (([] : List Entry), ((0 : Int), ())))).2)).getD x2.toNat (([] : List Entry), (([] : List Entry), ((0 : Int), ())))).2.1 r1.1).bind fun r2 =>
          if (0 : Int) ≤ x2 ∧ x2 < ((((x0.set x2.toNat (r1.2, (x0.getD x2.toNat (([] : List Entry), (([] : List Entry), ((0 : Int), ())))).2)).set x2.toNat (((x0.set x2.toNat (r1.2, (x0.getD x2.toNat (([] : List Entry), (([] : List Entry), ((0 : Int), ())))).2)).getD x2.toNat (([] : List Entry), (([] : List Entry), ((0 : Int), ())))).1, (r2.2, ((x0.set x2.toNat (r1.2, (x0.getD x2.toNat (([] : List Entry), (([] : List Entry), ((0 : Int), ())))).2)).getD x2.toNat (([] : List Entry), (([] : List Entry), ((0 : Int), ())))).2.2))).length : Nat) : Int) then laws_markStoreS.p5 k (((x0.set x2.toNat (r1.2, (x0.getD x2.toNat (([] : List Entry), (([] : List Entry), ((0 : Int), ())))).2)).set x2.toNat (((x0.set x2.toNat (r1.2, (x0.getD x2.toNat (([] : List Entry), (([] : List Entry), ((0 : Int), ())))).2)).getD x2.toNat (([] : List Entry), (([] : List Entry), ((0 : Int), ())))).1, (r2.2, ((x0.set x2.toNat (r1.2, (x0.getD x2.toNat (([] : List Entry), (([] : List Entry), ((0 : Int), ())))).2)).getD x2.toNat (([] : List Entry), (([] : List Entry), ((0 : Int), ())))).2.2))).set x2.toNat ((((x0.set x2.toNat (r1.2, (x0.getD x2.toNat (([] : List Entry), (([] : List Entry), ((0 : Int), ())))).2)).set x2.toNat (((x0.set x2.toNat (r1.2, (x0.getD x2.toNat (([] : List Entry), (([] : List Entry), ((0 : Int), ())))).2)).getD x2.toNat (([] : List Entry), (([] : List Entry), ((0 : Int), ())))).1, (r2.2, ((x0.set x2.toNat (r1.2, (x0.getD x2.toNat (([] : List Entry), (([] : List Entry), ((0 : Int), ())))).2)).getD x2.toNat (([] : List Entry), (([] : List Entry), ((0 : Int), ())))).2.2))).getD x2.toNat (([] : List Entry), (([] : List Entry), ((0 : Int), ())))).1, ((((x0.set x2.toNat (r1.2, (x0.getD x2.toNat (([] : List Entry), (([] : List Entry), ((0 : Int), ())))).2)).set x2.toNat (((x0.set x2.toNat (r1.2, (x0.getD x2.toNat (([] : List Entry), (([] : List Entry), ((0 : Int), ())))).2)).getD x2.toNat (([] : List Entry), (([] : List Entry), ((0 : Int), ())))).1, (r2.2, ((x0.set x2.toNat (r1.2, (x0.getD x2.toNat (([] : List Entry), (([] : List Entry), ((0 : Int), ())))).2)).getD x2.toNat (([] : List Entry), (([] : List Entry), ((0 : Int), ())))).2.2))).getD x2.toNat (([] : List Entry), (([] : List Entry), ((0 : Int), ())))).2.1, (r2.1, (((x0.set x2.toNat (r1.2, (x0.getD x2.toNat (([] : List Entry), (([] : List Entry), ((0 : Int), ())))).2)).set x2.toNat (((x0.set x2.toNat (r1.2, (x0.getD x2.toNat (([] : List Entry), (([] : List Entry), ((0 : Int), ())))).2)).getD x2.toNat (([] : List Entry), (([] : List Entry), ((0 : Int), ())))).1, (r2.2, ((x0.set x2.toNat (r1.2, (x0.getD x2.toNat (([] : List Entry), (([] : List Entry), ((0 : Int), ())))).2)).getD x2.toNat (([] : List Entry), (([] : List Entry), ((0 : Int), ())))).2.2))).getD x2.toNat (([] : List Entry), (([] : List Entry), ((0 : Int), ())))).2.2.2)))) (wrap64 (r2.1 + (1 : Int))) (wrap64 (x2 + (1 : Int)))
          else none)
        else none)
      else none)
    else some (x1, x0)
noncomputable def laws_markStoreS.f (k : Nat) (a0 : (List Store)) (a1 : Int) : Option (Int × (List Store)) := laws_markStoreS.p5 k a0 a1 (0 : Int)
/-! laws.markEraS -/
noncomputable def laws_markEraS.p5 : Nat → (List Era) → Int → Int → Option (Int × (List Era))
  | 0, _, _, _ => none
  | k + 1, x0, x1, x2 => if x2 < ((x0.length : Nat) : Int) then (if (0 : Int) ≤ x2 ∧ x2 < ((x0.length : Nat) : Int) then ((laws_markIntS.f k (x0.getD x2.toNat (([] : List Int), (false, ((0 : Int), ())))).1 x1).bind fun r1 =>
        if (0 : Int) ≤ x2 ∧ x2 < (((x0.set x2.toNat (r1.2, (x0.getD x2.toNat (([] : List Int), (false, ((0 : Int), ())))).2)).length : Nat) : Int) then (if (0 : Int) ≤ x2 ∧ x2 < ((((x0.set x2.toNat (r1.2, (x0.getD x2.toNat (([] : List Int), (false, ((0 : Int), ())))).2)).set x2.toNat (((x0.set x2.toNat (r1.2, (x0.getD x2.toNat (([] : List Int), (false, ((0 : Int), ())))).2)).getD x2.toNat (([] : List Int), (false, ((0 : Int), ())))).1, ((decide ((Int.tmod r1.1 (3 : Int)) = (0 : Int))), ((x0.set x2.toNat (r1.2, (x0.getD x2.toNat (([] : List Int), (false, ((0 : Int), ())))).2)).getD x2.toNat (([] : List Int), (false, ((0 : Int), ())))).2.2))).length : Nat) : Int) then laws_markEraS.p5 k (((x0.set x2.toNat (r1.2, (x0.getD x2.toNat (([] : List Int), (false, ((0 : Int), ())))).2)).set x2.toNat (((x0.set x2.toNat (r1.2, (x0.getD x2.toNat (([] : List Int), (false, ((0 : Int), ())))).2)).getD x2.toNat (([] : List Int), (false, ((0 : Int), ())))).1, ((decide ((Int.tmod r1.1 (3 : Int)) = (0 : Int))), ((x0.set x2.toNat (r1.2, (x0.getD x2.toNat (([] : List Int), (false, ((0 : Int), ())))).2)).getD x2.toNat (([] : List Int), (false, ((0 : Int), ())))).2.2))).set x2.toNat ((((x0.set x2.toNat (r1.2, (x0.getD x2.toNat (([] : List Int), (false, ((0 : Int), ())))).2)).set x2.toNat (((x0.set x2.toNat (r1.2, (x0.getD x2.toNat (([] : List Int), (false, ((0 : Int), ())))).2)).getD x2.toNat (([] : List Int), (false, ((0 : Int), ())))).1, ((decide ((Int.tmod r1.1 (3 : Int)) = (0 : Int))), ((x0.set x2.toNat (r1.2, (x0.getD x2.toNat (([] : List Int), (false, ((0 : Int), ())))).2)).getD x2.toNat (([] : List Int), (false, ((0 : Int), ())))).2.2))).getD x2.toNat (([] : List Int), (false, ((0 : Int), ())))).1, ((((x0.set x2.toNat (r1.2, (x0.getD x2.toNat (([] : List Int), (false, ((0 : Int), ())))).2)).set x2.toNat (((x0.set x2.toNat (r1.2, (x0.getD x2.toNat (([] : List Int), (false, ((0 : Int), ())))).2)).getD x2.toNat (([] : List Int), (false, ((0 : Int), ())))).1, ((decide ((Int.tmod r1.1 (3 : Int)) = (0 : Int))), ((x0.set x2.toNat (r1.2, (x0.getD x2.toNat (([] : List Int), (false, ((0 : Int), ())))).2)).getD x2.toNat (([] : List Int), (false, ((0 : Int), ())))).2.2))).getD x2.toNat (([] : List Int), (false, ((0 : Int), ())))).2.1, ((wrap64 (r1.1 + (1 : Int))), (((x0.set x2.toNat (r1.2, (x0.getD x2.toNat (([] : List Int), (false, ((0 : Int), ())))).2)).set x2.toNat (((x0.set x2.toNat (r1.2, (x0.getD x2.toNat (([] : List Int), (false, ((0 : Int), ())))).2)).getD x2.toNat (([] : List Int), (false, ((0 : Int), ())))).1, ((decide ((Int.tmod r1.1 (3 : Int)) = (0 : Int))), ((x0.set x2.toNat (r1.2, (x0.getD x2.toNat (([] : List Int), (false, ((0 : Int), ())))).2)).getD x2.toNat (([] : List Int), (false, ((0 : Int), ())))).2.2))).getD x2.toNat (([] : List Int), (false, ((0 : Int), ())))).2.2.2)))) (wrap64 ((wrap64 (r1.1 + (1 : Int))) + (1 : Int))) (wrap64 (x2 + (1 : Int)))
          else none)
        else none)
      else none)
    else some (x1, x0)
noncomputable def laws_markEraS.f (k : Nat) (a0 : (List Era)) (a1 : Int) : Option (Int × (List Era)) := laws_markEraS.p5 k a0 a1 (0 : Int)
/-! laws.markRegister -/
noncomputable def laws_markRegister.f (k : Nat) (a0 : Register) (a1 : Int) : Option (Int × Register) := (laws_markEraS.f k a0.1 a1).bind fun r1 =>
  some (r1.1, (r1.2, a0.2))
/-! laws.markWordS -/
noncomputable def laws_markWordS.p5 : Nat → (List Word) → Int → Int → Option (Int × (List Word))
  | 0, _, _, _ => none
  | k + 1, x0, x1, x2 => if x2 < ((x0.length : Nat) : Int) then ((laws_markText.f k x1).bind fun r1 =>
      if (0 : Int) ≤ x2 ∧ x2 < ((x0.length : Nat) : Int) then (if (0 : Int) ≤ x2 ∧ x2 < (((x0.set x2.toNat (r1, (x0.getD x2.toNat ((⟨#[]⟩ : ByteArray), (([] : List Int), (false, ())))).2)).length : Nat) : Int) then ((laws_markIntS.f k ((x0.set x2.toNat (r1, (x0.getD x2.toNat ((⟨#[]⟩ : ByteArray), (([] : List Int), (false, ())))).2)).getD x2.toNat ((⟨#[]⟩ : ByteArray), (([] : List Int), (false, ())))).2.1 (wrap64 (x1 + (1 : Int)))).bind fun r2 =>
          if (0 : Int) ≤ x2 ∧ x2 < ((((x0.set x2.toNat (r1, (x0.getD x2.toNat ((⟨#[]⟩ : ByteArray), (([] : List Int), (false, ())))).2)).set x2.toNat (((x0.set x2.toNat (r1, (x0.getD x2.toNat ((⟨#[]⟩ : ByteArray), (([] : List Int), (false, ())))).2)).getD x2.toNat ((⟨#[]⟩ : ByteArray), (([] : List Int), (false, ())))).1, (r2.2, ((x0.set x2.toNat (r1, (x0.getD x2.toNat ((⟨#[]⟩ : ByteArray), (([] : List Int), (false, ())))).2)).getD x2.toNat ((⟨#[]⟩ : ByteArray), (([] : List Int), (false, ())))).2.2))).length : Nat) : Int) then laws_markWordS.p5 k (((x0.set x2.toNat (r1, (x0.getD x2.toNat ((⟨#[]⟩ : ByteArray), (([] : List Int), (false, ())))).2)).set x2.toNat (((x0.set x2.toNat (r1, (x0.getD x2.toNat ((⟨#[]⟩ : ByteArray), (([] : List Int), (false, ())))).2)).getD x2.toNat ((⟨#[]⟩ : ByteArray), (([] : List Int), (false, ())))).1, (r2.2, ((x0.set x2.toNat (r1, (x0.getD x2.toNat ((⟨#[]⟩ : ByteArray), (([] : List Int), (false, ())))).2)).getD x2.toNat ((⟨#[]⟩ : ByteArray), (([] : List Int), (false, ())))).2.2))).set x2.toNat ((((x0.set x2.toNat (r1, (x0.getD x2.toNat ((⟨#[]⟩ : ByteArray), (([] : List Int), (false, ())))).2)).set x2.toNat (((x0.set x2.toNat (r1, (x0.getD x2.toNat ((⟨#[]⟩ : ByteArray), (([] : List Int), (false, ())))).2)).getD x2.toNat ((⟨#[]⟩ : ByteArray), (([] : List Int), (false, ())))).1, (r2.2, ((x0.set x2.toNat (r1, (x0.getD x2.toNat ((⟨#[]⟩ : ByteArray), (([] : List Int), (false, ())))).2)).getD x2.toNat ((⟨#[]⟩ : ByteArray), (([] : List Int), (false, ())))).2.2))).getD x2.toNat ((⟨#[]⟩ : ByteArray), (([] : List Int), (false, ())))).1, ((((x0.set x2.toNat (r1, (x0.getD x2.toNat ((⟨#[]⟩ : ByteArray), (([] : List Int), (false, ())))).2)).set x2.toNat (((x0.set x2.toNat (r1, (x0.getD x2.toNat ((⟨#[]⟩ : ByteArray), (([] : List Int), (false, ())))).2)).getD x2.toNat ((⟨#[]⟩ : ByteArray), (([] : List Int), (false, ())))).1, (r2.2, ((x0.set x2.toNat (r1, (x0.getD x2.toNat ((⟨#[]⟩ : ByteArray), (([] : List Int), (false, ())))).2)).getD x2.toNat ((⟨#[]⟩ : ByteArray), (([] : List Int), (false, ())))).2.2))).getD x2.toNat ((⟨#[]⟩ : ByteArray), (([] : List Int), (false, ())))).2.1, ((decide ((Int.tmod r2.1 (3 : Int)) = (0 : Int))), (((x0.set x2.toNat (r1, (x0.getD x2.toNat ((⟨#[]⟩ : ByteArray), (([] : List Int), (false, ())))).2)).set x2.toNat (((x0.set x2.toNat (r1, (x0.getD x2.toNat ((⟨#[]⟩ : ByteArray), (([] : List Int), (false, ())))).2)).getD x2.toNat ((⟨#[]⟩ : ByteArray), (([] : List Int), (false, ())))).1, (r2.2, ((x0.set x2.toNat (r1, (x0.getD x2.toNat ((⟨#[]⟩ : ByteArray), (([] : List Int), (false, ())))).2)).getD x2.toNat ((⟨#[]⟩ : ByteArray), (([] : List Int), (false, ())))).2.2))).getD x2.toNat ((⟨#[]⟩ : ByteArray), (([] : List Int), (false, ())))).2.2.2)))) (wrap64 (r2.1 + (1 : Int))) (wrap64 (x2 + (1 : Int)))
          else none)
        else none)
      else none)
    else some (x1, x0)
noncomputable def laws_markWordS.f (k : Nat) (a0 : (List Word)) (a1 : Int) : Option (Int × (List Word)) := laws_markWordS.p5 k a0 a1 (0 : Int)
/-! laws.markWriterS -/
noncomputable def laws_markWriterS.p5 : Nat → (List Writer) → Int → Int → Option (Int × (List Writer))
  | 0, _, _, _ => none
  | k + 1, x0, x1, x2 => if x2 < ((x0.length : Nat) : Int) then (if (0 : Int) ≤ x2 ∧ x2 < ((x0.length : Nat) : Int) then (if (0 : Int) ≤ x2 ∧ x2 < (((x0.set x2.toNat (x1, (x0.getD x2.toNat ((0 : Int), (([] : List Word), ()))).2)).length : Nat) : Int) then ((laws_markWordS.f k ((x0.set x2.toNat (x1, (x0.getD x2.toNat ((0 : Int), (([] : List Word), ()))).2)).getD x2.toNat ((0 : Int), (([] : List Word), ()))).2.1 (wrap64 (x1 + (1 : Int)))).bind fun r1 =>
          laws_markWriterS.p5 k ((x0.set x2.toNat (x1, (x0.getD x2.toNat ((0 : Int), (([] : List Word), ()))).2)).set x2.toNat (((x0.set x2.toNat (x1, (x0.getD x2.toNat ((0 : Int), (([] : List Word), ()))).2)).getD x2.toNat ((0 : Int), (([] : List Word), ()))).1, (r1.2, ((x0.set x2.toNat (x1, (x0.getD x2.toNat ((0 : Int), (([] : List Word), ()))).2)).getD x2.toNat ((0 : Int), (([] : List Word), ()))).2.2))) r1.1 (wrap64 (x2 + (1 : Int))))
        else none)
      else none)
    else some (x1, x0)
noncomputable def laws_markWriterS.f (k : Nat) (a0 : (List Writer)) (a1 : Int) : Option (Int × (List Writer)) := laws_markWriterS.p5 k a0 a1 (0 : Int)
/-! laws.markIntSS -/
noncomputable def laws_markIntSS.p5 : Nat → (List (List Int)) → Int → Int → Option (Int × (List (List Int)))
  | 0, _, _, _ => none
  | k + 1, x0, x1, x2 => if x2 < ((x0.length : Nat) : Int) then (if (0 : Int) ≤ x2 ∧ x2 < ((x0.length : Nat) : Int) then ((laws_markIntS.f k (x0.getD x2.toNat ([] : List Int)) x1).bind fun r1 =>
        laws_markIntSS.p5 k (x0.set x2.toNat r1.2) r1.1 (wrap64 (x2 + (1 : Int))))
      else none)
    else some (x1, x0)
noncomputable def laws_markIntSS.f (k : Nat) (a0 : (List (List Int))) (a1 : Int) : Option (Int × (List (List Int))) := laws_markIntSS.p5 k a0 a1 (0 : Int)
/-! laws.markMendS -/
noncomputable def laws_markMendS.p5 : Nat → (List Mend) → Int → Int → Option (Int × (List Mend))
  | 0, _, _, _ => none
  | k + 1, x0, x1, x2 => if x2 < ((x0.length : Nat) : Int) then (if (0 : Int) ≤ x2 ∧ x2 < ((x0.length : Nat) : Int) then (if (0 : Int) ≤ x2 ∧ x2 < (((x0.set x2.toNat (x1, (x0.getD x2.toNat ((0 : Int), ((0 : Int), (([] : List Int), (([] : List Entry), (false, (([] : List (List Int)), ()))))))).2)).length : Nat) : Int) then (if (0 : Int) ≤ x2 ∧ x2 < ((((x0.set x2.toNat (x1, (x0.getD x2.toNat ((0 : Int), ((0 : Int), (([] : List Int), (([] : List Entry), (false, (([] : List (List Int)), ()))))))).2)).set x2.toNat (((x0.set x2.toNat (x1, (x0.getD x2.toNat ((0 : Int), ((0 : Int), (([] : List Int), (([] : List Entry), (false, (([] : List (List Int)), ()))))))).2)).getD x2.toNat ((0 : Int), ((0 : Int), (([] : List Int), (([] : List Entry), (false, (([] : List (List Int)), ()))))))).1, ((wrap64 (x1 + (1 : Int))), ((x0.set x2.toNat (x1, (x0.getD x2.toNat ((0 : Int), ((0 : Int), (([] : List Int), (([] : List Entry), (false, (([] : List (List Int)), ()))))))).2)).getD x2.toNat ((0 : Int), ((0 : Int), (([] : List Int), (([] : List Entry), (false, (([] : List (List Int)), ()))))))).2.2))).length : Nat) : Int) then ((laws_markIntS.f k (((x0.set x2.toNat (x1, (x0.getD x2.toNat ((0 : Int), ((0 : Int), (([] : List Int), (([] : List Entry), (false, (([] : List (List Int)), ()))))))).2)).set x2.toNat (((x0.set x2.toNat (x1, (x0.getD x2.toNat ((0 : Int), ((0 : Int), (([] : List Int), (([] : List Entry), (false, (([] : List (List Int)), ()))))))).2)).getD x2.toNat ((0 : Int), ((0 : Int), (([] : List Int), (([] : List Entry), (false, (([] : List (List Int)), ()))))))).1, ((wrap64 (x1 + (1 : Int))), ((x0.set x2.toNat (x1, (x0.getD x2.toNat ((0 : Int), ((0 : Int), (([] : List Int), (([] : List Entry), (false, (([] : List (List Int)), ()))))))).2)).getD x2.toNat ((0 : Int), ((0 : Int), (([] : List Int), (([] : List Entry), (false, (([] : List (List Int)), ()))))))).2.2))).getD x2.toNat ((0 : Int), ((0 : Int), (([] : List Int), (([] : List Entry), (false, (([] : List (List Int)), ()))))))).2.2.1 (wrap64 ((wrap64 (x1 + (1 : Int))) + (1 : Int)))).bind fun r1 =>
            if (0 : Int) ≤ x2 ∧ x2 < (((((x0.set x2.toNat (x1, (x0.getD x2.toNat ((0 : Int), ((0 : Int), (([] : List Int), (([] : List Entry), (false, (([] : List (List Int)), ()))))))).2)).set x2.toNat (((x0.set x2.toNat (x1, (x0.getD x2.toNat ((0 : Int), ((0 : Int), (([] : List Int), (([] : List Entry), (false, (([] : List (List Int)), ()))))))).2)).getD x2.toNat ((0 : Int), ((0 : Int), (([] : List Int), (([] : List Entry), (false, (([] : List (List Int)), ()))))))).1, ((wrap64 (x1 + (1 : Int))), ((x0.set x2.toNat (x1, (x0.getD x2.toNat ((0 : Int), ((0 : Int), (([] : List Int), (([] : List Entry), (false, (([] : List (List Int)), ()))))))).2)).getD x2.toNat ((0 : Int), ((0 : Int), (([] : List Int), (([] : List Entry), (false, (([] : List (List Int)), ()))))))).2.2))).set x2.toNat ((((x0.set x2.toNat (x1, (x0.getD x2.toNat ((0 : Int), ((0 : Int), (([] : List Int), (([] : List Entry), (false, (([] : List (List Int)), ()))))))).2)).set x2.toNat (((x0.set x2.toNat (x1, (x0.getD x2.toNat ((0 : Int), ((0 : Int), (([] : List Int), (([] : List Entry), (false, (([] : List (List Int)), ()))))))).2)).getD x2.toNat ((0 : Int), ((0 : Int), (([] : List Int), (([] : List Entry), (false, (([] : List (List Int)), ()))))))).1, ((wrap64 (x1 + (1 : Int))), ((x0.set x2.toNat (x1, (x0.getD x2.toNat ((0 : Int), ((0 : Int), (([] : List Int), (([] : List Entry), (false, (([] : List (List Int)), ()))))))).2)).getD x2.toNat ((0 : Int), ((0 : Int), (([] : List Int), (([] : List Entry), (false, (([] : List (List Int)), ()))))))).2.2))).getD x2.toNat ((0 : Int), ((0 : Int), (([] : List Int), (([] : List Entry), (false, (([] : List (List Int)), ()))))))).1, ((((x0.set x2.toNat (x1, (x0.getD x2.toNat ((0 : Int), ((0 : Int), (([] : List Int), (([] : List Entry), (false, (([] : List (List Int)), ()))))))).2)).set x2.toNat (((x0.set x2.toNat (x1, (x0.getD x2.toNat ((0 : Int), ((0 : Int), (([] : List Int), (([] : List Entry), (false, (([] : List (List Int)), ()))))))).2)).getD x2.toNat ((0 : Int), ((0 : Int), (([] : List Int), (([] : List Entry), (false, (([] : List (List Int)), ()))))))).1, ((wrap64 (x1 + (1 : Int))), ((x0.set x2.toNat (x1, (x0.getD x2.toNat ((0 : Int), ((0 : Int), (([] : List Int), (([] : List Entry), (false, (([] : List (List Int)), ()))))))).2)).getD x2.toNat ((0 : Int), ((0 : Int), (([] : List Int), (([] : List Entry), (false, (([] : List (List Int)), ()))))))).2.2))).getD x2.toNat ((0 : Int), ((0 : Int), (([] : List Int), (([] : List Entry), (false, (([] : List (List Int)), ()))))))).2.1, (r1.2, (((x0.set x2.toNat (x1, (x0.getD x2.toNat ((0 : Int), ((0 : Int), (([] : List Int), (([] : List Entry), (false, (([] : List (List Int)), ()))))))).2)).set x2.toNat (((x0.set x2.toNat (x1, (x0.getD x2.toNat ((0 : Int), ((0 : Int), (([] : List Int), (([] : List Entry), (false, (([] : List (List Int)), ()))))))).2)).getD x2.toNat ((0 : Int), ((0 : Int), (([] : List Int), (([] : List Entry), (false, (([] : List (List Int)), ()))))))).1, ((wrap64 (x1 + (1 : Int))), ((x0.set x2.toNat (x1, (x0.getD x2.toNat ((0 : Int), ((0 : Int), (([] : List Int), (([] : List Entry), (false, (([] : List (List Int)), ()))))))).2)).getD x2.toNat ((0 : Int), ((0 : Int), (([] : List Int), (([] : List Entry), (false, (([] : List (List Int)), ()))))))).2.2))).getD x2.toNat ((0 : Int), ((0 : Int), (([] : List Int), (([] : List Entry), (false, (([] : List (List Int)), ()))))))).2.2.2)))).length : Nat) : Int) then ((laws_markEntryS.f k ((((x0.set x2.toNat (x1, (x0.getD x2.toNat ((0 : Int), ((0 : Int), (([] : List Int), (([] : List Entry), (false, (([] : List (List Int)), ()))))))).2)).set x2.toNat (((x0.set x2.toNat (x1, (x0.getD x2.toNat ((0 : Int), ((0 : Int), (([] : List Int), (([] : List Entry), (false, (([] : List (List Int)), ()))))))).2)).getD x2.toNat ((0 : Int), ((0 : Int), (([] : List Int), (([] : List Entry), (false, (([] : List (List Int)), ()))))))).1, ((wrap64 (x1 + (1 : Int))), ((x0.set x2.toNat (x1, (x0.getD x2.toNat ((0 : Int), ((0 : Int), (([] : List Int), (([] : List Entry), (false, (([] : List (List Int)), ()))))))).2)).getD x2.toNat ((0 : Int), ((0 : Int), (([] : List Int), (([] : List Entry), (false, (([] : List (List Int)), ()))))))).2.2))).set x2.toNat ((((x0.set x2.toNat (x1, (x0.getD x2.toNat ((0 : Int), ((0 : Int), (([] : List Int), (([] : List Entry), (false, (([] : List (List Int)), ()))))))).2)).set x2.toNat (((x0.set x2.toNat (x1, (x0.getD x2.toNat ((0 : Int), ((0 : Int), (([] : List Int), (([] : List Entry), (false, (([] : List (List Int)), ()))))))).2)).getD x2.toNat ((0 : Int), ((0 : Int), (([] : List Int), (([] : List Entry), (false, (([] : List (List Int)), ()))))))).1, ((wrap64 (x1 + (1 : Int))), ((x0.set x2.toNat (x1, (x0.getD x2.toNat ((0 : Int), ((0 : Int), (([] : List Int), (([] : List Entry), (false, (([] : List (List Int)), ()))))))).2)).getD x2.toNat ((0 : Int), ((0 : Int), (([] : List Int), (([] : List Entry), (false, (([] : List (List Int)), ()))))))).2.2))).getD x2.toNat ((0 : Int), ((0 : Int), (([] : List Int), (([] : List Entry), (false, (([] : List (List Int)), ()))))))).1, ((((x0.set x2.toNat (x1, (x0.getD x2.toNat ((0 : Int), ((0 : Int), (([] : List Int), (([] : List Entry), (false, (([] : List (List Int)), ()))))))).2)).set x2.toNat (((x0.set x2.toNat (x1, (x0.getD x2.toNat ((0 : Int), ((0 : Int), (([] : List Int), (([] : List Entry), (false, (([] : List (List Int)), ()))))))).2)).getD x2.toNat ((0 : Int), ((0 : Int), (([] : List Int), (([] : List Entry), (false, (([] : List (List Int)), ()))))))).1, ((wrap64 (x1 + (1 : Int))), ((x0.set x2.toNat (x1, (x0.getD x2.toNat ((0 : Int), ((0 : Int), (([] : List Int), (([] : List Entry), (false, (([] : List (List Int)), ()))))))).2)).getD x2.toNat ((0 : Int), ((0 : Int), (([] : List Int), (([] : List Entry), (false, (([] : List (List Int)), ()))))))).2.2))).getD x2.toNat ((0 : Int), ((0 : Int), (([] : List Int), (([] : List Entry), (false, (([] : List (List Int)), ()))))))).2.1, (r1.2, (((x0.set x2.toNat (x1, (x0.getD x2.toNat ((0 : Int), ((0 : Int), (([] : List Int), (([] : List Entry), (false, (([] : List (List Int)), ()))))))).2)).set x2.toNat (((x0.set x2.toNat (x1, (x0.getD x2.toNat ((0 : Int), ((0 : Int), (([] : List Int), (([] : List Entry), (false, (([] : List (List Int)), ()))))))).2)).getD x2.toNat ((0 : Int), ((0 : Int), (([] : List Int), (([] : List Entry), (false, (([] : List (List Int)), ()))))))).1, ((wrap64 (x1 + (1 : Int))), ((x0.set x2.toNat (x1, (x0.getD x2.toNat ((0 : Int), ((0 : Int), (([] : List Int), (([] : List Entry), (false, (([] : List (List Int)), ()))))))).2)).getD x2.toNat ((0 : Int), ((0 : Int), (([] : List Int), (([] : List Entry), (false, (([] : List (List Int)), ()))))))).2.2))).getD x2.toNat ((0 : Int), ((0 : Int), (([] : List Int), (([] : List Entry), (false, (([] : List (List Int)), ()))))))).2.2.2)))).getD x2.toNat ((0 : Int), ((0 : Int), (([] : List Int), (([] : List Entry), (false, (([] : List (List Int)), ()))))))).2.2.2.1 r1.1).bind fun r2 =>
              let y1 := ((((x0.set x2.toNat (x1, (x0.getD x2.toNat ((0 : Int), ((0 : Int), (([] : List Int), (([] : List Entry), (false, (([] : List (List Int)), ()))))))).2)).set x2.toNat (((x0.set x2.toNat (x1, (x0.getD x2.toNat ((0 : Int), ((0 : Int), (([] : List Int), (([] : List Entry), (false, (([] : List (List Int)), ()))))))).2)).getD x2.toNat ((0 : Int), ((0 : Int), (([] : List Int), (([] : List Entry), (false, (([] : List (List Int)), ()))))))).1, ((wrap64 (x1 + (1 : Int))), ((x0.set x2.toNat (x1, (x0.getD x2.toNat ((0 : Int), ((0 : Int), (([] : List Int), (([] : List Entry), (false, (([] : List (List Int)), ()))))))).2)).getD x2.toNat ((0 : Int), ((0 : Int), (([] : List Int), (([] : List Entry), (false, (([] : List (List Int)), ()))))))).2.2))).set x2.toNat ((((x0.set x2.toNat (x1, (x0.getD x2.toNat ((0 : Int), ((0 : Int), (([] : List Int), (([] : List Entry), (false, (([] : List (List Int)), ()))))))).2)).set x2.toNat (((x0.set x2.toNat (x1, (x0.getD x2.toNat ((0 : Int), ((0 : Int), (([] : List Int), (([] : List Entry), (false, (([] : List (List Int)), ()))))))).2)).getD x2.toNat ((0 : Int), ((0 : Int), (([] : List Int), (([] : List Entry), (false, (([] : List (List Int)), ()))))))).1, ((wrap64 (x1 + (1 : Int))), ((x0.set x2.toNat (x1, (x0.getD x2.toNat ((0 : Int), ((0 : Int), (([] : List Int), (([] : List Entry), (false, (([] : List (List Int)), ()))))))).2)).getD x2.toNat ((0 : Int), ((0 : Int), (([] : List Int), (([] : List Entry), (false, (([] : List (List Int)), ()))))))).2.2))).getD x2.toNat ((0 : Int), ((0 : Int), (([] : List Int), (([] : List Entry), (false, (([] : List (List Int)), ()))))))).1, ((((x0.set x2.toNat (x1, (x0.getD x2.toNat ((0 : Int), ((0 : Int), (([] : List Int), (([] : List Entry), (false, (([] : List (List Int)), ()))))))).2)).set x2.toNat (((x0.set x2.toNat (x1, (x0.getD x2.toNat ((0 : Int), ((0 : Int), (([] : List Int), (([] : List Entry), (false, (([] : List (List Int)), ()))))))).2)).getD x2.toNat ((0 : Int), ((0 : Int), (([] : List Int), (([] : List Entry), (false, (([] : List (List Int)), ()))))))).1, ((wrap64 (x1 + (1 : Int))), ((x0.set x2.toNat (x1, (x0.getD x2.toNat ((0 : Int), ((0 : Int), (([] : List Int), (([] : List Entry), (false, (([] : List (List Int)), ()))))))).2)).getD x2.toNat ((0 : Int), ((0 : Int), (([] : List Int), (([] : List Entry), (false, (([] : List (List Int)), ()))))))).2.2))).getD x2.toNat ((0 : Int), ((0 : Int), (([] : List Int), (([] : List Entry), (false, (([] : List (List Int)), ()))))))).2.1, (r1.2, (((x0.set x2.toNat (x1, (x0.getD x2.toNat ((0 : Int), ((0 : Int), (([] : List Int), (([] : List Entry), (false, (([] : List (List Int)), ()))))))).2)).set x2.toNat (((x0.set x2.toNat (x1, (x0.getD x2.toNat ((0 : Int), ((0 : Int), (([] : List Int), (([] : List Entry), (false, (([] : List (List Int)), ()))))))).2)).getD x2.toNat ((0 : Int), ((0 : Int), (([] : List Int), (([] : List Entry), (false, (([] : List (List Int)), ()))))))).1, ((wrap64 (x1 + (1 : Int))), ((x0.set x2.toNat (x1, (x0.getD x2.toNat ((0 : Int), ((0 : Int), (([] : List Int), (([] : List Entry), (false, (([] : List (List Int)), ()))))))).2)).getD x2.toNat ((0 : Int), ((0 : Int), (([] : List Int), (([] : List Entry), (false, (([] : List (List Int)), ()))))))).2.2))).getD x2.toNat ((0 : Int), ((0 : Int), (([] : List Int), (([] : List Entry), (false, (([] : List (List Int)), ()))))))).2.2.2)))).set x2.toNat (((((x0.set x2.toNat (x1, (x0.getD x2.toNat ((0 : Int), ((0 : Int), (([] : List Int), (([] : List Entry), (false, (([] : List (List Int)), ()))))))).2)).set x2.toNat (((x0.set x2.toNat (x1, (x0.getD x2.toNat ((0 : Int), ((0 : Int), (([] : List Int), (([] : List Entry), (false, (([] : List (List Int)), ()))))))).2)).getD x2.toNat ((0 : Int), ((0 : Int), (([] : List Int), (([] : List Entry), (false, (([] : List (List Int)), ()))))))).1, ((wrap64 (x1 + (1 : Int))), ((x0.set x2.toNat (x1, (x0.getD x2.toNat ((0 : Int), ((0 : Int), (([] : List Int), (([] : List Entry), (false, (([] : List (List Int)), ()))))))).2)).getD x2.toNat ((0 : Int), ((0 : Int), (([] : List Int), (([] : List Entry), (false, (([] : List (List Int)), ()))))))).2.2))).set x2.toNat ((((x0.set x2.toNat (x1, (x0.getD x2.toNat ((0 : Int), ((0 : Int), (([] : List Int), (([] : List Entry), (false, (([] : List (List Int)), ()))))))).2)).set x2.toNat (((x0.set x2.toNat (x1, (x0.getD x2.toNat ((0 : Int), ((0 : Int), (([] : List Int), (([] : List Entry), (false, (([] : List (List Int)), ()))))))).2)).getD x2.toNat ((0 : Int), ((0 : Int), (([] : List Int), (([] : List Entry), (false, (([] : List (List Int)), ()))))))).1, ((wrap64 (x1 + (1 : Int))), ((x0.set x2.toNat (x1, (x0.getD x2.toNat ((0 : Int), ((0 : Int), (([] : List Int), (([] : List Entry), (false, (([] : List (List Int)), ()))))))).2)).getD x2.toNat ((0 : Int), ((0 : Int), (([] : List Int), (([] : List Entry), (false, (([] : List (List Int)), ()))))))).2.2))).getD x2.toNat ((0 : Int), ((0 : Int), (([] : List Int), (([] : List Entry), (false, (([] : List (List Int)), ()))))))).1, ((((x0.set x2.toNat (x1, (x0.getD x2.toNat ((0 : Int), ((0 : Int), (([] : List Int), (([] : List Entry), (false, (([] : List (List Int)), ()))))))).2)).set x2.toNat (((x0.set x2.toNat (x1, (x0.getD x2.toNat ((0 : Int), ((0 : Int), (([] : List Int), (([] : List Entry), (false, (([] : List (List Int)), ()))))))).2)).getD x2.toNat ((0 : Int), ((0 : Int), (([] : List Int), (([] : List Entry), (false, (([] : List (List Int)), ()))))))).1, ((wrap64 (x1 + (1 : Int))), ((x0.set x2.toNat (x1, (x0.getD x2.toNat ((0 : Int), ((0 : Int), (([] : List Int), (([] : List Entry), (false, (([] : List (List Int)), ()))))))).2)).getD x2.toNat ((0 : Int), ((0 : Int), (([] : List Int), (([] : List Entry), (false, (([] : List (List Int)), ()))))))).2.2))).getD x2.toNat ((0 : Int), ((0 : Int), (([] : List Int), (([] : List Entry), (false, (([] : List (List Int)), ()))))))).2.1, (r1.2, (((x0.set x2.toNat (x1, (x0.getD x2.toNat ((0 : Int), ((0 : Int), (([] : List Int), (([] : List Entry), (false, (([] : List (List Int)), ()))))))).2)).set x2.toNat (((x0.set x2.toNat (x1, (x0.getD x2.toNat ((0 : Int), ((0 : Int), (([] : List Int), (([] : List Entry), (false, (([] : List (List Int)), ()))))))).2)).getD x2.toNat ((0 : Int), ((0 : Int), (([] : List Int), (([] : List Entry), (false, (([] : List (List Int)), ()))))))).1, ((wrap64 (x1 + (1 : Int))), ((x0.set x2.toNat (x1, (x0.getD x2.toNat ((0 : Int), ((0 : Int), (([] : List Int), (([] : List Entry), (false, (([] : List (List Int)), ()))))))).2)).getD x2.toNat ((0 : Int), ((0 : Int), (([] : List Int), (([] : List Entry), (false, (([] : List (List Int)), ()))))))).2.2))).getD x2.toNat ((0 : Int), ((0 : Int), (([] : List Int), (([] : List Entry), (false, (([] : List (List Int)), ()))))))).2.2.2)))).getD x2.toNat ((0 : Int), ((0 : Int), (([] : List Int), (([] : List Entry), (false, (([] : List (List Int)), ()))))))).1, (((((x0.set x2.toNat (x1, (x0.getD x2.toNat ((0 : Int), ((0 : Int), (([] : List Int), (([] : List Entry), (false, (([] : List (List Int)), ()))))))).2)).set x2.toNat (((x0.set x2.toNat (x1, (x0.getD x2.toNat ((0 : Int), ((0 : Int), (([] : List Int), (([] : List Entry), (false, (([] : List (List Int)), ()))))))).2)).getD x2.toNat ((0 : Int), ((0 : Int), (([] : List Int), (([] : List Entry), (false, (([] : List (List Int)), ()))))))).1, ((wrap64 (x1 + (1 : Int))), ((x0.set x2.toNat (x1, (x0.getD x2.toNat ((0 : Int), ((0 : Int), (([] : List Int), (([] : List Entry), (false, (([] : List (List Int)), ()))))))).2)).getD x2.toNat ((0 : Int), ((0 : Int), (([] : List Int), (([] : List Entry), (false, (([] : List (List Int)), ()))))))).2.2))).set x2.toNat ((((x0.set x2.toNat (x1, (x0.getD x2.toNat ((0 : Int), ((0 : Int), (([] : List Int), (([] : List Entry), (false, (([] : List (List Int)), ()))))))).2)).set x2.toNat (((x0.set x2.toNat (x1, (x0.getD x2.toNat ((0 : Int), ((0 : Int), (([] : List Int), (([] : List Entry), (false, (([] : List (List Int)), ()))))))).2)).getD x2.toNat ((0 : Int), ((0 : Int), (([] : List Int), (([] : List Entry), (false, (([] : List (List Int)), ()))))))).1, ((wrap64 (x1 + (1 : Int))), ((x0.set x2.toNat (x1, (x0.getD x2.toNat ((0 : Int), ((0 : Int), (([] : List Int), (([] : List Entry), (false, (([] : List (List Int)), ()))))))).2)).getD x2.toNat ((0 : Int), ((0 : Int), (([] : List Int), (([] : List Entry), (false, (([] : List (List Int)), ()))))))).2.2))).getD x2.toNat ((0 : Int), ((0 : Int), (([] : List Int), (([] : List Entry), (false, (([] : List (List Int)), ()))))))).1, ((((x0.set x2.toNat (x1, (x0.getD x2.toNat ((0 : Int), ((0 : Int), (([] : List Int), (([] : List Entry), (false, (([] : List (List Int)), ()))))))).2)).set x2.toNat (((x0.set x2.toNat (x1, (x0.getD x2.toNat ((0 : Int), ((0 : Int), (([] : List Int), (([] : List Entry), (false, (([] : List (List Int)), ()))))))).2)).getD x2.toNat ((0 : Int), ((0 : Int), (([] : List Int), (([] : List Entry), (false, (([] : List (List Int)), ()))))))).1, ((wrap64 (x1 + (1 : Int))), ((x0.set x2.toNat (x1, (x0.getD x2.toNat ((0 : Int), ((0 : Int), (([] : List Int), (([] : List Entry), (false, (([] : List (List Int)), ()))))))).2)).getD x2.toNat ((0 : Int), ((0 : Int), (([] : List Int), (([] : List Entry), (false, (([] : List (List Int)), ()))))))).2.2))).getD x2.toNat ((0 : Int), ((0 : Int), (([] : List Int), (([] : List Entry), (false, (([] : List (List Int)), ()))))))).2.1, (r1.2, (((x0.set x2.toNat (x1, (x0.getD x2.toNat ((0 : Int), ((0 : Int), (([] : List Int), (([] : List Entry), (false, (([] : List (List Int)), ()))))))).2)).set x2.toNat (((x0.set x2.toNat (x1, (x0.getD x2.toNat ((0 : Int), ((0 : Int), (([] : List Int), (([] : List Entry), (false, (([] : List (List Int)), ()))))))).2)).getD x2.toNat ((0 : Int), ((0 : Int), (([] : List Int), (([] : List Entry), (false, (([] : List (List Int)), ()))))))).1, ((wrap64 (x1 + (1 : Int))), ((x0.set x2.toNat (x1, (x0.getD x2.toNat ((0 : Int), ((0 : Int), (([] : List Int), (([] : List Entry), (false, (([] : List (List Int)), ()))))))).2)).getD x2.toNat ((0 : Int), ((0 : Int), (([] : List Int), (([] : List Entry), (false, (([] : List (List Int)), ()))))))).2.2))).getD x2.toNat ((0 : Int), ((0 : Int), (([] : List Int), (([] : List Entry), (false, (([] : List (List Int)), ()))))))).2.2.2)))).getD x2.toNat ((0 : Int), ((0 : Int), (([] : List Int), (([] : List Entry), (false, (([] : List (List Int)), ()))))))).2.1, (((((x0.set x2.toNat (x1, (x0.getD x2.toNat ((0 : Int), ((0 : Int), (([] : List Int), (([] : List Entry), (false, (([] : List (List Int)), ()))))))).2)).set x2.toNat (((x0.set x2.toNat (x1, (x0.getD x2.toNat ((0 : Int), ((0 : Int), (([] : List Int), (([] : List Entry), (false, (([] : List (List Int)), ()))))))).2)).getD x2.toNat ((0 : Int), ((0 : Int), (([] : List Int), (([] : List Entry), (false, (([] : List (List Int)), ()))))))).1, ((wrap64 (x1 + (1 : Int))), ((x0.set x2.toNat (x1, (x0.getD x2.toNat ((0 : Int), ((0 : Int), (([] : List Int), (([] : List Entry), (false, (([] : List (List Int)), ()))))))).2)).getD x2.toNat ((0 : Int), ((0 : Int), (([] : List Int), (([] : List Entry), (false, (([] : List (List Int)), ()))))))).2.2))).set x2.toNat ((((x0.set x2.toNat (x1, (x0.getD x2.toNat ((0 : Int), ((0 : Int), (([] : List Int), (([] : List Entry), (false, (([] : List (List Int)), ()))))))).2)).set x2.toNat (((x0.set x2.toNat (x1, (x0.getD x2.toNat ((0 : Int), ((0 : Int), (([] : List Int), (([] : List Entry), (false, (([] : List (List Int)), ()))))))).2)).getD x2.toNat ((0 : Int), ((0 : Int), (([] : List Int), (([] : List Entry), (false, (([] : List (List Int)), ()))))))).1, ((wrap64 (x1 + (1 : Int))), ((x0.set x2.toNat (x1, (x0.getD x2.toNat ((0 : Int), ((0 : Int), (([] : List Int), (([] : List Entry), (false, (([] : List (List Int)), ()))))))).2)).getD x2.toNat ((0 : Int), ((0 : Int), (([] : List Int), (([] : List Entry), (false, (([] : List (List Int)), ()))))))).2.2))).getD x2.toNat ((0 : Int), ((0 : Int), (([] : List Int), (([] : List Entry), (false, (([] : List (List Int)), ()))))))).1, ((((x0.set x2.toNat (x1, (x0.getD x2.toNat ((0 : Int), ((0 : Int), (([] : List Int), (([] : List Entry), (false, (([] : List (List Int)), ()))))))).2)).set x2.toNat (((x0.set x2.toNat (x1, (x0.getD x2.toNat ((0 : Int), ((0 : Int), (([] : List Int), (([] : List Entry), (false, (([] : List (List Int)), ()))))))).2)).getD x2.toNat ((0 : Int), ((0 : Int), (([] : List Int), (([] : List Entry), (false, (([] : List (List Int)), ()))))))).1, ((wrap64 (x1 + (1 : Int))), ((x0.set x2.toNat (x1, (x0.getD x2.toNat ((0 : Int), ((0 : Int), (([] : List Int), (([] : List Entry), (false, (([] : List (List Int)), ()))))))).2)).getD x2.toNat ((0 : Int), ((0 : Int), (([] : List Int), (([] : List Entry), (false, (([] : List (List Int)), ()))))))).2.2))).getD x2.toNat ((0 : Int), ((0 : Int), (([] : List Int), (([] : List Entry), (false, (([] : List (List Int)), ()))))))).2.1, (r1.2, (((x0.set x2.toNat (x1, (x0.getD x2.toNat ((0 : Int), ((0 : Int), (([] : List Int), (([] : List Entry), (false, (([] : List (List Int)), ()))))))).2)).set x2.toNat (((x0.set x2.toNat (x1, (x0.getD x2.toNat ((0 : Int), ((0 : Int), (([] : List Int), (([] : List Entry), (false, (([] : List (List Int)), ()))))))).2)).getD x2.toNat ((0 : Int), ((0 : Int), (([] : List Int), (([] : List Entry), (false, (([] : List (List Int)), ()))))))).1, ((wrap64 (x1 + (1 : Int))), ((x0.set x2.toNat (x1, (x0.getD x2.toNat ((0 : Int), ((0 : Int), (([] : List Int), (([] : List Entry), (false, (([] : List (List Int)), ()))))))).2)).getD x2.toNat ((0 : Int), ((0 : Int), (([] : List Int), (([] : List Entry), (false, (([] : List (List Int)), ()))))))).2.2))).getD x2.toNat ((0 : Int), ((0 : Int), (([] : List Int), (([] : List Entry), (false, (([] : List (List Int)), ()))))))).2.2.2)))).getD x2.toNat ((0 : Int), ((0 : Int), (([] : List Int), (([] : List Entry), (false, (([] : List (List Int)), ()))))))).2.2.1, (r2.2, ((((x0.set x2.toNat (x1, (x0.getD x2.toNat ((0 : Int), ((0 : Int), (([] : List Int), (([] : List Entry), (false, (([] : List (List Int)), ()))))))).2)).set x2.toNat (((x0.set x2.toNat (x1, (x0.getD x2.toNat ((0 : Int), ((0 : Int), (([] : List Int), (([] : List Entry), (false, (([] : List (List Int)), ()))))))).2)).getD x2.toNat ((0 : Int), ((0 : Int), (([] : List Int), (([] : List Entry), (false, (([] : List (List Int)), ()))))))).1, ((wrap64 (x1 + (1 : Int))), ((x0.set x2.toNat (x1, (x0.getD x2.toNat ((0 : Int), ((0 : Int), (([] : List Int), (([] : List Entry), (false, (([] : List (List Int)), ()))))))).2)).getD x2.toNat ((0 : Int), ((0 : Int), (([] : List Int), (([] : List Entry), (false, (([] : List (List Int)), ()))))))).2.2))).set x2.toNat ((((x0.set x2.toNat (x1, (x0.getD x2.toNat ((0 : Int), ((0 : Int), (([] : List Int), (([] : List Entry), (false, (([] : List (List Int)), ()))))))).2)).set x2.toNat (((x0.set x2.toNat (x1, (x0.getD x2.toNat ((0 : Int), ((0 : Int), (([] : List Int), (([] : List Entry), (false, (([] : List (List Int)), ()))))))).2)).getD x2.toNat ((0 : Int), ((0 : Int), (([] : List Int), (([] : List Entry), (false, (([] : List (List Int)), ()))))))).1, ((wrap64 (x1 + (1 : Int))), ((x0.set x2.toNat (x1, (x0.getD x2.toNat ((0 : Int), ((0 : Int), (([] : List Int), (([] : List Entry), (false, (([] : List (List Int)), ()))))))).2)).getD x2.toNat ((0 : Int), ((0 : Int), (([] : List Int), (([] : List Entry), (false, (([] : List (List Int)), ()))))))).2.2))).getD x2.toNat ((0 : Int), ((0 : Int), (([] : List Int), (([] : List Entry), (false, (([] : List (List Int)), ()))))))).1, ((((x0.set x2.toNat (x1, (x0.getD x2.toNat ((0 : Int), ((0 : Int), (([] : List Int), (([] : List Entry), (false, (([] : List (List Int)), ()))))))).2)).set x2.toNat (((x0.set x2.toNat (x1, (x0.getD x2.toNat ((0 : Int), ((0 : Int), (([] : List Int), (([] : List Entry), (false, (([] : List (List Int)), ()))))))).2)).getD x2.toNat ((0 : Int), ((0 : Int), (([] : List Int), (([] : List Entry), (false, (([] : List (List Int)), ()))))))).1, ((wrap64 (x1 + (1 : Int))), ((x0.set x2.toNat (x1, (x0.getD x2.toNat ((0 : Int), ((0 : Int), (([] : List Int), (([] : List Entry), (false, (([] : List (List Int)), ()))))))).2)).getD x2.toNat ((0 : Int), ((0 : Int), (([] : List Int), (([] : List Entry), (false, (([] : List (List Int)), ()))))))).2.2))).getD x2.toNat ((0 : Int), ((0 : Int), (([] : List Int), (([] : List Entry), (false, (([] : List (List Int)), ()))))))).2.1, (r1.2, (((x0.set x2.toNat (x1, (x0.getD x2.toNat ((0 : Int), ((0 : Int), (([] : List Int), (([] : List Entry), (false, (([] : List (List Int)), ()))))))).2)).set x2.toNat (((x0.set x2.toNat (x1, (x0.getD x2.toNat ((0 : Int), ((0 : Int), (([] : List Int), (([] : List Entry), (false, (([] : List (List Int)), ()))))))).2)).getD x2.toNat ((0 : Int), ((0 : Int), (([] : List Int), (([] : List Entry), (false, (([] : List (List Int)), ()))))))).1, ((wrap64 (x1 + (1 : Int))), ((x0.set x2.toNat (x1, (x0.getD x2.toNat ((0 : Int), ((0 : Int), (([] : List Int), (([] : List Entry), (false, (([] : List (List Int)), ()))))))).2)).getD x2.toNat ((0 : Int), ((0 : Int), (([] : List Int), (([] : List Entry), (false, (([] : List (List Int)), ()))))))).2.2))).getD x2.toNat ((0 : Int), ((0 : Int), (([] : List Int), (([] : List Entry), (false, (([] : List (List Int)), ()))))))).2.2.2)))).getD x2.toNat ((0 : Int), ((0 : Int), (([] : List Int), (([] : List Entry), (false, (([] : List (List Int)), ()))))))).2.2.2.2)))))
              if (0 : Int) ≤ x2 ∧ x2 < ((y1.length : Nat) : Int) then (if (0 : Int) ≤ x2 ∧ x2 < (((y1.set x2.toNat ((y1.getD x2.toNat ((0 : Int), ((0 : Int), (([] : List Int), (([] : List Entry), (false, (([] : List (List Int)), ()))))))).1, ((y1.getD x2.toNat ((0 : Int), ((0 : Int), (([] : List Int), (([] : List Entry), (false, (([] : List (List Int)), ()))))))).2.1, ((y1.getD x2.toNat ((0 : Int), ((0 : Int), (([] : List Int), (([] : List Entry), (false, (([] : List (List Int)), ()))))))).2.2.1, ((y1.getD x2.toNat ((0 : Int), ((0 : Int), (([] : List Int), (([] : List Entry), (false, (([] : List (List Int)), ()))))))).2.2.2.1, ((decide ((Int.tmod r2.1 (3 : Int)) = (0 : Int))), (y1.getD x2.toNat ((0 : Int), ((0 : Int), (([] : List Int), (([] : List Entry), (false, (([] : List (List Int)), ()))))))).2.2.2.2.2)))))).length : Nat) : Int) then ((laws_markIntSS.f k ((y1.set x2.toNat ((y1.getD x2.toNat ((0 : Int), ((0 : Int), (([] : List Int), (([] : List Entry), (false, (([] : List (List Int)), ()))))))).1, ((y1.getD x2.toNat ((0 : Int), ((0 : Int), (([] : List Int), (([] : List Entry), (false, (([] : List (List Int)), ()))))))).2.1, ((y1.getD x2.toNat ((0 : Int), ((0 : Int), (([] : List Int), (([] : List Entry), (false, (([] : List (List Int)), ()))))))).2.2.1, ((y1.getD x2.toNat ((0 : Int), ((0 : Int), (([] : List Int), (([] : List Entry), (false, (([] : List (List Int)), ()))))))).2.2.2.1, ((decide ((Int.tmod r2.1 (3 : Int)) = (0 : Int))), (y1.getD x2.toNat ((0 : Int), ((0 : Int), (([] : List Int), (([] : List Entry), (false, (([] : List (List Int)), ()))))))).2.2.2.2.2)))))).getD x2.toNat ((0 : Int), ((0 : Int), (([] : List Int), (([] : List Entry), (false, (([] : List (List Int)), ()))))))).2.2.2.2.2.1 (wrap64 (r2.1 + (1 : Int)))).bind fun r3 =>
                  laws_markMendS.p5 k ((y1.set x2.toNat ((y1.getD x2.toNat ((0 : Int), ((0 : Int), (([] : List Int), (([] : List Entry), (false, (([] : List (List Int)), ()))))))).1, ((y1.getD x2.toNat ((0 : Int), ((0 : Int), (([] : List Int), (([] : List Entry), (false, (([] : List (List Int)), ()))))))).2.1, ((y1.getD x2.toNat ((0 : Int), ((0 : Int), (([] : List Int), (([] : List Entry), (false, (([] : List (List Int)), ()))))))).2.2.1, ((y1.getD x2.toNat ((0 : Int), ((0 : Int), (([] : List Int), (([] : List Entry), (false, (([] : List (List Int)), ()))))))).2.2.2.1, ((decide ((Int.tmod r2.1 (3 : Int)) = (0 : Int))), (y1.getD x2.toNat ((0 : Int), ((0 : Int), (([] : List Int), (([] : List Entry), (false, (([] : List (List Int)), ()))))))).2.2.2.2.2)))))).set x2.toNat (((y1.set x2.toNat ((y1.getD x2.toNat ((0 : Int), ((0 : Int), (([] : List Int), (([] : List Entry), (false, (([] : List (List Int)), ()))))))).1, ((y1.getD x2.toNat ((0 : Int), ((0 : Int), (([] : List Int), (([] : List Entry), (false, (([] : List (List Int)), ()))))))).2.1, ((y1.getD x2.toNat ((0 : Int), ((0 : Int), (([] : List Int), (([] : List Entry), (false, (([] : List (List Int)), ()))))))).2.2.1, ((y1.getD x2.toNat ((0 : Int), ((0 : Int), (([] : List Int), (([] : List Entry), (false, (([] : List (List Int)), ()))))))).2.2.2.1, ((decide ((Int.tmod r2.1 (3 : Int)) = (0 : Int))), (y1.getD x2.toNat ((0 : Int), ((0 : Int), (([] : List Int), (([] : List Entry), (false, (([] : List (List Int)), ()))))))).2.2.2.2.2)))))).getD x2.toNat ((0 : Int), ((0 : Int), (([] : List Int), (([] : List Entry), (false, (([] : List (List Int)), ()))))))).1, (((y1.set x2.toNat ((y1.getD x2.toNat ((0 : Int), ((0 : Int), (([] : List Int), (([] : List Entry), (false, (([] : List (List Int)), ()))))))).1, ((y1.getD x2.toNat ((0 : Int), ((0 : Int), (([] : List Int), (([] : List Entry), (false, (([] : List (List Int)), ()))))))).2.1, ((y1.getD x2.toNat ((0 : Int), ((0 : Int), (([] : List Int), (([] : List Entry), (false, (([] : List (List Int)), ()))))))).2.2.1, ((y1.getD x2.toNat ((0 : Int), ((0 : Int), (([] : List Int), (([] : List Entry), (false, (([] : List (List Int)), ()))))))).2.2.2.1, ((decide ((Int.tmod r2.1 (3 : Int)) = (0 : Int))), (y1.getD x2.toNat ((0 : Int), ((0 : Int), (([] : List Int), (([] : List Entry), (false, (([] : List (List Int)), ()))))))).2.2.2.2.2)))))).getD x2.toNat ((0 : Int), ((0 : Int), (([] : List Int), (([] : List Entry), (false, (([] : List (List Int)), ()))))))).2.1, (((y1.set x2.toNat ((y1.getD x2.toNat ((0 : Int), ((0 : Int), (([] : List Int), (([] : List Entry), (false, (([] : List (List Int)), ()))))))).1, ((y1.getD x2.toNat ((0 : Int), ((0 : Int), (([] : List Int), (([] : List Entry), (false, (([] : List (List Int)), ()))))))).2.1, ((y1.getD x2.toNat ((0 : Int), ((0 : Int), (([] : List Int), (([] : List Entry), (false, (([] : List (List Int)), ()))))))).2.2.1, ((y1.getD x2.toNat ((0 : Int), ((0 : Int), (([] : List Int), (([] : List Entry), (false, (([] : List (List Int)), ()))))))).2.2.2.1, ((decide ((Int.tmod r2.1 (3 : Int)) = (0 : Int))), (y1.getD x2.toNat ((0 : Int), ((0 : Int), (([] : List Int), (([] : List Entry), (false, (([] : List (List Int)), ()))))))).2.2.2.2.2)))))).getD x2.toNat ((0 : Int), ((0 : Int), (([] : List Int), (([] : List Entry), (false, (([] : List (List Int)), ()))))))).2.2.1, (((y1.set x2.toNat ((y1.getD x2.toNat ((0 : Int), ((0 : Int), (([] : List Int), (([] : List Entry), (false, (([] : List (List Int)), ()))))))).1, ((y1.getD x2.toNat ((0 : Int), ((0 : Int), (([] : List Int), (([] : List Entry), (false, (([] : List (List Int)), ()))))))).2.1, ((y1.getD x2.toNat ((0 : Int), ((0 : Int), (([] : List Int), (([] : List Entry), (false, (([] : List (List Int)), ()))))))).2.2.1, ((y1.getD x2.toNat ((0 : Int), ((0 : Int), (([] : List Int), (([] : List Entry), (false, (([] : List (List Int)), ()))))))).2.2.2.1, ((decide ((Int.tmod r2.1 (3 : Int)) = (0 : Int))), (y1.getD x2.toNat ((0 : Int), ((0 : Int), (([] : List Int), (([] : List Entry), (false, (([] : List (List Int)), ()))))))).2.2.2.2.2)))))).getD x2.toNat ((0 : Int), ((0 : Int), (([] : List Int), (([] : List Entry), (false, (([] : List (List Int)), ()))))))).2.2.2.1, (((y1.set x2.toNat ((y1.getD x2.toNat ((0 : Int), ((0 : Int), (([] : List Int), (([] : List Entry), (false, (([] : List (List Int)), ()))))))).1, ((y1.getD x2.toNat ((0 : Int), ((0 : Int), (([] : List Int), (([] : List Entry), (false, (([] : List (List Int)), ()))))))).2.1, ((y1.getD x2.toNat ((0 : Int), ((0 : Int), (([] : List Int), (([] : List Entry), (false, (([] : List (List Int)), ()))))))).2.2.1, ((y1.getD x2.toNat ((0 : Int), ((0 : Int), (([] : List Int), (([] : List Entry), (false, (([] : List (List Int)), ()))))))).2.2.2.1, ((decide ((Int.tmod r2.1 (3 : Int)) = (0 : Int))), (y1.getD x2.toNat ((0 : Int), ((0 : Int), (([] : List Int), (([] : List Entry), (false, (([] : List (List Int)), ()))))))).2.2.2.2.2)))))).getD x2.toNat ((0 : Int), ((0 : Int), (([] : List Int), (([] : List Entry), (false, (([] : List (List Int)), ()))))))).2.2.2.2.1, (r3.2, ((y1.set x2.toNat ((y1.getD x2.toNat ((0 : Int), ((0 : Int), (([] : List Int), (([] : List Entry), (false, (([] : List (List Int)), ()))))))).1, ((y1.getD x2.toNat ((0 : Int), ((0 : Int), (([] : List Int), (([] : List Entry), (false, (([] : List (List Int)), ()))))))).2.1, ((y1.getD x2.toNat ((0 : Int), ((0 : Int), (([] : List Int), (([] : List Entry), (false, (([] : List (List Int)), ()))))))).2.2.1, ((y1.getD x2.toNat ((0 : Int), ((0 : Int), (([] : List Int), (([] : List Entry), (false, (([] : List (List Int)), ()))))))).2.2.2.1, ((decide ((Int.tmod r2.1 (3 : Int)) = (0 : Int))), (y1.getD x2.toNat ((0 : Int), ((0 : Int), (([] : List Int), (([] : List Entry), (false, (([] : List (List Int)), ()))))))).2.2.2.2.2)))))).getD x2.toNat ((0 : Int), ((0 : Int), (([] : List Int), (([] : List Entry), (false, (([] : List (List Int)), ()))))))).2.2.2.2.2.2))))))) r3.1 (wrap64 (x2 + (1 : Int))))
                else none)
              else none)
            else none)
          else none)
        else none)
      else none)
    else some (x1, x0)
noncomputable def laws_markMendS.f (k : Nat) (a0 : (List Mend)) (a1 : Int) : Option (Int × (List Mend)) := laws_markMendS.p5 k a0 a1 (0 : Int)
/-! laws.markEventS -/
noncomputable def laws_markEventS.p5 : Nat → (List Event) → Int → Int → Option (Int × (List Event))
  | 0, _, _, _ => none
  | k + 1, x0, x1, x2 => if x2 < ((x0.length : Nat) : Int) then (if (0 : Int) ≤ x2 ∧ x2 < ((x0.length : Nat) : Int) then (if (0 : Int) ≤ x2 ∧ x2 < (((x0.set x2.toNat (x1, (x0.getD x2.toNat ((0 : Int), ((0 : Int), ((⟨#[]⟩ : ByteArray), ())))).2)).length : Nat) : Int) then ((laws_markText.f k (wrap64 ((wrap64 (x1 + (1 : Int))) + (1 : Int)))).bind fun r1 =>
          if (0 : Int) ≤ x2 ∧ x2 < ((((x0.set x2.toNat (x1, (x0.getD x2.toNat ((0 : Int), ((0 : Int), ((⟨#[]⟩ : ByteArray), ())))).2)).set x2.toNat (((x0.set x2.toNat (x1, (x0.getD x2.toNat ((0 : Int), ((0 : Int), ((⟨#[]⟩ : ByteArray), ())))).2)).getD x2.toNat ((0 : Int), ((0 : Int), ((⟨#[]⟩ : ByteArray), ())))).1, ((wrap64 (x1 + (1 : Int))), ((x0.set x2.toNat (x1, (x0.getD x2.toNat ((0 : Int), ((0 : Int), ((⟨#[]⟩ : ByteArray), ())))).2)).getD x2.toNat ((0 : Int), ((0 : Int), ((⟨#[]⟩ : ByteArray), ())))).2.2))).length : Nat) : Int) then laws_markEventS.p5 k (((x0.set x2.toNat (x1, (x0.getD x2.toNat ((0 : Int), ((0 : Int), ((⟨#[]⟩ : ByteArray), ())))).2)).set x2.toNat (((x0.set x2.toNat (x1, (x0.getD x2.toNat ((0 : Int), ((0 : Int), ((⟨#[]⟩ : ByteArray), ())))).2)).getD x2.toNat ((0 : Int), ((0 : Int), ((⟨#[]⟩ : ByteArray), ())))).1, ((wrap64 (x1 + (1 : Int))), ((x0.set x2.toNat (x1, (x0.getD x2.toNat ((0 : Int), ((0 : Int), ((⟨#[]⟩ : ByteArray), ())))).2)).getD x2.toNat ((0 : Int), ((0 : Int), ((⟨#[]⟩ : ByteArray), ())))).2.2))).set x2.toNat ((((x0.set x2.toNat (x1, (x0.getD x2.toNat ((0 : Int), ((0 : Int), ((⟨#[]⟩ : ByteArray), ())))).2)).set x2.toNat (((x0.set x2.toNat (x1, (x0.getD x2.toNat ((0 : Int), ((0 : Int), ((⟨#[]⟩ : ByteArray), ())))).2)).getD x2.toNat ((0 : Int), ((0 : Int), ((⟨#[]⟩ : ByteArray), ())))).1, ((wrap64 (x1 + (1 : Int))), ((x0.set x2.toNat (x1, (x0.getD x2.toNat ((0 : Int), ((0 : Int), ((⟨#[]⟩ : ByteArray), ())))).2)).getD x2.toNat ((0 : Int), ((0 : Int), ((⟨#[]⟩ : ByteArray), ())))).2.2))).getD x2.toNat ((0 : Int), ((0 : Int), ((⟨#[]⟩ : ByteArray), ())))).1, ((((x0.set x2.toNat (x1, (x0.getD x2.toNat ((0 : Int), ((0 : Int), ((⟨#[]⟩ : ByteArray), ())))).2)).set x2.toNat (((x0.set x2.toNat (x1, (x0.getD x2.toNat ((0 : Int), ((0 : Int), ((⟨#[]⟩ : ByteArray), ())))).2)).getD x2.toNat ((0 : Int), ((0 : Int), ((⟨#[]⟩ : ByteArray), ())))).1, ((wrap64 (x1 + (1 : Int))), ((x0.set x2.toNat (x1, (x0.getD x2.toNat ((0 : Int), ((0 : Int), ((⟨#[]⟩ : ByteArray), ())))).2)).getD x2.toNat ((0 : Int), ((0 : Int), ((⟨#[]⟩ : ByteArray), ())))).2.2))).getD x2.toNat ((0 : Int), ((0 : Int), ((⟨#[]⟩ : ByteArray), ())))).2.1, (r1, (((x0.set x2.toNat (x1, (x0.getD x2.toNat ((0 : Int), ((0 : Int), ((⟨#[]⟩ : ByteArray), ())))).2)).set x2.toNat (((x0.set x2.toNat (x1, (x0.getD x2.toNat ((0 : Int), ((0 : Int), ((⟨#[]⟩ : ByteArray), ())))).2)).getD x2.toNat ((0 : Int), ((0 : Int), ((⟨#[]⟩ : ByteArray), ())))).1, ((wrap64 (x1 + (1 : Int))), ((x0.set x2.toNat (x1, (x0.getD x2.toNat ((0 : Int), ((0 : Int), ((⟨#[]⟩ : ByteArray), ())))).2)).getD x2.toNat ((0 : Int), ((0 : Int), ((⟨#[]⟩ : ByteArray), ())))).2.2))).getD x2.toNat ((0 : Int), ((0 : Int), ((⟨#[]⟩ : ByteArray), ())))).2.2.2)))) (wrap64 ((wrap64 ((wrap64 (x1 + (1 : Int))) + (1 : Int))) + (1 : Int))) (wrap64 (x2 + (1 : Int)))
          else none)
        else none)
      else none)
    else some (x1, x0)
noncomputable def laws_markEventS.f (k : Nat) (a0 : (List Event)) (a1 : Int) : Option (Int × (List Event)) := laws_markEventS.p5 k a0 a1 (0 : Int)
/-! laws.markReaderS -/
noncomputable def laws_markReaderS.p5 : Nat → (List Reader) → Int → Int → Option (Int × (List Reader))
  | 0, _, _, _ => none
  | k + 1, x0, x1, x2 => if x2 < ((x0.length : Nat) : Int) then (if (0 : Int) ≤ x2 ∧ x2 < ((x0.length : Nat) : Int) then (if (0 : Int) ≤ x2 ∧ x2 < (((x0.set x2.toNat (x1, (x0.getD x2.toNat ((0 : Int), ((0 : Int), (([] : List Event), ())))).2)).length : Nat) : Int) then (if (0 : Int) ≤ x2 ∧ x2 < ((((x0.set x2.toNat (x1, (x0.getD x2.toNat ((0 : Int), ((0 : Int), (([] : List Event), ())))).2)).set x2.toNat (((x0.set x2.toNat (x1, (x0.getD x2.toNat ((0 : Int), ((0 : Int), (([] : List Event), ())))).2)).getD x2.toNat ((0 : Int), ((0 : Int), (([] : List Event), ())))).1, ((wrap64 (x1 + (1 : Int))), ((x0.set x2.toNat (x1, (x0.getD x2.toNat ((0 : Int), ((0 : Int), (([] : List Event), ())))).2)).getD x2.toNat ((0 : Int), ((0 : Int), (([] : List Event), ())))).2.2))).length : Nat) : Int) then ((laws_markEventS.f k (((x0.set x2.toNat (x1, (x0.getD x2.toNat ((0 : Int), ((0 : Int), (([] : List Event), ())))).2)).set x2.toNat (((x0.set x2.toNat (x1, (x0.getD x2.toNat ((0 : Int), ((0 : Int), (([] : List Event), ())))).2)).getD x2.toNat ((0 : Int), ((0 : Int), (([] : List Event), ())))).1, ((wrap64 (x1 + (1 : Int))), ((x0.set x2.toNat (x1, (x0.getD x2.toNat ((0 : Int), ((0 : Int), (([] : List Event), ())))).2)).getD x2.toNat ((0 : Int), ((0 : Int), (([] : List Event), ())))).2.2))).getD x2.toNat ((0 : Int), ((0 : Int), (([] : List Event), ())))).2.2.1 (wrap64 ((wrap64 (x1 + (1 : Int))) + (1 : Int)))).bind fun r1 =>
            laws_markReaderS.p5 k (((x0.set x2.toNat (x1, (x0.getD x2.toNat ((0 : Int), ((0 : Int), (([] : List Event), ())))).2)).set x2.toNat (((x0.set x2.toNat (x1, (x0.getD x2.toNat ((0 : Int), ((0 : Int), (([] : List Event), ())))).2)).getD x2.toNat ((0 : Int), ((0 : Int), (([] : List Event), ())))).1, ((wrap64 (x1 + (1 : Int))), ((x0.set x2.toNat (x1, (x0.getD x2.toNat ((0 : Int), ((0 : Int), (([] : List Event), ())))).2)).getD x2.toNat ((0 : Int), ((0 : Int), (([] : List Event), ())))).2.2))).set x2.toNat ((((x0.set x2.toNat (x1, (x0.getD x2.toNat ((0 : Int), ((0 : Int), (([] : List Event), ())))).2)).set x2.toNat (((x0.set x2.toNat (x1, (x0.getD x2.toNat ((0 : Int), ((0 : Int), (([] : List Event), ())))).2)).getD x2.toNat ((0 : Int), ((0 : Int), (([] : List Event), ())))).1, ((wrap64 (x1 + (1 : Int))), ((x0.set x2.toNat (x1, (x0.getD x2.toNat ((0 : Int), ((0 : Int), (([] : List Event), ())))).2)).getD x2.toNat ((0 : Int), ((0 : Int), (([] : List Event), ())))).2.2))).getD x2.toNat ((0 : Int), ((0 : Int), (([] : List Event), ())))).1, ((((x0.set x2.toNat (x1, (x0.getD x2.toNat ((0 : Int), ((0 : Int), (([] : List Event), ())))).2)).set x2.toNat (((x0.set x2.toNat (x1, (x0.getD x2.toNat ((0 : Int), ((0 : Int), (([] : List Event), ())))).2)).getD x2.toNat ((0 : Int), ((0 : Int), (([] : List Event), ())))).1, ((wrap64 (x1 + (1 : Int))), ((x0.set x2.toNat (x1, (x0.getD x2.toNat ((0 : Int), ((0 : Int), (([] : List Event), ())))).2)).getD x2.toNat ((0 : Int), ((0 : Int), (([] : List Event), ())))).2.2))).getD x2.toNat ((0 : Int), ((0 : Int), (([] : List Event), ())))).2.1, (r1.2, (((x0.set x2.toNat (x1, (x0.getD x2.toNat ((0 : Int), ((0 : Int), (([] : List Event), ())))).2)).set x2.toNat (((x0.set x2.toNat (x1, (x0.getD x2.toNat ((0 : Int), ((0 : Int), (([] : List Event), ())))).2)).getD x2.toNat ((0 : Int), ((0 : Int), (([] : List Event), ())))).1, ((wrap64 (x1 + (1 : Int))), ((x0.set x2.toNat (x1, (x0.getD x2.toNat ((0 : Int), ((0 : Int), (([] : List Event), ())))).2)).getD x2.toNat ((0 : Int), ((0 : Int), (([] : List Event), ())))).2.2))).getD x2.toNat ((0 : Int), ((0 : Int), (([] : List Event), ())))).2.2.2)))) r1.1 (wrap64 (x2 + (1 : Int))))
          else none)
        else none)
      else none)
    else some (x1, x0)
noncomputable def laws_markReaderS.f (k : Nat) (a0 : (List Reader)) (a1 : Int) : Option (Int × (List Reader)) := laws_markReaderS.p5 k a0 a1 (0 : Int)
/-! laws.markSentS -/
noncomputable def laws_markSentS.p5 : Nat → (List Sent) → Int → Int → Option (Int × (List Sent))
  | 0, _, _, _ => none
  | k + 1, x0, x1, x2 => if x2 < ((x0.length : Nat) : Int) then (if (0 : Int) ≤ x2 ∧ x2 < ((x0.length : Nat) : Int) then ((laws_markText.f k (wrap64 (x1 + (1 : Int)))).bind fun r1 =>
        if (0 : Int) ≤ x2 ∧ x2 < (((x0.set x2.toNat (x1, (x0.getD x2.toNat ((0 : Int), ((⟨#[]⟩ : ByteArray), (false, ())))).2)).length : Nat) : Int) then (if (0 : Int) ≤ x2 ∧ x2 < ((((x0.set x2.toNat (x1, (x0.getD x2.toNat ((0 : Int), ((⟨#[]⟩ : ByteArray), (false, ())))).2)).set x2.toNat (((x0.set x2.toNat (x1, (x0.getD x2.toNat ((0 : Int), ((⟨#[]⟩ : ByteArray), (false, ())))).2)).getD x2.toNat ((0 : Int), ((⟨#[]⟩ : ByteArray), (false, ())))).1, (r1, ((x0.set x2.toNat (x1, (x0.getD x2.toNat ((0 : Int), ((⟨#[]⟩ : ByteArray), (false, ())))).2)).getD x2.toNat ((0 : Int), ((⟨#[]⟩ : ByteArray), (false, ())))).2.2))).length : Nat) : Int) then laws_markSentS.p5 k (((x0.set x2.toNat (x1, (x0.getD x2.toNat ((0 : Int), ((⟨#[]⟩ : ByteArray), (false, ())))).2)).set x2.toNat (((x0.set x2.toNat (x1, (x0.getD x2.toNat ((0 : Int), ((⟨#[]⟩ : ByteArray), (false, ())))).2)).getD x2.toNat ((0 : Int), ((⟨#[]⟩ : ByteArray), (false, ())))).1, (r1, ((x0.set x2.toNat (x1, (x0.getD x2.toNat ((0 : Int), ((⟨#[]⟩ : ByteArray), (false, ())))).2)).getD x2.toNat ((0 : Int), ((⟨#[]⟩ : ByteArray), (false, ())))).2.2))).set x2.toNat ((((x0.set x2.toNat (x1, (x0.getD x2.toNat ((0 : Int), ((⟨#[]⟩ : ByteArray), (false, ())))).2)).set x2.toNat (((x0.set x2.toNat (x1, (x0.getD x2.toNat ((0 : Int), ((⟨#[]⟩ : ByteArray), (false, ())))).2)).getD x2.toNat ((0 : Int), ((⟨#[]⟩ : ByteArray), (false, ())))).1, (r1, ((x0.set x2.toNat (x1, (x0.getD x2.toNat ((0 : Int), ((⟨#[]⟩ : ByteArray), (false, ())))).2)).getD x2.toNat ((0 : Int), ((⟨#[]⟩ : ByteArray), (false, ())))).2.2))).getD x2.toNat ((0 : Int), ((⟨#[]⟩ : ByteArray), (false, ())))).1, ((((x0.set x2.toNat (x1, (x0.getD x2.toNat ((0 : Int), ((⟨#[]⟩ : ByteArray), (false, ())))).2)).set x2.toNat (((x0.set x2.toNat (x1, (x0.getD x2.toNat ((0 : Int), ((⟨#[]⟩ : ByteArray), (false, ())))).2)).getD x2.toNat ((0 : Int), ((⟨#[]⟩ : ByteArray), (false, ())))).1, (r1, ((x0.set x2.toNat (x1, (x0.getD x2.toNat ((0 : Int), ((⟨#[]⟩ : ByteArray), (false, ())))).2)).getD x2.toNat ((0 : Int), ((⟨#[]⟩ : ByteArray), (false, ())))).2.2))).getD x2.toNat ((0 : Int), ((⟨#[]⟩ : ByteArray), (false, ())))).2.1, ((decide ((Int.tmod (wrap64 ((wrap64 (x1 + (1 : Int))) + (1 : Int))) (3 : Int)) = (0 : Int))), (((x0.set x2.toNat (x1, (x0.getD x2.toNat ((0 : Int), ((⟨#[]⟩ : ByteArray), (false, ())))).2)).set x2.toNat (((x0.set x2.toNat (x1, (x0.getD x2.toNat ((0 : Int), ((⟨#[]⟩ : ByteArray), (false, ())))).2)).getD x2.toNat ((0 : Int), ((⟨#[]⟩ : ByteArray), (false, ())))).1, (r1, ((x0.set x2.toNat (x1, (x0.getD x2.toNat ((0 : Int), ((⟨#[]⟩ : ByteArray), (false, ())))).2)).getD x2.toNat ((0 : Int), ((⟨#[]⟩ : ByteArray), (false, ())))).2.2))).getD x2.toNat ((0 : Int), ((⟨#[]⟩ : ByteArray), (false, ())))).2.2.2)))) (wrap64 ((wrap64 ((wrap64 (x1 + (1 : Int))) + (1 : Int))) + (1 : Int))) (wrap64 (x2 + (1 : Int)))
          else none)
        else none)
      else none)
    else some (x1, x0)
noncomputable def laws_markSentS.f (k : Nat) (a0 : (List Sent)) (a1 : Int) : Option (Int × (List Sent)) := laws_markSentS.p5 k a0 a1 (0 : Int)
/-! laws.markWorld -/
noncomputable def laws_markWorld.f (k : Nat) (a0 : World) (a1 : Int) : Option (Int × World) := (laws_markConfig.f k a0.1 a1).bind fun r1 =>
  (laws_markStoreS.f k a0.2.1 r1.1).bind fun r2 =>
  (laws_markIntS.f k a0.2.2.1 r2.1).bind fun r3 =>
  (laws_markRegister.f k a0.2.2.2.1 r3.1).bind fun r4 =>
  (laws_markWriterS.f k a0.2.2.2.2.1 r4.1).bind fun r5 =>
  (laws_markMendS.f k a0.2.2.2.2.2.1 r5.1).bind fun r6 =>
  (laws_markReaderS.f k a0.2.2.2.2.2.2.1 r6.1).bind fun r7 =>
  (laws_markSentS.f k a0.2.2.2.2.2.2.2.1 r7.1).bind fun r8 =>
  some (r8.1, (r1.2, (r2.2, (r3.2, (r4.2, (r5.2, (r6.2, (r7.2, (r8.2, a0.2.2.2.2.2.2.2.2)))))))))
/-! laws.heldIntS -/
noncomputable def laws_heldIntS.p5 : Nat → (List Int) → Int → Int → Option (Int)
  | 0, _, _, _ => none
  | k + 1, x0, x1, x2 => if x2 < ((x0.length : Nat) : Int) then (if (0 : Int) ≤ x2 ∧ x2 < ((x0.length : Nat) : Int) then (if (x0.getD x2.toNat (0 : Int)) = x1 then laws_heldIntS.p5 k x0 (wrap64 (x1 + (1 : Int))) (wrap64 (x2 + (1 : Int)))
        else some (-1 : Int))
      else none)
    else some x1
noncomputable def laws_heldIntS.f (k : Nat) (a0 : (List Int)) (a1 : Int) : Option (Int) := laws_heldIntS.p5 k a0 a1 (0 : Int)
/-! laws.FnExactHoldersOf -/
noncomputable def laws_FnExactHoldersOf.f (k : Nat) (a0 : World) (a1 : Int) : Option (Bool) := (laws_szWorld.f k a0 (1048576 : Int)).bind fun r1 =>
  if r1 < (0 : Int) then some true
  else (laws_toWorld.f k a0).bind fun r2 =>
  (spec_HoldersOf.f k r2 a1).bind fun r3 =>
  (laws_toWorld.f k a0).bind fun r4 =>
  (impl_HoldersOf.f k r4 a1).bind fun r5 =>
  (laws_eqIntS.f k r5 r3).bind fun r6 =>
  if r6 = true then ((laws_toWorld.f k a0).bind fun r7 =>
    (laws_eqWorld.f k r4 r7).bind fun r8 =>
    if r8 = true then ((laws_markWorld.f k r4 (1 : Int)).bind fun r9 =>
      if r9.1 < (0 : Int) then some false
      else (laws_eqIntS.f k r5 r3).bind fun r10 =>
      if r10 = true then ((laws_markIntS.f k r5 (1 : Int)).bind fun r11 =>
        (laws_heldIntS.f k r11.2 (1 : Int)).bind fun r12 =>
        if r12 < (0 : Int) then some false
        else if r12 = r11.1 then ((laws_toWorld.f k a0).bind fun r13 =>
          (impl_HoldersOf.f k r13 a1).bind fun r14 =>
          (laws_eqIntS.f k r14 r3).bind fun r15 =>
          if r15 = true then ((laws_heldIntS.f k r11.2 (1 : Int)).bind fun r16 =>
            if r16 < (0 : Int) then some false
            else if r16 = r11.1 then some true
            else some false)
          else some false)
        else some false)
      else some false)
    else some false)
  else some false
end Go.Proofs.YthgnikafeamidacGreat.OmFnExactHoldersOf
