import Derived.Test.YthgnikafeamidacGreatFFnExactHoldersOf
set_option linter.unusedVariables false
set_option linter.unusedSimpArgs false
namespace Go.Proofs.YthgnikafeamidacGreat.OmFnExactHoldersOf
open Go Go.OM
theorem sz_IntS : SzOk (.sl (.int .i64)) (fun _ => laws_szIntS.f) := sz_flat (fun _ => rfl) (fun _ _ _ => rfl)
theorem sz_Config : SzOk tConfig (fun _ => laws_szConfig.f) := by
  intro x n hg h0 hn
  obtain ⟨v0, a0, b0, c0⟩ := sz_IntS x.1 n hg.1 (by omega) (by omega)
  by_cases h0 : v0 < 0
  · refine ⟨-1, ?_, by omega, fun h => by omega⟩; simp only [laws_szConfig.f]; exact Ev.bind a0 (Ev.pos h0 Ev.ret)
  refine ⟨v0, ?_, by omega, fun h => ?_⟩
  · simp only [laws_szConfig.f]; exact Ev.bind a0 (Ev.neg h0 (Ev.ret))
  · have q0 := c0 (by omega)
    show _ + (((cnt (.sl (.int .i64)) x.1 + (cnt (.int .i64) x.2.1 + cnt .unit x.2.2)) : Nat) : Int) ≤ n
    have z1 : cnt (.int .i64) x.2.1 = 0 := rfl
    have zu : cnt .unit x.2.2 = 0 := rfl
    omega
theorem sz_Entry : SzOk tEntry (fun _ => laws_szEntry.f) := by
  intro x n hg h0 hn
  have g0 : x.2.2.2.1.size ≤ 9223372036854775807 := hg.2.2.2.1
  have e0 : (wrap64 (n - ((x.2.2.2.1.size : Nat) : Int))) = n - ((x.2.2.2.1.size : Nat) : Int) := wrap64_id (by omega) (by omega)
  by_cases h0 : (wrap64 (n - ((x.2.2.2.1.size : Nat) : Int))) < 0
  · refine ⟨-1, ?_, by omega, fun h => by omega⟩; simp only [laws_szEntry.f]; exact Ev.pos h0 Ev.ret
  refine ⟨(wrap64 (n - ((x.2.2.2.1.size : Nat) : Int))), ?_, by omega, fun h => ?_⟩
  · simp only [laws_szEntry.f]; exact Ev.neg h0 (Ev.ret)
  · show _ + (((cnt (.int .i64) x.1 + (cnt (.int .i64) x.2.1 + (cnt .bool x.2.2.1 + (cnt .str x.2.2.2.1 + cnt .unit x.2.2.2.2)))) : Nat) : Int) ≤ n
    have z0 : cnt (.int .i64) x.1 = 0 := rfl
    have z1 : cnt (.int .i64) x.2.1 = 0 := rfl
    have z2 : cnt .bool x.2.2.1 = 0 := rfl
    have z3 : cnt .str x.2.2.2.1 = x.2.2.2.1.size := rfl
    have zu : cnt .unit x.2.2.2.2 = 0 := rfl
    omega
theorem sz_EntryS : SzOk (.sl tEntry) laws_szEntryS.f := sz_row (t := tEntry) (p := laws_szEntryS.p11) (d := ((0 : Int), ((0 : Int), (false, ((⟨#[]⟩ : ByteArray), ()))))) (fun _ _ _ _ => rfl) (fun _ _ _ => rfl) sz_Entry
theorem sz_Store : SzOk tStore laws_szStore.f := by
  intro x n hg h0 hn
  obtain ⟨v0, a0, b0, c0⟩ := sz_EntryS x.1 n hg.1 (by omega) (by omega)
  by_cases h0 : v0 < 0
  · refine ⟨-1, ?_, by omega, fun h => by omega⟩; simp only [laws_szStore.f]; exact Ev.bind a0 (Ev.pos h0 Ev.ret)
  obtain ⟨v1, a1, b1, c1⟩ := sz_EntryS x.2.1 v0 hg.2.1 (by omega) (by omega)
  by_cases h1 : v1 < 0
  · refine ⟨-1, ?_, by omega, fun h => by omega⟩; simp only [laws_szStore.f]; exact Ev.bind a0 (Ev.neg h0 (Ev.bind a1 (Ev.pos h1 Ev.ret)))
  refine ⟨v1, ?_, by omega, fun h => ?_⟩
  · simp only [laws_szStore.f]; exact Ev.bind a0 (Ev.neg h0 (Ev.bind a1 (Ev.neg h1 (Ev.ret))))
  · have q0 := c0 (by omega)
    have q1 := c1 (by omega)
    show _ + (((cnt (.sl tEntry) x.1 + (cnt (.sl tEntry) x.2.1 + (cnt (.int .i64) x.2.2.1 + cnt .unit x.2.2.2))) : Nat) : Int) ≤ n
    have z2 : cnt (.int .i64) x.2.2.1 = 0 := rfl
    have zu : cnt .unit x.2.2.2 = 0 := rfl
    omega
theorem sz_StoreS : SzOk (.sl tStore) laws_szStoreS.f := sz_row (t := tStore) (p := laws_szStoreS.p11) (d := (([] : List Entry), (([] : List Entry), ((0 : Int), ())))) (fun _ _ _ _ => rfl) (fun _ _ _ => rfl) sz_Store
theorem sz_Era : SzOk tEra (fun _ => laws_szEra.f) := by
  intro x n hg h0 hn
  obtain ⟨v0, a0, b0, c0⟩ := sz_IntS x.1 n hg.1 (by omega) (by omega)
  by_cases h0 : v0 < 0
  · refine ⟨-1, ?_, by omega, fun h => by omega⟩; simp only [laws_szEra.f]; exact Ev.bind a0 (Ev.pos h0 Ev.ret)
  refine ⟨v0, ?_, by omega, fun h => ?_⟩
  · simp only [laws_szEra.f]; exact Ev.bind a0 (Ev.neg h0 (Ev.ret))
  · have q0 := c0 (by omega)
    show _ + (((cnt (.sl (.int .i64)) x.1 + (cnt .bool x.2.1 + (cnt (.int .i64) x.2.2.1 + cnt .unit x.2.2.2))) : Nat) : Int) ≤ n
    have z1 : cnt .bool x.2.1 = 0 := rfl
    have z2 : cnt (.int .i64) x.2.2.1 = 0 := rfl
    have zu : cnt .unit x.2.2.2 = 0 := rfl
    omega
theorem sz_EraS : SzOk (.sl tEra) laws_szEraS.f := sz_row (t := tEra) (p := laws_szEraS.p11) (d := (([] : List Int), (false, ((0 : Int), ())))) (fun _ _ _ _ => rfl) (fun _ _ _ => rfl) sz_Era
theorem sz_Register : SzOk tRegister laws_szRegister.f := by
  intro x n hg h0 hn
  obtain ⟨v0, a0, b0, c0⟩ := sz_EraS x.1 n hg.1 (by omega) (by omega)
  by_cases h0 : v0 < 0
  · refine ⟨-1, ?_, by omega, fun h => by omega⟩; simp only [laws_szRegister.f]; exact Ev.bind a0 (Ev.pos h0 Ev.ret)
  refine ⟨v0, ?_, by omega, fun h => ?_⟩
  · simp only [laws_szRegister.f]; exact Ev.bind a0 (Ev.neg h0 (Ev.ret))
  · have q0 := c0 (by omega)
    show _ + (((cnt (.sl tEra) x.1 + (cnt (.int .i64) x.2.1 + cnt .unit x.2.2)) : Nat) : Int) ≤ n
    have z1 : cnt (.int .i64) x.2.1 = 0 := rfl
    have zu : cnt .unit x.2.2 = 0 := rfl
    omega
theorem sz_Word : SzOk tWord (fun _ => laws_szWord.f) := by
  intro x n hg h0 hn
  have g0 : x.1.size ≤ 9223372036854775807 := hg.1
  have e0 : (wrap64 (n - ((x.1.size : Nat) : Int))) = n - ((x.1.size : Nat) : Int) := wrap64_id (by omega) (by omega)
  by_cases h0 : (wrap64 (n - ((x.1.size : Nat) : Int))) < 0
  · refine ⟨-1, ?_, by omega, fun h => by omega⟩; simp only [laws_szWord.f]; exact Ev.pos h0 Ev.ret
  obtain ⟨v1, a1, b1, c1⟩ := sz_IntS x.2.1 (wrap64 (n - ((x.1.size : Nat) : Int))) hg.2.1 (by omega) (by omega)
  by_cases h1 : v1 < 0
  · refine ⟨-1, ?_, by omega, fun h => by omega⟩; simp only [laws_szWord.f]; exact Ev.neg h0 (Ev.bind a1 (Ev.pos h1 Ev.ret))
  refine ⟨v1, ?_, by omega, fun h => ?_⟩
  · simp only [laws_szWord.f]; exact Ev.neg h0 (Ev.bind a1 (Ev.neg h1 (Ev.ret)))
  · have q1 := c1 (by omega)
    show _ + (((cnt .str x.1 + (cnt (.sl (.int .i64)) x.2.1 + (cnt .bool x.2.2.1 + cnt .unit x.2.2.2))) : Nat) : Int) ≤ n
    have z0 : cnt .str x.1 = x.1.size := rfl
    have z2 : cnt .bool x.2.2.1 = 0 := rfl
    have zu : cnt .unit x.2.2.2 = 0 := rfl
    omega
theorem sz_WordS : SzOk (.sl tWord) laws_szWordS.f := sz_row (t := tWord) (p := laws_szWordS.p11) (d := ((⟨#[]⟩ : ByteArray), (([] : List Int), (false, ())))) (fun _ _ _ _ => rfl) (fun _ _ _ => rfl) sz_Word
theorem sz_Writer : SzOk tWriter laws_szWriter.f := by
  intro x n hg h0 hn
  obtain ⟨v0, a0, b0, c0⟩ := sz_WordS x.2.1 n hg.2.1 (by omega) (by omega)
  by_cases h0 : v0 < 0
  · refine ⟨-1, ?_, by omega, fun h => by omega⟩; simp only [laws_szWriter.f]; exact Ev.bind a0 (Ev.pos h0 Ev.ret)
  refine ⟨v0, ?_, by omega, fun h => ?_⟩
  · simp only [laws_szWriter.f]; exact Ev.bind a0 (Ev.neg h0 (Ev.ret))
  · have q0 := c0 (by omega)
    show _ + (((cnt (.int .i64) x.1 + (cnt (.sl tWord) x.2.1 + cnt .unit x.2.2)) : Nat) : Int) ≤ n
    have z0 : cnt (.int .i64) x.1 = 0 := rfl
    have zu : cnt .unit x.2.2 = 0 := rfl
    omega
theorem sz_WriterS : SzOk (.sl tWriter) laws_szWriterS.f := sz_row (t := tWriter) (p := laws_szWriterS.p11) (d := ((0 : Int), (([] : List Word), ()))) (fun _ _ _ _ => rfl) (fun _ _ _ => rfl) sz_Writer
theorem sz_IntSS : SzOk (.sl (.sl (.int .i64))) laws_szIntSS.f := sz_row (t := (.sl (.int .i64))) (p := laws_szIntSS.p11) (d := ([] : List Int)) (fun _ _ _ _ => rfl) (fun _ _ _ => rfl) sz_IntS
theorem sz_Mend : SzOk tMend laws_szMend.f := by
  intro x n hg h0 hn
  obtain ⟨v0, a0, b0, c0⟩ := sz_IntS x.2.2.1 n hg.2.2.1 (by omega) (by omega)
  by_cases h0 : v0 < 0
  · refine ⟨-1, ?_, by omega, fun h => by omega⟩; simp only [laws_szMend.f]; exact Ev.bind a0 (Ev.pos h0 Ev.ret)
  obtain ⟨v1, a1, b1, c1⟩ := sz_EntryS x.2.2.2.1 v0 hg.2.2.2.1 (by omega) (by omega)
  by_cases h1 : v1 < 0
  · refine ⟨-1, ?_, by omega, fun h => by omega⟩; simp only [laws_szMend.f]; exact Ev.bind a0 (Ev.neg h0 (Ev.bind a1 (Ev.pos h1 Ev.ret)))
  obtain ⟨v2, a2, b2, c2⟩ := sz_IntSS x.2.2.2.2.2.1 v1 hg.2.2.2.2.2.1 (by omega) (by omega)
  by_cases h2 : v2 < 0
  · refine ⟨-1, ?_, by omega, fun h => by omega⟩; simp only [laws_szMend.f]; exact Ev.bind a0 (Ev.neg h0 (Ev.bind a1 (Ev.neg h1 (Ev.bind a2 (Ev.pos h2 Ev.ret)))))
  refine ⟨v2, ?_, by omega, fun h => ?_⟩
  · simp only [laws_szMend.f]; exact Ev.bind a0 (Ev.neg h0 (Ev.bind a1 (Ev.neg h1 (Ev.bind a2 (Ev.neg h2 (Ev.ret))))))
  · have q0 := c0 (by omega)
    have q1 := c1 (by omega)
    have q2 := c2 (by omega)
    show _ + (((cnt (.int .i64) x.1 + (cnt (.int .i64) x.2.1 + (cnt (.sl (.int .i64)) x.2.2.1 + (cnt (.sl tEntry) x.2.2.2.1 + (cnt .bool x.2.2.2.2.1 + (cnt (.sl (.sl (.int .i64))) x.2.2.2.2.2.1 + cnt .unit x.2.2.2.2.2.2)))))) : Nat) : Int) ≤ n
    have z0 : cnt (.int .i64) x.1 = 0 := rfl
    have z1 : cnt (.int .i64) x.2.1 = 0 := rfl
    have z4 : cnt .bool x.2.2.2.2.1 = 0 := rfl
    have zu : cnt .unit x.2.2.2.2.2.2 = 0 := rfl
    omega
theorem sz_MendS : SzOk (.sl tMend) laws_szMendS.f := sz_row (t := tMend) (p := laws_szMendS.p11) (d := ((0 : Int), ((0 : Int), (([] : List Int), (([] : List Entry), (false, (([] : List (List Int)), ()))))))) (fun _ _ _ _ => rfl) (fun _ _ _ => rfl) sz_Mend
theorem sz_Event : SzOk tEvent (fun _ => laws_szEvent.f) := by
  intro x n hg h0 hn
  have g0 : x.2.2.1.size ≤ 9223372036854775807 := hg.2.2.1
  have e0 : (wrap64 (n - ((x.2.2.1.size : Nat) : Int))) = n - ((x.2.2.1.size : Nat) : Int) := wrap64_id (by omega) (by omega)
  by_cases h0 : (wrap64 (n - ((x.2.2.1.size : Nat) : Int))) < 0
  · refine ⟨-1, ?_, by omega, fun h => by omega⟩; simp only [laws_szEvent.f]; exact Ev.pos h0 Ev.ret
  refine ⟨(wrap64 (n - ((x.2.2.1.size : Nat) : Int))), ?_, by omega, fun h => ?_⟩
  · simp only [laws_szEvent.f]; exact Ev.neg h0 (Ev.ret)
  · show _ + (((cnt (.int .i64) x.1 + (cnt (.int .i64) x.2.1 + (cnt .str x.2.2.1 + cnt .unit x.2.2.2))) : Nat) : Int) ≤ n
    have z0 : cnt (.int .i64) x.1 = 0 := rfl
    have z1 : cnt (.int .i64) x.2.1 = 0 := rfl
    have z2 : cnt .str x.2.2.1 = x.2.2.1.size := rfl
    have zu : cnt .unit x.2.2.2 = 0 := rfl
    omega
theorem sz_EventS : SzOk (.sl tEvent) laws_szEventS.f := sz_row (t := tEvent) (p := laws_szEventS.p11) (d := ((0 : Int), ((0 : Int), ((⟨#[]⟩ : ByteArray), ())))) (fun _ _ _ _ => rfl) (fun _ _ _ => rfl) sz_Event
theorem sz_Reader : SzOk tReader laws_szReader.f := by
  intro x n hg h0 hn
  obtain ⟨v0, a0, b0, c0⟩ := sz_EventS x.2.2.1 n hg.2.2.1 (by omega) (by omega)
  by_cases h0 : v0 < 0
  · refine ⟨-1, ?_, by omega, fun h => by omega⟩; simp only [laws_szReader.f]; exact Ev.bind a0 (Ev.pos h0 Ev.ret)
  refine ⟨v0, ?_, by omega, fun h => ?_⟩
  · simp only [laws_szReader.f]; exact Ev.bind a0 (Ev.neg h0 (Ev.ret))
  · have q0 := c0 (by omega)
    show _ + (((cnt (.int .i64) x.1 + (cnt (.int .i64) x.2.1 + (cnt (.sl tEvent) x.2.2.1 + cnt .unit x.2.2.2))) : Nat) : Int) ≤ n
    have z0 : cnt (.int .i64) x.1 = 0 := rfl
    have z1 : cnt (.int .i64) x.2.1 = 0 := rfl
    have zu : cnt .unit x.2.2.2 = 0 := rfl
    omega
theorem sz_ReaderS : SzOk (.sl tReader) laws_szReaderS.f := sz_row (t := tReader) (p := laws_szReaderS.p11) (d := ((0 : Int), ((0 : Int), (([] : List Event), ())))) (fun _ _ _ _ => rfl) (fun _ _ _ => rfl) sz_Reader
theorem sz_Sent : SzOk tSent (fun _ => laws_szSent.f) := by
  intro x n hg h0 hn
  have g0 : x.2.1.size ≤ 9223372036854775807 := hg.2.1
  have e0 : (wrap64 (n - ((x.2.1.size : Nat) : Int))) = n - ((x.2.1.size : Nat) : Int) := wrap64_id (by omega) (by omega)
  by_cases h0 : (wrap64 (n - ((x.2.1.size : Nat) : Int))) < 0
  · refine ⟨-1, ?_, by omega, fun h => by omega⟩; simp only [laws_szSent.f]; exact Ev.pos h0 Ev.ret
  refine ⟨(wrap64 (n - ((x.2.1.size : Nat) : Int))), ?_, by omega, fun h => ?_⟩
  · simp only [laws_szSent.f]; exact Ev.neg h0 (Ev.ret)
  · show _ + (((cnt (.int .i64) x.1 + (cnt .str x.2.1 + (cnt .bool x.2.2.1 + cnt .unit x.2.2.2))) : Nat) : Int) ≤ n
    have z0 : cnt (.int .i64) x.1 = 0 := rfl
    have z1 : cnt .str x.2.1 = x.2.1.size := rfl
    have z2 : cnt .bool x.2.2.1 = 0 := rfl
    have zu : cnt .unit x.2.2.2 = 0 := rfl
    omega
theorem sz_SentS : SzOk (.sl tSent) laws_szSentS.f := sz_row (t := tSent) (p := laws_szSentS.p11) (d := ((0 : Int), ((⟨#[]⟩ : ByteArray), (false, ())))) (fun _ _ _ _ => rfl) (fun _ _ _ => rfl) sz_Sent
theorem sz_World : SzOk tWorld laws_szWorld.f := by
  intro x n hg h0 hn
  obtain ⟨v0, a0, b0, c0⟩ := sz_Config x.1 n hg.1 (by omega) (by omega)
  by_cases h0 : v0 < 0
  · refine ⟨-1, ?_, by omega, fun h => by omega⟩; simp only [laws_szWorld.f]; exact Ev.bind a0 (Ev.pos h0 Ev.ret)
  obtain ⟨v1, a1, b1, c1⟩ := sz_StoreS x.2.1 v0 hg.2.1 (by omega) (by omega)
  by_cases h1 : v1 < 0
  · refine ⟨-1, ?_, by omega, fun h => by omega⟩; simp only [laws_szWorld.f]; exact Ev.bind a0 (Ev.neg h0 (Ev.bind a1 (Ev.pos h1 Ev.ret)))
  obtain ⟨v2, a2, b2, c2⟩ := sz_IntS x.2.2.1 v1 hg.2.2.1 (by omega) (by omega)
  by_cases h2 : v2 < 0
  · refine ⟨-1, ?_, by omega, fun h => by omega⟩; simp only [laws_szWorld.f]; exact Ev.bind a0 (Ev.neg h0 (Ev.bind a1 (Ev.neg h1 (Ev.bind a2 (Ev.pos h2 Ev.ret)))))
  obtain ⟨v3, a3, b3, c3⟩ := sz_Register x.2.2.2.1 v2 hg.2.2.2.1 (by omega) (by omega)
  by_cases h3 : v3 < 0
  · refine ⟨-1, ?_, by omega, fun h => by omega⟩; simp only [laws_szWorld.f]; exact Ev.bind a0 (Ev.neg h0 (Ev.bind a1 (Ev.neg h1 (Ev.bind a2 (Ev.neg h2 (Ev.bind a3 (Ev.pos h3 Ev.ret)))))))
  obtain ⟨v4, a4, b4, c4⟩ := sz_WriterS x.2.2.2.2.1 v3 hg.2.2.2.2.1 (by omega) (by omega)
  by_cases h4 : v4 < 0
  · refine ⟨-1, ?_, by omega, fun h => by omega⟩; simp only [laws_szWorld.f]; exact Ev.bind a0 (Ev.neg h0 (Ev.bind a1 (Ev.neg h1 (Ev.bind a2 (Ev.neg h2 (Ev.bind a3 (Ev.neg h3 (Ev.bind a4 (Ev.pos h4 Ev.ret)))))))))
  obtain ⟨v5, a5, b5, c5⟩ := sz_MendS x.2.2.2.2.2.1 v4 hg.2.2.2.2.2.1 (by omega) (by omega)
  by_cases h5 : v5 < 0
  · refine ⟨-1, ?_, by omega, fun h => by omega⟩; simp only [laws_szWorld.f]; exact Ev.bind a0 (Ev.neg h0 (Ev.bind a1 (Ev.neg h1 (Ev.bind a2 (Ev.neg h2 (Ev.bind a3 (Ev.neg h3 (Ev.bind a4 (Ev.neg h4 (Ev.bind a5 (Ev.pos h5 Ev.ret)))))))))))
  obtain ⟨v6, a6, b6, c6⟩ := sz_ReaderS x.2.2.2.2.2.2.1 v5 hg.2.2.2.2.2.2.1 (by omega) (by omega)
  by_cases h6 : v6 < 0
  · refine ⟨-1, ?_, by omega, fun h => by omega⟩; simp only [laws_szWorld.f]; exact Ev.bind a0 (Ev.neg h0 (Ev.bind a1 (Ev.neg h1 (Ev.bind a2 (Ev.neg h2 (Ev.bind a3 (Ev.neg h3 (Ev.bind a4 (Ev.neg h4 (Ev.bind a5 (Ev.neg h5 (Ev.bind a6 (Ev.pos h6 Ev.ret)))))))))))))
  obtain ⟨v7, a7, b7, c7⟩ := sz_SentS x.2.2.2.2.2.2.2.1 v6 hg.2.2.2.2.2.2.2.1 (by omega) (by omega)
  by_cases h7 : v7 < 0
  · refine ⟨-1, ?_, by omega, fun h => by omega⟩; simp only [laws_szWorld.f]; exact Ev.bind a0 (Ev.neg h0 (Ev.bind a1 (Ev.neg h1 (Ev.bind a2 (Ev.neg h2 (Ev.bind a3 (Ev.neg h3 (Ev.bind a4 (Ev.neg h4 (Ev.bind a5 (Ev.neg h5 (Ev.bind a6 (Ev.neg h6 (Ev.bind a7 (Ev.pos h7 Ev.ret)))))))))))))))
  refine ⟨v7, ?_, by omega, fun h => ?_⟩
  · simp only [laws_szWorld.f]; exact Ev.bind a0 (Ev.neg h0 (Ev.bind a1 (Ev.neg h1 (Ev.bind a2 (Ev.neg h2 (Ev.bind a3 (Ev.neg h3 (Ev.bind a4 (Ev.neg h4 (Ev.bind a5 (Ev.neg h5 (Ev.bind a6 (Ev.neg h6 (Ev.bind a7 (Ev.neg h7 (Ev.ret))))))))))))))))
  · have q0 := c0 (by omega)
    have q1 := c1 (by omega)
    have q2 := c2 (by omega)
    have q3 := c3 (by omega)
    have q4 := c4 (by omega)
    have q5 := c5 (by omega)
    have q6 := c6 (by omega)
    have q7 := c7 (by omega)
    show _ + (((cnt tConfig x.1 + (cnt (.sl tStore) x.2.1 + (cnt (.sl (.int .i64)) x.2.2.1 + (cnt tRegister x.2.2.2.1 + (cnt (.sl tWriter) x.2.2.2.2.1 + (cnt (.sl tMend) x.2.2.2.2.2.1 + (cnt (.sl tReader) x.2.2.2.2.2.2.1 + (cnt (.sl tSent) x.2.2.2.2.2.2.2.1 + (cnt .bool x.2.2.2.2.2.2.2.2.1 + cnt .unit x.2.2.2.2.2.2.2.2.2))))))))) : Nat) : Int) ≤ n
    have z8 : cnt .bool x.2.2.2.2.2.2.2.2.1 = 0 := rfl
    have zu : cnt .unit x.2.2.2.2.2.2.2.2.2 = 0 := rfl
    omega
theorem to_IntS : ToOk (.sl (.int .i64)) laws_toIntS.f := to_row (t := (.int .i64)) (p := laws_toIntS.p7) (d := (0 : Int)) (z := (0 : Int)) (to_loopF (fun _ _ _ _ => rfl)) (fun _ _ => rfl) to_id
theorem to_Config : ToOk tConfig laws_toConfig.f := by
  intro x hc
  have hc : (cnt (.sl (.int .i64)) x.1 + (cnt (.int .i64) x.2.1 + cnt .unit x.2.2)) ≤ 1048576 := hc
  have a0 := to_IntS x.1 (by show cnt (.sl (.int .i64)) x.1 ≤ 1048576; omega)
  simp only [laws_toConfig.f]; exact Ev.bind a0 (Ev.ret)
theorem to_Entry : ToOk tEntry (fun _ => laws_toEntry.f) := by
  intro x hc
  have hc : (cnt (.int .i64) x.1 + (cnt (.int .i64) x.2.1 + (cnt .bool x.2.2.1 + (cnt .str x.2.2.2.1 + cnt .unit x.2.2.2.2)))) ≤ 1048576 := hc
  simp only [laws_toEntry.f]; exact Ev.ret
theorem to_EntryS : ToOk (.sl tEntry) laws_toEntryS.f := to_row (t := tEntry) (p := laws_toEntryS.p7) (e := (fun _ => laws_toEntry.f)) (d := ((0 : Int), ((0 : Int), (false, ((⟨#[]⟩ : ByteArray), ()))))) (z := ((0 : Int), ((0 : Int), (false, ((⟨#[]⟩ : ByteArray), ()))))) (fun _ _ _ _ => rfl) (fun _ _ => rfl) to_Entry
theorem to_Store : ToOk tStore laws_toStore.f := by
  intro x hc
  have hc : (cnt (.sl tEntry) x.1 + (cnt (.sl tEntry) x.2.1 + (cnt (.int .i64) x.2.2.1 + cnt .unit x.2.2.2))) ≤ 1048576 := hc
  have a0 := to_EntryS x.1 (by show cnt (.sl tEntry) x.1 ≤ 1048576; omega)
  have a1 := to_EntryS x.2.1 (by show cnt (.sl tEntry) x.2.1 ≤ 1048576; omega)
  simp only [laws_toStore.f]; exact Ev.bind a0 (Ev.bind a1 (Ev.ret))
theorem to_StoreS : ToOk (.sl tStore) laws_toStoreS.f := to_row (t := tStore) (p := laws_toStoreS.p7) (e := laws_toStore.f) (d := (([] : List Entry), (([] : List Entry), ((0 : Int), ())))) (z := (([] : List Entry), (([] : List Entry), ((0 : Int), ())))) (fun _ _ _ _ => rfl) (fun _ _ => rfl) to_Store
theorem to_Era : ToOk tEra laws_toEra.f := by
  intro x hc
  have hc : (cnt (.sl (.int .i64)) x.1 + (cnt .bool x.2.1 + (cnt (.int .i64) x.2.2.1 + cnt .unit x.2.2.2))) ≤ 1048576 := hc
  have a0 := to_IntS x.1 (by show cnt (.sl (.int .i64)) x.1 ≤ 1048576; omega)
  simp only [laws_toEra.f]; exact Ev.bind a0 (Ev.ret)
theorem to_EraS : ToOk (.sl tEra) laws_toEraS.f := to_row (t := tEra) (p := laws_toEraS.p7) (e := laws_toEra.f) (d := (([] : List Int), (false, ((0 : Int), ())))) (z := (([] : List Int), (false, ((0 : Int), ())))) (fun _ _ _ _ => rfl) (fun _ _ => rfl) to_Era
theorem to_Register : ToOk tRegister laws_toRegister.f := by
  intro x hc
  have hc : (cnt (.sl tEra) x.1 + (cnt (.int .i64) x.2.1 + cnt .unit x.2.2)) ≤ 1048576 := hc
  have a0 := to_EraS x.1 (by show cnt (.sl tEra) x.1 ≤ 1048576; omega)
  simp only [laws_toRegister.f]; exact Ev.bind a0 (Ev.ret)
theorem to_Word : ToOk tWord laws_toWord.f := by
  intro x hc
  have hc : (cnt .str x.1 + (cnt (.sl (.int .i64)) x.2.1 + (cnt .bool x.2.2.1 + cnt .unit x.2.2.2))) ≤ 1048576 := hc
  have a0 := to_IntS x.2.1 (by show cnt (.sl (.int .i64)) x.2.1 ≤ 1048576; omega)
  simp only [laws_toWord.f]; exact Ev.bind a0 (Ev.ret)
theorem to_WordS : ToOk (.sl tWord) laws_toWordS.f := to_row (t := tWord) (p := laws_toWordS.p7) (e := laws_toWord.f) (d := ((⟨#[]⟩ : ByteArray), (([] : List Int), (false, ())))) (z := ((⟨#[]⟩ : ByteArray), (([] : List Int), (false, ())))) (fun _ _ _ _ => rfl) (fun _ _ => rfl) to_Word
theorem to_Writer : ToOk tWriter laws_toWriter.f := by
  intro x hc
  have hc : (cnt (.int .i64) x.1 + (cnt (.sl tWord) x.2.1 + cnt .unit x.2.2)) ≤ 1048576 := hc
  have a0 := to_WordS x.2.1 (by show cnt (.sl tWord) x.2.1 ≤ 1048576; omega)
  simp only [laws_toWriter.f]; exact Ev.bind a0 (Ev.ret)
theorem to_WriterS : ToOk (.sl tWriter) laws_toWriterS.f := to_row (t := tWriter) (p := laws_toWriterS.p7) (e := laws_toWriter.f) (d := ((0 : Int), (([] : List Word), ()))) (z := ((0 : Int), (([] : List Word), ()))) (fun _ _ _ _ => rfl) (fun _ _ => rfl) to_Writer
theorem to_IntSS : ToOk (.sl (.sl (.int .i64))) laws_toIntSS.f := to_row (t := (.sl (.int .i64))) (p := laws_toIntSS.p7) (e := laws_toIntS.f) (d := ([] : List Int)) (z := ([] : List Int)) (fun _ _ _ _ => rfl) (fun _ _ => rfl) to_IntS
theorem to_Mend : ToOk tMend laws_toMend.f := by
  intro x hc
  have hc : (cnt (.int .i64) x.1 + (cnt (.int .i64) x.2.1 + (cnt (.sl (.int .i64)) x.2.2.1 + (cnt (.sl tEntry) x.2.2.2.1 + (cnt .bool x.2.2.2.2.1 + (cnt (.sl (.sl (.int .i64))) x.2.2.2.2.2.1 + cnt .unit x.2.2.2.2.2.2)))))) ≤ 1048576 := hc
  have a0 := to_IntS x.2.2.1 (by show cnt (.sl (.int .i64)) x.2.2.1 ≤ 1048576; omega)
  have a1 := to_EntryS x.2.2.2.1 (by show cnt (.sl tEntry) x.2.2.2.1 ≤ 1048576; omega)
  have a2 := to_IntSS x.2.2.2.2.2.1 (by show cnt (.sl (.sl (.int .i64))) x.2.2.2.2.2.1 ≤ 1048576; omega)
  simp only [laws_toMend.f]; exact Ev.bind a0 (Ev.bind a1 (Ev.bind a2 (Ev.ret)))
theorem to_MendS : ToOk (.sl tMend) laws_toMendS.f := to_row (t := tMend) (p := laws_toMendS.p7) (e := laws_toMend.f) (d := ((0 : Int), ((0 : Int), (([] : List Int), (([] : List Entry), (false, (([] : List (List Int)), ()))))))) (z := ((0 : Int), ((0 : Int), (([] : List Int), (([] : List Entry), (false, (([] : List (List Int)), ()))))))) (fun _ _ _ _ => rfl) (fun _ _ => rfl) to_Mend
theorem to_Event : ToOk tEvent (fun _ => laws_toEvent.f) := by
  intro x hc
  have hc : (cnt (.int .i64) x.1 + (cnt (.int .i64) x.2.1 + (cnt .str x.2.2.1 + cnt .unit x.2.2.2))) ≤ 1048576 := hc
  simp only [laws_toEvent.f]; exact Ev.ret
theorem to_EventS : ToOk (.sl tEvent) laws_toEventS.f := to_row (t := tEvent) (p := laws_toEventS.p7) (e := (fun _ => laws_toEvent.f)) (d := ((0 : Int), ((0 : Int), ((⟨#[]⟩ : ByteArray), ())))) (z := ((0 : Int), ((0 : Int), ((⟨#[]⟩ : ByteArray), ())))) (fun _ _ _ _ => rfl) (fun _ _ => rfl) to_Event
theorem to_Reader : ToOk tReader laws_toReader.f := by
  intro x hc
  have hc : (cnt (.int .i64) x.1 + (cnt (.int .i64) x.2.1 + (cnt (.sl tEvent) x.2.2.1 + cnt .unit x.2.2.2))) ≤ 1048576 := hc
  have a0 := to_EventS x.2.2.1 (by show cnt (.sl tEvent) x.2.2.1 ≤ 1048576; omega)
  simp only [laws_toReader.f]; exact Ev.bind a0 (Ev.ret)
theorem to_ReaderS : ToOk (.sl tReader) laws_toReaderS.f := to_row (t := tReader) (p := laws_toReaderS.p7) (e := laws_toReader.f) (d := ((0 : Int), ((0 : Int), (([] : List Event), ())))) (z := ((0 : Int), ((0 : Int), (([] : List Event), ())))) (fun _ _ _ _ => rfl) (fun _ _ => rfl) to_Reader
theorem to_Sent : ToOk tSent (fun _ => laws_toSent.f) := by
  intro x hc
  have hc : (cnt (.int .i64) x.1 + (cnt .str x.2.1 + (cnt .bool x.2.2.1 + cnt .unit x.2.2.2))) ≤ 1048576 := hc
  simp only [laws_toSent.f]; exact Ev.ret
theorem to_SentS : ToOk (.sl tSent) laws_toSentS.f := to_row (t := tSent) (p := laws_toSentS.p7) (e := (fun _ => laws_toSent.f)) (d := ((0 : Int), ((⟨#[]⟩ : ByteArray), (false, ())))) (z := ((0 : Int), ((⟨#[]⟩ : ByteArray), (false, ())))) (fun _ _ _ _ => rfl) (fun _ _ => rfl) to_Sent
theorem to_World : ToOk tWorld laws_toWorld.f := by
  intro x hc
  have hc : (cnt tConfig x.1 + (cnt (.sl tStore) x.2.1 + (cnt (.sl (.int .i64)) x.2.2.1 + (cnt tRegister x.2.2.2.1 + (cnt (.sl tWriter) x.2.2.2.2.1 + (cnt (.sl tMend) x.2.2.2.2.2.1 + (cnt (.sl tReader) x.2.2.2.2.2.2.1 + (cnt (.sl tSent) x.2.2.2.2.2.2.2.1 + (cnt .bool x.2.2.2.2.2.2.2.2.1 + cnt .unit x.2.2.2.2.2.2.2.2.2))))))))) ≤ 1048576 := hc
  have a0 := to_Config x.1 (by show cnt tConfig x.1 ≤ 1048576; omega)
  have a1 := to_StoreS x.2.1 (by show cnt (.sl tStore) x.2.1 ≤ 1048576; omega)
  have a2 := to_IntS x.2.2.1 (by show cnt (.sl (.int .i64)) x.2.2.1 ≤ 1048576; omega)
  have a3 := to_Register x.2.2.2.1 (by show cnt tRegister x.2.2.2.1 ≤ 1048576; omega)
  have a4 := to_WriterS x.2.2.2.2.1 (by show cnt (.sl tWriter) x.2.2.2.2.1 ≤ 1048576; omega)
  have a5 := to_MendS x.2.2.2.2.2.1 (by show cnt (.sl tMend) x.2.2.2.2.2.1 ≤ 1048576; omega)
  have a6 := to_ReaderS x.2.2.2.2.2.2.1 (by show cnt (.sl tReader) x.2.2.2.2.2.2.1 ≤ 1048576; omega)
  have a7 := to_SentS x.2.2.2.2.2.2.2.1 (by show cnt (.sl tSent) x.2.2.2.2.2.2.2.1 ≤ 1048576; omega)
  simp only [laws_toWorld.f]; exact Ev.bind a0 (Ev.bind a1 (Ev.bind a2 (Ev.bind a3 (Ev.bind a4 (Ev.bind a5 (Ev.bind a6 (Ev.bind a7 (Ev.ret))))))))
theorem eq_IntS : EqOk (.sl (.int .i64)) laws_eqIntS.f := eq_leaf (t := (.int .i64)) (p := laws_eqIntS.p9) (d := (0 : Int)) (q := fun x y => decide (x = y)) (fun k xs ys i => by simp only [laws_eqIntS.p9, decide_eq_true_eq]) (fun _ => decide_eq_true rfl) (fun _ _ _ => rfl)
theorem eq_Config : EqOk tConfig laws_eqConfig.f := by
  intro x hc
  have hc : (cnt (.sl (.int .i64)) x.1 + (cnt (.int .i64) x.2.1 + cnt .unit x.2.2)) ≤ 1099511627776 := hc
  have a0 := eq_IntS x.1 (by show cnt (.sl (.int .i64)) x.1 ≤ 1099511627776; omega)
  simp only [laws_eqConfig.f]; exact Ev.bind a0 (Ev.pos (by trivial) (Ev.pos (by trivial) (Ev.ret)))
theorem eq_Entry : EqOk tEntry (fun _ => laws_eqEntry.f) := by
  intro x hc
  have hc : (cnt (.int .i64) x.1 + (cnt (.int .i64) x.2.1 + (cnt .bool x.2.2.1 + (cnt .str x.2.2.2.1 + cnt .unit x.2.2.2.2)))) ≤ 1099511627776 := hc
  simp only [laws_eqEntry.f]; exact Ev.pos (by trivial) (Ev.pos (by trivial) (Ev.pos (by trivial) (Ev.pos (by trivial) (Ev.ret))))
theorem eq_EntryS : EqOk (.sl tEntry) laws_eqEntryS.f := eq_row (t := tEntry) (p := laws_eqEntryS.p9) (e := (fun _ => laws_eqEntry.f)) (d := ((0 : Int), ((0 : Int), (false, ((⟨#[]⟩ : ByteArray), ()))))) (fun _ _ _ _ => rfl) (fun _ _ _ => rfl) eq_Entry
theorem eq_Store : EqOk tStore laws_eqStore.f := by
  intro x hc
  have hc : (cnt (.sl tEntry) x.1 + (cnt (.sl tEntry) x.2.1 + (cnt (.int .i64) x.2.2.1 + cnt .unit x.2.2.2))) ≤ 1099511627776 := hc
  have a0 := eq_EntryS x.1 (by show cnt (.sl tEntry) x.1 ≤ 1099511627776; omega)
  have a1 := eq_EntryS x.2.1 (by show cnt (.sl tEntry) x.2.1 ≤ 1099511627776; omega)
  simp only [laws_eqStore.f]; exact Ev.bind a0 (Ev.pos (by trivial) (Ev.bind a1 (Ev.pos (by trivial) (Ev.pos (by trivial) (Ev.ret)))))
theorem eq_StoreS : EqOk (.sl tStore) laws_eqStoreS.f := eq_row (t := tStore) (p := laws_eqStoreS.p9) (e := laws_eqStore.f) (d := (([] : List Entry), (([] : List Entry), ((0 : Int), ())))) (fun _ _ _ _ => rfl) (fun _ _ _ => rfl) eq_Store
theorem eq_Era : EqOk tEra laws_eqEra.f := by
  intro x hc
  have hc : (cnt (.sl (.int .i64)) x.1 + (cnt .bool x.2.1 + (cnt (.int .i64) x.2.2.1 + cnt .unit x.2.2.2))) ≤ 1099511627776 := hc
  have a0 := eq_IntS x.1 (by show cnt (.sl (.int .i64)) x.1 ≤ 1099511627776; omega)
  simp only [laws_eqEra.f]; exact Ev.bind a0 (Ev.pos (by trivial) (Ev.pos (by trivial) (Ev.pos (by trivial) (Ev.ret))))
theorem eq_EraS : EqOk (.sl tEra) laws_eqEraS.f := eq_row (t := tEra) (p := laws_eqEraS.p9) (e := laws_eqEra.f) (d := (([] : List Int), (false, ((0 : Int), ())))) (fun _ _ _ _ => rfl) (fun _ _ _ => rfl) eq_Era
theorem eq_Register : EqOk tRegister laws_eqRegister.f := by
  intro x hc
  have hc : (cnt (.sl tEra) x.1 + (cnt (.int .i64) x.2.1 + cnt .unit x.2.2)) ≤ 1099511627776 := hc
  have a0 := eq_EraS x.1 (by show cnt (.sl tEra) x.1 ≤ 1099511627776; omega)
  simp only [laws_eqRegister.f]; exact Ev.bind a0 (Ev.pos (by trivial) (Ev.pos (by trivial) (Ev.ret)))
theorem eq_Word : EqOk tWord laws_eqWord.f := by
  intro x hc
  have hc : (cnt .str x.1 + (cnt (.sl (.int .i64)) x.2.1 + (cnt .bool x.2.2.1 + cnt .unit x.2.2.2))) ≤ 1099511627776 := hc
  have a0 := eq_IntS x.2.1 (by show cnt (.sl (.int .i64)) x.2.1 ≤ 1099511627776; omega)
  simp only [laws_eqWord.f]; exact Ev.pos (by trivial) (Ev.bind a0 (Ev.pos (by trivial) (Ev.pos (by trivial) (Ev.ret))))
theorem eq_WordS : EqOk (.sl tWord) laws_eqWordS.f := eq_row (t := tWord) (p := laws_eqWordS.p9) (e := laws_eqWord.f) (d := ((⟨#[]⟩ : ByteArray), (([] : List Int), (false, ())))) (fun _ _ _ _ => rfl) (fun _ _ _ => rfl) eq_Word
theorem eq_Writer : EqOk tWriter laws_eqWriter.f := by
  intro x hc
  have hc : (cnt (.int .i64) x.1 + (cnt (.sl tWord) x.2.1 + cnt .unit x.2.2)) ≤ 1099511627776 := hc
  have a0 := eq_WordS x.2.1 (by show cnt (.sl tWord) x.2.1 ≤ 1099511627776; omega)
  simp only [laws_eqWriter.f]; exact Ev.pos (by trivial) (Ev.bind a0 (Ev.pos (by trivial) (Ev.ret)))
theorem eq_WriterS : EqOk (.sl tWriter) laws_eqWriterS.f := eq_row (t := tWriter) (p := laws_eqWriterS.p9) (e := laws_eqWriter.f) (d := ((0 : Int), (([] : List Word), ()))) (fun _ _ _ _ => rfl) (fun _ _ _ => rfl) eq_Writer
theorem eq_IntSS : EqOk (.sl (.sl (.int .i64))) laws_eqIntSS.f := eq_row (t := (.sl (.int .i64))) (p := laws_eqIntSS.p9) (e := laws_eqIntS.f) (d := ([] : List Int)) (fun _ _ _ _ => rfl) (fun _ _ _ => rfl) eq_IntS
theorem eq_Mend : EqOk tMend laws_eqMend.f := by
  intro x hc
  have hc : (cnt (.int .i64) x.1 + (cnt (.int .i64) x.2.1 + (cnt (.sl (.int .i64)) x.2.2.1 + (cnt (.sl tEntry) x.2.2.2.1 + (cnt .bool x.2.2.2.2.1 + (cnt (.sl (.sl (.int .i64))) x.2.2.2.2.2.1 + cnt .unit x.2.2.2.2.2.2)))))) ≤ 1099511627776 := hc
  have a0 := eq_IntS x.2.2.1 (by show cnt (.sl (.int .i64)) x.2.2.1 ≤ 1099511627776; omega)
  have a1 := eq_EntryS x.2.2.2.1 (by show cnt (.sl tEntry) x.2.2.2.1 ≤ 1099511627776; omega)
  have a2 := eq_IntSS x.2.2.2.2.2.1 (by show cnt (.sl (.sl (.int .i64))) x.2.2.2.2.2.1 ≤ 1099511627776; omega)
  simp only [laws_eqMend.f]; exact Ev.pos (by trivial) (Ev.pos (by trivial) (Ev.bind a0 (Ev.pos (by trivial) (Ev.bind a1 (Ev.pos (by trivial) (Ev.pos (by trivial) (Ev.bind a2 (Ev.pos (by trivial) (Ev.ret)))))))))
theorem eq_MendS : EqOk (.sl tMend) laws_eqMendS.f := eq_row (t := tMend) (p := laws_eqMendS.p9) (e := laws_eqMend.f) (d := ((0 : Int), ((0 : Int), (([] : List Int), (([] : List Entry), (false, (([] : List (List Int)), ()))))))) (fun _ _ _ _ => rfl) (fun _ _ _ => rfl) eq_Mend
theorem eq_Event : EqOk tEvent (fun _ => laws_eqEvent.f) := by
  intro x hc
  have hc : (cnt (.int .i64) x.1 + (cnt (.int .i64) x.2.1 + (cnt .str x.2.2.1 + cnt .unit x.2.2.2))) ≤ 1099511627776 := hc
  simp only [laws_eqEvent.f]; exact Ev.pos (by trivial) (Ev.pos (by trivial) (Ev.pos (by trivial) (Ev.ret)))
theorem eq_EventS : EqOk (.sl tEvent) laws_eqEventS.f := eq_row (t := tEvent) (p := laws_eqEventS.p9) (e := (fun _ => laws_eqEvent.f)) (d := ((0 : Int), ((0 : Int), ((⟨#[]⟩ : ByteArray), ())))) (fun _ _ _ _ => rfl) (fun _ _ _ => rfl) eq_Event
theorem eq_Reader : EqOk tReader laws_eqReader.f := by
  intro x hc
  have hc : (cnt (.int .i64) x.1 + (cnt (.int .i64) x.2.1 + (cnt (.sl tEvent) x.2.2.1 + cnt .unit x.2.2.2))) ≤ 1099511627776 := hc
  have a0 := eq_EventS x.2.2.1 (by show cnt (.sl tEvent) x.2.2.1 ≤ 1099511627776; omega)
  simp only [laws_eqReader.f]; exact Ev.pos (by trivial) (Ev.pos (by trivial) (Ev.bind a0 (Ev.pos (by trivial) (Ev.ret))))
theorem eq_ReaderS : EqOk (.sl tReader) laws_eqReaderS.f := eq_row (t := tReader) (p := laws_eqReaderS.p9) (e := laws_eqReader.f) (d := ((0 : Int), ((0 : Int), (([] : List Event), ())))) (fun _ _ _ _ => rfl) (fun _ _ _ => rfl) eq_Reader
theorem eq_Sent : EqOk tSent (fun _ => laws_eqSent.f) := by
  intro x hc
  have hc : (cnt (.int .i64) x.1 + (cnt .str x.2.1 + (cnt .bool x.2.2.1 + cnt .unit x.2.2.2))) ≤ 1099511627776 := hc
  simp only [laws_eqSent.f]; exact Ev.pos (by trivial) (Ev.pos (by trivial) (Ev.pos (by trivial) (Ev.ret)))
theorem eq_SentS : EqOk (.sl tSent) laws_eqSentS.f := eq_row (t := tSent) (p := laws_eqSentS.p9) (e := (fun _ => laws_eqSent.f)) (d := ((0 : Int), ((⟨#[]⟩ : ByteArray), (false, ())))) (fun _ _ _ _ => rfl) (fun _ _ _ => rfl) eq_Sent
theorem eq_World : EqOk tWorld laws_eqWorld.f := by
  intro x hc
  have hc : (cnt tConfig x.1 + (cnt (.sl tStore) x.2.1 + (cnt (.sl (.int .i64)) x.2.2.1 + (cnt tRegister x.2.2.2.1 + (cnt (.sl tWriter) x.2.2.2.2.1 + (cnt (.sl tMend) x.2.2.2.2.2.1 + (cnt (.sl tReader) x.2.2.2.2.2.2.1 + (cnt (.sl tSent) x.2.2.2.2.2.2.2.1 + (cnt .bool x.2.2.2.2.2.2.2.2.1 + cnt .unit x.2.2.2.2.2.2.2.2.2))))))))) ≤ 1099511627776 := hc
  have a0 := eq_Config x.1 (by show cnt tConfig x.1 ≤ 1099511627776; omega)
  have a1 := eq_StoreS x.2.1 (by show cnt (.sl tStore) x.2.1 ≤ 1099511627776; omega)
  have a2 := eq_IntS x.2.2.1 (by show cnt (.sl (.int .i64)) x.2.2.1 ≤ 1099511627776; omega)
  have a3 := eq_Register x.2.2.2.1 (by show cnt tRegister x.2.2.2.1 ≤ 1099511627776; omega)
  have a4 := eq_WriterS x.2.2.2.2.1 (by show cnt (.sl tWriter) x.2.2.2.2.1 ≤ 1099511627776; omega)
  have a5 := eq_MendS x.2.2.2.2.2.1 (by show cnt (.sl tMend) x.2.2.2.2.2.1 ≤ 1099511627776; omega)
  have a6 := eq_ReaderS x.2.2.2.2.2.2.1 (by show cnt (.sl tReader) x.2.2.2.2.2.2.1 ≤ 1099511627776; omega)
  have a7 := eq_SentS x.2.2.2.2.2.2.2.1 (by show cnt (.sl tSent) x.2.2.2.2.2.2.2.1 ≤ 1099511627776; omega)
  simp only [laws_eqWorld.f]; exact Ev.bind a0 (Ev.pos (by trivial) (Ev.bind a1 (Ev.pos (by trivial) (Ev.bind a2 (Ev.pos (by trivial) (Ev.bind a3 (Ev.pos (by trivial) (Ev.bind a4 (Ev.pos (by trivial) (Ev.bind a5 (Ev.pos (by trivial) (Ev.bind a6 (Ev.pos (by trivial) (Ev.bind a7 (Ev.pos (by trivial) (Ev.pos (by trivial) (Ev.ret)))))))))))))))))
theorem text_loop : ∀ (m : Nat) (x : Int) (s : ByteArray), 0 ≤ x → x ≤ 9223372036854775807 → x < 10 ^ m → s.size + m ≤ 1000 → ∃ t, Ev (fun k => laws_markText.p9 k x s) t := by
  intro m
  induction m with
  | zero =>
    intro x s h0 hb h1 hs
    have hx : x = 0 := by simp at h1; omega
    have hsz : (((⟨#[109]⟩ : ByteArray).size : Nat) : Int) + ((s.size : Nat) : Int) ≤ (9223372036854775807 : Int) := by
      have : (⟨#[109]⟩ : ByteArray).size = 1 := rfl
      omega
    refine ⟨(⟨#[109]⟩ : ByteArray) ++ s, Ev.succ ?_⟩
    simp only [laws_markText.p9]
    exact Ev.neg (by omega) (Ev.pos hsz Ev.ret)
  | succ m ih =>
    intro x s h0 hb h1 hs
    have hsz : ∀ y : Int, (bytesOf ([y] : List Int)).size = 1 := fun y => rfl
    by_cases hx : (0 : Int) < x
    · have hd : Int.tdiv x 10 = x / 10 := Int.tdiv_eq_ediv_of_nonneg h0
      have hlt : x / 10 < 10 ^ m := by
        rw [Int.pow_succ] at h1
        exact Int.ediv_lt_of_lt_mul (by omega) h1
      have hw : wrap64 (Int.tdiv x 10) = x / 10 := by
        rw [hd]
        exact wrap64_id (by omega) (by omega)
      obtain ⟨t, ht⟩ := ih (x / 10) (bytesOf ([(IntKind.wrap .u8 (wrap64 ((48 : Int) + (Int.tmod x (10 : Int)))))] : List Int) ++ s) (by omega) (by omega) hlt (by rw [ByteArray.size_append, hsz]; omega)
      refine ⟨t, Ev.succ ?_⟩
      simp only [laws_markText.p9, hw]
      exact Ev.pos hx (Ev.pos (by rw [hsz]; omega) ht)
    · have hsz2 : (((⟨#[109]⟩ : ByteArray).size : Nat) : Int) + ((s.size : Nat) : Int) ≤ (9223372036854775807 : Int) := by
        have : (⟨#[109]⟩ : ByteArray).size = 1 := rfl
        omega
      refine ⟨(⟨#[109]⟩ : ByteArray) ++ s, Ev.succ ?_⟩
      simp only [laws_markText.p9]
      exact Ev.neg hx (Ev.pos hsz2 Ev.ret)
theorem text_ev (x : Int) (h0 : 0 ≤ x) (h1 : x ≤ 9223372036854775807) : ∃ t, Ev (fun k => laws_markText.f k x) t := by
  by_cases hx : x ≤ 0
  · exact ⟨_, by simp only [laws_markText.f]; exact Ev.pos hx Ev.ret⟩
  · obtain ⟨t, ht⟩ := text_loop 20 x ⟨#[]⟩ h0 h1 (by omega) (by show (0 : Nat) + 20 ≤ 1000; omega)
    exact ⟨t, by simp only [laws_markText.f]; exact Ev.neg hx ht⟩
noncomputable def W_IntS (xs : List Int) : Nat := wsum (fun _ => 1) xs
theorem W_IntS_le (xs : List Int) : W_IntS xs ≤ 8 * cnt (.sl (.int .i64)) xs := wsum_le (t := .int .i64) (W := fun _ => 1) (fun x => by omega) xs
theorem mk_IntS : MkOk (.sl (.int .i64)) W_IntS laws_markIntS.f laws_heldIntS.f := by
  refine mk_row (t := (.int .i64)) (W := (fun _ => 1)) (p := laws_markIntS.p5) (q := laws_heldIntS.p5) (e := (fun _ x n => some (wrap64 (n + (1 : Int)), n))) (g := (fun _ x n => some (if x = n then some (wrap64 (n + (1 : Int))) else none))) (d := (0 : Int)) ?_ ?_ ?_ ?_ (fun _ _ _ => rfl) (fun _ _ _ => rfl) markInt_ok (fun _ => Nat.le_refl 1)
  · intro k xs n i hl hi
    have e : wrap64 ((i : Int) + 1) = ((i + 1 : Nat) : Int) := wrap64_id (by omega) (by omega)
    have c1 : (i : Int) < ((xs.length : Nat) : Int) := by omega
    have c2 : (0 : Int) ≤ (i : Int) := by omega
    simp only [laws_markIntS.p5, Int.toNat_natCast, List.length_set, c1, c2, and_self, if_true, getD_set_self hi, List.set_set, e, Option.bind_assoc, Option.bind_some]
  · intro k xs n i hi
    have c1 : ¬ (i : Int) < ((xs.length : Nat) : Int) := by omega
    simp only [laws_markIntS.p5, c1, if_false]
  · intro k xs n i hl hi
    have e : wrap64 ((i : Int) + 1) = ((i + 1 : Nat) : Int) := wrap64_id (by omega) (by omega)
    have c1 : (i : Int) < ((xs.length : Nat) : Int) := by omega
    have c2 : (0 : Int) ≤ (i : Int) := by omega
    simp only [laws_heldIntS.p5, Int.toNat_natCast, c1, c2, and_self, if_true, e, Option.bind_assoc, Option.bind_some, ite_bind, bind_match]
    split <;> rfl
  · intro k xs n i hi
    have c1 : ¬ (i : Int) < ((xs.length : Nat) : Int) := by omega
    simp only [laws_heldIntS.p5, c1, if_false]
noncomputable def W_Config (x : Config) : Nat := W_IntS x.1
theorem W_Config_le (x : Config) : W_Config x ≤ 8 * cnt tConfig x := by
  show _ ≤ 8 * (cnt (.sl (.int .i64)) x.1 + (cnt (.int .i64) x.2.1 + cnt .unit x.2.2))
  have w0 := W_IntS_le x.1
  unfold W_Config; omega
theorem mk_Config : Mk1 tConfig W_Config laws_markConfig.f := by
  intro x n h1 h2
  unfold W_Config at h2
  obtain ⟨n0, x0, a0, b0, c0⟩ := mk_IntS.one x.1 n (by omega) (by omega)
  refine ⟨n0, (x0, (x.2.1, x.2.2)), ?_, by omega, by unfold W_Config; omega⟩
  · simp only [laws_markConfig.f]; exact Ev.bind a0 (Ev.ret)
noncomputable def WE_Entry (x : Entry) : Nat := 1 + 1 + 1 + 1
theorem WE_Entry_le (x : Entry) : WE_Entry x ≤ 8 * cnt tEntry x + 8 := by
  show _ ≤ 8 * (cnt (.int .i64) x.1 + (cnt (.int .i64) x.2.1 + (cnt .bool x.2.2.1 + (cnt .str x.2.2.2.1 + cnt .unit x.2.2.2.2)))) + 8

  unfold WE_Entry; omega
noncomputable def em_Entry (k : Nat) (x : Entry) (n : Int) : Option (Int × Entry) := (laws_markText.f k (wrap64 ((wrap64 ((wrap64 (n + (1 : Int))) + (1 : Int))) + (1 : Int)))).bind fun r1 => some ((wrap64 ((wrap64 ((wrap64 ((wrap64 (n + (1 : Int))) + (1 : Int))) + (1 : Int))) + (1 : Int))), (n, ((wrap64 (n + (1 : Int))), ((decide ((Int.tmod (wrap64 ((wrap64 (n + (1 : Int))) + (1 : Int))) (3 : Int)) = (0 : Int))), (r1, x.2.2.2.2)))))
theorem ee_Entry : Mk1 tEntry WE_Entry em_Entry := by
  intro x n h1 h2
  unfold WE_Entry at h2
  have w1 : wrap64 (n + (1 : Int)) = n + 1 := by rw [wrap64_id (by omega) (by omega)]
  have w2 : wrap64 ((n + 1) + (1 : Int)) = n + 2 := by rw [wrap64_id (by omega) (by omega)]; omega
  have w3 : wrap64 ((n + 2) + (1 : Int)) = n + 3 := by rw [wrap64_id (by omega) (by omega)]; omega
  obtain ⟨t1, q1⟩ := text_ev (n + 3) (by omega) (by omega)
  have w4 : wrap64 ((n + 3) + (1 : Int)) = n + 4 := by rw [wrap64_id (by omega) (by omega)]; omega
  refine ⟨(n + 4), (n, ((n + 1), ((decide ((Int.tmod (n + 2) (3 : Int)) = (0 : Int))), (t1, x.2.2.2.2)))), ?_, by omega, by unfold WE_Entry; omega⟩
  · simp only [em_Entry, w1, w2, w3, w4]
    refine Ev.bind q1 ?_
    try simp only [w1, w2, w3, w4]
    exact Ev.ret
noncomputable def W_EntryS (xs : List Entry) : Nat := wsum WE_Entry xs
theorem W_EntryS_le (xs : List Entry) : W_EntryS xs ≤ 8 * cnt (.sl tEntry) xs := wsum_le (t := tEntry) WE_Entry_le xs
theorem mk_EntryS : Mk1 (.sl tEntry) W_EntryS laws_markEntryS.f := by
  refine mk1_row (t := tEntry) (W := WE_Entry) (p := laws_markEntryS.p5) (e := em_Entry) (d := ((0 : Int), ((0 : Int), (false, ((⟨#[]⟩ : ByteArray), ()))))) ?_ ?_ (fun _ _ _ => rfl) ee_Entry (fun _ => by unfold WE_Entry; omega)
  · intro k xs n i hl hi
    have e : wrap64 ((i : Int) + 1) = ((i + 1 : Nat) : Int) := wrap64_id (by omega) (by omega)
    have c1 : (i : Int) < ((xs.length : Nat) : Int) := by omega
    have c2 : (0 : Int) ≤ (i : Int) := by omega
    simp only [laws_markEntryS.p5, em_Entry, Int.toNat_natCast, List.length_set, c1, c2, and_self, if_true, getD_set_self hi, List.set_set, e, Option.bind_assoc, Option.bind_some]
  · intro k xs n i hi
    have c1 : ¬ (i : Int) < ((xs.length : Nat) : Int) := by omega
    simp only [laws_markEntryS.p5, c1, if_false]
noncomputable def WE_Store (x : Store) : Nat := W_EntryS x.1 + W_EntryS x.2.1 + 1
theorem WE_Store_le (x : Store) : WE_Store x ≤ 8 * cnt tStore x + 8 := by
  show _ ≤ 8 * (cnt (.sl tEntry) x.1 + (cnt (.sl tEntry) x.2.1 + (cnt (.int .i64) x.2.2.1 + cnt .unit x.2.2.2))) + 8
  have w0 := W_EntryS_le x.1
  have w1 := W_EntryS_le x.2.1
  unfold WE_Store; omega
noncomputable def em_Store (k : Nat) (x : Store) (n : Int) : Option (Int × Store) := (laws_markEntryS.f k x.1 n).bind fun r1 => (laws_markEntryS.f k x.2.1 r1.1).bind fun r2 => some ((wrap64 (r2.1 + (1 : Int))), (r1.2, (r2.2, (r2.1, x.2.2.2))))
theorem ee_Store : Mk1 tStore WE_Store em_Store := by
  intro x n h1 h2
  unfold WE_Store at h2
  obtain ⟨n1, x1, a1, b1, c1⟩ := mk_EntryS x.1 n (by omega) (by omega)
  obtain ⟨n2, x2, a2, b2, c2⟩ := mk_EntryS x.2.1 n1 (by omega) (by omega)
  have w1 : wrap64 (n2 + (1 : Int)) = n2 + 1 := by rw [wrap64_id (by omega) (by omega)]
  refine ⟨(n2 + 1), (x1, (x2, (n2, x.2.2.2))), ?_, by omega, by unfold WE_Store; omega⟩
  · simp only [em_Store, w1]
    refine Ev.bind a1 ?_
    try simp only [w1]
    refine Ev.bind a2 ?_
    try simp only [w1]
    exact Ev.ret
noncomputable def W_StoreS (xs : List Store) : Nat := wsum WE_Store xs
theorem W_StoreS_le (xs : List Store) : W_StoreS xs ≤ 8 * cnt (.sl tStore) xs := wsum_le (t := tStore) WE_Store_le xs
theorem mk_StoreS : Mk1 (.sl tStore) W_StoreS laws_markStoreS.f := by
  refine mk1_row (t := tStore) (W := WE_Store) (p := laws_markStoreS.p5) (e := em_Store) (d := (([] : List Entry), (([] : List Entry), ((0 : Int), ())))) ?_ ?_ (fun _ _ _ => rfl) ee_Store (fun _ => by unfold WE_Store; omega)
  · intro k xs n i hl hi
    have e : wrap64 ((i : Int) + 1) = ((i + 1 : Nat) : Int) := wrap64_id (by omega) (by omega)
    have c1 : (i : Int) < ((xs.length : Nat) : Int) := by omega
    have c2 : (0 : Int) ≤ (i : Int) := by omega
    simp only [laws_markStoreS.p5, em_Store, Int.toNat_natCast, List.length_set, c1, c2, and_self, if_true, getD_set_self hi, List.set_set, e, Option.bind_assoc, Option.bind_some]
  · intro k xs n i hi
    have c1 : ¬ (i : Int) < ((xs.length : Nat) : Int) := by omega
    simp only [laws_markStoreS.p5, c1, if_false]
noncomputable def WE_Era (x : Era) : Nat := W_IntS x.1 + 1 + 1
theorem WE_Era_le (x : Era) : WE_Era x ≤ 8 * cnt tEra x + 8 := by
  show _ ≤ 8 * (cnt (.sl (.int .i64)) x.1 + (cnt .bool x.2.1 + (cnt (.int .i64) x.2.2.1 + cnt .unit x.2.2.2))) + 8
  have w0 := W_IntS_le x.1
  unfold WE_Era; omega
noncomputable def em_Era (k : Nat) (x : Era) (n : Int) : Option (Int × Era) := (laws_markIntS.f k x.1 n).bind fun r1 => some ((wrap64 ((wrap64 (r1.1 + (1 : Int))) + (1 : Int))), (r1.2, ((decide ((Int.tmod r1.1 (3 : Int)) = (0 : Int))), ((wrap64 (r1.1 + (1 : Int))), x.2.2.2))))
theorem ee_Era : Mk1 tEra WE_Era em_Era := by
  intro x n h1 h2
  unfold WE_Era at h2
  obtain ⟨n1, x1, a1, b1, c1⟩ := mk_IntS.one x.1 n (by omega) (by omega)
  have w1 : wrap64 (n1 + (1 : Int)) = n1 + 1 := by rw [wrap64_id (by omega) (by omega)]
  have w2 : wrap64 ((n1 + 1) + (1 : Int)) = n1 + 2 := by rw [wrap64_id (by omega) (by omega)]; omega
  refine ⟨(n1 + 2), (x1, ((decide ((Int.tmod n1 (3 : Int)) = (0 : Int))), ((n1 + 1), x.2.2.2))), ?_, by omega, by unfold WE_Era; omega⟩
  · simp only [em_Era, w1, w2]
    refine Ev.bind a1 ?_
    try simp only [w1, w2]
    exact Ev.ret
noncomputable def W_EraS (xs : List Era) : Nat := wsum WE_Era xs
theorem W_EraS_le (xs : List Era) : W_EraS xs ≤ 8 * cnt (.sl tEra) xs := wsum_le (t := tEra) WE_Era_le xs
theorem mk_EraS : Mk1 (.sl tEra) W_EraS laws_markEraS.f := by
  refine mk1_row (t := tEra) (W := WE_Era) (p := laws_markEraS.p5) (e := em_Era) (d := (([] : List Int), (false, ((0 : Int), ())))) ?_ ?_ (fun _ _ _ => rfl) ee_Era (fun _ => by unfold WE_Era; omega)
  · intro k xs n i hl hi
    have e : wrap64 ((i : Int) + 1) = ((i + 1 : Nat) : Int) := wrap64_id (by omega) (by omega)
    have c1 : (i : Int) < ((xs.length : Nat) : Int) := by omega
    have c2 : (0 : Int) ≤ (i : Int) := by omega
    simp only [laws_markEraS.p5, em_Era, Int.toNat_natCast, List.length_set, c1, c2, and_self, if_true, getD_set_self hi, List.set_set, e, Option.bind_assoc, Option.bind_some]
  · intro k xs n i hi
    have c1 : ¬ (i : Int) < ((xs.length : Nat) : Int) := by omega
    simp only [laws_markEraS.p5, c1, if_false]
noncomputable def W_Register (x : Register) : Nat := W_EraS x.1
theorem W_Register_le (x : Register) : W_Register x ≤ 8 * cnt tRegister x := by
  show _ ≤ 8 * (cnt (.sl tEra) x.1 + (cnt (.int .i64) x.2.1 + cnt .unit x.2.2))
  have w0 := W_EraS_le x.1
  unfold W_Register; omega
theorem mk_Register : Mk1 tRegister W_Register laws_markRegister.f := by
  intro x n h1 h2
  unfold W_Register at h2
  obtain ⟨n0, x0, a0, b0, c0⟩ := mk_EraS x.1 n (by omega) (by omega)
  refine ⟨n0, (x0, (x.2.1, x.2.2)), ?_, by omega, by unfold W_Register; omega⟩
  · simp only [laws_markRegister.f]; exact Ev.bind a0 (Ev.ret)
noncomputable def WE_Word (x : Word) : Nat := 1 + W_IntS x.2.1 + 1
theorem WE_Word_le (x : Word) : WE_Word x ≤ 8 * cnt tWord x + 8 := by
  show _ ≤ 8 * (cnt .str x.1 + (cnt (.sl (.int .i64)) x.2.1 + (cnt .bool x.2.2.1 + cnt .unit x.2.2.2))) + 8
  have w0 := W_IntS_le x.2.1
  unfold WE_Word; omega
noncomputable def em_Word (k : Nat) (x : Word) (n : Int) : Option (Int × Word) := (laws_markText.f k n).bind fun r1 => (laws_markIntS.f k x.2.1 (wrap64 (n + (1 : Int)))).bind fun r2 => some ((wrap64 (r2.1 + (1 : Int))), (r1, (r2.2, ((decide ((Int.tmod r2.1 (3 : Int)) = (0 : Int))), x.2.2.2))))
theorem ee_Word : Mk1 tWord WE_Word em_Word := by
  intro x n h1 h2
  unfold WE_Word at h2
  obtain ⟨t1, q1⟩ := text_ev n (by omega) (by omega)
  have w1 : wrap64 (n + (1 : Int)) = n + 1 := by rw [wrap64_id (by omega) (by omega)]
  obtain ⟨n2, x2, a2, b2, c2⟩ := mk_IntS.one x.2.1 (n + 1) (by omega) (by omega)
  have w2 : wrap64 (n2 + (1 : Int)) = n2 + 1 := by rw [wrap64_id (by omega) (by omega)]
  refine ⟨(n2 + 1), (t1, (x2, ((decide ((Int.tmod n2 (3 : Int)) = (0 : Int))), x.2.2.2))), ?_, by omega, by unfold WE_Word; omega⟩
  · simp only [em_Word, w1, w2]
    refine Ev.bind q1 ?_
    try simp only [w1, w2]
    refine Ev.bind a2 ?_
    try simp only [w1, w2]
    exact Ev.ret
noncomputable def W_WordS (xs : List Word) : Nat := wsum WE_Word xs
theorem W_WordS_le (xs : List Word) : W_WordS xs ≤ 8 * cnt (.sl tWord) xs := wsum_le (t := tWord) WE_Word_le xs
theorem mk_WordS : Mk1 (.sl tWord) W_WordS laws_markWordS.f := by
  refine mk1_row (t := tWord) (W := WE_Word) (p := laws_markWordS.p5) (e := em_Word) (d := ((⟨#[]⟩ : ByteArray), (([] : List Int), (false, ())))) ?_ ?_ (fun _ _ _ => rfl) ee_Word (fun _ => by unfold WE_Word; omega)
  · intro k xs n i hl hi
    have e : wrap64 ((i : Int) + 1) = ((i + 1 : Nat) : Int) := wrap64_id (by omega) (by omega)
    have c1 : (i : Int) < ((xs.length : Nat) : Int) := by omega
    have c2 : (0 : Int) ≤ (i : Int) := by omega
    simp only [laws_markWordS.p5, em_Word, Int.toNat_natCast, List.length_set, c1, c2, and_self, if_true, getD_set_self hi, List.set_set, e, Option.bind_assoc, Option.bind_some]
  · intro k xs n i hi
    have c1 : ¬ (i : Int) < ((xs.length : Nat) : Int) := by omega
    simp only [laws_markWordS.p5, c1, if_false]
noncomputable def WE_Writer (x : Writer) : Nat := 1 + W_WordS x.2.1
theorem WE_Writer_le (x : Writer) : WE_Writer x ≤ 8 * cnt tWriter x + 8 := by
  show _ ≤ 8 * (cnt (.int .i64) x.1 + (cnt (.sl tWord) x.2.1 + cnt .unit x.2.2)) + 8
  have w0 := W_WordS_le x.2.1
  unfold WE_Writer; omega
noncomputable def em_Writer (k : Nat) (x : Writer) (n : Int) : Option (Int × Writer) := (laws_markWordS.f k x.2.1 (wrap64 (n + (1 : Int)))).bind fun r1 => some (r1.1, (n, (r1.2, x.2.2)))
theorem ee_Writer : Mk1 tWriter WE_Writer em_Writer := by
  intro x n h1 h2
  unfold WE_Writer at h2
  have w1 : wrap64 (n + (1 : Int)) = n + 1 := by rw [wrap64_id (by omega) (by omega)]
  obtain ⟨n1, x1, a1, b1, c1⟩ := mk_WordS x.2.1 (n + 1) (by omega) (by omega)
  refine ⟨n1, (n, (x1, x.2.2)), ?_, by omega, by unfold WE_Writer; omega⟩
  · simp only [em_Writer, w1]
    refine Ev.bind a1 ?_
    try simp only [w1]
    exact Ev.ret
noncomputable def W_WriterS (xs : List Writer) : Nat := wsum WE_Writer xs
theorem W_WriterS_le (xs : List Writer) : W_WriterS xs ≤ 8 * cnt (.sl tWriter) xs := wsum_le (t := tWriter) WE_Writer_le xs
theorem mk_WriterS : Mk1 (.sl tWriter) W_WriterS laws_markWriterS.f := by
  refine mk1_row (t := tWriter) (W := WE_Writer) (p := laws_markWriterS.p5) (e := em_Writer) (d := ((0 : Int), (([] : List Word), ()))) ?_ ?_ (fun _ _ _ => rfl) ee_Writer (fun _ => by unfold WE_Writer; omega)
  · intro k xs n i hl hi
    have e : wrap64 ((i : Int) + 1) = ((i + 1 : Nat) : Int) := wrap64_id (by omega) (by omega)
    have c1 : (i : Int) < ((xs.length : Nat) : Int) := by omega
    have c2 : (0 : Int) ≤ (i : Int) := by omega
    simp only [laws_markWriterS.p5, em_Writer, Int.toNat_natCast, List.length_set, c1, c2, and_self, if_true, getD_set_self hi, List.set_set, e, Option.bind_assoc, Option.bind_some]
  · intro k xs n i hi
    have c1 : ¬ (i : Int) < ((xs.length : Nat) : Int) := by omega
    simp only [laws_markWriterS.p5, c1, if_false]
noncomputable def W_IntSS (xs : (List (List Int))) : Nat := wsum (fun x => W_IntS x + 1) xs
theorem W_IntSS_le (xs : (List (List Int))) : W_IntSS xs ≤ 8 * cnt (.sl (.sl (.int .i64))) xs := wsum_le (t := (.sl (.int .i64))) (W := fun x => W_IntS x + 1) (fun x => by have := W_IntS_le x; omega) xs
theorem mk_IntSS : Mk1 (.sl (.sl (.int .i64))) W_IntSS laws_markIntSS.f := by
  refine mk1_row (t := (.sl (.int .i64))) (W := (fun x => W_IntS x + 1)) (p := laws_markIntSS.p5) (e := laws_markIntS.f) (d := ([] : List Int)) ?_ ?_ (fun _ _ _ => rfl) mk_IntS.one.elem (fun _ => Nat.le_add_left 1 _)
  · intro k xs n i hl hi
    have e : wrap64 ((i : Int) + 1) = ((i + 1 : Nat) : Int) := wrap64_id (by omega) (by omega)
    have c1 : (i : Int) < ((xs.length : Nat) : Int) := by omega
    have c2 : (0 : Int) ≤ (i : Int) := by omega
    simp only [laws_markIntSS.p5, Int.toNat_natCast, List.length_set, c1, c2, and_self, if_true, getD_set_self hi, List.set_set, e, Option.bind_assoc, Option.bind_some]
  · intro k xs n i hi
    have c1 : ¬ (i : Int) < ((xs.length : Nat) : Int) := by omega
    simp only [laws_markIntSS.p5, c1, if_false]
noncomputable def WE_Mend (x : Mend) : Nat := 1 + 1 + W_IntS x.2.2.1 + W_EntryS x.2.2.2.1 + 1 + W_IntSS x.2.2.2.2.2.1
theorem WE_Mend_le (x : Mend) : WE_Mend x ≤ 8 * cnt tMend x + 8 := by
  show _ ≤ 8 * (cnt (.int .i64) x.1 + (cnt (.int .i64) x.2.1 + (cnt (.sl (.int .i64)) x.2.2.1 + (cnt (.sl tEntry) x.2.2.2.1 + (cnt .bool x.2.2.2.2.1 + (cnt (.sl (.sl (.int .i64))) x.2.2.2.2.2.1 + cnt .unit x.2.2.2.2.2.2)))))) + 8
  have w0 := W_IntS_le x.2.2.1
  have w1 := W_EntryS_le x.2.2.2.1
  have w2 := W_IntSS_le x.2.2.2.2.2.1
  unfold WE_Mend; omega
noncomputable def em_Mend (k : Nat) (x : Mend) (n : Int) : Option (Int × Mend) := (laws_markIntS.f k x.2.2.1 (wrap64 ((wrap64 (n + (1 : Int))) + (1 : Int)))).bind fun r1 => (laws_markEntryS.f k x.2.2.2.1 r1.1).bind fun r2 => (laws_markIntSS.f k x.2.2.2.2.2.1 (wrap64 (r2.1 + (1 : Int)))).bind fun r3 => some (r3.1, (n, ((wrap64 (n + (1 : Int))), (r1.2, (r2.2, ((decide ((Int.tmod r2.1 (3 : Int)) = (0 : Int))), (r3.2, x.2.2.2.2.2.2)))))))
theorem ee_Mend : Mk1 tMend WE_Mend em_Mend := by
  intro x n h1 h2
  unfold WE_Mend at h2
  have w1 : wrap64 (n + (1 : Int)) = n + 1 := by rw [wrap64_id (by omega) (by omega)]
  have w2 : wrap64 ((n + 1) + (1 : Int)) = n + 2 := by rw [wrap64_id (by omega) (by omega)]; omega
  obtain ⟨n1, x1, a1, b1, c1⟩ := mk_IntS.one x.2.2.1 (n + 2) (by omega) (by omega)
  obtain ⟨n2, x2, a2, b2, c2⟩ := mk_EntryS x.2.2.2.1 n1 (by omega) (by omega)
  have w3 : wrap64 (n2 + (1 : Int)) = n2 + 1 := by rw [wrap64_id (by omega) (by omega)]
  obtain ⟨n3, x3, a3, b3, c3⟩ := mk_IntSS x.2.2.2.2.2.1 (n2 + 1) (by omega) (by omega)
  refine ⟨n3, (n, ((n + 1), (x1, (x2, ((decide ((Int.tmod n2 (3 : Int)) = (0 : Int))), (x3, x.2.2.2.2.2.2)))))), ?_, by omega, by unfold WE_Mend; omega⟩
  · simp only [em_Mend, w1, w2, w3]
    refine Ev.bind a1 ?_
    try simp only [w1, w2, w3]
    refine Ev.bind a2 ?_
    try simp only [w1, w2, w3]
    refine Ev.bind a3 ?_
    try simp only [w1, w2, w3]
    exact Ev.ret
noncomputable def W_MendS (xs : List Mend) : Nat := wsum WE_Mend xs
theorem W_MendS_le (xs : List Mend) : W_MendS xs ≤ 8 * cnt (.sl tMend) xs := wsum_le (t := tMend) WE_Mend_le xs
theorem mk_MendS : Mk1 (.sl tMend) W_MendS laws_markMendS.f := by
  refine mk1_row (t := tMend) (W := WE_Mend) (p := laws_markMendS.p5) (e := em_Mend) (d := ((0 : Int), ((0 : Int), (([] : List Int), (([] : List Entry), (false, (([] : List (List Int)), ()))))))) ?_ ?_ (fun _ _ _ => rfl) ee_Mend (fun _ => by unfold WE_Mend; omega)
  · intro k xs n i hl hi
    have e : wrap64 ((i : Int) + 1) = ((i + 1 : Nat) : Int) := wrap64_id (by omega) (by omega)
    have c1 : (i : Int) < ((xs.length : Nat) : Int) := by omega
    have c2 : (0 : Int) ≤ (i : Int) := by omega
    simp only [laws_markMendS.p5, em_Mend, Int.toNat_natCast, List.length_set, c1, c2, and_self, if_true, getD_set_self hi, List.set_set, e, Option.bind_assoc, Option.bind_some]
  · intro k xs n i hi
    have c1 : ¬ (i : Int) < ((xs.length : Nat) : Int) := by omega
    simp only [laws_markMendS.p5, c1, if_false]
noncomputable def WE_Event (x : Event) : Nat := 1 + 1 + 1
theorem WE_Event_le (x : Event) : WE_Event x ≤ 8 * cnt tEvent x + 8 := by
  show _ ≤ 8 * (cnt (.int .i64) x.1 + (cnt (.int .i64) x.2.1 + (cnt .str x.2.2.1 + cnt .unit x.2.2.2))) + 8

  unfold WE_Event; omega
noncomputable def em_Event (k : Nat) (x : Event) (n : Int) : Option (Int × Event) := (laws_markText.f k (wrap64 ((wrap64 (n + (1 : Int))) + (1 : Int)))).bind fun r1 => some ((wrap64 ((wrap64 ((wrap64 (n + (1 : Int))) + (1 : Int))) + (1 : Int))), (n, ((wrap64 (n + (1 : Int))), (r1, x.2.2.2))))
theorem ee_Event : Mk1 tEvent WE_Event em_Event := by
  intro x n h1 h2
  unfold WE_Event at h2
  have w1 : wrap64 (n + (1 : Int)) = n + 1 := by rw [wrap64_id (by omega) (by omega)]
  have w2 : wrap64 ((n + 1) + (1 : Int)) = n + 2 := by rw [wrap64_id (by omega) (by omega)]; omega
  obtain ⟨t1, q1⟩ := text_ev (n + 2) (by omega) (by omega)
  have w3 : wrap64 ((n + 2) + (1 : Int)) = n + 3 := by rw [wrap64_id (by omega) (by omega)]; omega
  refine ⟨(n + 3), (n, ((n + 1), (t1, x.2.2.2))), ?_, by omega, by unfold WE_Event; omega⟩
  · simp only [em_Event, w1, w2, w3]
    refine Ev.bind q1 ?_
    try simp only [w1, w2, w3]
    exact Ev.ret
noncomputable def W_EventS (xs : List Event) : Nat := wsum WE_Event xs
theorem W_EventS_le (xs : List Event) : W_EventS xs ≤ 8 * cnt (.sl tEvent) xs := wsum_le (t := tEvent) WE_Event_le xs
theorem mk_EventS : Mk1 (.sl tEvent) W_EventS laws_markEventS.f := by
  refine mk1_row (t := tEvent) (W := WE_Event) (p := laws_markEventS.p5) (e := em_Event) (d := ((0 : Int), ((0 : Int), ((⟨#[]⟩ : ByteArray), ())))) ?_ ?_ (fun _ _ _ => rfl) ee_Event (fun _ => by unfold WE_Event; omega)
  · intro k xs n i hl hi
    have e : wrap64 ((i : Int) + 1) = ((i + 1 : Nat) : Int) := wrap64_id (by omega) (by omega)
    have c1 : (i : Int) < ((xs.length : Nat) : Int) := by omega
    have c2 : (0 : Int) ≤ (i : Int) := by omega
    simp only [laws_markEventS.p5, em_Event, Int.toNat_natCast, List.length_set, c1, c2, and_self, if_true, getD_set_self hi, List.set_set, e, Option.bind_assoc, Option.bind_some]
  · intro k xs n i hi
    have c1 : ¬ (i : Int) < ((xs.length : Nat) : Int) := by omega
    simp only [laws_markEventS.p5, c1, if_false]
noncomputable def WE_Reader (x : Reader) : Nat := 1 + 1 + W_EventS x.2.2.1
theorem WE_Reader_le (x : Reader) : WE_Reader x ≤ 8 * cnt tReader x + 8 := by
  show _ ≤ 8 * (cnt (.int .i64) x.1 + (cnt (.int .i64) x.2.1 + (cnt (.sl tEvent) x.2.2.1 + cnt .unit x.2.2.2))) + 8
  have w0 := W_EventS_le x.2.2.1
  unfold WE_Reader; omega
noncomputable def em_Reader (k : Nat) (x : Reader) (n : Int) : Option (Int × Reader) := (laws_markEventS.f k x.2.2.1 (wrap64 ((wrap64 (n + (1 : Int))) + (1 : Int)))).bind fun r1 => some (r1.1, (n, ((wrap64 (n + (1 : Int))), (r1.2, x.2.2.2))))
theorem ee_Reader : Mk1 tReader WE_Reader em_Reader := by
  intro x n h1 h2
  unfold WE_Reader at h2
  have w1 : wrap64 (n + (1 : Int)) = n + 1 := by rw [wrap64_id (by omega) (by omega)]
  have w2 : wrap64 ((n + 1) + (1 : Int)) = n + 2 := by rw [wrap64_id (by omega) (by omega)]; omega
  obtain ⟨n1, x1, a1, b1, c1⟩ := mk_EventS x.2.2.1 (n + 2) (by omega) (by omega)
  refine ⟨n1, (n, ((n + 1), (x1, x.2.2.2))), ?_, by omega, by unfold WE_Reader; omega⟩
  · simp only [em_Reader, w1, w2]
    refine Ev.bind a1 ?_
    try simp only [w1, w2]
    exact Ev.ret
noncomputable def W_ReaderS (xs : List Reader) : Nat := wsum WE_Reader xs
theorem W_ReaderS_le (xs : List Reader) : W_ReaderS xs ≤ 8 * cnt (.sl tReader) xs := wsum_le (t := tReader) WE_Reader_le xs
theorem mk_ReaderS : Mk1 (.sl tReader) W_ReaderS laws_markReaderS.f := by
  refine mk1_row (t := tReader) (W := WE_Reader) (p := laws_markReaderS.p5) (e := em_Reader) (d := ((0 : Int), ((0 : Int), (([] : List Event), ())))) ?_ ?_ (fun _ _ _ => rfl) ee_Reader (fun _ => by unfold WE_Reader; omega)
  · intro k xs n i hl hi
    have e : wrap64 ((i : Int) + 1) = ((i + 1 : Nat) : Int) := wrap64_id (by omega) (by omega)
    have c1 : (i : Int) < ((xs.length : Nat) : Int) := by omega
    have c2 : (0 : Int) ≤ (i : Int) := by omega
    simp only [laws_markReaderS.p5, em_Reader, Int.toNat_natCast, List.length_set, c1, c2, and_self, if_true, getD_set_self hi, List.set_set, e, Option.bind_assoc, Option.bind_some]
  · intro k xs n i hi
    have c1 : ¬ (i : Int) < ((xs.length : Nat) : Int) := by omega
    simp only [laws_markReaderS.p5, c1, if_false]
noncomputable def WE_Sent (x : Sent) : Nat := 1 + 1 + 1
theorem WE_Sent_le (x : Sent) : WE_Sent x ≤ 8 * cnt tSent x + 8 := by
  show _ ≤ 8 * (cnt (.int .i64) x.1 + (cnt .str x.2.1 + (cnt .bool x.2.2.1 + cnt .unit x.2.2.2))) + 8

  unfold WE_Sent; omega
noncomputable def em_Sent (k : Nat) (x : Sent) (n : Int) : Option (Int × Sent) := (laws_markText.f k (wrap64 (n + (1 : Int)))).bind fun r1 => some ((wrap64 ((wrap64 ((wrap64 (n + (1 : Int))) + (1 : Int))) + (1 : Int))), (n, (r1, ((decide ((Int.tmod (wrap64 ((wrap64 (n + (1 : Int))) + (1 : Int))) (3 : Int)) = (0 : Int))), x.2.2.2))))
theorem ee_Sent : Mk1 tSent WE_Sent em_Sent := by
  intro x n h1 h2
  unfold WE_Sent at h2
  have w1 : wrap64 (n + (1 : Int)) = n + 1 := by rw [wrap64_id (by omega) (by omega)]
  obtain ⟨t1, q1⟩ := text_ev (n + 1) (by omega) (by omega)
  have w2 : wrap64 ((n + 1) + (1 : Int)) = n + 2 := by rw [wrap64_id (by omega) (by omega)]; omega
  have w3 : wrap64 ((n + 2) + (1 : Int)) = n + 3 := by rw [wrap64_id (by omega) (by omega)]; omega
  refine ⟨(n + 3), (n, (t1, ((decide ((Int.tmod (n + 2) (3 : Int)) = (0 : Int))), x.2.2.2))), ?_, by omega, by unfold WE_Sent; omega⟩
  · simp only [em_Sent, w1, w2, w3]
    refine Ev.bind q1 ?_
    try simp only [w1, w2, w3]
    exact Ev.ret
noncomputable def W_SentS (xs : List Sent) : Nat := wsum WE_Sent xs
theorem W_SentS_le (xs : List Sent) : W_SentS xs ≤ 8 * cnt (.sl tSent) xs := wsum_le (t := tSent) WE_Sent_le xs
theorem mk_SentS : Mk1 (.sl tSent) W_SentS laws_markSentS.f := by
  refine mk1_row (t := tSent) (W := WE_Sent) (p := laws_markSentS.p5) (e := em_Sent) (d := ((0 : Int), ((⟨#[]⟩ : ByteArray), (false, ())))) ?_ ?_ (fun _ _ _ => rfl) ee_Sent (fun _ => by unfold WE_Sent; omega)
  · intro k xs n i hl hi
    have e : wrap64 ((i : Int) + 1) = ((i + 1 : Nat) : Int) := wrap64_id (by omega) (by omega)
    have c1 : (i : Int) < ((xs.length : Nat) : Int) := by omega
    have c2 : (0 : Int) ≤ (i : Int) := by omega
    simp only [laws_markSentS.p5, em_Sent, Int.toNat_natCast, List.length_set, c1, c2, and_self, if_true, getD_set_self hi, List.set_set, e, Option.bind_assoc, Option.bind_some]
  · intro k xs n i hi
    have c1 : ¬ (i : Int) < ((xs.length : Nat) : Int) := by omega
    simp only [laws_markSentS.p5, c1, if_false]
noncomputable def W_World (x : World) : Nat := W_Config x.1 + W_StoreS x.2.1 + W_IntS x.2.2.1 + W_Register x.2.2.2.1 + W_WriterS x.2.2.2.2.1 + W_MendS x.2.2.2.2.2.1 + W_ReaderS x.2.2.2.2.2.2.1 + W_SentS x.2.2.2.2.2.2.2.1
theorem W_World_le (x : World) : W_World x ≤ 8 * cnt tWorld x := by
  show _ ≤ 8 * (cnt tConfig x.1 + (cnt (.sl tStore) x.2.1 + (cnt (.sl (.int .i64)) x.2.2.1 + (cnt tRegister x.2.2.2.1 + (cnt (.sl tWriter) x.2.2.2.2.1 + (cnt (.sl tMend) x.2.2.2.2.2.1 + (cnt (.sl tReader) x.2.2.2.2.2.2.1 + (cnt (.sl tSent) x.2.2.2.2.2.2.2.1 + (cnt .bool x.2.2.2.2.2.2.2.2.1 + cnt .unit x.2.2.2.2.2.2.2.2.2)))))))))
  have w0 := W_Config_le x.1
  have w1 := W_StoreS_le x.2.1
  have w2 := W_IntS_le x.2.2.1
  have w3 := W_Register_le x.2.2.2.1
  have w4 := W_WriterS_le x.2.2.2.2.1
  have w5 := W_MendS_le x.2.2.2.2.2.1
  have w6 := W_ReaderS_le x.2.2.2.2.2.2.1
  have w7 := W_SentS_le x.2.2.2.2.2.2.2.1
  unfold W_World; omega
theorem mk_World : Mk1 tWorld W_World laws_markWorld.f := by
  intro x n h1 h2
  unfold W_World at h2
  obtain ⟨n0, x0, a0, b0, c0⟩ := mk_Config x.1 n (by omega) (by omega)
  obtain ⟨n1, x1, a1, b1, c1⟩ := mk_StoreS x.2.1 n0 (by omega) (by omega)
  obtain ⟨n2, x2, a2, b2, c2⟩ := mk_IntS.one x.2.2.1 n1 (by omega) (by omega)
  obtain ⟨n3, x3, a3, b3, c3⟩ := mk_Register x.2.2.2.1 n2 (by omega) (by omega)
  obtain ⟨n4, x4, a4, b4, c4⟩ := mk_WriterS x.2.2.2.2.1 n3 (by omega) (by omega)
  obtain ⟨n5, x5, a5, b5, c5⟩ := mk_MendS x.2.2.2.2.2.1 n4 (by omega) (by omega)
  obtain ⟨n6, x6, a6, b6, c6⟩ := mk_ReaderS x.2.2.2.2.2.2.1 n5 (by omega) (by omega)
  obtain ⟨n7, x7, a7, b7, c7⟩ := mk_SentS x.2.2.2.2.2.2.2.1 n6 (by omega) (by omega)
  refine ⟨n7, (x0, (x1, (x2, (x3, (x4, (x5, (x6, (x7, (x.2.2.2.2.2.2.2.2.1, x.2.2.2.2.2.2.2.2.2))))))))), ?_, by omega, by unfold W_World; omega⟩
  · simp only [laws_markWorld.f]; exact Ev.bind a0 (Ev.bind a1 (Ev.bind a2 (Ev.bind a3 (Ev.bind a4 (Ev.bind a5 (Ev.bind a6 (Ev.bind a7 (Ev.ret))))))))
end Go.Proofs.YthgnikafeamidacGreat.OmFnExactHoldersOf
