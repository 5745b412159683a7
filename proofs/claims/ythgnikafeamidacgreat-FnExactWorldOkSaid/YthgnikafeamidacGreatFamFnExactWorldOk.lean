import Derived.Test.YthgnikafeamidacGreatFFnExactWorldOk
set_option linter.unusedVariables false
set_option linter.unusedSimpArgs false
namespace Go.Proofs.YthgnikafeamidacGreat.OmFnExactWorldOk
open Go Go.OM
theorem sz_IntS : SzOk (.sl (.int .i64)) (fun _ => laws_szIntS.f) := sz_flat (fun _ => rfl) (fun _ _ _ => rfl)
theorem sz_Config : SzOk tConfig (fun _ => laws_szConfig.f) := by
  intro x n hg h0 hn
  obtain ⟨v0, a0, b0, c0⟩ := sz_IntS x.1 n hg.1 (by omega) (by omega)
  by_cases h0 : v0 < 0
  · refine ⟨-1, ?_, by omega, fun h => by omega⟩; simp only [laws_szConfig.f]; exact Ev.bind a0 (Ev.pos h0 Ev.ret)
  refine ⟨v0, ?_, by omega, fun h => ?_⟩
  · simp only [laws_szConfig.f]; exact Ev.bind a0 (Ev.neg h0 (Ev.ret))
  · have q0 := c0 (by omega)
    show _ + (((cnt (.sl (.int .i64)) x.1 + (cnt (.int .i64) x.2.1 + cnt .unit x.2.2)) : Nat) : Int) ≤ n
    have z1 : cnt (.int .i64) x.2.1 = 0 := rfl
    have zu : cnt .unit x.2.2 = 0 := rfl
    omega
theorem sz_Entry : SzOk tEntry (fun _ => laws_szEntry.f) := by
  intro x n hg h0 hn
  have g0 : x.2.2.2.1.size ≤ 9223372036854775807 := hg.2.2.2.1
  have e0 : (wrap64 (n - ((x.2.2.2.1.size : Nat) : Int))) = n - ((x.2.2.2.1.size : Nat) : Int) := wrap64_id (by omega) (by omega)
  by_cases h0 : (wrap64 (n - ((x.2.2.2.1.size : Nat) : Int))) < 0
  · refine ⟨-1, ?_, by omega, fun h => by omega⟩; simp only [laws_szEntry.f]; exact Ev.pos h0 Ev.ret
  refine ⟨(wrap64 (n - ((x.2.2.2.1.size : Nat) : Int))), ?_, by omega, fun h => ?_⟩
  · simp only [laws_szEntry.f]; exact Ev.neg h0 (Ev.ret)
  · show _ + (((cnt (.int .i64) x.1 + (cnt (.int .i64) x.2.1 + (cnt .bool x.2.2.1 + (cnt .str x.2.2.2.1 + cnt .unit x.2.2.2.2)))) : Nat) : Int) ≤ n
    have z0 : cnt (.int .i64) x.1 = 0 := rfl
    have z1 : cnt (.int .i64) x.2.1 = 0 := rfl
    have z2 : cnt .bool x.2.2.1 = 0 := rfl
    have z3 : cnt .str x.2.2.2.1 = x.2.2.2.1.size := rfl
    have zu : cnt .unit x.2.2.2.2 = 0 := rfl
    omega
theorem sz_EntryS : SzOk (.sl tEntry) laws_szEntryS.f := sz_row (t := tEntry) (p := laws_szEntryS.p11) (d := ((0 : Int), ((0 : Int), (false, ((⟨#[]⟩ : ByteArray), ()))))) (fun _ _ _ _ => rfl) (fun _ _ _ => rfl) sz_Entry
theorem sz_Store : SzOk tStore laws_szStore.f := by
  intro x n hg h0 hn
  obtain ⟨v0, a0, b0, c0⟩ := sz_EntryS x.1 n hg.1 (by omega) (by omega)
  by_cases h0 : v0 < 0
  · refine ⟨-1, ?_, by omega, fun h => by omega⟩; simp only [laws_szStore.f]; exact Ev.bind a0 (Ev.pos h0 Ev.ret)
  obtain ⟨v1, a1, b1, c1⟩ := sz_EntryS x.2.1 v0 hg.2.1 (by omega) (by omega)
  by_cases h1 : v1 < 0
  · refine ⟨-1, ?_, by omega, fun h => by omega⟩; simp only [laws_szStore.f]; exact Ev.bind a0 (Ev.neg h0 (Ev.bind a1 (Ev.pos h1 Ev.ret)))
  refine ⟨v1, ?_, by omega, fun h => ?_⟩
  · simp only [laws_szStore.f]; exact Ev.bind a0 (Ev.neg h0 (Ev.bind a1 (Ev.neg h1 (Ev.ret))))
  · have q0 := c0 (by omega)
    have q1 := c1 (by omega)
    show _ + (((cnt (.sl tEntry) x.1 + (cnt (.sl tEntry) x.2.1 + (cnt (.int .i64) x.2.2.1 + cnt .unit x.2.2.2))) : Nat) : Int) ≤ n
    have z2 : cnt (.int .i64) x.2.2.1 = 0 := rfl
    have zu : cnt .unit x.2.2.2 = 0 := rfl
    omega
theorem sz_StoreS : SzOk (.sl tStore) laws_szStoreS.f := sz_row (t := tStore) (p := laws_szStoreS.p11) (d := (([] : List Entry), (([] : List Entry), ((0 : Int), ())))) (fun _ _ _ _ => rfl) (fun _ _ _ => rfl) sz_Store
theorem sz_Era : SzOk tEra (fun _ => laws_szEra.f) := by
  intro x n hg h0 hn
  obtain ⟨v0, a0, b0, c0⟩ := sz_IntS x.1 n hg.1 (by omega) (by omega)
  by_cases h0 : v0 < 0
  · refine ⟨-1, ?_, by omega, fun h => by omega⟩; simp only [laws_szEra.f]; exact Ev.bind a0 (Ev.pos h0 Ev.ret)
  refine ⟨v0, ?_, by omega, fun h => ?_⟩
  · simp only [laws_szEra.f]; exact Ev.bind a0 (Ev.neg h0 (Ev.ret))
  · have q0 := c0 (by omega)
    show _ + (((cnt (.sl (.int .i64)) x.1 + (cnt .bool x.2.1 + (cnt (.int .i64) x.2.2.1 + cnt .unit x.2.2.2))) : Nat) : Int) ≤ n
    have z1 : cnt .bool x.2.1 = 0 := rfl
    have z2 : cnt (.int .i64) x.2.2.1 = 0 := rfl
    have zu : cnt .unit x.2.2.2 = 0 := rfl
    omega
theorem sz_EraS : SzOk (.sl tEra) laws_szEraS.f := sz_row (t := tEra) (p := laws_szEraS.p11) (d := (([] : List Int), (false, ((0 : Int), ())))) (fun _ _ _ _ => rfl) (fun _ _ _ => rfl) sz_Era
theorem sz_Register : SzOk tRegister laws_szRegister.f := by
  intro x n hg h0 hn
  obtain ⟨v0, a0, b0, c0⟩ := sz_EraS x.1 n hg.1 (by omega) (by omega)
  by_cases h0 : v0 < 0
  · refine ⟨-1, ?_, by omega, fun h => by omega⟩; simp only [laws_szRegister.f]; exact Ev.bind a0 (Ev.pos h0 Ev.ret)
  refine ⟨v0, ?_, by omega, fun h => ?_⟩
  · simp only [laws_szRegister.f]; exact Ev.bind a0 (Ev.neg h0 (Ev.ret))
  · have q0 := c0 (by omega)
    show _ + (((cnt (.sl tEra) x.1 + (cnt (.int .i64) x.2.1 + cnt .unit x.2.2)) : Nat) : Int) ≤ n
    have z1 : cnt (.int .i64) x.2.1 = 0 := rfl
    have zu : cnt .unit x.2.2 = 0 := rfl
    omega
theorem sz_Word : SzOk tWord (fun _ => laws_szWord.f) := by
  intro x n hg h0 hn
  have g0 : x.1.size ≤ 9223372036854775807 := hg.1
  have e0 : (wrap64 (n - ((x.1.size : Nat) : Int))) = n - ((x.1.size : Nat) : Int) := wrap64_id (by omega) (by omega)
  by_cases h0 : (wrap64 (n - ((x.1.size : Nat) : Int))) < 0
  · refine ⟨-1, ?_, by omega, fun h => by omega⟩; simp only [laws_szWord.f]; exact Ev.pos h0 Ev.ret
  obtain ⟨v1, a1, b1, c1⟩ := sz_IntS x.2.1 (wrap64 (n - ((x.1.size : Nat) : Int))) hg.2.1 (by omega) (by omega)
  by_cases h1 : v1 < 0
  · refine ⟨-1, ?_, by omega, fun h => by omega⟩; simp only [laws_szWord.f]; exact Ev.neg h0 (Ev.bind a1 (Ev.pos h1 Ev.ret))
  refine ⟨v1, ?_, by omega, fun h => ?_⟩
  · simp only [laws_szWord.f]; exact Ev.neg h0 (Ev.bind a1 (Ev.neg h1 (Ev.ret)))
  · have q1 := c1 (by omega)
    show _ + (((cnt .str x.1 + (cnt (.sl (.int .i64)) x.2.1 + (cnt .bool x.2.2.1 + cnt .unit x.2.2.2))) : Nat) : Int) ≤ n
    have z0 : cnt .str x.1 = x.1.size := rfl
    have z2 : cnt .bool x.2.2.1 = 0 := rfl
    have zu : cnt .unit x.2.2.2 = 0 := rfl
    omega
theorem sz_WordS : SzOk (.sl tWord) laws_szWordS.f := sz_row (t := tWord) (p := laws_szWordS.p11) (d := ((⟨#[]⟩ : ByteArray), (([] : List Int), (false, ())))) (fun _ _ _ _ => rfl) (fun _ _ _ => rfl) sz_Word
theorem sz_Writer : SzOk tWriter laws_szWriter.f := by
  intro x n hg h0 hn
  obtain ⟨v0, a0, b0, c0⟩ := sz_WordS x.2.1 n hg.2.1 (by omega) (by omega)
  by_cases h0 : v0 < 0
  · refine ⟨-1, ?_, by omega, fun h => by omega⟩; simp only [laws_szWriter.f]; exact Ev.bind a0 (Ev.pos h0 Ev.ret)
  refine ⟨v0, ?_, by omega, fun h => ?_⟩
  · simp only [laws_szWriter.f]; exact Ev.bind a0 (Ev.neg h0 (Ev.ret))
  · have q0 := c0 (by omega)
    show _ + (((cnt (.int .i64) x.1 + (cnt (.sl tWord) x.2.1 + cnt .unit x.2.2)) : Nat) : Int) ≤ n
    have z0 : cnt (.int .i64) x.1 = 0 := rfl
    have zu : cnt .unit x.2.2 = 0 := rfl
    omega
theorem sz_WriterS : SzOk (.sl tWriter) laws_szWriterS.f := sz_row (t := tWriter) (p := laws_szWriterS.p11) (d := ((0 : Int), (([] : List Word), ()))) (fun _ _ _ _ => rfl) (fun _ _ _ => rfl) sz_Writer
theorem sz_IntSS : SzOk (.sl (.sl (.int .i64))) laws_szIntSS.f := sz_row (t := (.sl (.int .i64))) (p := laws_szIntSS.p11) (d := ([] : List Int)) (fun _ _ _ _ => rfl) (fun _ _ _ => rfl) sz_IntS
theorem sz_Mend : SzOk tMend laws_szMend.f := by
  intro x n hg h0 hn
  obtain ⟨v0, a0, b0, c0⟩ := sz_IntS x.2.2.1 n hg.2.2.1 (by omega) (by omega)
  by_cases h0 : v0 < 0
  · refine ⟨-1, ?_, by omega, fun h => by omega⟩; simp only [laws_szMend.f]; exact Ev.bind a0 (Ev.pos h0 Ev.ret)
  obtain ⟨v1, a1, b1, c1⟩ := sz_EntryS x.2.2.2.1 v0 hg.2.2.2.1 (by omega) (by omega)
  by_cases h1 : v1 < 0
  · refine ⟨-1, ?_, by omega, fun h => by omega⟩; simp only [laws_szMend.f]; exact Ev.bind a0 (Ev.neg h0 (Ev.bind a1 (Ev.pos h1 Ev.ret)))
  obtain ⟨v2, a2, b2, c2⟩ := sz_IntSS x.2.2.2.2.2.1 v1 hg.2.2.2.2.2.1 (by omega) (by omega)
  by_cases h2 : v2 < 0
  · refine ⟨-1, ?_, by omega, fun h => by omega⟩; simp only [laws_szMend.f]; exact Ev.bind a0 (Ev.neg h0 (Ev.bind a1 (Ev.neg h1 (Ev.bind a2 (Ev.pos h2 Ev.ret)))))
  refine ⟨v2, ?_, by omega, fun h => ?_⟩
  · simp only [laws_szMend.f]; exact Ev.bind a0 (Ev.neg h0 (Ev.bind a1 (Ev.neg h1 (Ev.bind a2 (Ev.neg h2 (Ev.ret))))))
  · have q0 := c0 (by omega)
    have q1 := c1 (by omega)
    have q2 := c2 (by omega)
    show _ + (((cnt (.int .i64) x.1 + (cnt (.int .i64) x.2.1 + (cnt (.sl (.int .i64)) x.2.2.1 + (cnt (.sl tEntry) x.2.2.2.1 + (cnt .bool x.2.2.2.2.1 + (cnt (.sl (.sl (.int .i64))) x.2.2.2.2.2.1 + cnt .unit x.2.2.2.2.2.2)))))) : Nat) : Int) ≤ n
    have z0 : cnt (.int .i64) x.1 = 0 := rfl
    have z1 : cnt (.int .i64) x.2.1 = 0 := rfl
    have z4 : cnt .bool x.2.2.2.2.1 = 0 := rfl
    have zu : cnt .unit x.2.2.2.2.2.2 = 0 := rfl
    omega
theorem sz_MendS : SzOk (.sl tMend) laws_szMendS.f := sz_row (t := tMend) (p := laws_szMendS.p11) (d := ((0 : Int), ((0 : Int), (([] : List Int), (([] : List Entry), (false, (([] : List (List Int)), ()))))))) (fun _ _ _ _ => rfl) (fun _ _ _ => rfl) sz_Mend
theorem sz_Event : SzOk tEvent (fun _ => laws_szEvent.f) := by
  intro x n hg h0 hn
  have g0 : x.2.2.1.size ≤ 9223372036854775807 := hg.2.2.1
  have e0 : (wrap64 (n - ((x.2.2.1.size : Nat) : Int))) = n - ((x.2.2.1.size : Nat) : Int) := wrap64_id (by omega) (by omega)
  by_cases h0 : (wrap64 (n - ((x.2.2.1.size : Nat) : Int))) < 0
  · refine ⟨-1, ?_, by omega, fun h => by omega⟩; simp only [laws_szEvent.f]; exact Ev.pos h0 Ev.ret
  refine ⟨(wrap64 (n - ((x.2.2.1.size : Nat) : Int))), ?_, by omega, fun h => ?_⟩
  · simp only [laws_szEvent.f]; exact Ev.neg h0 (Ev.ret)
  · show _ + (((cnt (.int .i64) x.1 + (cnt (.int .i64) x.2.1 + (cnt .str x.2.2.1 + cnt .unit x.2.2.2))) : Nat) : Int) ≤ n
    have z0 : cnt (.int .i64) x.1 = 0 := rfl
    have z1 : cnt (.int .i64) x.2.1 = 0 := rfl
    have z2 : cnt .str x.2.2.1 = x.2.2.1.size := rfl
    have zu : cnt .unit x.2.2.2 = 0 := rfl
    omega
theorem sz_EventS : SzOk (.sl tEvent) laws_szEventS.f := sz_row (t := tEvent) (p := laws_szEventS.p11) (d := ((0 : Int), ((0 : Int), ((⟨#[]⟩ : ByteArray), ())))) (fun _ _ _ _ => rfl) (fun _ _ _ => rfl) sz_Event
theorem sz_Reader : SzOk tReader laws_szReader.f := by
  intro x n hg h0 hn
  obtain ⟨v0, a0, b0, c0⟩ := sz_EventS x.2.2.1 n hg.2.2.1 (by omega) (by omega)
  by_cases h0 : v0 < 0
  · refine ⟨-1, ?_, by omega, fun h => by omega⟩; simp only [laws_szReader.f]; exact Ev.bind a0 (Ev.pos h0 Ev.ret)
  refine ⟨v0, ?_, by omega, fun h => ?_⟩
  · simp only [laws_szReader.f]; exact Ev.bind a0 (Ev.neg h0 (Ev.ret))
  · have q0 := c0 (by omega)
    show _ + (((cnt (.int .i64) x.1 + (cnt (.int .i64) x.2.1 + (cnt (.sl tEvent) x.2.2.1 + cnt .unit x.2.2.2))) : Nat) : Int) ≤ n
    have z0 : cnt (.int .i64) x.1 = 0 := rfl
    have z1 : cnt (.int .i64) x.2.1 = 0 := rfl
    have zu : cnt .unit x.2.2.2 = 0 := rfl
    omega
theorem sz_ReaderS : SzOk (.sl tReader) laws_szReaderS.f := sz_row (t := tReader) (p := laws_szReaderS.p11) (d := ((0 : Int), ((0 : Int), (([] : List Event), ())))) (fun _ _ _ _ => rfl) (fun _ _ _ => rfl) sz_Reader
theorem sz_Sent : SzOk tSent (fun _ => laws_szSent.f) := by
  intro x n hg h0 hn
  have g0 : x.2.1.size ≤ 9223372036854775807 := hg.2.1
  have e0 : (wrap64 (n - ((x.2.1.size : Nat) : Int))) = n - ((x.2.1.size : Nat) : Int) := wrap64_id (by omega) (by omega)
  by_cases h0 : (wrap64 (n - ((x.2.1.size : Nat) : Int))) < 0
  · refine ⟨-1, ?_, by omega, fun h => by omega⟩; simp only [laws_szSent.f]; exact Ev.pos h0 Ev.ret
  refine ⟨(wrap64 (n - ((x.2.1.size : Nat) : Int))), ?_, by omega, fun h => ?_⟩
  · simp only [laws_szSent.f]; exact Ev.neg h0 (Ev.ret)
  · show _ + (((cnt (.int .i64) x.1 + (cnt .str x.2.1 + (cnt .bool x.2.2.1 + cnt .unit x.2.2.2))) : Nat) : Int) ≤ n
    have z0 : cnt (.int .i64) x.1 = 0 := rfl
    have z1 : cnt .str x.2.1 = x.2.1.size := rfl
    have z2 : cnt .bool x.2.2.1 = 0 := rfl
    have zu : cnt .unit x.2.2.2 = 0 := rfl
    omega
theorem sz_SentS : SzOk (.sl tSent) laws_szSentS.f := sz_row (t := tSent) (p := laws_szSentS.p11) (d := ((0 : Int), ((⟨#[]⟩ : ByteArray), (false, ())))) (fun _ _ _ _ => rfl) (fun _ _ _ => rfl) sz_Sent
theorem sz_World : SzOk tWorld laws_szWorld.f := by
  intro x n hg h0 hn
  obtain ⟨v0, a0, b0, c0⟩ := sz_Config x.1 n hg.1 (by omega) (by omega)
  by_cases h0 : v0 < 0
  · refine ⟨-1, ?_, by omega, fun h => by omega⟩; simp only [laws_szWorld.f]; exact Ev.bind a0 (Ev.pos h0 Ev.ret)
  obtain ⟨v1, a1, b1, c1⟩ := sz_StoreS x.2.1 v0 hg.2.1 (by omega) (by omega)
  by_cases h1 : v1 < 0
  · refine ⟨-1, ?_, by omega, fun h => by omega⟩; simp only [laws_szWorld.f]; exact Ev.bind a0 (Ev.neg h0 (Ev.bind a1 (Ev.pos h1 Ev.ret)))
  obtain ⟨v2, a2, b2, c2⟩ := sz_IntS x.2.2.1 v1 hg.2.2.1 (by omega) (by omega)
  by_cases h2 : v2 < 0
  · refine ⟨-1, ?_, by omega, fun h => by omega⟩; simp only [laws_szWorld.f]; exact Ev.bind a0 (Ev.neg h0 (Ev.bind a1 (Ev.neg h1 (Ev.bind a2 (Ev.pos h2 Ev.ret)))))
  obtain ⟨v3, a3, b3, c3⟩ := sz_Register x.2.2.2.1 v2 hg.2.2.2.1 (by omega) (by omega)
  by_cases h3 : v3 < 0
  · refine ⟨-1, ?_, by omega, fun h => by omega⟩; simp only [laws_szWorld.f]; exact Ev.bind a0 (Ev.neg h0 (Ev.bind a1 (Ev.neg h1 (Ev.bind a2 (Ev.neg h2 (Ev.bind a3 (Ev.pos h3 Ev.ret)))))))
  obtain ⟨v4, a4, b4, c4⟩ := sz_WriterS x.2.2.2.2.1 v3 hg.2.2.2.2.1 (by omega) (by omega)
  by_cases h4 : v4 < 0
  · refine ⟨-1, ?_, by omega, fun h => by omega⟩; simp only [laws_szWorld.f]; exact Ev.bind a0 (Ev.neg h0 (Ev.bind a1 (Ev.neg h1 (Ev.bind a2 (Ev.neg h2 (Ev.bind a3 (Ev.neg h3 (Ev.bind a4 (Ev.pos h4 Ev.ret)))))))))
  obtain ⟨v5, a5, b5, c5⟩ := sz_MendS x.2.2.2.2.2.1 v4 hg.2.2.2.2.2.1 (by omega) (by omega)
  by_cases h5 : v5 < 0
  · refine ⟨-1, ?_, by omega, fun h => by omega⟩; simp only [laws_szWorld.f]; exact Ev.bind a0 (Ev.neg h0 (Ev.bind a1 (Ev.neg h1 (Ev.bind a2 (Ev.neg h2 (Ev.bind a3 (Ev.neg h3 (Ev.bind a4 (Ev.neg h4 (Ev.bind a5 (Ev.pos h5 Ev.ret)))))))))))
  obtain ⟨v6, a6, b6, c6⟩ := sz_ReaderS x.2.2.2.2.2.2.1 v5 hg.2.2.2.2.2.2.1 (by omega) (by omega)
  by_cases h6 : v6 < 0
  · refine ⟨-1, ?_, by omega, fun h => by omega⟩; simp only [laws_szWorld.f]; exact Ev.bind a0 (Ev.neg h0 (Ev.bind a1 (Ev.neg h1 (Ev.bind a2 (Ev.neg h2 (Ev.bind a3 (Ev.neg h3 (Ev.bind a4 (Ev.neg h4 (Ev.bind a5 (Ev.neg h5 (Ev.bind a6 (Ev.pos h6 Ev.ret)))))))))))))
  obtain ⟨v7, a7, b7, c7⟩ := sz_SentS x.2.2.2.2.2.2.2.1 v6 hg.2.2.2.2.2.2.2.1 (by omega) (by omega)
  by_cases h7 : v7 < 0
  · refine ⟨-1, ?_, by omega, fun h => by omega⟩; simp only [laws_szWorld.f]; exact Ev.bind a0 (Ev.neg h0 (Ev.bind a1 (Ev.neg h1 (Ev.bind a2 (Ev.neg h2 (Ev.bind a3 (Ev.neg h3 (Ev.bind a4 (Ev.neg h4 (Ev.bind a5 (Ev.neg h5 (Ev.bind a6 (Ev.neg h6 (Ev.bind a7 (Ev.pos h7 Ev.ret)))))))))))))))
  refine ⟨v7, ?_, by omega, fun h => ?_⟩
  · simp only [laws_szWorld.f]; exact Ev.bind a0 (Ev.neg h0 (Ev.bind a1 (Ev.neg h1 (Ev.bind a2 (Ev.neg h2 (Ev.bind a3 (Ev.neg h3 (Ev.bind a4 (Ev.neg h4 (Ev.bind a5 (Ev.neg h5 (Ev.bind a6 (Ev.neg h6 (Ev.bind a7 (Ev.neg h7 (Ev.ret))))))))))))))))
  · have q0 := c0 (by omega)
    have q1 := c1 (by omega)
    have q2 := c2 (by omega)
    have q3 := c3 (by omega)
    have q4 := c4 (by omega)
    have q5 := c5 (by omega)
    have q6 := c6 (by omega)
    have q7 := c7 (by omega)
    show _ + (((cnt tConfig x.1 + (cnt (.sl tStore) x.2.1 + (cnt (.sl (.int .i64)) x.2.2.1 + (cnt tRegister x.2.2.2.1 + (cnt (.sl tWriter) x.2.2.2.2.1 + (cnt (.sl tMend) x.2.2.2.2.2.1 + (cnt (.sl tReader) x.2.2.2.2.2.2.1 + (cnt (.sl tSent) x.2.2.2.2.2.2.2.1 + (cnt .bool x.2.2.2.2.2.2.2.2.1 + cnt .unit x.2.2.2.2.2.2.2.2.2))))))))) : Nat) : Int) ≤ n
    have z8 : cnt .bool x.2.2.2.2.2.2.2.2.1 = 0 := rfl
    have zu : cnt .unit x.2.2.2.2.2.2.2.2.2 = 0 := rfl
    omega
theorem to_IntS : ToOk (.sl (.int .i64)) laws_toIntS.f := to_row (t := (.int .i64)) (p := laws_toIntS.p7) (d := (0 : Int)) (z := (0 : Int)) (to_loopF (fun _ _ _ _ => rfl)) (fun _ _ => rfl) to_id
theorem to_Config : ToOk tConfig laws_toConfig.f := by
  intro x hc
  have hc : (cnt (.sl (.int .i64)) x.1 + (cnt (.int .i64) x.2.1 + cnt .unit x.2.2)) ≤ 1048576 := hc
  have a0 := to_IntS x.1 (by show cnt (.sl (.int .i64)) x.1 ≤ 1048576; omega)
  simp only [laws_toConfig.f]; exact Ev.bind a0 (Ev.ret)
theorem to_Entry : ToOk tEntry (fun _ => laws_toEntry.f) := by
  intro x hc
  have hc : (cnt (.int .i64) x.1 + (cnt (.int .i64) x.2.1 + (cnt .bool x.2.2.1 + (cnt .str x.2.2.2.1 + cnt .unit x.2.2.2.2)))) ≤ 1048576 := hc
  simp only [laws_toEntry.f]; exact Ev.ret
theorem to_EntryS : ToOk (.sl tEntry) laws_toEntryS.f := to_row (t := tEntry) (p := laws_toEntryS.p7) (e := (fun _ => laws_toEntry.f)) (d := ((0 : Int), ((0 : Int), (false, ((⟨#[]⟩ : ByteArray), ()))))) (z := ((0 : Int), ((0 : Int), (false, ((⟨#[]⟩ : ByteArray), ()))))) (fun _ _ _ _ => rfl) (fun _ _ => rfl) to_Entry
theorem to_Store : ToOk tStore laws_toStore.f := by
  intro x hc
  have hc : (cnt (.sl tEntry) x.1 + (cnt (.sl tEntry) x.2.1 + (cnt (.int .i64) x.2.2.1 + cnt .unit x.2.2.2))) ≤ 1048576 := hc
  have a0 := to_EntryS x.1 (by show cnt (.sl tEntry) x.1 ≤ 1048576; omega)
  have a1 := to_EntryS x.2.1 (by show cnt (.sl tEntry) x.2.1 ≤ 1048576; omega)
  simp only [laws_toStore.f]; exact Ev.bind a0 (Ev.bind a1 (Ev.ret))
theorem to_StoreS : ToOk (.sl tStore) laws_toStoreS.f := to_row (t := tStore) (p := laws_toStoreS.p7) (e := laws_toStore.f) (d := (([] : List Entry), (([] : List Entry), ((0 : Int), ())))) (z := (([] : List Entry), (([] : List Entry), ((0 : Int), ())))) (fun _ _ _ _ => rfl) (fun _ _ => rfl) to_Store
theorem to_Era : ToOk tEra laws_toEra.f := by
  intro x hc
  have hc : (cnt (.sl (.int .i64)) x.1 + (cnt .bool x.2.1 + (cnt (.int .i64) x.2.2.1 + cnt .unit x.2.2.2))) ≤ 1048576 := hc
  have a0 := to_IntS x.1 (by show cnt (.sl (.int .i64)) x.1 ≤ 1048576; omega)
  simp only [laws_toEra.f]; exact Ev.bind a0 (Ev.ret)
theorem to_EraS : ToOk (.sl tEra) laws_toEraS.f := to_row (t := tEra) (p := laws_toEraS.p7) (e := laws_toEra.f) (d := (([] : List Int), (false, ((0 : Int), ())))) (z := (([] : List Int), (false, ((0 : Int), ())))) (fun _ _ _ _ => rfl) (fun _ _ => rfl) to_Era
theorem to_Register : ToOk tRegister laws_toRegister.f := by
  intro x hc
  have hc : (cnt (.sl tEra) x.1 + (cnt (.int .i64) x.2.1 + cnt .unit x.2.2)) ≤ 1048576 := hc
  have a0 := to_EraS x.1 (by show cnt (.sl tEra) x.1 ≤ 1048576; omega)
  simp only [laws_toRegister.f]; exact Ev.bind a0 (Ev.ret)
theorem to_Word : ToOk tWord laws_toWord.f := by
  intro x hc
  have hc : (cnt .str x.1 + (cnt (.sl (.int .i64)) x.2.1 + (cnt .bool x.2.2.1 + cnt .unit x.2.2.2))) ≤ 1048576 := hc
  have a0 := to_IntS x.2.1 (by show cnt (.sl (.int .i64)) x.2.1 ≤ 1048576; omega)
  simp only [laws_toWord.f]; exact Ev.bind a0 (Ev.ret)
theorem to_WordS : ToOk (.sl tWord) laws_toWordS.f := to_row (t := tWord) (p := laws_toWordS.p7) (e := laws_toWord.f) (d := ((⟨#[]⟩ : ByteArray), (([] : List Int), (false, ())))) (z := ((⟨#[]⟩ : ByteArray), (([] : List Int), (false, ())))) (fun _ _ _ _ => rfl) (fun _ _ => rfl) to_Word
theorem to_Writer : ToOk tWriter laws_toWriter.f := by
  intro x hc
  have hc : (cnt (.int .i64) x.1 + (cnt (.sl tWord) x.2.1 + cnt .unit x.2.2)) ≤ 1048576 := hc
  have a0 := to_WordS x.2.1 (by show cnt (.sl tWord) x.2.1 ≤ 1048576; omega)
  simp only [laws_toWriter.f]; exact Ev.bind a0 (Ev.ret)
theorem to_WriterS : ToOk (.sl tWriter) laws_toWriterS.f := to_row (t := tWriter) (p := laws_toWriterS.p7) (e := laws_toWriter.f) (d := ((0 : Int), (([] : List Word), ()))) (z := ((0 : Int), (([] : List Word), ()))) (fun _ _ _ _ => rfl) (fun _ _ => rfl) to_Writer
theorem to_IntSS : ToOk (.sl (.sl (.int .i64))) laws_toIntSS.f := to_row (t := (.sl (.int .i64))) (p := laws_toIntSS.p7) (e := laws_toIntS.f) (d := ([] : List Int)) (z := ([] : List Int)) (fun _ _ _ _ => rfl) (fun _ _ => rfl) to_IntS
theorem to_Mend : ToOk tMend laws_toMend.f := by
  intro x hc
  have hc : (cnt (.int .i64) x.1 + (cnt (.int .i64) x.2.1 + (cnt (.sl (.int .i64)) x.2.2.1 + (cnt (.sl tEntry) x.2.2.2.1 + (cnt .bool x.2.2.2.2.1 + (cnt (.sl (.sl (.int .i64))) x.2.2.2.2.2.1 + cnt .unit x.2.2.2.2.2.2)))))) ≤ 1048576 := hc
  have a0 := to_IntS x.2.2.1 (by show cnt (.sl (.int .i64)) x.2.2.1 ≤ 1048576; omega)
  have a1 := to_EntryS x.2.2.2.1 (by show cnt (.sl tEntry) x.2.2.2.1 ≤ 1048576; omega)
  have a2 := to_IntSS x.2.2.2.2.2.1 (by show cnt (.sl (.sl (.int .i64))) x.2.2.2.2.2.1 ≤ 1048576; omega)
  simp only [laws_toMend.f]; exact Ev.bind a0 (Ev.bind a1 (Ev.bind a2 (Ev.ret)))
theorem to_MendS : ToOk (.sl tMend) laws_toMendS.f := to_row (t := tMend) (p := laws_toMendS.p7) (e := laws_toMend.f) (d := ((0 : Int), ((0 : Int), (([] : List Int), (([] : List Entry), (false, (([] : List (List Int)), ()))))))) (z := ((0 : Int), ((0 : Int), (([] : List Int), (([] : List Entry), (false, (([] : List (List Int)), ()))))))) (fun _ _ _ _ => rfl) (fun _ _ => rfl) to_Mend
theorem to_Event : ToOk tEvent (fun _ => laws_toEvent.f) := by
  intro x hc
  have hc : (cnt (.int .i64) x.1 + (cnt (.int .i64) x.2.1 + (cnt .str x.2.2.1 + cnt .unit x.2.2.2))) ≤ 1048576 := hc
  simp only [laws_toEvent.f]; exact Ev.ret
theorem to_EventS : ToOk (.sl tEvent) laws_toEventS.f := to_row (t := tEvent) (p := laws_toEventS.p7) (e := (fun _ => laws_toEvent.f)) (d := ((0 : Int), ((0 : Int), ((⟨#[]⟩ : ByteArray), ())))) (z := ((0 : Int), ((0 : Int), ((⟨#[]⟩ : ByteArray), ())))) (fun _ _ _ _ => rfl) (fun _ _ => rfl) to_Event
theorem to_Reader : ToOk tReader laws_toReader.f := by
  intro x hc
  have hc : (cnt (.int .i64) x.1 + (cnt (.int .i64) x.2.1 + (cnt (.sl tEvent) x.2.2.1 + cnt .unit x.2.2.2))) ≤ 1048576 := hc
  have a0 := to_EventS x.2.2.1 (by show cnt (.sl tEvent) x.2.2.1 ≤ 1048576; omega)
  simp only [laws_toReader.f]; exact Ev.bind a0 (Ev.ret)
theorem to_ReaderS : ToOk (.sl tReader) laws_toReaderS.f := to_row (t := tReader) (p := laws_toReaderS.p7) (e := laws_toReader.f) (d := ((0 : Int), ((0 : Int), (([] : List Event), ())))) (z := ((0 : Int), ((0 : Int), (([] : List Event), ())))) (fun _ _ _ _ => rfl) (fun _ _ => rfl) to_Reader
theorem to_Sent : ToOk tSent (fun _ => laws_toSent.f) := by
  intro x hc
  have hc : (cnt (.int .i64) x.1 + (cnt .str x.2.1 + (cnt .bool x.2.2.1 + cnt .unit x.2.2.2))) ≤ 1048576 := hc
  simp only [laws_toSent.f]; exact Ev.ret
theorem to_SentS : ToOk (.sl tSent) laws_toSentS.f := to_row (t := tSent) (p := laws_toSentS.p7) (e := (fun _ => laws_toSent.f)) (d := ((0 : Int), ((⟨#[]⟩ : ByteArray), (false, ())))) (z := ((0 : Int), ((⟨#[]⟩ : ByteArray), (false, ())))) (fun _ _ _ _ => rfl) (fun _ _ => rfl) to_Sent
theorem to_World : ToOk tWorld laws_toWorld.f := by
  intro x hc
  have hc : (cnt tConfig x.1 + (cnt (.sl tStore) x.2.1 + (cnt (.sl (.int .i64)) x.2.2.1 + (cnt tRegister x.2.2.2.1 + (cnt (.sl tWriter) x.2.2.2.2.1 + (cnt (.sl tMend) x.2.2.2.2.2.1 + (cnt (.sl tReader) x.2.2.2.2.2.2.1 + (cnt (.sl tSent) x.2.2.2.2.2.2.2.1 + (cnt .bool x.2.2.2.2.2.2.2.2.1 + cnt .unit x.2.2.2.2.2.2.2.2.2))))))))) ≤ 1048576 := hc
  have a0 := to_Config x.1 (by show cnt tConfig x.1 ≤ 1048576; omega)
  have a1 := to_StoreS x.2.1 (by show cnt (.sl tStore) x.2.1 ≤ 1048576; omega)
  have a2 := to_IntS x.2.2.1 (by show cnt (.sl (.int .i64)) x.2.2.1 ≤ 1048576; omega)
  have a3 := to_Register x.2.2.2.1 (by show cnt tRegister x.2.2.2.1 ≤ 1048576; omega)
  have a4 := to_WriterS x.2.2.2.2.1 (by show cnt (.sl tWriter) x.2.2.2.2.1 ≤ 1048576; omega)
  have a5 := to_MendS x.2.2.2.2.2.1 (by show cnt (.sl tMend) x.2.2.2.2.2.1 ≤ 1048576; omega)
  have a6 := to_ReaderS x.2.2.2.2.2.2.1 (by show cnt (.sl tReader) x.2.2.2.2.2.2.1 ≤ 1048576; omega)
  have a7 := to_SentS x.2.2.2.2.2.2.2.1 (by show cnt (.sl tSent) x.2.2.2.2.2.2.2.1 ≤ 1048576; omega)
  simp only [laws_toWorld.f]; exact Ev.bind a0 (Ev.bind a1 (Ev.bind a2 (Ev.bind a3 (Ev.bind a4 (Ev.bind a5 (Ev.bind a6 (Ev.bind a7 (Ev.ret))))))))
theorem eq_IntS : EqOk (.sl (.int .i64)) laws_eqIntS.f := eq_leaf (t := (.int .i64)) (p := laws_eqIntS.p9) (d := (0 : Int)) (q := fun x y => decide (x = y)) (fun k xs ys i => by simp only [laws_eqIntS.p9, decide_eq_true_eq]) (fun _ => decide_eq_true rfl) (fun _ _ _ => rfl)
theorem eq_Config : EqOk tConfig laws_eqConfig.f := by
  intro x hc
  have hc : (cnt (.sl (.int .i64)) x.1 + (cnt (.int .i64) x.2.1 + cnt .unit x.2.2)) ≤ 1099511627776 := hc
  have a0 := eq_IntS x.1 (by show cnt (.sl (.int .i64)) x.1 ≤ 1099511627776; omega)
  simp only [laws_eqConfig.f]; exact Ev.bind a0 (Ev.pos (by trivial) (Ev.pos (by trivial) (Ev.ret)))
theorem eq_Entry : EqOk tEntry (fun _ => laws_eqEntry.f) := by
  intro x hc
  have hc : (cnt (.int .i64) x.1 + (cnt (.int .i64) x.2.1 + (cnt .bool x.2.2.1 + (cnt .str x.2.2.2.1 + cnt .unit x.2.2.2.2)))) ≤ 1099511627776 := hc
  simp only [laws_eqEntry.f]; exact Ev.pos (by trivial) (Ev.pos (by trivial) (Ev.pos (by trivial) (Ev.pos (by trivial) (Ev.ret))))
theorem eq_EntryS : EqOk (.sl tEntry) laws_eqEntryS.f := eq_row (t := tEntry) (p := laws_eqEntryS.p9) (e := (fun _ => laws_eqEntry.f)) (d := ((0 : Int), ((0 : Int), (false, ((⟨#[]⟩ : ByteArray), ()))))) (fun _ _ _ _ => rfl) (fun _ _ _ => rfl) eq_Entry
theorem eq_Store : EqOk tStore laws_eqStore.f := by
  intro x hc
  have hc : (cnt (.sl tEntry) x.1 + (cnt (.sl tEntry) x.2.1 + (cnt (.int .i64) x.2.2.1 + cnt .unit x.2.2.2))) ≤ 1099511627776 := hc
  have a0 := eq_EntryS x.1 (by show cnt (.sl tEntry) x.1 ≤ 1099511627776; omega)
  have a1 := eq_EntryS x.2.1 (by show cnt (.sl tEntry) x.2.1 ≤ 1099511627776; omega)
  simp only [laws_eqStore.f]; exact Ev.bind a0 (Ev.pos (by trivial) (Ev.bind a1 (Ev.pos (by trivial) (Ev.pos (by trivial) (Ev.ret)))))
theorem eq_StoreS : EqOk (.sl tStore) laws_eqStoreS.f := eq_row (t := tStore) (p := laws_eqStoreS.p9) (e := laws_eqStore.f) (d := (([] : List Entry), (([] : List Entry), ((0 : Int), ())))) (fun _ _ _ _ => rfl) (fun _ _ _ => rfl) eq_Store
theorem eq_Era : EqOk tEra laws_eqEra.f := by
  intro x hc
  have hc : (cnt (.sl (.int .i64)) x.1 + (cnt .bool x.2.1 + (cnt (.int .i64) x.2.2.1 + cnt .unit x.2.2.2))) ≤ 1099511627776 := hc
  have a0 := eq_IntS x.1 (by show cnt (.sl (.int .i64)) x.1 ≤ 1099511627776; omega)
  simp only [laws_eqEra.f]; exact Ev.bind a0 (Ev.pos (by trivial) (Ev.pos (by trivial) (Ev.pos (by trivial) (Ev.ret))))
theorem eq_EraS : EqOk (.sl tEra) laws_eqEraS.f := eq_row (t := tEra) (p := laws_eqEraS.p9) (e := laws_eqEra.f) (d := (([] : List Int), (false, ((0 : Int), ())))) (fun _ _ _ _ => rfl) (fun _ _ _ => rfl) eq_Era
theorem eq_Register : EqOk tRegister laws_eqRegister.f := by
  intro x hc
  have hc : (cnt (.sl tEra) x.1 + (cnt (.int .i64) x.2.1 + cnt .unit x.2.2)) ≤ 1099511627776 := hc
  have a0 := eq_EraS x.1 (by show cnt (.sl tEra) x.1 ≤ 1099511627776; omega)
  simp only [laws_eqRegister.f]; exact Ev.bind a0 (Ev.pos (by trivial) (Ev.pos (by trivial) (Ev.ret)))
theorem eq_Word : EqOk tWord laws_eqWord.f := by
  intro x hc
  have hc : (cnt .str x.1 + (cnt (.sl (.int .i64)) x.2.1 + (cnt .bool x.2.2.1 + cnt .unit x.2.2.2))) ≤ 1099511627776 := hc
  have a0 := eq_IntS x.2.1 (by show cnt (.sl (.int .i64)) x.2.1 ≤ 1099511627776; omega)
  simp only [laws_eqWord.f]; exact Ev.pos (by trivial) (Ev.bind a0 (Ev.pos (by trivial) (Ev.pos (by trivial) (Ev.ret))))
theorem eq_WordS : EqOk (.sl tWord) laws_eqWordS.f := eq_row (t := tWord) (p := laws_eqWordS.p9) (e := laws_eqWord.f) (d := ((⟨#[]⟩ : ByteArray), (([] : List Int), (false, ())))) (fun _ _ _ _ => rfl) (fun _ _ _ => rfl) eq_Word
theorem eq_Writer : EqOk tWriter laws_eqWriter.f := by
  intro x hc
  have hc : (cnt (.int .i64) x.1 + (cnt (.sl tWord) x.2.1 + cnt .unit x.2.2)) ≤ 1099511627776 := hc
  have a0 := eq_WordS x.2.1 (by show cnt (.sl tWord) x.2.1 ≤ 1099511627776; omega)
  simp only [laws_eqWriter.f]; exact Ev.pos (by trivial) (Ev.bind a0 (Ev.pos (by trivial) (Ev.ret)))
theorem eq_WriterS : EqOk (.sl tWriter) laws_eqWriterS.f := eq_row (t := tWriter) (p := laws_eqWriterS.p9) (e := laws_eqWriter.f) (d := ((0 : Int), (([] : List Word), ()))) (fun _ _ _ _ => rfl) (fun _ _ _ => rfl) eq_Writer
theorem eq_IntSS : EqOk (.sl (.sl (.int .i64))) laws_eqIntSS.f := eq_row (t := (.sl (.int .i64))) (p := laws_eqIntSS.p9) (e := laws_eqIntS.f) (d := ([] : List Int)) (fun _ _ _ _ => rfl) (fun _ _ _ => rfl) eq_IntS
theorem eq_Mend : EqOk tMend laws_eqMend.f := by
  intro x hc
  have hc : (cnt (.int .i64) x.1 + (cnt (.int .i64) x.2.1 + (cnt (.sl (.int .i64)) x.2.2.1 + (cnt (.sl tEntry) x.2.2.2.1 + (cnt .bool x.2.2.2.2.1 + (cnt (.sl (.sl (.int .i64))) x.2.2.2.2.2.1 + cnt .unit x.2.2.2.2.2.2)))))) ≤ 1099511627776 := hc
  have a0 := eq_IntS x.2.2.1 (by show cnt (.sl (.int .i64)) x.2.2.1 ≤ 1099511627776; omega)
  have a1 := eq_EntryS x.2.2.2.1 (by show cnt (.sl tEntry) x.2.2.2.1 ≤ 1099511627776; omega)
  have a2 := eq_IntSS x.2.2.2.2.2.1 (by show cnt (.sl (.sl (.int .i64))) x.2.2.2.2.2.1 ≤ 1099511627776; omega)
  simp only [laws_eqMend.f]; exact Ev.pos (by trivial) (Ev.pos (by trivial) (Ev.bind a0 (Ev.pos (by trivial) (Ev.bind a1 (Ev.pos (by trivial) (Ev.pos (by trivial) (Ev.bind a2 (Ev.pos (by trivial) (Ev.ret)))))))))
theorem eq_MendS : EqOk (.sl tMend) laws_eqMendS.f := eq_row (t := tMend) (p := laws_eqMendS.p9) (e := laws_eqMend.f) (d := ((0 : Int), ((0 : Int), (([] : List Int), (([] : List Entry), (false, (([] : List (List Int)), ()))))))) (fun _ _ _ _ => rfl) (fun _ _ _ => rfl) eq_Mend
theorem eq_Event : EqOk tEvent (fun _ => laws_eqEvent.f) := by
  intro x hc
  have hc : (cnt (.int .i64) x.1 + (cnt (.int .i64) x.2.1 + (cnt .str x.2.2.1 + cnt .unit x.2.2.2))) ≤ 1099511627776 := hc
  simp only [laws_eqEvent.f]; exact Ev.pos (by trivial) (Ev.pos (by trivial) (Ev.pos (by trivial) (Ev.ret)))
theorem eq_EventS : EqOk (.sl tEvent) laws_eqEventS.f := eq_row (t := tEvent) (p := laws_eqEventS.p9) (e := (fun _ => laws_eqEvent.f)) (d := ((0 : Int), ((0 : Int), ((⟨#[]⟩ : ByteArray), ())))) (fun _ _ _ _ => rfl) (fun _ _ _ => rfl) eq_Event
theorem eq_Reader : EqOk tReader laws_eqReader.f := by
  intro x hc
  have hc : (cnt (.int .i64) x.1 + (cnt (.int .i64) x.2.1 + (cnt (.sl tEvent) x.2.2.1 + cnt .unit x.2.2.2))) ≤ 1099511627776 := hc
  have a0 := eq_EventS x.2.2.1 (by show cnt (.sl tEvent) x.2.2.1 ≤ 1099511627776; omega)
  simp only [laws_eqReader.f]; exact Ev.pos (by trivial) (Ev.pos (by trivial) (Ev.bind a0 (Ev.pos (by trivial) (Ev.ret))))
theorem eq_ReaderS : EqOk (.sl tReader) laws_eqReaderS.f := eq_row (t := tReader) (p := laws_eqReaderS.p9) (e := laws_eqReader.f) (d := ((0 : Int), ((0 : Int), (([] : List Event), ())))) (fun _ _ _ _ => rfl) (fun _ _ _ => rfl) eq_Reader
theorem eq_Sent : EqOk tSent (fun _ => laws_eqSent.f) := by
  intro x hc
  have hc : (cnt (.int .i64) x.1 + (cnt .str x.2.1 + (cnt .bool x.2.2.1 + cnt .unit x.2.2.2))) ≤ 1099511627776 := hc
  simp only [laws_eqSent.f]; exact Ev.pos (by trivial) (Ev.pos (by trivial) (Ev.pos (by trivial) (Ev.ret)))
theorem eq_SentS : EqOk (.sl tSent) laws_eqSentS.f := eq_row (t := tSent) (p := laws_eqSentS.p9) (e := (fun _ => laws_eqSent.f)) (d := ((0 : Int), ((⟨#[]⟩ : ByteArray), (false, ())))) (fun _ _ _ _ => rfl) (fun _ _ _ => rfl) eq_Sent
theorem eq_World : EqOk tWorld laws_eqWorld.f := by
  intro x hc
  have hc : (cnt tConfig x.1 + (cnt (.sl tStore) x.2.1 + (cnt (.sl (.int .i64)) x.2.2.1 + (cnt tRegister x.2.2.2.1 + (cnt (.sl tWriter) x.2.2.2.2.1 + (cnt (.sl tMend) x.2.2.2.2.2.1 + (cnt (.sl tReader) x.2.2.2.2.2.2.1 + (cnt (.sl tSent) x.2.2.2.2.2.2.2.1 + (cnt .bool x.2.2.2.2.2.2.2.2.1 + cnt .unit x.2.2.2.2.2.2.2.2.2))))))))) ≤ 1099511627776 := hc
  have a0 := eq_Config x.1 (by show cnt tConfig x.1 ≤ 1099511627776; omega)
  have a1 := eq_StoreS x.2.1 (by show cnt (.sl tStore) x.2.1 ≤ 1099511627776; omega)
  have a2 := eq_IntS x.2.2.1 (by show cnt (.sl (.int .i64)) x.2.2.1 ≤ 1099511627776; omega)
  have a3 := eq_Register x.2.2.2.1 (by show cnt tRegister x.2.2.2.1 ≤ 1099511627776; omega)
  have a4 := eq_WriterS x.2.2.2.2.1 (by show cnt (.sl tWriter) x.2.2.2.2.1 ≤ 1099511627776; omega)
  have a5 := eq_MendS x.2.2.2.2.2.1 (by show cnt (.sl tMend) x.2.2.2.2.2.1 ≤ 1099511627776; omega)
  have a6 := eq_ReaderS x.2.2.2.2.2.2.1 (by show cnt (.sl tReader) x.2.2.2.2.2.2.1 ≤ 1099511627776; omega)
  have a7 := eq_SentS x.2.2.2.2.2.2.2.1 (by show cnt (.sl tSent) x.2.2.2.2.2.2.2.1 ≤ 1099511627776; omega)
  simp only [laws_eqWorld.f]; exact Ev.bind a0 (Ev.pos (by trivial) (Ev.bind a1 (Ev.pos (by trivial) (Ev.bind a2 (Ev.pos (by trivial) (Ev.bind a3 (Ev.pos (by trivial) (Ev.bind a4 (Ev.pos (by trivial) (Ev.bind a5 (Ev.pos (by trivial) (Ev.bind a6 (Ev.pos (by trivial) (Ev.bind a7 (Ev.pos (by trivial) (Ev.pos (by trivial) (Ev.ret)))))))))))))))))
end Go.Proofs.YthgnikafeamidacGreat.OmFnExactWorldOk
