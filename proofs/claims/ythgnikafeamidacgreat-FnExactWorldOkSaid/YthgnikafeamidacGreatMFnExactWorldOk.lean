import Derived.Test.YthgnikafeamidacGreatFFnExactWorldOk
import Derived.Test.YthgnikafeamidacGreatChecked
set_option maxRecDepth 1000000
set_option linter.unusedVariables false
namespace Go.Proofs.YthgnikafeamidacGreat.OmFnExactWorldOk
open Go Go.OM
noncomputable def tys : List (Option Ty) := [none, none, some (.int .i64), some (.int .i64), some .bool, some (.int .u8), some (.int .u8), some (.pair (.int .i64) (.pair (.int .i64) (.pair .bool (.pair (.int .u8) .unit)))), some (.pair (.int .i64) (.pair (.int .i64) (.pair .bool (.pair (.int .u8) .unit)))), some .str, some .str, some .str, some (.int .u64), some (.pair .str (.pair (.int .u64) .unit)), some (.pair .str (.pair (.int .u64) .unit)), none, none, none, none, none, none, some (.int .i32), some (.sl (.int .i64)), some tConfig, some tConfig, some (.sl tStore), some (.sl tEra), some tRegister, some tRegister, some (.sl tWriter), some (.sl tMend), some (.sl tReader), some (.sl tSent), some tWorld, some tWorld, none, none, some tConfig, some (.sl tStore), some (.sl tEra), some tRegister, some tRegister, some (.sl tWriter), some (.sl tMend), some (.sl tReader), some (.sl tSent), some tWorld, some tWorld, none, none, none, none, none, none, none, none, some (.sl (.int .u8)), none, none, none, some tEntry, some tEntry, none, none, some (.sl tEntry), some tStore, some tStore, none, none, none, none, none, none, none, none, none, some (.sl tEvent), some tReader, some tReader, none, none, none, none, none, none, none, none, none, none, none, none, none, none, none, none, none, none, none, none, none, none, none, none, none, none, none, none, none, none, none, none, none, none, some (.sl tWord), some tWriter, some tWriter, none, none, none, some (.sl tEntry), some tStore, some tStore, none, none, some (.sl tWord), some tWriter, some tWriter, none, some (.sl (.sl (.int .i64))), some tMend, some tMend, none, some (.sl tEvent), some tReader, some tReader, none, some tSent, some tSent, none, none, some tMend, some tMend, none, none, none, some tSent, none, none, none, none, none, none, none, none, none, some tEra, some tEra, none, none, none, none, none, none, none, none, none, none, none, none, none, none, some tl1Cur, some tl1Cur, some (.sl tDeed), none, none, none, none, none, none, none, none, none, none, none, none, none, none, some tWord, some tWord, none, none, some tEra, none, none, none, none, none, none, none, none, none, none, none, none, none, none, none, none, none, none, none, none, some tEvent, some tEvent, none, none, some tDeed, some tDeed, none, none, none, none, none, none, some (.int .u64), none, some tEntry, none, some tWord, none, some tEvent, some (.sl .bool), none, none, none, none, none, none, none, none, none, none, none, none, none, none, none, none, none, none, none, none, none, none, none, some (.sl .str), none, none, none, none, none, none, none, none, none, none, none, none, none, none, none, none, none, none, none, none, none, none, none, none, none, none, none, none, none, none, some (.sl tAnswer), none, none, none, none, none, none, none, none, some tAnswer, some tAnswer, none, none, none, none, none, none, none, some (.int .u32), some (.int .u8), some (.int .u8), none, none, some (.int .i32), some (.int .i32), none, none, none]
theorem tysOk : okTys Tryz.prog tys 0 tys = true := by kernel_rfl
theorem mixed : Tryz.prog.follows .mixedOrders = true := by kernel_rfl
noncomputable def b27 : Code := Tryz.f27.body.getD .skip
theorem e27 : OM.Entry Tryz.prog 27 := ⟨_, Tryz.func27, by kernel_rfl, by kernel_rfl⟩
@[reducible] noncomputable def laws_szIntS.g : Sig := ⟨[.fz (.sl (.int .i64)), .fz (.int .i64)], [.v (.int .i64) .z], []⟩
@[reducible] noncomputable def laws_szIntS.fk : Nat → denI laws_szIntS.g.pms → Option (denR (outTys laws_szIntS.g.rts laws_szIntS.g.pms)) := fun k x => laws_szIntS.f x.1 x.2.1
@[reducible] noncomputable def laws_szIntS.sm (k : Nat) : Sm := ⟨27, laws_szIntS.g.pms, laws_szIntS.g.rts, laws_szIntS.fk k⟩
noncomputable def laws_szIntS.E (k : Nat) : Env := ⟨tys, [], [], [], []⟩
noncomputable def laws_szIntS.pts : List (Pt (denR (outTys laws_szIntS.g.rts laws_szIntS.g.pms))) := []
theorem laws_szIntS.hf (k : Nat) (a0 : (List Int)) (a1 : Int) : (laws_szIntS.f a0 a1 : Option (denR (outTys laws_szIntS.g.rts laws_szIntS.g.pms))) = evC (laws_szIntS.E k) (fun κ s => lhOf k κ s laws_szIntS.pts) b27 (OM.start laws_szIntS.g.pms 0 (a0, a1, ())) (OM.fin laws_szIntS.g Tryz.f27.results.toList) := by kernel_rfl
theorem laws_szIntS.ok (k : Nat) : SmOk Tryz.prog (laws_szIntS.sm k) :=
  sm_ok mixed (E := laws_szIntS.E) (pts := laws_szIntS.pts) (fun k => ⟨⟨tysOk, by kernel_rfl⟩, forall_nil⟩) (fun _ => rfl) (fun _ => rfl)
    ⟨Tryz.func27, by kernel_rfl, by kernel_rfl, by kernel_rfl, by kernel_rfl, by kernel_rfl, by kernel_rfl⟩ (forall_nil) (fun k x => laws_szIntS.hf k x.1 x.2.1) k
noncomputable def b25 : Code := Tryz.f25.body.getD .skip
theorem e25 : OM.Entry Tryz.prog 25 := ⟨_, Tryz.func25, by kernel_rfl, by kernel_rfl⟩
@[reducible] noncomputable def laws_szConfig.g : Sig := ⟨[.fz tConfig, .fz (.int .i64)], [.v (.int .i64) .z], []⟩
@[reducible] noncomputable def laws_szConfig.fk : Nat → denI laws_szConfig.g.pms → Option (denR (outTys laws_szConfig.g.rts laws_szConfig.g.pms)) := fun k x => laws_szConfig.f x.1 x.2.1
@[reducible] noncomputable def laws_szConfig.sm (k : Nat) : Sm := ⟨25, laws_szConfig.g.pms, laws_szConfig.g.rts, laws_szConfig.fk k⟩
noncomputable def laws_szConfig.E (k : Nat) : Env := ⟨tys, [laws_szIntS.sm k], [], [], []⟩
noncomputable def laws_szConfig.pts : List (Pt (denR (outTys laws_szConfig.g.rts laws_szConfig.g.pms))) := []
theorem laws_szConfig.hf (k : Nat) (a0 : Config) (a1 : Int) : (laws_szConfig.f a0 a1 : Option (denR (outTys laws_szConfig.g.rts laws_szConfig.g.pms))) = evC (laws_szConfig.E k) (fun κ s => lhOf k κ s laws_szConfig.pts) b25 (OM.start laws_szConfig.g.pms 0 (a0, a1, ())) (OM.fin laws_szConfig.g Tryz.f25.results.toList) := by kernel_rfl
theorem laws_szConfig.ok (k : Nat) : SmOk Tryz.prog (laws_szConfig.sm k) :=
  sm_ok mixed (E := laws_szConfig.E) (pts := laws_szConfig.pts) (fun k => ⟨⟨tysOk, by kernel_rfl⟩, forall_cons ⟨laws_szIntS.ok k, e27⟩ (forall_nil)⟩) (fun _ => rfl) (fun _ => rfl)
    ⟨Tryz.func25, by kernel_rfl, by kernel_rfl, by kernel_rfl, by kernel_rfl, by kernel_rfl, by kernel_rfl⟩ (forall_nil) (fun k x => laws_szConfig.hf k x.1 x.2.1) k
noncomputable def b184 : Code := Tryz.f184.body.getD .skip
theorem e184 : OM.Entry Tryz.prog 184 := ⟨_, Tryz.func184, by kernel_rfl, by kernel_rfl⟩
@[reducible] noncomputable def laws_szEntry.g : Sig := ⟨[.fz tEntry, .fz (.int .i64)], [.v (.int .i64) .z], []⟩
@[reducible] noncomputable def laws_szEntry.fk : Nat → denI laws_szEntry.g.pms → Option (denR (outTys laws_szEntry.g.rts laws_szEntry.g.pms)) := fun k x => laws_szEntry.f x.1 x.2.1
@[reducible] noncomputable def laws_szEntry.sm (k : Nat) : Sm := ⟨184, laws_szEntry.g.pms, laws_szEntry.g.rts, laws_szEntry.fk k⟩
noncomputable def laws_szEntry.E (k : Nat) : Env := ⟨tys, [], [], [], []⟩
noncomputable def laws_szEntry.pts : List (Pt (denR (outTys laws_szEntry.g.rts laws_szEntry.g.pms))) := []
theorem laws_szEntry.hf (k : Nat) (a0 : Entry) (a1 : Int) : (laws_szEntry.f a0 a1 : Option (denR (outTys laws_szEntry.g.rts laws_szEntry.g.pms))) = evC (laws_szEntry.E k) (fun κ s => lhOf k κ s laws_szEntry.pts) b184 (OM.start laws_szEntry.g.pms 0 (a0, a1, ())) (OM.fin laws_szEntry.g Tryz.f184.results.toList) := by kernel_rfl
theorem laws_szEntry.ok (k : Nat) : SmOk Tryz.prog (laws_szEntry.sm k) :=
  sm_ok mixed (E := laws_szEntry.E) (pts := laws_szEntry.pts) (fun k => ⟨⟨tysOk, by kernel_rfl⟩, forall_nil⟩) (fun _ => rfl) (fun _ => rfl)
    ⟨Tryz.func184, by kernel_rfl, by kernel_rfl, by kernel_rfl, by kernel_rfl, by kernel_rfl, by kernel_rfl⟩ (forall_nil) (fun k x => laws_szEntry.hf k x.1 x.2.1) k
noncomputable def b140 : Code := Tryz.f140.body.getD .skip
theorem e140 : OM.Entry Tryz.prog 140 := ⟨_, Tryz.func140, by kernel_rfl, by kernel_rfl⟩
@[reducible] noncomputable def laws_szEntryS.g : Sig := ⟨[.fz (.sl tEntry), .fz (.int .i64)], [.v (.int .i64) .z], []⟩
@[reducible] noncomputable def laws_szEntryS.fk : Nat → denI laws_szEntryS.g.pms → Option (denR (outTys laws_szEntryS.g.rts laws_szEntryS.g.pms)) := fun k x => laws_szEntryS.f k x.1 x.2.1
@[reducible] noncomputable def laws_szEntryS.sm (k : Nat) : Sm := ⟨140, laws_szEntryS.g.pms, laws_szEntryS.g.rts, laws_szEntryS.fk k⟩
noncomputable def laws_szEntryS.E (k : Nat) : Env := ⟨tys, [laws_szEntry.sm k], [], [], []⟩
@[reducible] noncomputable def laws_szEntryS.s11 : List Slot := [.v 0 (.sl tEntry) .z [] 0, .v 4 (.int .i64) .z [] 0, .v 20 (.int .i64) .z [] 0]
noncomputable def laws_szEntryS.pts : List (Pt (denR (outTys laws_szEntryS.g.rts laws_szEntryS.g.pms))) := [⟨11, laws_szEntryS.s11, fun k x => laws_szEntryS.p11 k x.1 x.2.1 x.2.2.1⟩]
theorem laws_szEntryS.h11 (k : Nat) (x0 : (List Entry)) (x1 : Int) (x2 : Int) : (laws_szEntryS.p11 (k + 1) x0 x1 x2 : Option (denR (outTys laws_szEntryS.g.rts laws_szEntryS.g.pms))) = evAt (laws_szEntryS.E k) (fun κ s => lhOf k κ s laws_szEntryS.pts) 11 b140 (unproj laws_szEntryS.s11 (x0, x1, x2, ())) (OM.fin laws_szEntryS.g Tryz.f140.results.toList) := by kernel_rfl
theorem laws_szEntryS.hf (k : Nat) (a0 : (List Entry)) (a1 : Int) : (laws_szEntryS.f k a0 a1 : Option (denR (outTys laws_szEntryS.g.rts laws_szEntryS.g.pms))) = evC (laws_szEntryS.E k) (fun κ s => lhOf k κ s laws_szEntryS.pts) b140 (OM.start laws_szEntryS.g.pms 0 (a0, a1, ())) (OM.fin laws_szEntryS.g Tryz.f140.results.toList) := by kernel_rfl
theorem laws_szEntryS.ok (k : Nat) : SmOk Tryz.prog (laws_szEntryS.sm k) :=
  sm_ok mixed (E := laws_szEntryS.E) (pts := laws_szEntryS.pts) (fun k => ⟨⟨tysOk, by kernel_rfl⟩, forall_cons ⟨laws_szEntry.ok k, e184⟩ (forall_nil)⟩) (fun _ => rfl) (fun _ => rfl)
    ⟨Tryz.func140, by kernel_rfl, by kernel_rfl, by kernel_rfl, by kernel_rfl, by kernel_rfl, by kernel_rfl⟩ (forall_cons (fun x => ⟨rfl, fun k => laws_szEntryS.h11 k x.1 x.2.1 x.2.2.1⟩) (forall_nil)) (fun k x => laws_szEntryS.hf k x.1 x.2.1) k
noncomputable def b76 : Code := Tryz.f76.body.getD .skip
theorem e76 : OM.Entry Tryz.prog 76 := ⟨_, Tryz.func76, by kernel_rfl, by kernel_rfl⟩
@[reducible] noncomputable def laws_szStore.g : Sig := ⟨[.fz tStore, .fz (.int .i64)], [.v (.int .i64) .z], []⟩
@[reducible] noncomputable def laws_szStore.fk : Nat → denI laws_szStore.g.pms → Option (denR (outTys laws_szStore.g.rts laws_szStore.g.pms)) := fun k x => laws_szStore.f k x.1 x.2.1
@[reducible] noncomputable def laws_szStore.sm (k : Nat) : Sm := ⟨76, laws_szStore.g.pms, laws_szStore.g.rts, laws_szStore.fk k⟩
noncomputable def laws_szStore.E (k : Nat) : Env := ⟨tys, [laws_szEntryS.sm k], [], [], []⟩
noncomputable def laws_szStore.pts : List (Pt (denR (outTys laws_szStore.g.rts laws_szStore.g.pms))) := []
theorem laws_szStore.hf (k : Nat) (a0 : Store) (a1 : Int) : (laws_szStore.f k a0 a1 : Option (denR (outTys laws_szStore.g.rts laws_szStore.g.pms))) = evC (laws_szStore.E k) (fun κ s => lhOf k κ s laws_szStore.pts) b76 (OM.start laws_szStore.g.pms 0 (a0, a1, ())) (OM.fin laws_szStore.g Tryz.f76.results.toList) := by kernel_rfl
theorem laws_szStore.ok (k : Nat) : SmOk Tryz.prog (laws_szStore.sm k) :=
  sm_ok mixed (E := laws_szStore.E) (pts := laws_szStore.pts) (fun k => ⟨⟨tysOk, by kernel_rfl⟩, forall_cons ⟨laws_szEntryS.ok k, e140⟩ (forall_nil)⟩) (fun _ => rfl) (fun _ => rfl)
    ⟨Tryz.func76, by kernel_rfl, by kernel_rfl, by kernel_rfl, by kernel_rfl, by kernel_rfl, by kernel_rfl⟩ (forall_nil) (fun k x => laws_szStore.hf k x.1 x.2.1) k
noncomputable def b26 : Code := Tryz.f26.body.getD .skip
theorem e26 : OM.Entry Tryz.prog 26 := ⟨_, Tryz.func26, by kernel_rfl, by kernel_rfl⟩
@[reducible] noncomputable def laws_szStoreS.g : Sig := ⟨[.fz (.sl tStore), .fz (.int .i64)], [.v (.int .i64) .z], []⟩
@[reducible] noncomputable def laws_szStoreS.fk : Nat → denI laws_szStoreS.g.pms → Option (denR (outTys laws_szStoreS.g.rts laws_szStoreS.g.pms)) := fun k x => laws_szStoreS.f k x.1 x.2.1
@[reducible] noncomputable def laws_szStoreS.sm (k : Nat) : Sm := ⟨26, laws_szStoreS.g.pms, laws_szStoreS.g.rts, laws_szStoreS.fk k⟩
noncomputable def laws_szStoreS.E (k : Nat) : Env := ⟨tys, [laws_szStore.sm k], [], [], []⟩
@[reducible] noncomputable def laws_szStoreS.s11 : List Slot := [.v 0 (.sl tStore) .z [] 0, .v 4 (.int .i64) .z [] 0, .v 20 (.int .i64) .z [] 0]
noncomputable def laws_szStoreS.pts : List (Pt (denR (outTys laws_szStoreS.g.rts laws_szStoreS.g.pms))) := [⟨11, laws_szStoreS.s11, fun k x => laws_szStoreS.p11 k x.1 x.2.1 x.2.2.1⟩]
theorem laws_szStoreS.h11 (k : Nat) (x0 : (List Store)) (x1 : Int) (x2 : Int) : (laws_szStoreS.p11 (k + 1) x0 x1 x2 : Option (denR (outTys laws_szStoreS.g.rts laws_szStoreS.g.pms))) = evAt (laws_szStoreS.E k) (fun κ s => lhOf k κ s laws_szStoreS.pts) 11 b26 (unproj laws_szStoreS.s11 (x0, x1, x2, ())) (OM.fin laws_szStoreS.g Tryz.f26.results.toList) := by kernel_rfl
theorem laws_szStoreS.hf (k : Nat) (a0 : (List Store)) (a1 : Int) : (laws_szStoreS.f k a0 a1 : Option (denR (outTys laws_szStoreS.g.rts laws_szStoreS.g.pms))) = evC (laws_szStoreS.E k) (fun κ s => lhOf k κ s laws_szStoreS.pts) b26 (OM.start laws_szStoreS.g.pms 0 (a0, a1, ())) (OM.fin laws_szStoreS.g Tryz.f26.results.toList) := by kernel_rfl
theorem laws_szStoreS.ok (k : Nat) : SmOk Tryz.prog (laws_szStoreS.sm k) :=
  sm_ok mixed (E := laws_szStoreS.E) (pts := laws_szStoreS.pts) (fun k => ⟨⟨tysOk, by kernel_rfl⟩, forall_cons ⟨laws_szStore.ok k, e76⟩ (forall_nil)⟩) (fun _ => rfl) (fun _ => rfl)
    ⟨Tryz.func26, by kernel_rfl, by kernel_rfl, by kernel_rfl, by kernel_rfl, by kernel_rfl, by kernel_rfl⟩ (forall_cons (fun x => ⟨rfl, fun k => laws_szStoreS.h11 k x.1 x.2.1 x.2.2.1⟩) (forall_nil)) (fun k x => laws_szStoreS.hf k x.1 x.2.1) k
noncomputable def b141 : Code := Tryz.f141.body.getD .skip
theorem e141 : OM.Entry Tryz.prog 141 := ⟨_, Tryz.func141, by kernel_rfl, by kernel_rfl⟩
@[reducible] noncomputable def laws_szEra.g : Sig := ⟨[.fz tEra, .fz (.int .i64)], [.v (.int .i64) .z], []⟩
@[reducible] noncomputable def laws_szEra.fk : Nat → denI laws_szEra.g.pms → Option (denR (outTys laws_szEra.g.rts laws_szEra.g.pms)) := fun k x => laws_szEra.f x.1 x.2.1
@[reducible] noncomputable def laws_szEra.sm (k : Nat) : Sm := ⟨141, laws_szEra.g.pms, laws_szEra.g.rts, laws_szEra.fk k⟩
noncomputable def laws_szEra.E (k : Nat) : Env := ⟨tys, [laws_szIntS.sm k], [], [], []⟩
noncomputable def laws_szEra.pts : List (Pt (denR (outTys laws_szEra.g.rts laws_szEra.g.pms))) := []
theorem laws_szEra.hf (k : Nat) (a0 : Era) (a1 : Int) : (laws_szEra.f a0 a1 : Option (denR (outTys laws_szEra.g.rts laws_szEra.g.pms))) = evC (laws_szEra.E k) (fun κ s => lhOf k κ s laws_szEra.pts) b141 (OM.start laws_szEra.g.pms 0 (a0, a1, ())) (OM.fin laws_szEra.g Tryz.f141.results.toList) := by kernel_rfl
theorem laws_szEra.ok (k : Nat) : SmOk Tryz.prog (laws_szEra.sm k) :=
  sm_ok mixed (E := laws_szEra.E) (pts := laws_szEra.pts) (fun k => ⟨⟨tysOk, by kernel_rfl⟩, forall_cons ⟨laws_szIntS.ok k, e27⟩ (forall_nil)⟩) (fun _ => rfl) (fun _ => rfl)
    ⟨Tryz.func141, by kernel_rfl, by kernel_rfl, by kernel_rfl, by kernel_rfl, by kernel_rfl, by kernel_rfl⟩ (forall_nil) (fun k x => laws_szEra.hf k x.1 x.2.1) k
noncomputable def b77 : Code := Tryz.f77.body.getD .skip
theorem e77 : OM.Entry Tryz.prog 77 := ⟨_, Tryz.func77, by kernel_rfl, by kernel_rfl⟩
@[reducible] noncomputable def laws_szEraS.g : Sig := ⟨[.fz (.sl tEra), .fz (.int .i64)], [.v (.int .i64) .z], []⟩
@[reducible] noncomputable def laws_szEraS.fk : Nat → denI laws_szEraS.g.pms → Option (denR (outTys laws_szEraS.g.rts laws_szEraS.g.pms)) := fun k x => laws_szEraS.f k x.1 x.2.1
@[reducible] noncomputable def laws_szEraS.sm (k : Nat) : Sm := ⟨77, laws_szEraS.g.pms, laws_szEraS.g.rts, laws_szEraS.fk k⟩
noncomputable def laws_szEraS.E (k : Nat) : Env := ⟨tys, [laws_szEra.sm k], [], [], []⟩
@[reducible] noncomputable def laws_szEraS.s11 : List Slot := [.v 0 (.sl tEra) .z [] 0, .v 4 (.int .i64) .z [] 0, .v 20 (.int .i64) .z [] 0]
noncomputable def laws_szEraS.pts : List (Pt (denR (outTys laws_szEraS.g.rts laws_szEraS.g.pms))) := [⟨11, laws_szEraS.s11, fun k x => laws_szEraS.p11 k x.1 x.2.1 x.2.2.1⟩]
theorem laws_szEraS.h11 (k : Nat) (x0 : (List Era)) (x1 : Int) (x2 : Int) : (laws_szEraS.p11 (k + 1) x0 x1 x2 : Option (denR (outTys laws_szEraS.g.rts laws_szEraS.g.pms))) = evAt (laws_szEraS.E k) (fun κ s => lhOf k κ s laws_szEraS.pts) 11 b77 (unproj laws_szEraS.s11 (x0, x1, x2, ())) (OM.fin laws_szEraS.g Tryz.f77.results.toList) := by kernel_rfl
theorem laws_szEraS.hf (k : Nat) (a0 : (List Era)) (a1 : Int) : (laws_szEraS.f k a0 a1 : Option (denR (outTys laws_szEraS.g.rts laws_szEraS.g.pms))) = evC (laws_szEraS.E k) (fun κ s => lhOf k κ s laws_szEraS.pts) b77 (OM.start laws_szEraS.g.pms 0 (a0, a1, ())) (OM.fin laws_szEraS.g Tryz.f77.results.toList) := by kernel_rfl
theorem laws_szEraS.ok (k : Nat) : SmOk Tryz.prog (laws_szEraS.sm k) :=
  sm_ok mixed (E := laws_szEraS.E) (pts := laws_szEraS.pts) (fun k => ⟨⟨tysOk, by kernel_rfl⟩, forall_cons ⟨laws_szEra.ok k, e141⟩ (forall_nil)⟩) (fun _ => rfl) (fun _ => rfl)
    ⟨Tryz.func77, by kernel_rfl, by kernel_rfl, by kernel_rfl, by kernel_rfl, by kernel_rfl, by kernel_rfl⟩ (forall_cons (fun x => ⟨rfl, fun k => laws_szEraS.h11 k x.1 x.2.1 x.2.2.1⟩) (forall_nil)) (fun k x => laws_szEraS.hf k x.1 x.2.1) k
noncomputable def b28 : Code := Tryz.f28.body.getD .skip
theorem e28 : OM.Entry Tryz.prog 28 := ⟨_, Tryz.func28, by kernel_rfl, by kernel_rfl⟩
@[reducible] noncomputable def laws_szRegister.g : Sig := ⟨[.fz tRegister, .fz (.int .i64)], [.v (.int .i64) .z], []⟩
@[reducible] noncomputable def laws_szRegister.fk : Nat → denI laws_szRegister.g.pms → Option (denR (outTys laws_szRegister.g.rts laws_szRegister.g.pms)) := fun k x => laws_szRegister.f k x.1 x.2.1
@[reducible] noncomputable def laws_szRegister.sm (k : Nat) : Sm := ⟨28, laws_szRegister.g.pms, laws_szRegister.g.rts, laws_szRegister.fk k⟩
noncomputable def laws_szRegister.E (k : Nat) : Env := ⟨tys, [laws_szEraS.sm k], [], [], []⟩
noncomputable def laws_szRegister.pts : List (Pt (denR (outTys laws_szRegister.g.rts laws_szRegister.g.pms))) := []
theorem laws_szRegister.hf (k : Nat) (a0 : Register) (a1 : Int) : (laws_szRegister.f k a0 a1 : Option (denR (outTys laws_szRegister.g.rts laws_szRegister.g.pms))) = evC (laws_szRegister.E k) (fun κ s => lhOf k κ s laws_szRegister.pts) b28 (OM.start laws_szRegister.g.pms 0 (a0, a1, ())) (OM.fin laws_szRegister.g Tryz.f28.results.toList) := by kernel_rfl
theorem laws_szRegister.ok (k : Nat) : SmOk Tryz.prog (laws_szRegister.sm k) :=
  sm_ok mixed (E := laws_szRegister.E) (pts := laws_szRegister.pts) (fun k => ⟨⟨tysOk, by kernel_rfl⟩, forall_cons ⟨laws_szEraS.ok k, e77⟩ (forall_nil)⟩) (fun _ => rfl) (fun _ => rfl)
    ⟨Tryz.func28, by kernel_rfl, by kernel_rfl, by kernel_rfl, by kernel_rfl, by kernel_rfl, by kernel_rfl⟩ (forall_nil) (fun k x => laws_szRegister.hf k x.1 x.2.1) k
noncomputable def b185 : Code := Tryz.f185.body.getD .skip
theorem e185 : OM.Entry Tryz.prog 185 := ⟨_, Tryz.func185, by kernel_rfl, by kernel_rfl⟩
@[reducible] noncomputable def laws_szWord.g : Sig := ⟨[.fz tWord, .fz (.int .i64)], [.v (.int .i64) .z], []⟩
@[reducible] noncomputable def laws_szWord.fk : Nat → denI laws_szWord.g.pms → Option (denR (outTys laws_szWord.g.rts laws_szWord.g.pms)) := fun k x => laws_szWord.f x.1 x.2.1
@[reducible] noncomputable def laws_szWord.sm (k : Nat) : Sm := ⟨185, laws_szWord.g.pms, laws_szWord.g.rts, laws_szWord.fk k⟩
noncomputable def laws_szWord.E (k : Nat) : Env := ⟨tys, [laws_szIntS.sm k], [], [], []⟩
noncomputable def laws_szWord.pts : List (Pt (denR (outTys laws_szWord.g.rts laws_szWord.g.pms))) := []
theorem laws_szWord.hf (k : Nat) (a0 : Word) (a1 : Int) : (laws_szWord.f a0 a1 : Option (denR (outTys laws_szWord.g.rts laws_szWord.g.pms))) = evC (laws_szWord.E k) (fun κ s => lhOf k κ s laws_szWord.pts) b185 (OM.start laws_szWord.g.pms 0 (a0, a1, ())) (OM.fin laws_szWord.g Tryz.f185.results.toList) := by kernel_rfl
theorem laws_szWord.ok (k : Nat) : SmOk Tryz.prog (laws_szWord.sm k) :=
  sm_ok mixed (E := laws_szWord.E) (pts := laws_szWord.pts) (fun k => ⟨⟨tysOk, by kernel_rfl⟩, forall_cons ⟨laws_szIntS.ok k, e27⟩ (forall_nil)⟩) (fun _ => rfl) (fun _ => rfl)
    ⟨Tryz.func185, by kernel_rfl, by kernel_rfl, by kernel_rfl, by kernel_rfl, by kernel_rfl, by kernel_rfl⟩ (forall_nil) (fun k x => laws_szWord.hf k x.1 x.2.1) k
noncomputable def b142 : Code := Tryz.f142.body.getD .skip
theorem e142 : OM.Entry Tryz.prog 142 := ⟨_, Tryz.func142, by kernel_rfl, by kernel_rfl⟩
@[reducible] noncomputable def laws_szWordS.g : Sig := ⟨[.fz (.sl tWord), .fz (.int .i64)], [.v (.int .i64) .z], []⟩
@[reducible] noncomputable def laws_szWordS.fk : Nat → denI laws_szWordS.g.pms → Option (denR (outTys laws_szWordS.g.rts laws_szWordS.g.pms)) := fun k x => laws_szWordS.f k x.1 x.2.1
@[reducible] noncomputable def laws_szWordS.sm (k : Nat) : Sm := ⟨142, laws_szWordS.g.pms, laws_szWordS.g.rts, laws_szWordS.fk k⟩
noncomputable def laws_szWordS.E (k : Nat) : Env := ⟨tys, [laws_szWord.sm k], [], [], []⟩
@[reducible] noncomputable def laws_szWordS.s11 : List Slot := [.v 0 (.sl tWord) .z [] 0, .v 4 (.int .i64) .z [] 0, .v 20 (.int .i64) .z [] 0]
noncomputable def laws_szWordS.pts : List (Pt (denR (outTys laws_szWordS.g.rts laws_szWordS.g.pms))) := [⟨11, laws_szWordS.s11, fun k x => laws_szWordS.p11 k x.1 x.2.1 x.2.2.1⟩]
theorem laws_szWordS.h11 (k : Nat) (x0 : (List Word)) (x1 : Int) (x2 : Int) : (laws_szWordS.p11 (k + 1) x0 x1 x2 : Option (denR (outTys laws_szWordS.g.rts laws_szWordS.g.pms))) = evAt (laws_szWordS.E k) (fun κ s => lhOf k κ s laws_szWordS.pts) 11 b142 (unproj laws_szWordS.s11 (x0, x1, x2, ())) (OM.fin laws_szWordS.g Tryz.f142.results.toList) := by kernel_rfl
theorem laws_szWordS.hf (k : Nat) (a0 : (List Word)) (a1 : Int) : (laws_szWordS.f k a0 a1 : Option (denR (outTys laws_szWordS.g.rts laws_szWordS.g.pms))) = evC (laws_szWordS.E k) (fun κ s => lhOf k κ s laws_szWordS.pts) b142 (OM.start laws_szWordS.g.pms 0 (a0, a1, ())) (OM.fin laws_szWordS.g Tryz.f142.results.toList) := by kernel_rfl
theorem laws_szWordS.ok (k : Nat) : SmOk Tryz.prog (laws_szWordS.sm k) :=
  sm_ok mixed (E := laws_szWordS.E) (pts := laws_szWordS.pts) (fun k => ⟨⟨tysOk, by kernel_rfl⟩, forall_cons ⟨laws_szWord.ok k, e185⟩ (forall_nil)⟩) (fun _ => rfl) (fun _ => rfl)
    ⟨Tryz.func142, by kernel_rfl, by kernel_rfl, by kernel_rfl, by kernel_rfl, by kernel_rfl, by kernel_rfl⟩ (forall_cons (fun x => ⟨rfl, fun k => laws_szWordS.h11 k x.1 x.2.1 x.2.2.1⟩) (forall_nil)) (fun k x => laws_szWordS.hf k x.1 x.2.1) k
noncomputable def b78 : Code := Tryz.f78.body.getD .skip
theorem e78 : OM.Entry Tryz.prog 78 := ⟨_, Tryz.func78, by kernel_rfl, by kernel_rfl⟩
@[reducible] noncomputable def laws_szWriter.g : Sig := ⟨[.fz tWriter, .fz (.int .i64)], [.v (.int .i64) .z], []⟩
@[reducible] noncomputable def laws_szWriter.fk : Nat → denI laws_szWriter.g.pms → Option (denR (outTys laws_szWriter.g.rts laws_szWriter.g.pms)) := fun k x => laws_szWriter.f k x.1 x.2.1
@[reducible] noncomputable def laws_szWriter.sm (k : Nat) : Sm := ⟨78, laws_szWriter.g.pms, laws_szWriter.g.rts, laws_szWriter.fk k⟩
noncomputable def laws_szWriter.E (k : Nat) : Env := ⟨tys, [laws_szWordS.sm k], [], [], []⟩
noncomputable def laws_szWriter.pts : List (Pt (denR (outTys laws_szWriter.g.rts laws_szWriter.g.pms))) := []
theorem laws_szWriter.hf (k : Nat) (a0 : Writer) (a1 : Int) : (laws_szWriter.f k a0 a1 : Option (denR (outTys laws_szWriter.g.rts laws_szWriter.g.pms))) = evC (laws_szWriter.E k) (fun κ s => lhOf k κ s laws_szWriter.pts) b78 (OM.start laws_szWriter.g.pms 0 (a0, a1, ())) (OM.fin laws_szWriter.g Tryz.f78.results.toList) := by kernel_rfl
theorem laws_szWriter.ok (k : Nat) : SmOk Tryz.prog (laws_szWriter.sm k) :=
  sm_ok mixed (E := laws_szWriter.E) (pts := laws_szWriter.pts) (fun k => ⟨⟨tysOk, by kernel_rfl⟩, forall_cons ⟨laws_szWordS.ok k, e142⟩ (forall_nil)⟩) (fun _ => rfl) (fun _ => rfl)
    ⟨Tryz.func78, by kernel_rfl, by kernel_rfl, by kernel_rfl, by kernel_rfl, by kernel_rfl, by kernel_rfl⟩ (forall_nil) (fun k x => laws_szWriter.hf k x.1 x.2.1) k
noncomputable def b29 : Code := Tryz.f29.body.getD .skip
theorem e29 : OM.Entry Tryz.prog 29 := ⟨_, Tryz.func29, by kernel_rfl, by kernel_rfl⟩
@[reducible] noncomputable def laws_szWriterS.g : Sig := ⟨[.fz (.sl tWriter), .fz (.int .i64)], [.v (.int .i64) .z], []⟩
@[reducible] noncomputable def laws_szWriterS.fk : Nat → denI laws_szWriterS.g.pms → Option (denR (outTys laws_szWriterS.g.rts laws_szWriterS.g.pms)) := fun k x => laws_szWriterS.f k x.1 x.2.1
@[reducible] noncomputable def laws_szWriterS.sm (k : Nat) : Sm := ⟨29, laws_szWriterS.g.pms, laws_szWriterS.g.rts, laws_szWriterS.fk k⟩
noncomputable def laws_szWriterS.E (k : Nat) : Env := ⟨tys, [laws_szWriter.sm k], [], [], []⟩
@[reducible] noncomputable def laws_szWriterS.s11 : List Slot := [.v 0 (.sl tWriter) .z [] 0, .v 4 (.int .i64) .z [] 0, .v 20 (.int .i64) .z [] 0]
noncomputable def laws_szWriterS.pts : List (Pt (denR (outTys laws_szWriterS.g.rts laws_szWriterS.g.pms))) := [⟨11, laws_szWriterS.s11, fun k x => laws_szWriterS.p11 k x.1 x.2.1 x.2.2.1⟩]
theorem laws_szWriterS.h11 (k : Nat) (x0 : (List Writer)) (x1 : Int) (x2 : Int) : (laws_szWriterS.p11 (k + 1) x0 x1 x2 : Option (denR (outTys laws_szWriterS.g.rts laws_szWriterS.g.pms))) = evAt (laws_szWriterS.E k) (fun κ s => lhOf k κ s laws_szWriterS.pts) 11 b29 (unproj laws_szWriterS.s11 (x0, x1, x2, ())) (OM.fin laws_szWriterS.g Tryz.f29.results.toList) := by kernel_rfl
theorem laws_szWriterS.hf (k : Nat) (a0 : (List Writer)) (a1 : Int) : (laws_szWriterS.f k a0 a1 : Option (denR (outTys laws_szWriterS.g.rts laws_szWriterS.g.pms))) = evC (laws_szWriterS.E k) (fun κ s => lhOf k κ s laws_szWriterS.pts) b29 (OM.start laws_szWriterS.g.pms 0 (a0, a1, ())) (OM.fin laws_szWriterS.g Tryz.f29.results.toList) := by kernel_rfl
theorem laws_szWriterS.ok (k : Nat) : SmOk Tryz.prog (laws_szWriterS.sm k) :=
  sm_ok mixed (E := laws_szWriterS.E) (pts := laws_szWriterS.pts) (fun k => ⟨⟨tysOk, by kernel_rfl⟩, forall_cons ⟨laws_szWriter.ok k, e78⟩ (forall_nil)⟩) (fun _ => rfl) (fun _ => rfl)
    ⟨Tryz.func29, by kernel_rfl, by kernel_rfl, by kernel_rfl, by kernel_rfl, by kernel_rfl, by kernel_rfl⟩ (forall_cons (fun x => ⟨rfl, fun k => laws_szWriterS.h11 k x.1 x.2.1 x.2.2.1⟩) (forall_nil)) (fun k x => laws_szWriterS.hf k x.1 x.2.1) k
noncomputable def b143 : Code := Tryz.f143.body.getD .skip
theorem e143 : OM.Entry Tryz.prog 143 := ⟨_, Tryz.func143, by kernel_rfl, by kernel_rfl⟩
@[reducible] noncomputable def laws_szIntSS.g : Sig := ⟨[.fz (.sl (.sl (.int .i64))), .fz (.int .i64)], [.v (.int .i64) .z], []⟩
@[reducible] noncomputable def laws_szIntSS.fk : Nat → denI laws_szIntSS.g.pms → Option (denR (outTys laws_szIntSS.g.rts laws_szIntSS.g.pms)) := fun k x => laws_szIntSS.f k x.1 x.2.1
@[reducible] noncomputable def laws_szIntSS.sm (k : Nat) : Sm := ⟨143, laws_szIntSS.g.pms, laws_szIntSS.g.rts, laws_szIntSS.fk k⟩
noncomputable def laws_szIntSS.E (k : Nat) : Env := ⟨tys, [laws_szIntS.sm k], [], [], []⟩
@[reducible] noncomputable def laws_szIntSS.s11 : List Slot := [.v 0 (.sl (.sl (.int .i64))) .z [] 0, .v 4 (.int .i64) .z [] 0, .v 20 (.int .i64) .z [] 0]
noncomputable def laws_szIntSS.pts : List (Pt (denR (outTys laws_szIntSS.g.rts laws_szIntSS.g.pms))) := [⟨11, laws_szIntSS.s11, fun k x => laws_szIntSS.p11 k x.1 x.2.1 x.2.2.1⟩]
theorem laws_szIntSS.h11 (k : Nat) (x0 : (List (List Int))) (x1 : Int) (x2 : Int) : (laws_szIntSS.p11 (k + 1) x0 x1 x2 : Option (denR (outTys laws_szIntSS.g.rts laws_szIntSS.g.pms))) = evAt (laws_szIntSS.E k) (fun κ s => lhOf k κ s laws_szIntSS.pts) 11 b143 (unproj laws_szIntSS.s11 (x0, x1, x2, ())) (OM.fin laws_szIntSS.g Tryz.f143.results.toList) := by kernel_rfl
theorem laws_szIntSS.hf (k : Nat) (a0 : (List (List Int))) (a1 : Int) : (laws_szIntSS.f k a0 a1 : Option (denR (outTys laws_szIntSS.g.rts laws_szIntSS.g.pms))) = evC (laws_szIntSS.E k) (fun κ s => lhOf k κ s laws_szIntSS.pts) b143 (OM.start laws_szIntSS.g.pms 0 (a0, a1, ())) (OM.fin laws_szIntSS.g Tryz.f143.results.toList) := by kernel_rfl
theorem laws_szIntSS.ok (k : Nat) : SmOk Tryz.prog (laws_szIntSS.sm k) :=
  sm_ok mixed (E := laws_szIntSS.E) (pts := laws_szIntSS.pts) (fun k => ⟨⟨tysOk, by kernel_rfl⟩, forall_cons ⟨laws_szIntS.ok k, e27⟩ (forall_nil)⟩) (fun _ => rfl) (fun _ => rfl)
    ⟨Tryz.func143, by kernel_rfl, by kernel_rfl, by kernel_rfl, by kernel_rfl, by kernel_rfl, by kernel_rfl⟩ (forall_cons (fun x => ⟨rfl, fun k => laws_szIntSS.h11 k x.1 x.2.1 x.2.2.1⟩) (forall_nil)) (fun k x => laws_szIntSS.hf k x.1 x.2.1) k
noncomputable def b79 : Code := Tryz.f79.body.getD .skip
theorem e79 : OM.Entry Tryz.prog 79 := ⟨_, Tryz.func79, by kernel_rfl, by kernel_rfl⟩
@[reducible] noncomputable def laws_szMend.g : Sig := ⟨[.fz tMend, .fz (.int .i64)], [.v (.int .i64) .z], []⟩
@[reducible] noncomputable def laws_szMend.fk : Nat → denI laws_szMend.g.pms → Option (denR (outTys laws_szMend.g.rts laws_szMend.g.pms)) := fun k x => laws_szMend.f k x.1 x.2.1
@[reducible] noncomputable def laws_szMend.sm (k : Nat) : Sm := ⟨79, laws_szMend.g.pms, laws_szMend.g.rts, laws_szMend.fk k⟩
noncomputable def laws_szMend.E (k : Nat) : Env := ⟨tys, [laws_szIntS.sm k, laws_szEntryS.sm k, laws_szIntSS.sm k], [], [], []⟩
noncomputable def laws_szMend.pts : List (Pt (denR (outTys laws_szMend.g.rts laws_szMend.g.pms))) := []
theorem laws_szMend.hf (k : Nat) (a0 : Mend) (a1 : Int) : (laws_szMend.f k a0 a1 : Option (denR (outTys laws_szMend.g.rts laws_szMend.g.pms))) = evC (laws_szMend.E k) (fun κ s => lhOf k κ s laws_szMend.pts) b79 (OM.start laws_szMend.g.pms 0 (a0, a1, ())) (OM.fin laws_szMend.g Tryz.f79.results.toList) := by kernel_rfl
theorem laws_szMend.ok (k : Nat) : SmOk Tryz.prog (laws_szMend.sm k) :=
  sm_ok mixed (E := laws_szMend.E) (pts := laws_szMend.pts) (fun k => ⟨⟨tysOk, by kernel_rfl⟩, forall_cons ⟨laws_szIntS.ok k, e27⟩ (forall_cons ⟨laws_szEntryS.ok k, e140⟩ (forall_cons ⟨laws_szIntSS.ok k, e143⟩ (forall_nil)))⟩) (fun _ => rfl) (fun _ => rfl)
    ⟨Tryz.func79, by kernel_rfl, by kernel_rfl, by kernel_rfl, by kernel_rfl, by kernel_rfl, by kernel_rfl⟩ (forall_nil) (fun k x => laws_szMend.hf k x.1 x.2.1) k
noncomputable def b30 : Code := Tryz.f30.body.getD .skip
theorem e30 : OM.Entry Tryz.prog 30 := ⟨_, Tryz.func30, by kernel_rfl, by kernel_rfl⟩
@[reducible] noncomputable def laws_szMendS.g : Sig := ⟨[.fz (.sl tMend), .fz (.int .i64)], [.v (.int .i64) .z], []⟩
@[reducible] noncomputable def laws_szMendS.fk : Nat → denI laws_szMendS.g.pms → Option (denR (outTys laws_szMendS.g.rts laws_szMendS.g.pms)) := fun k x => laws_szMendS.f k x.1 x.2.1
@[reducible] noncomputable def laws_szMendS.sm (k : Nat) : Sm := ⟨30, laws_szMendS.g.pms, laws_szMendS.g.rts, laws_szMendS.fk k⟩
noncomputable def laws_szMendS.E (k : Nat) : Env := ⟨tys, [laws_szMend.sm k], [], [], []⟩
@[reducible] noncomputable def laws_szMendS.s11 : List Slot := [.v 0 (.sl tMend) .z [] 0, .v 4 (.int .i64) .z [] 0, .v 20 (.int .i64) .z [] 0]
noncomputable def laws_szMendS.pts : List (Pt (denR (outTys laws_szMendS.g.rts laws_szMendS.g.pms))) := [⟨11, laws_szMendS.s11, fun k x => laws_szMendS.p11 k x.1 x.2.1 x.2.2.1⟩]
theorem laws_szMendS.h11 (k : Nat) (x0 : (List Mend)) (x1 : Int) (x2 : Int) : (laws_szMendS.p11 (k + 1) x0 x1 x2 : Option (denR (outTys laws_szMendS.g.rts laws_szMendS.g.pms))) = evAt (laws_szMendS.E k) (fun κ s => lhOf k κ s laws_szMendS.pts) 11 b30 (unproj laws_szMendS.s11 (x0, x1, x2, ())) (OM.fin laws_szMendS.g Tryz.f30.results.toList) := by kernel_rfl
theorem laws_szMendS.hf (k : Nat) (a0 : (List Mend)) (a1 : Int) : (laws_szMendS.f k a0 a1 : Option (denR (outTys laws_szMendS.g.rts laws_szMendS.g.pms))) = evC (laws_szMendS.E k) (fun κ s => lhOf k κ s laws_szMendS.pts) b30 (OM.start laws_szMendS.g.pms 0 (a0, a1, ())) (OM.fin laws_szMendS.g Tryz.f30.results.toList) := by kernel_rfl
theorem laws_szMendS.ok (k : Nat) : SmOk Tryz.prog (laws_szMendS.sm k) :=
  sm_ok mixed (E := laws_szMendS.E) (pts := laws_szMendS.pts) (fun k => ⟨⟨tysOk, by kernel_rfl⟩, forall_cons ⟨laws_szMend.ok k, e79⟩ (forall_nil)⟩) (fun _ => rfl) (fun _ => rfl)
    ⟨Tryz.func30, by kernel_rfl, by kernel_rfl, by kernel_rfl, by kernel_rfl, by kernel_rfl, by kernel_rfl⟩ (forall_cons (fun x => ⟨rfl, fun k => laws_szMendS.h11 k x.1 x.2.1 x.2.2.1⟩) (forall_nil)) (fun k x => laws_szMendS.hf k x.1 x.2.1) k
noncomputable def b186 : Code := Tryz.f186.body.getD .skip
theorem e186 : OM.Entry Tryz.prog 186 := ⟨_, Tryz.func186, by kernel_rfl, by kernel_rfl⟩
@[reducible] noncomputable def laws_szEvent.g : Sig := ⟨[.fz tEvent, .fz (.int .i64)], [.v (.int .i64) .z], []⟩
@[reducible] noncomputable def laws_szEvent.fk : Nat → denI laws_szEvent.g.pms → Option (denR (outTys laws_szEvent.g.rts laws_szEvent.g.pms)) := fun k x => laws_szEvent.f x.1 x.2.1
@[reducible] noncomputable def laws_szEvent.sm (k : Nat) : Sm := ⟨186, laws_szEvent.g.pms, laws_szEvent.g.rts, laws_szEvent.fk k⟩
noncomputable def laws_szEvent.E (k : Nat) : Env := ⟨tys, [], [], [], []⟩
noncomputable def laws_szEvent.pts : List (Pt (denR (outTys laws_szEvent.g.rts laws_szEvent.g.pms))) := []
theorem laws_szEvent.hf (k : Nat) (a0 : Event) (a1 : Int) : (laws_szEvent.f a0 a1 : Option (denR (outTys laws_szEvent.g.rts laws_szEvent.g.pms))) = evC (laws_szEvent.E k) (fun κ s => lhOf k κ s laws_szEvent.pts) b186 (OM.start laws_szEvent.g.pms 0 (a0, a1, ())) (OM.fin laws_szEvent.g Tryz.f186.results.toList) := by kernel_rfl
theorem laws_szEvent.ok (k : Nat) : SmOk Tryz.prog (laws_szEvent.sm k) :=
  sm_ok mixed (E := laws_szEvent.E) (pts := laws_szEvent.pts) (fun k => ⟨⟨tysOk, by kernel_rfl⟩, forall_nil⟩) (fun _ => rfl) (fun _ => rfl)
    ⟨Tryz.func186, by kernel_rfl, by kernel_rfl, by kernel_rfl, by kernel_rfl, by kernel_rfl, by kernel_rfl⟩ (forall_nil) (fun k x => laws_szEvent.hf k x.1 x.2.1) k
noncomputable def b144 : Code := Tryz.f144.body.getD .skip
theorem e144 : OM.Entry Tryz.prog 144 := ⟨_, Tryz.func144, by kernel_rfl, by kernel_rfl⟩
@[reducible] noncomputable def laws_szEventS.g : Sig := ⟨[.fz (.sl tEvent), .fz (.int .i64)], [.v (.int .i64) .z], []⟩
@[reducible] noncomputable def laws_szEventS.fk : Nat → denI laws_szEventS.g.pms → Option (denR (outTys laws_szEventS.g.rts laws_szEventS.g.pms)) := fun k x => laws_szEventS.f k x.1 x.2.1
@[reducible] noncomputable def laws_szEventS.sm (k : Nat) : Sm := ⟨144, laws_szEventS.g.pms, laws_szEventS.g.rts, laws_szEventS.fk k⟩
noncomputable def laws_szEventS.E (k : Nat) : Env := ⟨tys, [laws_szEvent.sm k], [], [], []⟩
@[reducible] noncomputable def laws_szEventS.s11 : List Slot := [.v 0 (.sl tEvent) .z [] 0, .v 4 (.int .i64) .z [] 0, .v 20 (.int .i64) .z [] 0]
noncomputable def laws_szEventS.pts : List (Pt (denR (outTys laws_szEventS.g.rts laws_szEventS.g.pms))) := [⟨11, laws_szEventS.s11, fun k x => laws_szEventS.p11 k x.1 x.2.1 x.2.2.1⟩]
theorem laws_szEventS.h11 (k : Nat) (x0 : (List Event)) (x1 : Int) (x2 : Int) : (laws_szEventS.p11 (k + 1) x0 x1 x2 : Option (denR (outTys laws_szEventS.g.rts laws_szEventS.g.pms))) = evAt (laws_szEventS.E k) (fun κ s => lhOf k κ s laws_szEventS.pts) 11 b144 (unproj laws_szEventS.s11 (x0, x1, x2, ())) (OM.fin laws_szEventS.g Tryz.f144.results.toList) := by kernel_rfl
theorem laws_szEventS.hf (k : Nat) (a0 : (List Event)) (a1 : Int) : (laws_szEventS.f k a0 a1 : Option (denR (outTys laws_szEventS.g.rts laws_szEventS.g.pms))) = evC (laws_szEventS.E k) (fun κ s => lhOf k κ s laws_szEventS.pts) b144 (OM.start laws_szEventS.g.pms 0 (a0, a1, ())) (OM.fin laws_szEventS.g Tryz.f144.results.toList) := by kernel_rfl
theorem laws_szEventS.ok (k : Nat) : SmOk Tryz.prog (laws_szEventS.sm k) :=
  sm_ok mixed (E := laws_szEventS.E) (pts := laws_szEventS.pts) (fun k => ⟨⟨tysOk, by kernel_rfl⟩, forall_cons ⟨laws_szEvent.ok k, e186⟩ (forall_nil)⟩) (fun _ => rfl) (fun _ => rfl)
    ⟨Tryz.func144, by kernel_rfl, by kernel_rfl, by kernel_rfl, by kernel_rfl, by kernel_rfl, by kernel_rfl⟩ (forall_cons (fun x => ⟨rfl, fun k => laws_szEventS.h11 k x.1 x.2.1 x.2.2.1⟩) (forall_nil)) (fun k x => laws_szEventS.hf k x.1 x.2.1) k
noncomputable def b80 : Code := Tryz.f80.body.getD .skip
theorem e80 : OM.Entry Tryz.prog 80 := ⟨_, Tryz.func80, by kernel_rfl, by kernel_rfl⟩
@[reducible] noncomputable def laws_szReader.g : Sig := ⟨[.fz tReader, .fz (.int .i64)], [.v (.int .i64) .z], []⟩
@[reducible] noncomputable def laws_szReader.fk : Nat → denI laws_szReader.g.pms → Option (denR (outTys laws_szReader.g.rts laws_szReader.g.pms)) := fun k x => laws_szReader.f k x.1 x.2.1
@[reducible] noncomputable def laws_szReader.sm (k : Nat) : Sm := ⟨80, laws_szReader.g.pms, laws_szReader.g.rts, laws_szReader.fk k⟩
noncomputable def laws_szReader.E (k : Nat) : Env := ⟨tys, [laws_szEventS.sm k], [], [], []⟩
noncomputable def laws_szReader.pts : List (Pt (denR (outTys laws_szReader.g.rts laws_szReader.g.pms))) := []
theorem laws_szReader.hf (k : Nat) (a0 : Reader) (a1 : Int) : (laws_szReader.f k a0 a1 : Option (denR (outTys laws_szReader.g.rts laws_szReader.g.pms))) = evC (laws_szReader.E k) (fun κ s => lhOf k κ s laws_szReader.pts) b80 (OM.start laws_szReader.g.pms 0 (a0, a1, ())) (OM.fin laws_szReader.g Tryz.f80.results.toList) := by kernel_rfl
theorem laws_szReader.ok (k : Nat) : SmOk Tryz.prog (laws_szReader.sm k) :=
  sm_ok mixed (E := laws_szReader.E) (pts := laws_szReader.pts) (fun k => ⟨⟨tysOk, by kernel_rfl⟩, forall_cons ⟨laws_szEventS.ok k, e144⟩ (forall_nil)⟩) (fun _ => rfl) (fun _ => rfl)
    ⟨Tryz.func80, by kernel_rfl, by kernel_rfl, by kernel_rfl, by kernel_rfl, by kernel_rfl, by kernel_rfl⟩ (forall_nil) (fun k x => laws_szReader.hf k x.1 x.2.1) k
noncomputable def b31 : Code := Tryz.f31.body.getD .skip
theorem e31 : OM.Entry Tryz.prog 31 := ⟨_, Tryz.func31, by kernel_rfl, by kernel_rfl⟩
@[reducible] noncomputable def laws_szReaderS.g : Sig := ⟨[.fz (.sl tReader), .fz (.int .i64)], [.v (.int .i64) .z], []⟩
@[reducible] noncomputable def laws_szReaderS.fk : Nat → denI laws_szReaderS.g.pms → Option (denR (outTys laws_szReaderS.g.rts laws_szReaderS.g.pms)) := fun k x => laws_szReaderS.f k x.1 x.2.1
@[reducible] noncomputable def laws_szReaderS.sm (k : Nat) : Sm := ⟨31, laws_szReaderS.g.pms, laws_szReaderS.g.rts, laws_szReaderS.fk k⟩
noncomputable def laws_szReaderS.E (k : Nat) : Env := ⟨tys, [laws_szReader.sm k], [], [], []⟩
@[reducible] noncomputable def laws_szReaderS.s11 : List Slot := [.v 0 (.sl tReader) .z [] 0, .v 4 (.int .i64) .z [] 0, .v 20 (.int .i64) .z [] 0]
noncomputable def laws_szReaderS.pts : List (Pt (denR (outTys laws_szReaderS.g.rts laws_szReaderS.g.pms))) := [⟨11, laws_szReaderS.s11, fun k x => laws_szReaderS.p11 k x.1 x.2.1 x.2.2.1⟩]
theorem laws_szReaderS.h11 (k : Nat) (x0 : (List Reader)) (x1 : Int) (x2 : Int) : (laws_szReaderS.p11 (k + 1) x0 x1 x2 : Option (denR (outTys laws_szReaderS.g.rts laws_szReaderS.g.pms))) = evAt (laws_szReaderS.E k) (fun κ s => lhOf k κ s laws_szReaderS.pts) 11 b31 (unproj laws_szReaderS.s11 (x0, x1, x2, ())) (OM.fin laws_szReaderS.g Tryz.f31.results.toList) := by kernel_rfl
theorem laws_szReaderS.hf (k : Nat) (a0 : (List Reader)) (a1 : Int) : (laws_szReaderS.f k a0 a1 : Option (denR (outTys laws_szReaderS.g.rts laws_szReaderS.g.pms))) = evC (laws_szReaderS.E k) (fun κ s => lhOf k κ s laws_szReaderS.pts) b31 (OM.start laws_szReaderS.g.pms 0 (a0, a1, ())) (OM.fin laws_szReaderS.g Tryz.f31.results.toList) := by kernel_rfl
theorem laws_szReaderS.ok (k : Nat) : SmOk Tryz.prog (laws_szReaderS.sm k) :=
  sm_ok mixed (E := laws_szReaderS.E) (pts := laws_szReaderS.pts) (fun k => ⟨⟨tysOk, by kernel_rfl⟩, forall_cons ⟨laws_szReader.ok k, e80⟩ (forall_nil)⟩) (fun _ => rfl) (fun _ => rfl)
    ⟨Tryz.func31, by kernel_rfl, by kernel_rfl, by kernel_rfl, by kernel_rfl, by kernel_rfl, by kernel_rfl⟩ (forall_cons (fun x => ⟨rfl, fun k => laws_szReaderS.h11 k x.1 x.2.1 x.2.2.1⟩) (forall_nil)) (fun k x => laws_szReaderS.hf k x.1 x.2.1) k
noncomputable def b81 : Code := Tryz.f81.body.getD .skip
theorem e81 : OM.Entry Tryz.prog 81 := ⟨_, Tryz.func81, by kernel_rfl, by kernel_rfl⟩
@[reducible] noncomputable def laws_szSent.g : Sig := ⟨[.fz tSent, .fz (.int .i64)], [.v (.int .i64) .z], []⟩
@[reducible] noncomputable def laws_szSent.fk : Nat → denI laws_szSent.g.pms → Option (denR (outTys laws_szSent.g.rts laws_szSent.g.pms)) := fun k x => laws_szSent.f x.1 x.2.1
@[reducible] noncomputable def laws_szSent.sm (k : Nat) : Sm := ⟨81, laws_szSent.g.pms, laws_szSent.g.rts, laws_szSent.fk k⟩
noncomputable def laws_szSent.E (k : Nat) : Env := ⟨tys, [], [], [], []⟩
noncomputable def laws_szSent.pts : List (Pt (denR (outTys laws_szSent.g.rts laws_szSent.g.pms))) := []
theorem laws_szSent.hf (k : Nat) (a0 : Sent) (a1 : Int) : (laws_szSent.f a0 a1 : Option (denR (outTys laws_szSent.g.rts laws_szSent.g.pms))) = evC (laws_szSent.E k) (fun κ s => lhOf k κ s laws_szSent.pts) b81 (OM.start laws_szSent.g.pms 0 (a0, a1, ())) (OM.fin laws_szSent.g Tryz.f81.results.toList) := by kernel_rfl
theorem laws_szSent.ok (k : Nat) : SmOk Tryz.prog (laws_szSent.sm k) :=
  sm_ok mixed (E := laws_szSent.E) (pts := laws_szSent.pts) (fun k => ⟨⟨tysOk, by kernel_rfl⟩, forall_nil⟩) (fun _ => rfl) (fun _ => rfl)
    ⟨Tryz.func81, by kernel_rfl, by kernel_rfl, by kernel_rfl, by kernel_rfl, by kernel_rfl, by kernel_rfl⟩ (forall_nil) (fun k x => laws_szSent.hf k x.1 x.2.1) k
noncomputable def b32 : Code := Tryz.f32.body.getD .skip
theorem e32 : OM.Entry Tryz.prog 32 := ⟨_, Tryz.func32, by kernel_rfl, by kernel_rfl⟩
@[reducible] noncomputable def laws_szSentS.g : Sig := ⟨[.fz (.sl tSent), .fz (.int .i64)], [.v (.int .i64) .z], []⟩
@[reducible] noncomputable def laws_szSentS.fk : Nat → denI laws_szSentS.g.pms → Option (denR (outTys laws_szSentS.g.rts laws_szSentS.g.pms)) := fun k x => laws_szSentS.f k x.1 x.2.1
@[reducible] noncomputable def laws_szSentS.sm (k : Nat) : Sm := ⟨32, laws_szSentS.g.pms, laws_szSentS.g.rts, laws_szSentS.fk k⟩
noncomputable def laws_szSentS.E (k : Nat) : Env := ⟨tys, [laws_szSent.sm k], [], [], []⟩
@[reducible] noncomputable def laws_szSentS.s11 : List Slot := [.v 0 (.sl tSent) .z [] 0, .v 4 (.int .i64) .z [] 0, .v 20 (.int .i64) .z [] 0]
noncomputable def laws_szSentS.pts : List (Pt (denR (outTys laws_szSentS.g.rts laws_szSentS.g.pms))) := [⟨11, laws_szSentS.s11, fun k x => laws_szSentS.p11 k x.1 x.2.1 x.2.2.1⟩]
theorem laws_szSentS.h11 (k : Nat) (x0 : (List Sent)) (x1 : Int) (x2 : Int) : (laws_szSentS.p11 (k + 1) x0 x1 x2 : Option (denR (outTys laws_szSentS.g.rts laws_szSentS.g.pms))) = evAt (laws_szSentS.E k) (fun κ s => lhOf k κ s laws_szSentS.pts) 11 b32 (unproj laws_szSentS.s11 (x0, x1, x2, ())) (OM.fin laws_szSentS.g Tryz.f32.results.toList) := by kernel_rfl
theorem laws_szSentS.hf (k : Nat) (a0 : (List Sent)) (a1 : Int) : (laws_szSentS.f k a0 a1 : Option (denR (outTys laws_szSentS.g.rts laws_szSentS.g.pms))) = evC (laws_szSentS.E k) (fun κ s => lhOf k κ s laws_szSentS.pts) b32 (OM.start laws_szSentS.g.pms 0 (a0, a1, ())) (OM.fin laws_szSentS.g Tryz.f32.results.toList) := by kernel_rfl
theorem laws_szSentS.ok (k : Nat) : SmOk Tryz.prog (laws_szSentS.sm k) :=
  sm_ok mixed (E := laws_szSentS.E) (pts := laws_szSentS.pts) (fun k => ⟨⟨tysOk, by kernel_rfl⟩, forall_cons ⟨laws_szSent.ok k, e81⟩ (forall_nil)⟩) (fun _ => rfl) (fun _ => rfl)
    ⟨Tryz.func32, by kernel_rfl, by kernel_rfl, by kernel_rfl, by kernel_rfl, by kernel_rfl, by kernel_rfl⟩ (forall_cons (fun x => ⟨rfl, fun k => laws_szSentS.h11 k x.1 x.2.1 x.2.2.1⟩) (forall_nil)) (fun k x => laws_szSentS.hf k x.1 x.2.1) k
noncomputable def b6 : Code := Tryz.f6.body.getD .skip
theorem e6 : OM.Entry Tryz.prog 6 := ⟨_, Tryz.func6, by kernel_rfl, by kernel_rfl⟩
@[reducible] noncomputable def laws_szWorld.g : Sig := ⟨[.fz tWorld, .fz (.int .i64)], [.v (.int .i64) .z], []⟩
@[reducible] noncomputable def laws_szWorld.fk : Nat → denI laws_szWorld.g.pms → Option (denR (outTys laws_szWorld.g.rts laws_szWorld.g.pms)) := fun k x => laws_szWorld.f k x.1 x.2.1
@[reducible] noncomputable def laws_szWorld.sm (k : Nat) : Sm := ⟨6, laws_szWorld.g.pms, laws_szWorld.g.rts, laws_szWorld.fk k⟩
noncomputable def laws_szWorld.E (k : Nat) : Env := ⟨tys, [laws_szIntS.sm k, laws_szConfig.sm k, laws_szStoreS.sm k, laws_szRegister.sm k, laws_szWriterS.sm k, laws_szMendS.sm k, laws_szReaderS.sm k, laws_szSentS.sm k], [], [], []⟩
noncomputable def laws_szWorld.pts : List (Pt (denR (outTys laws_szWorld.g.rts laws_szWorld.g.pms))) := []
theorem laws_szWorld.hf (k : Nat) (a0 : World) (a1 : Int) : (laws_szWorld.f k a0 a1 : Option (denR (outTys laws_szWorld.g.rts laws_szWorld.g.pms))) = evC (laws_szWorld.E k) (fun κ s => lhOf k κ s laws_szWorld.pts) b6 (OM.start laws_szWorld.g.pms 0 (a0, a1, ())) (OM.fin laws_szWorld.g Tryz.f6.results.toList) := by kernel_rfl
theorem laws_szWorld.ok (k : Nat) : SmOk Tryz.prog (laws_szWorld.sm k) :=
  sm_ok mixed (E := laws_szWorld.E) (pts := laws_szWorld.pts) (fun k => ⟨⟨tysOk, by kernel_rfl⟩, forall_cons ⟨laws_szIntS.ok k, e27⟩ (forall_cons ⟨laws_szConfig.ok k, e25⟩ (forall_cons ⟨laws_szStoreS.ok k, e26⟩ (forall_cons ⟨laws_szRegister.ok k, e28⟩ (forall_cons ⟨laws_szWriterS.ok k, e29⟩ (forall_cons ⟨laws_szMendS.ok k, e30⟩ (forall_cons ⟨laws_szReaderS.ok k, e31⟩ (forall_cons ⟨laws_szSentS.ok k, e32⟩ (forall_nil))))))))⟩) (fun _ => rfl) (fun _ => rfl)
    ⟨Tryz.func6, by kernel_rfl, by kernel_rfl, by kernel_rfl, by kernel_rfl, by kernel_rfl, by kernel_rfl⟩ (forall_nil) (fun k x => laws_szWorld.hf k x.1 x.2.1) k
noncomputable def b39 : Code := Tryz.f39.body.getD .skip
theorem e39 : OM.Entry Tryz.prog 39 := ⟨_, Tryz.func39, by kernel_rfl, by kernel_rfl⟩
@[reducible] noncomputable def laws_toIntS.g : Sig := ⟨[.fz (.sl (.int .i64))], [.v (.sl (.int .i64)) (.own .z)], []⟩
@[reducible] noncomputable def laws_toIntS.fk : Nat → denI laws_toIntS.g.pms → Option (denR (outTys laws_toIntS.g.rts laws_toIntS.g.pms)) := fun k x => laws_toIntS.f k x.1
@[reducible] noncomputable def laws_toIntS.sm (k : Nat) : Sm := ⟨39, laws_toIntS.g.pms, laws_toIntS.g.rts, laws_toIntS.fk k⟩
noncomputable def laws_toIntS.E (k : Nat) : Env := ⟨tys, [], [19], [], []⟩
@[reducible] noncomputable def laws_toIntS.s7 : List Slot := [.v 0 (.sl (.int .i64)) .z [] 0, .v 12 (.sl (.int .i64)) (.own .z) [] 0, .v 16 (.int .i64) .z [] 0]
noncomputable def laws_toIntS.pts : List (Pt (denR (outTys laws_toIntS.g.rts laws_toIntS.g.pms))) := [⟨7, laws_toIntS.s7, fun k x => laws_toIntS.p7 k x.1 x.2.1 x.2.2.1⟩]
theorem laws_toIntS.h7 (k : Nat) (x0 : (List Int)) (x1 : (List Int)) (x2 : Int) : (laws_toIntS.p7 (k + 1) x0 x1 x2 : Option (denR (outTys laws_toIntS.g.rts laws_toIntS.g.pms))) = evAt (laws_toIntS.E k) (fun κ s => lhOf k κ s laws_toIntS.pts) 7 b39 (unproj laws_toIntS.s7 (x0, x1, x2, ())) (OM.fin laws_toIntS.g Tryz.f39.results.toList) := by kernel_rfl
theorem laws_toIntS.hf (k : Nat) (a0 : (List Int)) : (laws_toIntS.f k a0 : Option (denR (outTys laws_toIntS.g.rts laws_toIntS.g.pms))) = evC (laws_toIntS.E k) (fun κ s => lhOf k κ s laws_toIntS.pts) b39 (OM.start laws_toIntS.g.pms 0 (a0, ())) (OM.fin laws_toIntS.g Tryz.f39.results.toList) := by kernel_rfl
theorem laws_toIntS.ok (k : Nat) : SmOk Tryz.prog (laws_toIntS.sm k) :=
  sm_ok mixed (E := laws_toIntS.E) (pts := laws_toIntS.pts) (fun k => ⟨⟨tysOk, by kernel_rfl⟩, forall_nil⟩) (fun _ => rfl) (fun _ => rfl)
    ⟨Tryz.func39, by kernel_rfl, by kernel_rfl, by kernel_rfl, by kernel_rfl, by kernel_rfl, by kernel_rfl⟩ (forall_cons (fun x => ⟨rfl, fun k => laws_toIntS.h7 k x.1 x.2.1 x.2.2.1⟩) (forall_nil)) (fun k x => laws_toIntS.hf k x.1) k
noncomputable def b37 : Code := Tryz.f37.body.getD .skip
theorem e37 : OM.Entry Tryz.prog 37 := ⟨_, Tryz.func37, by kernel_rfl, by kernel_rfl⟩
@[reducible] noncomputable def laws_toConfig.g : Sig := ⟨[.fz tConfig], [.v tConfig (.two (.own .z) .z)], []⟩
@[reducible] noncomputable def laws_toConfig.fk : Nat → denI laws_toConfig.g.pms → Option (denR (outTys laws_toConfig.g.rts laws_toConfig.g.pms)) := fun k x => laws_toConfig.f k x.1
@[reducible] noncomputable def laws_toConfig.sm (k : Nat) : Sm := ⟨37, laws_toConfig.g.pms, laws_toConfig.g.rts, laws_toConfig.fk k⟩
noncomputable def laws_toConfig.E (k : Nat) : Env := ⟨tys, [laws_toIntS.sm k], [9], [], []⟩
noncomputable def laws_toConfig.pts : List (Pt (denR (outTys laws_toConfig.g.rts laws_toConfig.g.pms))) := []
theorem laws_toConfig.hf (k : Nat) (a0 : Config) : (laws_toConfig.f k a0 : Option (denR (outTys laws_toConfig.g.rts laws_toConfig.g.pms))) = evC (laws_toConfig.E k) (fun κ s => lhOf k κ s laws_toConfig.pts) b37 (OM.start laws_toConfig.g.pms 0 (a0, ())) (OM.fin laws_toConfig.g Tryz.f37.results.toList) := by kernel_rfl
theorem laws_toConfig.ok (k : Nat) : SmOk Tryz.prog (laws_toConfig.sm k) :=
  sm_ok mixed (E := laws_toConfig.E) (pts := laws_toConfig.pts) (fun k => ⟨⟨tysOk, by kernel_rfl⟩, forall_cons ⟨laws_toIntS.ok k, e39⟩ (forall_nil)⟩) (fun _ => rfl) (fun _ => rfl)
    ⟨Tryz.func37, by kernel_rfl, by kernel_rfl, by kernel_rfl, by kernel_rfl, by kernel_rfl, by kernel_rfl⟩ (forall_nil) (fun k x => laws_toConfig.hf k x.1) k
noncomputable def b188 : Code := Tryz.f188.body.getD .skip
theorem e188 : OM.Entry Tryz.prog 188 := ⟨_, Tryz.func188, by kernel_rfl, by kernel_rfl⟩
@[reducible] noncomputable def laws_toEntry.g : Sig := ⟨[.fz tEntry], [.v tEntry .z], []⟩
@[reducible] noncomputable def laws_toEntry.fk : Nat → denI laws_toEntry.g.pms → Option (denR (outTys laws_toEntry.g.rts laws_toEntry.g.pms)) := fun k x => laws_toEntry.f x.1
@[reducible] noncomputable def laws_toEntry.sm (k : Nat) : Sm := ⟨188, laws_toEntry.g.pms, laws_toEntry.g.rts, laws_toEntry.fk k⟩
noncomputable def laws_toEntry.E (k : Nat) : Env := ⟨tys, [], [14], [], []⟩
noncomputable def laws_toEntry.pts : List (Pt (denR (outTys laws_toEntry.g.rts laws_toEntry.g.pms))) := []
theorem laws_toEntry.hf (k : Nat) (a0 : Entry) : (laws_toEntry.f a0 : Option (denR (outTys laws_toEntry.g.rts laws_toEntry.g.pms))) = evC (laws_toEntry.E k) (fun κ s => lhOf k κ s laws_toEntry.pts) b188 (OM.start laws_toEntry.g.pms 0 (a0, ())) (OM.fin laws_toEntry.g Tryz.f188.results.toList) := by kernel_rfl
theorem laws_toEntry.ok (k : Nat) : SmOk Tryz.prog (laws_toEntry.sm k) :=
  sm_ok mixed (E := laws_toEntry.E) (pts := laws_toEntry.pts) (fun k => ⟨⟨tysOk, by kernel_rfl⟩, forall_nil⟩) (fun _ => rfl) (fun _ => rfl)
    ⟨Tryz.func188, by kernel_rfl, by kernel_rfl, by kernel_rfl, by kernel_rfl, by kernel_rfl, by kernel_rfl⟩ (forall_nil) (fun k x => laws_toEntry.hf k x.1) k
noncomputable def b151 : Code := Tryz.f151.body.getD .skip
theorem e151 : OM.Entry Tryz.prog 151 := ⟨_, Tryz.func151, by kernel_rfl, by kernel_rfl⟩
@[reducible] noncomputable def laws_toEntryS.g : Sig := ⟨[.fz (.sl tEntry)], [.v (.sl tEntry) (.own .z)], []⟩
@[reducible] noncomputable def laws_toEntryS.fk : Nat → denI laws_toEntryS.g.pms → Option (denR (outTys laws_toEntryS.g.rts laws_toEntryS.g.pms)) := fun k x => laws_toEntryS.f k x.1
@[reducible] noncomputable def laws_toEntryS.sm (k : Nat) : Sm := ⟨151, laws_toEntryS.g.pms, laws_toEntryS.g.rts, laws_toEntryS.fk k⟩
noncomputable def laws_toEntryS.E (k : Nat) : Env := ⟨tys, [laws_toEntry.sm k], [], [], []⟩
@[reducible] noncomputable def laws_toEntryS.s7 : List Slot := [.v 0 (.sl tEntry) .z [] 0, .v 12 (.sl tEntry) (.own .z) [] 0, .v 16 (.int .i64) .z [] 0]
noncomputable def laws_toEntryS.pts : List (Pt (denR (outTys laws_toEntryS.g.rts laws_toEntryS.g.pms))) := [⟨7, laws_toEntryS.s7, fun k x => laws_toEntryS.p7 k x.1 x.2.1 x.2.2.1⟩]
theorem laws_toEntryS.h7 (k : Nat) (x0 : (List Entry)) (x1 : (List Entry)) (x2 : Int) : (laws_toEntryS.p7 (k + 1) x0 x1 x2 : Option (denR (outTys laws_toEntryS.g.rts laws_toEntryS.g.pms))) = evAt (laws_toEntryS.E k) (fun κ s => lhOf k κ s laws_toEntryS.pts) 7 b151 (unproj laws_toEntryS.s7 (x0, x1, x2, ())) (OM.fin laws_toEntryS.g Tryz.f151.results.toList) := by kernel_rfl
theorem laws_toEntryS.hf (k : Nat) (a0 : (List Entry)) : (laws_toEntryS.f k a0 : Option (denR (outTys laws_toEntryS.g.rts laws_toEntryS.g.pms))) = evC (laws_toEntryS.E k) (fun κ s => lhOf k κ s laws_toEntryS.pts) b151 (OM.start laws_toEntryS.g.pms 0 (a0, ())) (OM.fin laws_toEntryS.g Tryz.f151.results.toList) := by kernel_rfl
theorem laws_toEntryS.ok (k : Nat) : SmOk Tryz.prog (laws_toEntryS.sm k) :=
  sm_ok mixed (E := laws_toEntryS.E) (pts := laws_toEntryS.pts) (fun k => ⟨⟨tysOk, by kernel_rfl⟩, forall_cons ⟨laws_toEntry.ok k, e188⟩ (forall_nil)⟩) (fun _ => rfl) (fun _ => rfl)
    ⟨Tryz.func151, by kernel_rfl, by kernel_rfl, by kernel_rfl, by kernel_rfl, by kernel_rfl, by kernel_rfl⟩ (forall_cons (fun x => ⟨rfl, fun k => laws_toEntryS.h7 k x.1 x.2.1 x.2.2.1⟩) (forall_nil)) (fun k x => laws_toEntryS.hf k x.1) k
noncomputable def b95 : Code := Tryz.f95.body.getD .skip
theorem e95 : OM.Entry Tryz.prog 95 := ⟨_, Tryz.func95, by kernel_rfl, by kernel_rfl⟩
@[reducible] noncomputable def laws_toStore.g : Sig := ⟨[.fz tStore], [.v tStore (.two (.own .z) (.two (.own .z) .z))], []⟩
@[reducible] noncomputable def laws_toStore.fk : Nat → denI laws_toStore.g.pms → Option (denR (outTys laws_toStore.g.rts laws_toStore.g.pms)) := fun k x => laws_toStore.f k x.1
@[reducible] noncomputable def laws_toStore.sm (k : Nat) : Sm := ⟨95, laws_toStore.g.pms, laws_toStore.g.rts, laws_toStore.fk k⟩
noncomputable def laws_toStore.E (k : Nat) : Env := ⟨tys, [laws_toEntryS.sm k], [13], [], []⟩
noncomputable def laws_toStore.pts : List (Pt (denR (outTys laws_toStore.g.rts laws_toStore.g.pms))) := []
theorem laws_toStore.hf (k : Nat) (a0 : Store) : (laws_toStore.f k a0 : Option (denR (outTys laws_toStore.g.rts laws_toStore.g.pms))) = evC (laws_toStore.E k) (fun κ s => lhOf k κ s laws_toStore.pts) b95 (OM.start laws_toStore.g.pms 0 (a0, ())) (OM.fin laws_toStore.g Tryz.f95.results.toList) := by kernel_rfl
theorem laws_toStore.ok (k : Nat) : SmOk Tryz.prog (laws_toStore.sm k) :=
  sm_ok mixed (E := laws_toStore.E) (pts := laws_toStore.pts) (fun k => ⟨⟨tysOk, by kernel_rfl⟩, forall_cons ⟨laws_toEntryS.ok k, e151⟩ (forall_nil)⟩) (fun _ => rfl) (fun _ => rfl)
    ⟨Tryz.func95, by kernel_rfl, by kernel_rfl, by kernel_rfl, by kernel_rfl, by kernel_rfl, by kernel_rfl⟩ (forall_nil) (fun k x => laws_toStore.hf k x.1) k
noncomputable def b38 : Code := Tryz.f38.body.getD .skip
theorem e38 : OM.Entry Tryz.prog 38 := ⟨_, Tryz.func38, by kernel_rfl, by kernel_rfl⟩
@[reducible] noncomputable def laws_toStoreS.g : Sig := ⟨[.fz (.sl tStore)], [.v (.sl tStore) (.own (.two (.own .z) (.two (.own .z) .z)))], []⟩
@[reducible] noncomputable def laws_toStoreS.fk : Nat → denI laws_toStoreS.g.pms → Option (denR (outTys laws_toStoreS.g.rts laws_toStoreS.g.pms)) := fun k x => laws_toStoreS.f k x.1
@[reducible] noncomputable def laws_toStoreS.sm (k : Nat) : Sm := ⟨38, laws_toStoreS.g.pms, laws_toStoreS.g.rts, laws_toStoreS.fk k⟩
noncomputable def laws_toStoreS.E (k : Nat) : Env := ⟨tys, [laws_toStore.sm k], [], [], []⟩
@[reducible] noncomputable def laws_toStoreS.s7 : List Slot := [.v 0 (.sl tStore) .z [] 0, .v 12 (.sl tStore) (.own (.two (.own .z) (.two (.own .z) .z))) [] 0, .v 16 (.int .i64) .z [] 0]
noncomputable def laws_toStoreS.pts : List (Pt (denR (outTys laws_toStoreS.g.rts laws_toStoreS.g.pms))) := [⟨7, laws_toStoreS.s7, fun k x => laws_toStoreS.p7 k x.1 x.2.1 x.2.2.1⟩]
theorem laws_toStoreS.h7 (k : Nat) (x0 : (List Store)) (x1 : (List Store)) (x2 : Int) : (laws_toStoreS.p7 (k + 1) x0 x1 x2 : Option (denR (outTys laws_toStoreS.g.rts laws_toStoreS.g.pms))) = evAt (laws_toStoreS.E k) (fun κ s => lhOf k κ s laws_toStoreS.pts) 7 b38 (unproj laws_toStoreS.s7 (x0, x1, x2, ())) (OM.fin laws_toStoreS.g Tryz.f38.results.toList) := by kernel_rfl
theorem laws_toStoreS.hf (k : Nat) (a0 : (List Store)) : (laws_toStoreS.f k a0 : Option (denR (outTys laws_toStoreS.g.rts laws_toStoreS.g.pms))) = evC (laws_toStoreS.E k) (fun κ s => lhOf k κ s laws_toStoreS.pts) b38 (OM.start laws_toStoreS.g.pms 0 (a0, ())) (OM.fin laws_toStoreS.g Tryz.f38.results.toList) := by kernel_rfl
theorem laws_toStoreS.ok (k : Nat) : SmOk Tryz.prog (laws_toStoreS.sm k) :=
  sm_ok mixed (E := laws_toStoreS.E) (pts := laws_toStoreS.pts) (fun k => ⟨⟨tysOk, by kernel_rfl⟩, forall_cons ⟨laws_toStore.ok k, e95⟩ (forall_nil)⟩) (fun _ => rfl) (fun _ => rfl)
    ⟨Tryz.func38, by kernel_rfl, by kernel_rfl, by kernel_rfl, by kernel_rfl, by kernel_rfl, by kernel_rfl⟩ (forall_cons (fun x => ⟨rfl, fun k => laws_toStoreS.h7 k x.1 x.2.1 x.2.2.1⟩) (forall_nil)) (fun k x => laws_toStoreS.hf k x.1) k
noncomputable def b152 : Code := Tryz.f152.body.getD .skip
theorem e152 : OM.Entry Tryz.prog 152 := ⟨_, Tryz.func152, by kernel_rfl, by kernel_rfl⟩
@[reducible] noncomputable def laws_toEra.g : Sig := ⟨[.fz tEra], [.v tEra (.two (.own .z) .z)], []⟩
@[reducible] noncomputable def laws_toEra.fk : Nat → denI laws_toEra.g.pms → Option (denR (outTys laws_toEra.g.rts laws_toEra.g.pms)) := fun k x => laws_toEra.f k x.1
@[reducible] noncomputable def laws_toEra.sm (k : Nat) : Sm := ⟨152, laws_toEra.g.pms, laws_toEra.g.rts, laws_toEra.fk k⟩
noncomputable def laws_toEra.E (k : Nat) : Env := ⟨tys, [laws_toIntS.sm k], [12], [], []⟩
noncomputable def laws_toEra.pts : List (Pt (denR (outTys laws_toEra.g.rts laws_toEra.g.pms))) := []
theorem laws_toEra.hf (k : Nat) (a0 : Era) : (laws_toEra.f k a0 : Option (denR (outTys laws_toEra.g.rts laws_toEra.g.pms))) = evC (laws_toEra.E k) (fun κ s => lhOf k κ s laws_toEra.pts) b152 (OM.start laws_toEra.g.pms 0 (a0, ())) (OM.fin laws_toEra.g Tryz.f152.results.toList) := by kernel_rfl
theorem laws_toEra.ok (k : Nat) : SmOk Tryz.prog (laws_toEra.sm k) :=
  sm_ok mixed (E := laws_toEra.E) (pts := laws_toEra.pts) (fun k => ⟨⟨tysOk, by kernel_rfl⟩, forall_cons ⟨laws_toIntS.ok k, e39⟩ (forall_nil)⟩) (fun _ => rfl) (fun _ => rfl)
    ⟨Tryz.func152, by kernel_rfl, by kernel_rfl, by kernel_rfl, by kernel_rfl, by kernel_rfl, by kernel_rfl⟩ (forall_nil) (fun k x => laws_toEra.hf k x.1) k
noncomputable def b96 : Code := Tryz.f96.body.getD .skip
theorem e96 : OM.Entry Tryz.prog 96 := ⟨_, Tryz.func96, by kernel_rfl, by kernel_rfl⟩
@[reducible] noncomputable def laws_toEraS.g : Sig := ⟨[.fz (.sl tEra)], [.v (.sl tEra) (.own (.two (.own .z) .z))], []⟩
@[reducible] noncomputable def laws_toEraS.fk : Nat → denI laws_toEraS.g.pms → Option (denR (outTys laws_toEraS.g.rts laws_toEraS.g.pms)) := fun k x => laws_toEraS.f k x.1
@[reducible] noncomputable def laws_toEraS.sm (k : Nat) : Sm := ⟨96, laws_toEraS.g.pms, laws_toEraS.g.rts, laws_toEraS.fk k⟩
noncomputable def laws_toEraS.E (k : Nat) : Env := ⟨tys, [laws_toEra.sm k], [], [], []⟩
@[reducible] noncomputable def laws_toEraS.s7 : List Slot := [.v 0 (.sl tEra) .z [] 0, .v 12 (.sl tEra) (.own (.two (.own .z) .z)) [] 0, .v 16 (.int .i64) .z [] 0]
noncomputable def laws_toEraS.pts : List (Pt (denR (outTys laws_toEraS.g.rts laws_toEraS.g.pms))) := [⟨7, laws_toEraS.s7, fun k x => laws_toEraS.p7 k x.1 x.2.1 x.2.2.1⟩]
theorem laws_toEraS.h7 (k : Nat) (x0 : (List Era)) (x1 : (List Era)) (x2 : Int) : (laws_toEraS.p7 (k + 1) x0 x1 x2 : Option (denR (outTys laws_toEraS.g.rts laws_toEraS.g.pms))) = evAt (laws_toEraS.E k) (fun κ s => lhOf k κ s laws_toEraS.pts) 7 b96 (unproj laws_toEraS.s7 (x0, x1, x2, ())) (OM.fin laws_toEraS.g Tryz.f96.results.toList) := by kernel_rfl
theorem laws_toEraS.hf (k : Nat) (a0 : (List Era)) : (laws_toEraS.f k a0 : Option (denR (outTys laws_toEraS.g.rts laws_toEraS.g.pms))) = evC (laws_toEraS.E k) (fun κ s => lhOf k κ s laws_toEraS.pts) b96 (OM.start laws_toEraS.g.pms 0 (a0, ())) (OM.fin laws_toEraS.g Tryz.f96.results.toList) := by kernel_rfl
theorem laws_toEraS.ok (k : Nat) : SmOk Tryz.prog (laws_toEraS.sm k) :=
  sm_ok mixed (E := laws_toEraS.E) (pts := laws_toEraS.pts) (fun k => ⟨⟨tysOk, by kernel_rfl⟩, forall_cons ⟨laws_toEra.ok k, e152⟩ (forall_nil)⟩) (fun _ => rfl) (fun _ => rfl)
    ⟨Tryz.func96, by kernel_rfl, by kernel_rfl, by kernel_rfl, by kernel_rfl, by kernel_rfl, by kernel_rfl⟩ (forall_cons (fun x => ⟨rfl, fun k => laws_toEraS.h7 k x.1 x.2.1 x.2.2.1⟩) (forall_nil)) (fun k x => laws_toEraS.hf k x.1) k
noncomputable def b40 : Code := Tryz.f40.body.getD .skip
theorem e40 : OM.Entry Tryz.prog 40 := ⟨_, Tryz.func40, by kernel_rfl, by kernel_rfl⟩
@[reducible] noncomputable def laws_toRegister.g : Sig := ⟨[.fz tRegister], [.v tRegister (.two (.own (.two (.own .z) .z)) .z)], []⟩
@[reducible] noncomputable def laws_toRegister.fk : Nat → denI laws_toRegister.g.pms → Option (denR (outTys laws_toRegister.g.rts laws_toRegister.g.pms)) := fun k x => laws_toRegister.f k x.1
@[reducible] noncomputable def laws_toRegister.sm (k : Nat) : Sm := ⟨40, laws_toRegister.g.pms, laws_toRegister.g.rts, laws_toRegister.fk k⟩
noncomputable def laws_toRegister.E (k : Nat) : Env := ⟨tys, [laws_toEraS.sm k], [9], [], []⟩
noncomputable def laws_toRegister.pts : List (Pt (denR (outTys laws_toRegister.g.rts laws_toRegister.g.pms))) := []
theorem laws_toRegister.hf (k : Nat) (a0 : Register) : (laws_toRegister.f k a0 : Option (denR (outTys laws_toRegister.g.rts laws_toRegister.g.pms))) = evC (laws_toRegister.E k) (fun κ s => lhOf k κ s laws_toRegister.pts) b40 (OM.start laws_toRegister.g.pms 0 (a0, ())) (OM.fin laws_toRegister.g Tryz.f40.results.toList) := by kernel_rfl
theorem laws_toRegister.ok (k : Nat) : SmOk Tryz.prog (laws_toRegister.sm k) :=
  sm_ok mixed (E := laws_toRegister.E) (pts := laws_toRegister.pts) (fun k => ⟨⟨tysOk, by kernel_rfl⟩, forall_cons ⟨laws_toEraS.ok k, e96⟩ (forall_nil)⟩) (fun _ => rfl) (fun _ => rfl)
    ⟨Tryz.func40, by kernel_rfl, by kernel_rfl, by kernel_rfl, by kernel_rfl, by kernel_rfl, by kernel_rfl⟩ (forall_nil) (fun k x => laws_toRegister.hf k x.1) k
noncomputable def b189 : Code := Tryz.f189.body.getD .skip
theorem e189 : OM.Entry Tryz.prog 189 := ⟨_, Tryz.func189, by kernel_rfl, by kernel_rfl⟩
@[reducible] noncomputable def laws_toWord.g : Sig := ⟨[.fz tWord], [.v tWord (.two .z (.two (.own .z) .z))], []⟩
@[reducible] noncomputable def laws_toWord.fk : Nat → denI laws_toWord.g.pms → Option (denR (outTys laws_toWord.g.rts laws_toWord.g.pms)) := fun k x => laws_toWord.f k x.1
@[reducible] noncomputable def laws_toWord.sm (k : Nat) : Sm := ⟨189, laws_toWord.g.pms, laws_toWord.g.rts, laws_toWord.fk k⟩
noncomputable def laws_toWord.E (k : Nat) : Env := ⟨tys, [laws_toIntS.sm k], [12], [], []⟩
noncomputable def laws_toWord.pts : List (Pt (denR (outTys laws_toWord.g.rts laws_toWord.g.pms))) := []
theorem laws_toWord.hf (k : Nat) (a0 : Word) : (laws_toWord.f k a0 : Option (denR (outTys laws_toWord.g.rts laws_toWord.g.pms))) = evC (laws_toWord.E k) (fun κ s => lhOf k κ s laws_toWord.pts) b189 (OM.start laws_toWord.g.pms 0 (a0, ())) (OM.fin laws_toWord.g Tryz.f189.results.toList) := by kernel_rfl
theorem laws_toWord.ok (k : Nat) : SmOk Tryz.prog (laws_toWord.sm k) :=
  sm_ok mixed (E := laws_toWord.E) (pts := laws_toWord.pts) (fun k => ⟨⟨tysOk, by kernel_rfl⟩, forall_cons ⟨laws_toIntS.ok k, e39⟩ (forall_nil)⟩) (fun _ => rfl) (fun _ => rfl)
    ⟨Tryz.func189, by kernel_rfl, by kernel_rfl, by kernel_rfl, by kernel_rfl, by kernel_rfl, by kernel_rfl⟩ (forall_nil) (fun k x => laws_toWord.hf k x.1) k
noncomputable def b153 : Code := Tryz.f153.body.getD .skip
theorem e153 : OM.Entry Tryz.prog 153 := ⟨_, Tryz.func153, by kernel_rfl, by kernel_rfl⟩
@[reducible] noncomputable def laws_toWordS.g : Sig := ⟨[.fz (.sl tWord)], [.v (.sl tWord) (.own (.two .z (.two (.own .z) .z)))], []⟩
@[reducible] noncomputable def laws_toWordS.fk : Nat → denI laws_toWordS.g.pms → Option (denR (outTys laws_toWordS.g.rts laws_toWordS.g.pms)) := fun k x => laws_toWordS.f k x.1
@[reducible] noncomputable def laws_toWordS.sm (k : Nat) : Sm := ⟨153, laws_toWordS.g.pms, laws_toWordS.g.rts, laws_toWordS.fk k⟩
noncomputable def laws_toWordS.E (k : Nat) : Env := ⟨tys, [laws_toWord.sm k], [], [], []⟩
@[reducible] noncomputable def laws_toWordS.s7 : List Slot := [.v 0 (.sl tWord) .z [] 0, .v 12 (.sl tWord) (.own (.two .z (.two (.own .z) .z))) [] 0, .v 16 (.int .i64) .z [] 0]
noncomputable def laws_toWordS.pts : List (Pt (denR (outTys laws_toWordS.g.rts laws_toWordS.g.pms))) := [⟨7, laws_toWordS.s7, fun k x => laws_toWordS.p7 k x.1 x.2.1 x.2.2.1⟩]
theorem laws_toWordS.h7 (k : Nat) (x0 : (List Word)) (x1 : (List Word)) (x2 : Int) : (laws_toWordS.p7 (k + 1) x0 x1 x2 : Option (denR (outTys laws_toWordS.g.rts laws_toWordS.g.pms))) = evAt (laws_toWordS.E k) (fun κ s => lhOf k κ s laws_toWordS.pts) 7 b153 (unproj laws_toWordS.s7 (x0, x1, x2, ())) (OM.fin laws_toWordS.g Tryz.f153.results.toList) := by kernel_rfl
theorem laws_toWordS.hf (k : Nat) (a0 : (List Word)) : (laws_toWordS.f k a0 : Option (denR (outTys laws_toWordS.g.rts laws_toWordS.g.pms))) = evC (laws_toWordS.E k) (fun κ s => lhOf k κ s laws_toWordS.pts) b153 (OM.start laws_toWordS.g.pms 0 (a0, ())) (OM.fin laws_toWordS.g Tryz.f153.results.toList) := by kernel_rfl
theorem laws_toWordS.ok (k : Nat) : SmOk Tryz.prog (laws_toWordS.sm k) :=
  sm_ok mixed (E := laws_toWordS.E) (pts := laws_toWordS.pts) (fun k => ⟨⟨tysOk, by kernel_rfl⟩, forall_cons ⟨laws_toWord.ok k, e189⟩ (forall_nil)⟩) (fun _ => rfl) (fun _ => rfl)
    ⟨Tryz.func153, by kernel_rfl, by kernel_rfl, by kernel_rfl, by kernel_rfl, by kernel_rfl, by kernel_rfl⟩ (forall_cons (fun x => ⟨rfl, fun k => laws_toWordS.h7 k x.1 x.2.1 x.2.2.1⟩) (forall_nil)) (fun k x => laws_toWordS.hf k x.1) k
noncomputable def b97 : Code := Tryz.f97.body.getD .skip
theorem e97 : OM.Entry Tryz.prog 97 := ⟨_, Tryz.func97, by kernel_rfl, by kernel_rfl⟩
@[reducible] noncomputable def laws_toWriter.g : Sig := ⟨[.fz tWriter], [.v tWriter (.two .z (.two (.own (.two .z (.two (.own .z) .z))) .z))], []⟩
@[reducible] noncomputable def laws_toWriter.fk : Nat → denI laws_toWriter.g.pms → Option (denR (outTys laws_toWriter.g.rts laws_toWriter.g.pms)) := fun k x => laws_toWriter.f k x.1
@[reducible] noncomputable def laws_toWriter.sm (k : Nat) : Sm := ⟨97, laws_toWriter.g.pms, laws_toWriter.g.rts, laws_toWriter.fk k⟩
noncomputable def laws_toWriter.E (k : Nat) : Env := ⟨tys, [laws_toWordS.sm k], [], [], []⟩
noncomputable def laws_toWriter.pts : List (Pt (denR (outTys laws_toWriter.g.rts laws_toWriter.g.pms))) := []
theorem laws_toWriter.hf (k : Nat) (a0 : Writer) : (laws_toWriter.f k a0 : Option (denR (outTys laws_toWriter.g.rts laws_toWriter.g.pms))) = evC (laws_toWriter.E k) (fun κ s => lhOf k κ s laws_toWriter.pts) b97 (OM.start laws_toWriter.g.pms 0 (a0, ())) (OM.fin laws_toWriter.g Tryz.f97.results.toList) := by kernel_rfl
theorem laws_toWriter.ok (k : Nat) : SmOk Tryz.prog (laws_toWriter.sm k) :=
  sm_ok mixed (E := laws_toWriter.E) (pts := laws_toWriter.pts) (fun k => ⟨⟨tysOk, by kernel_rfl⟩, forall_cons ⟨laws_toWordS.ok k, e153⟩ (forall_nil)⟩) (fun _ => rfl) (fun _ => rfl)
    ⟨Tryz.func97, by kernel_rfl, by kernel_rfl, by kernel_rfl, by kernel_rfl, by kernel_rfl, by kernel_rfl⟩ (forall_nil) (fun k x => laws_toWriter.hf k x.1) k
noncomputable def b41 : Code := Tryz.f41.body.getD .skip
theorem e41 : OM.Entry Tryz.prog 41 := ⟨_, Tryz.func41, by kernel_rfl, by kernel_rfl⟩
@[reducible] noncomputable def laws_toWriterS.g : Sig := ⟨[.fz (.sl tWriter)], [.v (.sl tWriter) (.own (.two .z (.two (.own (.two .z (.two (.own .z) .z))) .z)))], []⟩
@[reducible] noncomputable def laws_toWriterS.fk : Nat → denI laws_toWriterS.g.pms → Option (denR (outTys laws_toWriterS.g.rts laws_toWriterS.g.pms)) := fun k x => laws_toWriterS.f k x.1
@[reducible] noncomputable def laws_toWriterS.sm (k : Nat) : Sm := ⟨41, laws_toWriterS.g.pms, laws_toWriterS.g.rts, laws_toWriterS.fk k⟩
noncomputable def laws_toWriterS.E (k : Nat) : Env := ⟨tys, [laws_toWriter.sm k], [], [], []⟩
@[reducible] noncomputable def laws_toWriterS.s7 : List Slot := [.v 0 (.sl tWriter) .z [] 0, .v 12 (.sl tWriter) (.own (.two .z (.two (.own (.two .z (.two (.own .z) .z))) .z))) [] 0, .v 16 (.int .i64) .z [] 0]
noncomputable def laws_toWriterS.pts : List (Pt (denR (outTys laws_toWriterS.g.rts laws_toWriterS.g.pms))) := [⟨7, laws_toWriterS.s7, fun k x => laws_toWriterS.p7 k x.1 x.2.1 x.2.2.1⟩]
theorem laws_toWriterS.h7 (k : Nat) (x0 : (List Writer)) (x1 : (List Writer)) (x2 : Int) : (laws_toWriterS.p7 (k + 1) x0 x1 x2 : Option (denR (outTys laws_toWriterS.g.rts laws_toWriterS.g.pms))) = evAt (laws_toWriterS.E k) (fun κ s => lhOf k κ s laws_toWriterS.pts) 7 b41 (unproj laws_toWriterS.s7 (x0, x1, x2, ())) (OM.fin laws_toWriterS.g Tryz.f41.results.toList) := by kernel_rfl
theorem laws_toWriterS.hf (k : Nat) (a0 : (List Writer)) : (laws_toWriterS.f k a0 : Option (denR (outTys laws_toWriterS.g.rts laws_toWriterS.g.pms))) = evC (laws_toWriterS.E k) (fun κ s => lhOf k κ s laws_toWriterS.pts) b41 (OM.start laws_toWriterS.g.pms 0 (a0, ())) (OM.fin laws_toWriterS.g Tryz.f41.results.toList) := by kernel_rfl
theorem laws_toWriterS.ok (k : Nat) : SmOk Tryz.prog (laws_toWriterS.sm k) :=
  sm_ok mixed (E := laws_toWriterS.E) (pts := laws_toWriterS.pts) (fun k => ⟨⟨tysOk, by kernel_rfl⟩, forall_cons ⟨laws_toWriter.ok k, e97⟩ (forall_nil)⟩) (fun _ => rfl) (fun _ => rfl)
    ⟨Tryz.func41, by kernel_rfl, by kernel_rfl, by kernel_rfl, by kernel_rfl, by kernel_rfl, by kernel_rfl⟩ (forall_cons (fun x => ⟨rfl, fun k => laws_toWriterS.h7 k x.1 x.2.1 x.2.2.1⟩) (forall_nil)) (fun k x => laws_toWriterS.hf k x.1) k
noncomputable def b154 : Code := Tryz.f154.body.getD .skip
theorem e154 : OM.Entry Tryz.prog 154 := ⟨_, Tryz.func154, by kernel_rfl, by kernel_rfl⟩
@[reducible] noncomputable def laws_toIntSS.g : Sig := ⟨[.fz (.sl (.sl (.int .i64)))], [.v (.sl (.sl (.int .i64))) (.own (.own .z))], []⟩
@[reducible] noncomputable def laws_toIntSS.fk : Nat → denI laws_toIntSS.g.pms → Option (denR (outTys laws_toIntSS.g.rts laws_toIntSS.g.pms)) := fun k x => laws_toIntSS.f k x.1
@[reducible] noncomputable def laws_toIntSS.sm (k : Nat) : Sm := ⟨154, laws_toIntSS.g.pms, laws_toIntSS.g.rts, laws_toIntSS.fk k⟩
noncomputable def laws_toIntSS.E (k : Nat) : Env := ⟨tys, [laws_toIntS.sm k], [], [], []⟩
@[reducible] noncomputable def laws_toIntSS.s7 : List Slot := [.v 0 (.sl (.sl (.int .i64))) .z [] 0, .v 12 (.sl (.sl (.int .i64))) (.own (.own .z)) [] 0, .v 16 (.int .i64) .z [] 0]
noncomputable def laws_toIntSS.pts : List (Pt (denR (outTys laws_toIntSS.g.rts laws_toIntSS.g.pms))) := [⟨7, laws_toIntSS.s7, fun k x => laws_toIntSS.p7 k x.1 x.2.1 x.2.2.1⟩]
theorem laws_toIntSS.h7 (k : Nat) (x0 : (List (List Int))) (x1 : (List (List Int))) (x2 : Int) : (laws_toIntSS.p7 (k + 1) x0 x1 x2 : Option (denR (outTys laws_toIntSS.g.rts laws_toIntSS.g.pms))) = evAt (laws_toIntSS.E k) (fun κ s => lhOf k κ s laws_toIntSS.pts) 7 b154 (unproj laws_toIntSS.s7 (x0, x1, x2, ())) (OM.fin laws_toIntSS.g Tryz.f154.results.toList) := by kernel_rfl
theorem laws_toIntSS.hf (k : Nat) (a0 : (List (List Int))) : (laws_toIntSS.f k a0 : Option (denR (outTys laws_toIntSS.g.rts laws_toIntSS.g.pms))) = evC (laws_toIntSS.E k) (fun κ s => lhOf k κ s laws_toIntSS.pts) b154 (OM.start laws_toIntSS.g.pms 0 (a0, ())) (OM.fin laws_toIntSS.g Tryz.f154.results.toList) := by kernel_rfl
theorem laws_toIntSS.ok (k : Nat) : SmOk Tryz.prog (laws_toIntSS.sm k) :=
  sm_ok mixed (E := laws_toIntSS.E) (pts := laws_toIntSS.pts) (fun k => ⟨⟨tysOk, by kernel_rfl⟩, forall_cons ⟨laws_toIntS.ok k, e39⟩ (forall_nil)⟩) (fun _ => rfl) (fun _ => rfl)
    ⟨Tryz.func154, by kernel_rfl, by kernel_rfl, by kernel_rfl, by kernel_rfl, by kernel_rfl, by kernel_rfl⟩ (forall_cons (fun x => ⟨rfl, fun k => laws_toIntSS.h7 k x.1 x.2.1 x.2.2.1⟩) (forall_nil)) (fun k x => laws_toIntSS.hf k x.1) k
noncomputable def b98 : Code := Tryz.f98.body.getD .skip
theorem e98 : OM.Entry Tryz.prog 98 := ⟨_, Tryz.func98, by kernel_rfl, by kernel_rfl⟩
@[reducible] noncomputable def laws_toMend.g : Sig := ⟨[.fz tMend], [.v tMend (.two .z (.two .z (.two (.own .z) (.two (.own .z) (.two .z (.two (.own (.own .z)) .z))))))], []⟩
@[reducible] noncomputable def laws_toMend.fk : Nat → denI laws_toMend.g.pms → Option (denR (outTys laws_toMend.g.rts laws_toMend.g.pms)) := fun k x => laws_toMend.f k x.1
@[reducible] noncomputable def laws_toMend.sm (k : Nat) : Sm := ⟨98, laws_toMend.g.pms, laws_toMend.g.rts, laws_toMend.fk k⟩
noncomputable def laws_toMend.E (k : Nat) : Env := ⟨tys, [laws_toIntS.sm k, laws_toEntryS.sm k, laws_toIntSS.sm k], [], [], []⟩
noncomputable def laws_toMend.pts : List (Pt (denR (outTys laws_toMend.g.rts laws_toMend.g.pms))) := []
theorem laws_toMend.hf (k : Nat) (a0 : Mend) : (laws_toMend.f k a0 : Option (denR (outTys laws_toMend.g.rts laws_toMend.g.pms))) = evC (laws_toMend.E k) (fun κ s => lhOf k κ s laws_toMend.pts) b98 (OM.start laws_toMend.g.pms 0 (a0, ())) (OM.fin laws_toMend.g Tryz.f98.results.toList) := by kernel_rfl
theorem laws_toMend.ok (k : Nat) : SmOk Tryz.prog (laws_toMend.sm k) :=
  sm_ok mixed (E := laws_toMend.E) (pts := laws_toMend.pts) (fun k => ⟨⟨tysOk, by kernel_rfl⟩, forall_cons ⟨laws_toIntS.ok k, e39⟩ (forall_cons ⟨laws_toEntryS.ok k, e151⟩ (forall_cons ⟨laws_toIntSS.ok k, e154⟩ (forall_nil)))⟩) (fun _ => rfl) (fun _ => rfl)
    ⟨Tryz.func98, by kernel_rfl, by kernel_rfl, by kernel_rfl, by kernel_rfl, by kernel_rfl, by kernel_rfl⟩ (forall_nil) (fun k x => laws_toMend.hf k x.1) k
noncomputable def b42 : Code := Tryz.f42.body.getD .skip
theorem e42 : OM.Entry Tryz.prog 42 := ⟨_, Tryz.func42, by kernel_rfl, by kernel_rfl⟩
@[reducible] noncomputable def laws_toMendS.g : Sig := ⟨[.fz (.sl tMend)], [.v (.sl tMend) (.own (.two .z (.two .z (.two (.own .z) (.two (.own .z) (.two .z (.two (.own (.own .z)) .z)))))))], []⟩
@[reducible] noncomputable def laws_toMendS.fk : Nat → denI laws_toMendS.g.pms → Option (denR (outTys laws_toMendS.g.rts laws_toMendS.g.pms)) := fun k x => laws_toMendS.f k x.1
@[reducible] noncomputable def laws_toMendS.sm (k : Nat) : Sm := ⟨42, laws_toMendS.g.pms, laws_toMendS.g.rts, laws_toMendS.fk k⟩
noncomputable def laws_toMendS.E (k : Nat) : Env := ⟨tys, [laws_toMend.sm k], [], [], []⟩
@[reducible] noncomputable def laws_toMendS.s7 : List Slot := [.v 0 (.sl tMend) .z [] 0, .v 12 (.sl tMend) (.own (.two .z (.two .z (.two (.own .z) (.two (.own .z) (.two .z (.two (.own (.own .z)) .z))))))) [] 0, .v 16 (.int .i64) .z [] 0]
noncomputable def laws_toMendS.pts : List (Pt (denR (outTys laws_toMendS.g.rts laws_toMendS.g.pms))) := [⟨7, laws_toMendS.s7, fun k x => laws_toMendS.p7 k x.1 x.2.1 x.2.2.1⟩]
theorem laws_toMendS.h7 (k : Nat) (x0 : (List Mend)) (x1 : (List Mend)) (x2 : Int) : (laws_toMendS.p7 (k + 1) x0 x1 x2 : Option (denR (outTys laws_toMendS.g.rts laws_toMendS.g.pms))) = evAt (laws_toMendS.E k) (fun κ s => lhOf k κ s laws_toMendS.pts) 7 b42 (unproj laws_toMendS.s7 (x0, x1, x2, ())) (OM.fin laws_toMendS.g Tryz.f42.results.toList) := by kernel_rfl
theorem laws_toMendS.hf (k : Nat) (a0 : (List Mend)) : (laws_toMendS.f k a0 : Option (denR (outTys laws_toMendS.g.rts laws_toMendS.g.pms))) = evC (laws_toMendS.E k) (fun κ s => lhOf k κ s laws_toMendS.pts) b42 (OM.start laws_toMendS.g.pms 0 (a0, ())) (OM.fin laws_toMendS.g Tryz.f42.results.toList) := by kernel_rfl
theorem laws_toMendS.ok (k : Nat) : SmOk Tryz.prog (laws_toMendS.sm k) :=
  sm_ok mixed (E := laws_toMendS.E) (pts := laws_toMendS.pts) (fun k => ⟨⟨tysOk, by kernel_rfl⟩, forall_cons ⟨laws_toMend.ok k, e98⟩ (forall_nil)⟩) (fun _ => rfl) (fun _ => rfl)
    ⟨Tryz.func42, by kernel_rfl, by kernel_rfl, by kernel_rfl, by kernel_rfl, by kernel_rfl, by kernel_rfl⟩ (forall_cons (fun x => ⟨rfl, fun k => laws_toMendS.h7 k x.1 x.2.1 x.2.2.1⟩) (forall_nil)) (fun k x => laws_toMendS.hf k x.1) k
noncomputable def b190 : Code := Tryz.f190.body.getD .skip
theorem e190 : OM.Entry Tryz.prog 190 := ⟨_, Tryz.func190, by kernel_rfl, by kernel_rfl⟩
@[reducible] noncomputable def laws_toEvent.g : Sig := ⟨[.fz tEvent], [.v tEvent .z], []⟩
@[reducible] noncomputable def laws_toEvent.fk : Nat → denI laws_toEvent.g.pms → Option (denR (outTys laws_toEvent.g.rts laws_toEvent.g.pms)) := fun k x => laws_toEvent.f x.1
@[reducible] noncomputable def laws_toEvent.sm (k : Nat) : Sm := ⟨190, laws_toEvent.g.pms, laws_toEvent.g.rts, laws_toEvent.fk k⟩
noncomputable def laws_toEvent.E (k : Nat) : Env := ⟨tys, [], [11], [], []⟩
noncomputable def laws_toEvent.pts : List (Pt (denR (outTys laws_toEvent.g.rts laws_toEvent.g.pms))) := []
theorem laws_toEvent.hf (k : Nat) (a0 : Event) : (laws_toEvent.f a0 : Option (denR (outTys laws_toEvent.g.rts laws_toEvent.g.pms))) = evC (laws_toEvent.E k) (fun κ s => lhOf k κ s laws_toEvent.pts) b190 (OM.start laws_toEvent.g.pms 0 (a0, ())) (OM.fin laws_toEvent.g Tryz.f190.results.toList) := by kernel_rfl
theorem laws_toEvent.ok (k : Nat) : SmOk Tryz.prog (laws_toEvent.sm k) :=
  sm_ok mixed (E := laws_toEvent.E) (pts := laws_toEvent.pts) (fun k => ⟨⟨tysOk, by kernel_rfl⟩, forall_nil⟩) (fun _ => rfl) (fun _ => rfl)
    ⟨Tryz.func190, by kernel_rfl, by kernel_rfl, by kernel_rfl, by kernel_rfl, by kernel_rfl, by kernel_rfl⟩ (forall_nil) (fun k x => laws_toEvent.hf k x.1) k
noncomputable def b155 : Code := Tryz.f155.body.getD .skip
theorem e155 : OM.Entry Tryz.prog 155 := ⟨_, Tryz.func155, by kernel_rfl, by kernel_rfl⟩
@[reducible] noncomputable def laws_toEventS.g : Sig := ⟨[.fz (.sl tEvent)], [.v (.sl tEvent) (.own .z)], []⟩
@[reducible] noncomputable def laws_toEventS.fk : Nat → denI laws_toEventS.g.pms → Option (denR (outTys laws_toEventS.g.rts laws_toEventS.g.pms)) := fun k x => laws_toEventS.f k x.1
@[reducible] noncomputable def laws_toEventS.sm (k : Nat) : Sm := ⟨155, laws_toEventS.g.pms, laws_toEventS.g.rts, laws_toEventS.fk k⟩
noncomputable def laws_toEventS.E (k : Nat) : Env := ⟨tys, [laws_toEvent.sm k], [], [], []⟩
@[reducible] noncomputable def laws_toEventS.s7 : List Slot := [.v 0 (.sl tEvent) .z [] 0, .v 12 (.sl tEvent) (.own .z) [] 0, .v 16 (.int .i64) .z [] 0]
noncomputable def laws_toEventS.pts : List (Pt (denR (outTys laws_toEventS.g.rts laws_toEventS.g.pms))) := [⟨7, laws_toEventS.s7, fun k x => laws_toEventS.p7 k x.1 x.2.1 x.2.2.1⟩]
theorem laws_toEventS.h7 (k : Nat) (x0 : (List Event)) (x1 : (List Event)) (x2 : Int) : (laws_toEventS.p7 (k + 1) x0 x1 x2 : Option (denR (outTys laws_toEventS.g.rts laws_toEventS.g.pms))) = evAt (laws_toEventS.E k) (fun κ s => lhOf k κ s laws_toEventS.pts) 7 b155 (unproj laws_toEventS.s7 (x0, x1, x2, ())) (OM.fin laws_toEventS.g Tryz.f155.results.toList) := by kernel_rfl
theorem laws_toEventS.hf (k : Nat) (a0 : (List Event)) : (laws_toEventS.f k a0 : Option (denR (outTys laws_toEventS.g.rts laws_toEventS.g.pms))) = evC (laws_toEventS.E k) (fun κ s => lhOf k κ s laws_toEventS.pts) b155 (OM.start laws_toEventS.g.pms 0 (a0, ())) (OM.fin laws_toEventS.g Tryz.f155.results.toList) := by kernel_rfl
theorem laws_toEventS.ok (k : Nat) : SmOk Tryz.prog (laws_toEventS.sm k) :=
  sm_ok mixed (E := laws_toEventS.E) (pts := laws_toEventS.pts) (fun k => ⟨⟨tysOk, by kernel_rfl⟩, forall_cons ⟨laws_toEvent.ok k, e190⟩ (forall_nil)⟩) (fun _ => rfl) (fun _ => rfl)
    ⟨Tryz.func155, by kernel_rfl, by kernel_rfl, by kernel_rfl, by kernel_rfl, by kernel_rfl, by kernel_rfl⟩ (forall_cons (fun x => ⟨rfl, fun k => laws_toEventS.h7 k x.1 x.2.1 x.2.2.1⟩) (forall_nil)) (fun k x => laws_toEventS.hf k x.1) k
noncomputable def b99 : Code := Tryz.f99.body.getD .skip
theorem e99 : OM.Entry Tryz.prog 99 := ⟨_, Tryz.func99, by kernel_rfl, by kernel_rfl⟩
@[reducible] noncomputable def laws_toReader.g : Sig := ⟨[.fz tReader], [.v tReader (.two .z (.two .z (.two (.own .z) .z)))], []⟩
@[reducible] noncomputable def laws_toReader.fk : Nat → denI laws_toReader.g.pms → Option (denR (outTys laws_toReader.g.rts laws_toReader.g.pms)) := fun k x => laws_toReader.f k x.1
@[reducible] noncomputable def laws_toReader.sm (k : Nat) : Sm := ⟨99, laws_toReader.g.pms, laws_toReader.g.rts, laws_toReader.fk k⟩
noncomputable def laws_toReader.E (k : Nat) : Env := ⟨tys, [laws_toEventS.sm k], [], [], []⟩
noncomputable def laws_toReader.pts : List (Pt (denR (outTys laws_toReader.g.rts laws_toReader.g.pms))) := []
theorem laws_toReader.hf (k : Nat) (a0 : Reader) : (laws_toReader.f k a0 : Option (denR (outTys laws_toReader.g.rts laws_toReader.g.pms))) = evC (laws_toReader.E k) (fun κ s => lhOf k κ s laws_toReader.pts) b99 (OM.start laws_toReader.g.pms 0 (a0, ())) (OM.fin laws_toReader.g Tryz.f99.results.toList) := by kernel_rfl
theorem laws_toReader.ok (k : Nat) : SmOk Tryz.prog (laws_toReader.sm k) :=
  sm_ok mixed (E := laws_toReader.E) (pts := laws_toReader.pts) (fun k => ⟨⟨tysOk, by kernel_rfl⟩, forall_cons ⟨laws_toEventS.ok k, e155⟩ (forall_nil)⟩) (fun _ => rfl) (fun _ => rfl)
    ⟨Tryz.func99, by kernel_rfl, by kernel_rfl, by kernel_rfl, by kernel_rfl, by kernel_rfl, by kernel_rfl⟩ (forall_nil) (fun k x => laws_toReader.hf k x.1) k
noncomputable def b43 : Code := Tryz.f43.body.getD .skip
theorem e43 : OM.Entry Tryz.prog 43 := ⟨_, Tryz.func43, by kernel_rfl, by kernel_rfl⟩
@[reducible] noncomputable def laws_toReaderS.g : Sig := ⟨[.fz (.sl tReader)], [.v (.sl tReader) (.own (.two .z (.two .z (.two (.own .z) .z))))], []⟩
@[reducible] noncomputable def laws_toReaderS.fk : Nat → denI laws_toReaderS.g.pms → Option (denR (outTys laws_toReaderS.g.rts laws_toReaderS.g.pms)) := fun k x => laws_toReaderS.f k x.1
@[reducible] noncomputable def laws_toReaderS.sm (k : Nat) : Sm := ⟨43, laws_toReaderS.g.pms, laws_toReaderS.g.rts, laws_toReaderS.fk k⟩
noncomputable def laws_toReaderS.E (k : Nat) : Env := ⟨tys, [laws_toReader.sm k], [], [], []⟩
@[reducible] noncomputable def laws_toReaderS.s7 : List Slot := [.v 0 (.sl tReader) .z [] 0, .v 12 (.sl tReader) (.own (.two .z (.two .z (.two (.own .z) .z)))) [] 0, .v 16 (.int .i64) .z [] 0]
noncomputable def laws_toReaderS.pts : List (Pt (denR (outTys laws_toReaderS.g.rts laws_toReaderS.g.pms))) := [⟨7, laws_toReaderS.s7, fun k x => laws_toReaderS.p7 k x.1 x.2.1 x.2.2.1⟩]
theorem laws_toReaderS.h7 (k : Nat) (x0 : (List Reader)) (x1 : (List Reader)) (x2 : Int) : (laws_toReaderS.p7 (k + 1) x0 x1 x2 : Option (denR (outTys laws_toReaderS.g.rts laws_toReaderS.g.pms))) = evAt (laws_toReaderS.E k) (fun κ s => lhOf k κ s laws_toReaderS.pts) 7 b43 (unproj laws_toReaderS.s7 (x0, x1, x2, ())) (OM.fin laws_toReaderS.g Tryz.f43.results.toList) := by kernel_rfl
theorem laws_toReaderS.hf (k : Nat) (a0 : (List Reader)) : (laws_toReaderS.f k a0 : Option (denR (outTys laws_toReaderS.g.rts laws_toReaderS.g.pms))) = evC (laws_toReaderS.E k) (fun κ s => lhOf k κ s laws_toReaderS.pts) b43 (OM.start laws_toReaderS.g.pms 0 (a0, ())) (OM.fin laws_toReaderS.g Tryz.f43.results.toList) := by kernel_rfl
theorem laws_toReaderS.ok (k : Nat) : SmOk Tryz.prog (laws_toReaderS.sm k) :=
  sm_ok mixed (E := laws_toReaderS.E) (pts := laws_toReaderS.pts) (fun k => ⟨⟨tysOk, by kernel_rfl⟩, forall_cons ⟨laws_toReader.ok k, e99⟩ (forall_nil)⟩) (fun _ => rfl) (fun _ => rfl)
    ⟨Tryz.func43, by kernel_rfl, by kernel_rfl, by kernel_rfl, by kernel_rfl, by kernel_rfl, by kernel_rfl⟩ (forall_cons (fun x => ⟨rfl, fun k => laws_toReaderS.h7 k x.1 x.2.1 x.2.2.1⟩) (forall_nil)) (fun k x => laws_toReaderS.hf k x.1) k
noncomputable def b100 : Code := Tryz.f100.body.getD .skip
theorem e100 : OM.Entry Tryz.prog 100 := ⟨_, Tryz.func100, by kernel_rfl, by kernel_rfl⟩
@[reducible] noncomputable def laws_toSent.g : Sig := ⟨[.fz tSent], [.v tSent .z], []⟩
@[reducible] noncomputable def laws_toSent.fk : Nat → denI laws_toSent.g.pms → Option (denR (outTys laws_toSent.g.rts laws_toSent.g.pms)) := fun k x => laws_toSent.f x.1
@[reducible] noncomputable def laws_toSent.sm (k : Nat) : Sm := ⟨100, laws_toSent.g.pms, laws_toSent.g.rts, laws_toSent.fk k⟩
noncomputable def laws_toSent.E (k : Nat) : Env := ⟨tys, [], [11], [], []⟩
noncomputable def laws_toSent.pts : List (Pt (denR (outTys laws_toSent.g.rts laws_toSent.g.pms))) := []
theorem laws_toSent.hf (k : Nat) (a0 : Sent) : (laws_toSent.f a0 : Option (denR (outTys laws_toSent.g.rts laws_toSent.g.pms))) = evC (laws_toSent.E k) (fun κ s => lhOf k κ s laws_toSent.pts) b100 (OM.start laws_toSent.g.pms 0 (a0, ())) (OM.fin laws_toSent.g Tryz.f100.results.toList) := by kernel_rfl
theorem laws_toSent.ok (k : Nat) : SmOk Tryz.prog (laws_toSent.sm k) :=
  sm_ok mixed (E := laws_toSent.E) (pts := laws_toSent.pts) (fun k => ⟨⟨tysOk, by kernel_rfl⟩, forall_nil⟩) (fun _ => rfl) (fun _ => rfl)
    ⟨Tryz.func100, by kernel_rfl, by kernel_rfl, by kernel_rfl, by kernel_rfl, by kernel_rfl, by kernel_rfl⟩ (forall_nil) (fun k x => laws_toSent.hf k x.1) k
noncomputable def b44 : Code := Tryz.f44.body.getD .skip
theorem e44 : OM.Entry Tryz.prog 44 := ⟨_, Tryz.func44, by kernel_rfl, by kernel_rfl⟩
@[reducible] noncomputable def laws_toSentS.g : Sig := ⟨[.fz (.sl tSent)], [.v (.sl tSent) (.own .z)], []⟩
@[reducible] noncomputable def laws_toSentS.fk : Nat → denI laws_toSentS.g.pms → Option (denR (outTys laws_toSentS.g.rts laws_toSentS.g.pms)) := fun k x => laws_toSentS.f k x.1
@[reducible] noncomputable def laws_toSentS.sm (k : Nat) : Sm := ⟨44, laws_toSentS.g.pms, laws_toSentS.g.rts, laws_toSentS.fk k⟩
noncomputable def laws_toSentS.E (k : Nat) : Env := ⟨tys, [laws_toSent.sm k], [], [], []⟩
@[reducible] noncomputable def laws_toSentS.s7 : List Slot := [.v 0 (.sl tSent) .z [] 0, .v 12 (.sl tSent) (.own .z) [] 0, .v 16 (.int .i64) .z [] 0]
noncomputable def laws_toSentS.pts : List (Pt (denR (outTys laws_toSentS.g.rts laws_toSentS.g.pms))) := [⟨7, laws_toSentS.s7, fun k x => laws_toSentS.p7 k x.1 x.2.1 x.2.2.1⟩]
theorem laws_toSentS.h7 (k : Nat) (x0 : (List Sent)) (x1 : (List Sent)) (x2 : Int) : (laws_toSentS.p7 (k + 1) x0 x1 x2 : Option (denR (outTys laws_toSentS.g.rts laws_toSentS.g.pms))) = evAt (laws_toSentS.E k) (fun κ s => lhOf k κ s laws_toSentS.pts) 7 b44 (unproj laws_toSentS.s7 (x0, x1, x2, ())) (OM.fin laws_toSentS.g Tryz.f44.results.toList) := by kernel_rfl
theorem laws_toSentS.hf (k : Nat) (a0 : (List Sent)) : (laws_toSentS.f k a0 : Option (denR (outTys laws_toSentS.g.rts laws_toSentS.g.pms))) = evC (laws_toSentS.E k) (fun κ s => lhOf k κ s laws_toSentS.pts) b44 (OM.start laws_toSentS.g.pms 0 (a0, ())) (OM.fin laws_toSentS.g Tryz.f44.results.toList) := by kernel_rfl
theorem laws_toSentS.ok (k : Nat) : SmOk Tryz.prog (laws_toSentS.sm k) :=
  sm_ok mixed (E := laws_toSentS.E) (pts := laws_toSentS.pts) (fun k => ⟨⟨tysOk, by kernel_rfl⟩, forall_cons ⟨laws_toSent.ok k, e100⟩ (forall_nil)⟩) (fun _ => rfl) (fun _ => rfl)
    ⟨Tryz.func44, by kernel_rfl, by kernel_rfl, by kernel_rfl, by kernel_rfl, by kernel_rfl, by kernel_rfl⟩ (forall_cons (fun x => ⟨rfl, fun k => laws_toSentS.h7 k x.1 x.2.1 x.2.2.1⟩) (forall_nil)) (fun k x => laws_toSentS.hf k x.1) k
noncomputable def b8 : Code := Tryz.f8.body.getD .skip
theorem e8 : OM.Entry Tryz.prog 8 := ⟨_, Tryz.func8, by kernel_rfl, by kernel_rfl⟩
@[reducible] noncomputable def laws_toWorld.g : Sig := ⟨[.fz tWorld], [.v tWorld (.two (.two (.own .z) .z) (.two (.own (.two (.own .z) (.two (.own .z) .z))) (.two (.own .z) (.two (.two (.own (.two (.own .z) .z)) .z) (.two (.own (.two .z (.two (.own (.two .z (.two (.own .z) .z))) .z))) (.two (.own (.two .z (.two .z (.two (.own .z) (.two (.own .z) (.two .z (.two (.own (.own .z)) .z))))))) (.two (.own (.two .z (.two .z (.two (.own .z) .z)))) (.two (.own .z) .z))))))))], []⟩
@[reducible] noncomputable def laws_toWorld.fk : Nat → denI laws_toWorld.g.pms → Option (denR (outTys laws_toWorld.g.rts laws_toWorld.g.pms)) := fun k x => laws_toWorld.f k x.1
@[reducible] noncomputable def laws_toWorld.sm (k : Nat) : Sm := ⟨8, laws_toWorld.g.pms, laws_toWorld.g.rts, laws_toWorld.fk k⟩
noncomputable def laws_toWorld.E (k : Nat) : Env := ⟨tys, [laws_toIntS.sm k, laws_toConfig.sm k, laws_toStoreS.sm k, laws_toRegister.sm k, laws_toWriterS.sm k, laws_toMendS.sm k, laws_toReaderS.sm k, laws_toSentS.sm k], [37], [], []⟩
noncomputable def laws_toWorld.pts : List (Pt (denR (outTys laws_toWorld.g.rts laws_toWorld.g.pms))) := []
theorem laws_toWorld.hf (k : Nat) (a0 : World) : (laws_toWorld.f k a0 : Option (denR (outTys laws_toWorld.g.rts laws_toWorld.g.pms))) = evC (laws_toWorld.E k) (fun κ s => lhOf k κ s laws_toWorld.pts) b8 (OM.start laws_toWorld.g.pms 0 (a0, ())) (OM.fin laws_toWorld.g Tryz.f8.results.toList) := by kernel_rfl
theorem laws_toWorld.ok (k : Nat) : SmOk Tryz.prog (laws_toWorld.sm k) :=
  sm_ok mixed (E := laws_toWorld.E) (pts := laws_toWorld.pts) (fun k => ⟨⟨tysOk, by kernel_rfl⟩, forall_cons ⟨laws_toIntS.ok k, e39⟩ (forall_cons ⟨laws_toConfig.ok k, e37⟩ (forall_cons ⟨laws_toStoreS.ok k, e38⟩ (forall_cons ⟨laws_toRegister.ok k, e40⟩ (forall_cons ⟨laws_toWriterS.ok k, e41⟩ (forall_cons ⟨laws_toMendS.ok k, e42⟩ (forall_cons ⟨laws_toReaderS.ok k, e43⟩ (forall_cons ⟨laws_toSentS.ok k, e44⟩ (forall_nil))))))))⟩) (fun _ => rfl) (fun _ => rfl)
    ⟨Tryz.func8, by kernel_rfl, by kernel_rfl, by kernel_rfl, by kernel_rfl, by kernel_rfl, by kernel_rfl⟩ (forall_nil) (fun k x => laws_toWorld.hf k x.1) k
noncomputable def b92 : Code := Tryz.f92.body.getD .skip
theorem e92 : OM.Entry Tryz.prog 92 := ⟨_, Tryz.func92, by kernel_rfl, by kernel_rfl⟩
@[reducible] noncomputable def spec_l1In.g : Sig := ⟨[.fz (.int .i64), .fz (.int .i64), .fz (.int .i64)], [.v .bool .z], []⟩
@[reducible] noncomputable def spec_l1In.fk : Nat → denI spec_l1In.g.pms → Option (denR (outTys spec_l1In.g.rts spec_l1In.g.pms)) := fun k x => spec_l1In.f x.1 x.2.1 x.2.2.1
@[reducible] noncomputable def spec_l1In.sm (k : Nat) : Sm := ⟨92, spec_l1In.g.pms, spec_l1In.g.rts, spec_l1In.fk k⟩
noncomputable def spec_l1In.E (k : Nat) : Env := ⟨tys, [], [], [], []⟩
noncomputable def spec_l1In.pts : List (Pt (denR (outTys spec_l1In.g.rts spec_l1In.g.pms))) := []
theorem spec_l1In.hf (k : Nat) (a0 : Int) (a1 : Int) (a2 : Int) : (spec_l1In.f a0 a1 a2 : Option (denR (outTys spec_l1In.g.rts spec_l1In.g.pms))) = evC (spec_l1In.E k) (fun κ s => lhOf k κ s spec_l1In.pts) b92 (OM.start spec_l1In.g.pms 0 (a0, a1, a2, ())) (OM.fin spec_l1In.g Tryz.f92.results.toList) := by kernel_rfl
theorem spec_l1In.ok (k : Nat) : SmOk Tryz.prog (spec_l1In.sm k) :=
  sm_ok mixed (E := spec_l1In.E) (pts := spec_l1In.pts) (fun k => ⟨⟨tysOk, by kernel_rfl⟩, forall_nil⟩) (fun _ => rfl) (fun _ => rfl)
    ⟨Tryz.func92, by kernel_rfl, by kernel_rfl, by kernel_rfl, by kernel_rfl, by kernel_rfl, by kernel_rfl⟩ (forall_nil) (fun k x => spec_l1In.hf k x.1 x.2.1 x.2.2.1) k
noncomputable def b82 : Code := Tryz.f82.body.getD .skip
theorem e82 : OM.Entry Tryz.prog 82 := ⟨_, Tryz.func82, by kernel_rfl, by kernel_rfl⟩
@[reducible] noncomputable def spec_ConfigOk.g : Sig := ⟨[.fz tConfig], [.v .bool .z], []⟩
@[reducible] noncomputable def spec_ConfigOk.fk : Nat → denI spec_ConfigOk.g.pms → Option (denR (outTys spec_ConfigOk.g.rts spec_ConfigOk.g.pms)) := fun k x => spec_ConfigOk.f k x.1
@[reducible] noncomputable def spec_ConfigOk.sm (k : Nat) : Sm := ⟨82, spec_ConfigOk.g.pms, spec_ConfigOk.g.rts, spec_ConfigOk.fk k⟩
noncomputable def spec_ConfigOk.E (k : Nat) : Env := ⟨tys, [spec_l1In.sm k], [], [], []⟩
@[reducible] noncomputable def spec_ConfigOk.s9 : List Slot := [.r 4 5 [] tConfig, .v 12 (.int .i64) .z [] 0, .v 5 tConfig .z [] 0]
noncomputable def spec_ConfigOk.pts : List (Pt (denR (outTys spec_ConfigOk.g.rts spec_ConfigOk.g.pms))) := [⟨9, spec_ConfigOk.s9, fun k x => spec_ConfigOk.p9 k x.1 x.2.1⟩]
theorem spec_ConfigOk.h9 (k : Nat) (x0 : Int) (x1 : Config) : (spec_ConfigOk.p9 (k + 1) x0 x1 : Option (denR (outTys spec_ConfigOk.g.rts spec_ConfigOk.g.pms))) = evAt (spec_ConfigOk.E k) (fun κ s => lhOf k κ s spec_ConfigOk.pts) 9 b82 (unproj spec_ConfigOk.s9 (x0, x1, ())) (OM.fin spec_ConfigOk.g Tryz.f82.results.toList) := by kernel_rfl
theorem spec_ConfigOk.hf (k : Nat) (a0 : Config) : (spec_ConfigOk.f k a0 : Option (denR (outTys spec_ConfigOk.g.rts spec_ConfigOk.g.pms))) = evC (spec_ConfigOk.E k) (fun κ s => lhOf k κ s spec_ConfigOk.pts) b82 (OM.start spec_ConfigOk.g.pms 0 (a0, ())) (OM.fin spec_ConfigOk.g Tryz.f82.results.toList) := by kernel_rfl
theorem spec_ConfigOk.ok (k : Nat) : SmOk Tryz.prog (spec_ConfigOk.sm k) :=
  sm_ok mixed (E := spec_ConfigOk.E) (pts := spec_ConfigOk.pts) (fun k => ⟨⟨tysOk, by kernel_rfl⟩, forall_cons ⟨spec_l1In.ok k, e92⟩ (forall_nil)⟩) (fun _ => rfl) (fun _ => rfl)
    ⟨Tryz.func82, by kernel_rfl, by kernel_rfl, by kernel_rfl, by kernel_rfl, by kernel_rfl, by kernel_rfl⟩ (forall_cons (fun x => ⟨rfl, fun k => spec_ConfigOk.h9 k x.1 x.2.1⟩) (forall_nil)) (fun k x => spec_ConfigOk.hf k x.1) k
noncomputable def b145 : Code := Tryz.f145.body.getD .skip
theorem e145 : OM.Entry Tryz.prog 145 := ⟨_, Tryz.func145, by kernel_rfl, by kernel_rfl⟩
@[reducible] noncomputable def spec_l4Asc.g : Sig := ⟨[.fz (.sl (.int .i64)), .fz (.int .i64), .fz (.int .i64)], [.v .bool .z], []⟩
@[reducible] noncomputable def spec_l4Asc.fk : Nat → denI spec_l4Asc.g.pms → Option (denR (outTys spec_l4Asc.g.rts spec_l4Asc.g.pms)) := fun k x => spec_l4Asc.f k x.1 x.2.1 x.2.2.1
@[reducible] noncomputable def spec_l4Asc.sm (k : Nat) : Sm := ⟨145, spec_l4Asc.g.pms, spec_l4Asc.g.rts, spec_l4Asc.fk k⟩
noncomputable def spec_l4Asc.E (k : Nat) : Env := ⟨tys, [spec_l1In.sm k], [], [], []⟩
@[reducible] noncomputable def spec_l4Asc.s5 : List Slot := [.v 0 (.sl (.int .i64)) .z [] 0, .v 4 (.int .i64) .z [] 0, .v 8 (.int .i64) .z [] 0, .v 28 (.int .i64) .z [] 0]
noncomputable def spec_l4Asc.pts : List (Pt (denR (outTys spec_l4Asc.g.rts spec_l4Asc.g.pms))) := [⟨5, spec_l4Asc.s5, fun k x => spec_l4Asc.p5 k x.1 x.2.1 x.2.2.1 x.2.2.2.1⟩]
theorem spec_l4Asc.h5 (k : Nat) (x0 : (List Int)) (x1 : Int) (x2 : Int) (x3 : Int) : (spec_l4Asc.p5 (k + 1) x0 x1 x2 x3 : Option (denR (outTys spec_l4Asc.g.rts spec_l4Asc.g.pms))) = evAt (spec_l4Asc.E k) (fun κ s => lhOf k κ s spec_l4Asc.pts) 5 b145 (unproj spec_l4Asc.s5 (x0, x1, x2, x3, ())) (OM.fin spec_l4Asc.g Tryz.f145.results.toList) := by kernel_rfl
theorem spec_l4Asc.hf (k : Nat) (a0 : (List Int)) (a1 : Int) (a2 : Int) : (spec_l4Asc.f k a0 a1 a2 : Option (denR (outTys spec_l4Asc.g.rts spec_l4Asc.g.pms))) = evC (spec_l4Asc.E k) (fun κ s => lhOf k κ s spec_l4Asc.pts) b145 (OM.start spec_l4Asc.g.pms 0 (a0, a1, a2, ())) (OM.fin spec_l4Asc.g Tryz.f145.results.toList) := by kernel_rfl
theorem spec_l4Asc.ok (k : Nat) : SmOk Tryz.prog (spec_l4Asc.sm k) :=
  sm_ok mixed (E := spec_l4Asc.E) (pts := spec_l4Asc.pts) (fun k => ⟨⟨tysOk, by kernel_rfl⟩, forall_cons ⟨spec_l1In.ok k, e92⟩ (forall_nil)⟩) (fun _ => rfl) (fun _ => rfl)
    ⟨Tryz.func145, by kernel_rfl, by kernel_rfl, by kernel_rfl, by kernel_rfl, by kernel_rfl, by kernel_rfl⟩ (forall_cons (fun x => ⟨rfl, fun k => spec_l4Asc.h5 k x.1 x.2.1 x.2.2.1 x.2.2.2.1⟩) (forall_nil)) (fun k x => spec_l4Asc.hf k x.1 x.2.1 x.2.2.1) k
noncomputable def b83 : Code := Tryz.f83.body.getD .skip
theorem e83 : OM.Entry Tryz.prog 83 := ⟨_, Tryz.func83, by kernel_rfl, by kernel_rfl⟩
@[reducible] noncomputable def spec_NodesOk.g : Sig := ⟨[.fz tConfig, .fz (.sl (.int .i64))], [.v .bool .z], []⟩
@[reducible] noncomputable def spec_NodesOk.fk : Nat → denI spec_NodesOk.g.pms → Option (denR (outTys spec_NodesOk.g.rts spec_NodesOk.g.pms)) := fun k x => spec_NodesOk.f k x.1 x.2.1
@[reducible] noncomputable def spec_NodesOk.sm (k : Nat) : Sm := ⟨83, spec_NodesOk.g.pms, spec_NodesOk.g.rts, spec_NodesOk.fk k⟩
noncomputable def spec_NodesOk.E (k : Nat) : Env := ⟨tys, [spec_ConfigOk.sm k, spec_l4Asc.sm k], [], [], []⟩
noncomputable def spec_NodesOk.pts : List (Pt (denR (outTys spec_NodesOk.g.rts spec_NodesOk.g.pms))) := []
theorem spec_NodesOk.hf (k : Nat) (a0 : Config) (a1 : (List Int)) : (spec_NodesOk.f k a0 a1 : Option (denR (outTys spec_NodesOk.g.rts spec_NodesOk.g.pms))) = evC (spec_NodesOk.E k) (fun κ s => lhOf k κ s spec_NodesOk.pts) b83 (OM.start spec_NodesOk.g.pms 0 (a0, a1, ())) (OM.fin spec_NodesOk.g Tryz.f83.results.toList) := by kernel_rfl
theorem spec_NodesOk.ok (k : Nat) : SmOk Tryz.prog (spec_NodesOk.sm k) :=
  sm_ok mixed (E := spec_NodesOk.E) (pts := spec_NodesOk.pts) (fun k => ⟨⟨tysOk, by kernel_rfl⟩, forall_cons ⟨spec_ConfigOk.ok k, e82⟩ (forall_cons ⟨spec_l4Asc.ok k, e145⟩ (forall_nil))⟩) (fun _ => rfl) (fun _ => rfl)
    ⟨Tryz.func83, by kernel_rfl, by kernel_rfl, by kernel_rfl, by kernel_rfl, by kernel_rfl, by kernel_rfl⟩ (forall_nil) (fun k x => spec_NodesOk.hf k x.1 x.2.1) k
noncomputable def b146 : Code := Tryz.f146.body.getD .skip
theorem e146 : OM.Entry Tryz.prog 146 := ⟨_, Tryz.func146, by kernel_rfl, by kernel_rfl⟩
@[reducible] noncomputable def spec_l4Span.g : Sig := ⟨[.fz tConfig, .fz (.sl (.int .i64))], [.v (.int .i64) .z], []⟩
@[reducible] noncomputable def spec_l4Span.fk : Nat → denI spec_l4Span.g.pms → Option (denR (outTys spec_l4Span.g.rts spec_l4Span.g.pms)) := fun k x => spec_l4Span.f k x.1 x.2.1
@[reducible] noncomputable def spec_l4Span.sm (k : Nat) : Sm := ⟨146, spec_l4Span.g.pms, spec_l4Span.g.rts, spec_l4Span.fk k⟩
noncomputable def spec_l4Span.E (k : Nat) : Env := ⟨tys, [], [23], [], []⟩
@[reducible] noncomputable def spec_l4Span.s9 : List Slot := [.v 4 (.sl (.int .i64)) .z [] 0, .r 8 9 [] tConfig, .v 20 (.sl .bool) (.own .z) [] 0, .v 24 (.int .i64) .z [] 0, .v 28 (.int .i64) .z [] 0, .v 9 tConfig .z [] 0]
noncomputable def spec_l4Span.pts : List (Pt (denR (outTys spec_l4Span.g.rts spec_l4Span.g.pms))) := [⟨9, spec_l4Span.s9, fun k x => spec_l4Span.p9 k x.1 x.2.1 x.2.2.1 x.2.2.2.1 x.2.2.2.2.1⟩]
theorem spec_l4Span.h9 (k : Nat) (x0 : (List Int)) (x1 : (List Bool)) (x2 : Int) (x3 : Int) (x4 : Config) : (spec_l4Span.p9 (k + 1) x0 x1 x2 x3 x4 : Option (denR (outTys spec_l4Span.g.rts spec_l4Span.g.pms))) = evAt (spec_l4Span.E k) (fun κ s => lhOf k κ s spec_l4Span.pts) 9 b146 (unproj spec_l4Span.s9 (x0, x1, x2, x3, x4, ())) (OM.fin spec_l4Span.g Tryz.f146.results.toList) := by kernel_rfl
theorem spec_l4Span.hf (k : Nat) (a0 : Config) (a1 : (List Int)) : (spec_l4Span.f k a0 a1 : Option (denR (outTys spec_l4Span.g.rts spec_l4Span.g.pms))) = evC (spec_l4Span.E k) (fun κ s => lhOf k κ s spec_l4Span.pts) b146 (OM.start spec_l4Span.g.pms 0 (a0, a1, ())) (OM.fin spec_l4Span.g Tryz.f146.results.toList) := by kernel_rfl
theorem spec_l4Span.ok (k : Nat) : SmOk Tryz.prog (spec_l4Span.sm k) :=
  sm_ok mixed (E := spec_l4Span.E) (pts := spec_l4Span.pts) (fun k => ⟨⟨tysOk, by kernel_rfl⟩, forall_nil⟩) (fun _ => rfl) (fun _ => rfl)
    ⟨Tryz.func146, by kernel_rfl, by kernel_rfl, by kernel_rfl, by kernel_rfl, by kernel_rfl, by kernel_rfl⟩ (forall_cons (fun x => ⟨rfl, fun k => spec_l4Span.h9 k x.1 x.2.1 x.2.2.1 x.2.2.2.1 x.2.2.2.2.1⟩) (forall_nil)) (fun k x => spec_l4Span.hf k x.1 x.2.1) k
noncomputable def b84 : Code := Tryz.f84.body.getD .skip
theorem e84 : OM.Entry Tryz.prog 84 := ⟨_, Tryz.func84, by kernel_rfl, by kernel_rfl⟩
@[reducible] noncomputable def spec_Holds.g : Sig := ⟨[.fz tConfig, .fz (.sl (.int .i64))], [.v .bool .z], []⟩
@[reducible] noncomputable def spec_Holds.fk : Nat → denI spec_Holds.g.pms → Option (denR (outTys spec_Holds.g.rts spec_Holds.g.pms)) := fun k x => spec_Holds.f k x.1 x.2.1
@[reducible] noncomputable def spec_Holds.sm (k : Nat) : Sm := ⟨84, spec_Holds.g.pms, spec_Holds.g.rts, spec_Holds.fk k⟩
noncomputable def spec_Holds.E (k : Nat) : Env := ⟨tys, [spec_NodesOk.sm k, spec_l4Span.sm k], [], [], []⟩
noncomputable def spec_Holds.pts : List (Pt (denR (outTys spec_Holds.g.rts spec_Holds.g.pms))) := []
theorem spec_Holds.hf (k : Nat) (a0 : Config) (a1 : (List Int)) : (spec_Holds.f k a0 a1 : Option (denR (outTys spec_Holds.g.rts spec_Holds.g.pms))) = evC (spec_Holds.E k) (fun κ s => lhOf k κ s spec_Holds.pts) b84 (OM.start spec_Holds.g.pms 0 (a0, a1, ())) (OM.fin spec_Holds.g Tryz.f84.results.toList) := by kernel_rfl
theorem spec_Holds.ok (k : Nat) : SmOk Tryz.prog (spec_Holds.sm k) :=
  sm_ok mixed (E := spec_Holds.E) (pts := spec_Holds.pts) (fun k => ⟨⟨tysOk, by kernel_rfl⟩, forall_cons ⟨spec_NodesOk.ok k, e83⟩ (forall_cons ⟨spec_l4Span.ok k, e146⟩ (forall_nil))⟩) (fun _ => rfl) (fun _ => rfl)
    ⟨Tryz.func84, by kernel_rfl, by kernel_rfl, by kernel_rfl, by kernel_rfl, by kernel_rfl, by kernel_rfl⟩ (forall_nil) (fun k x => spec_Holds.hf k x.1 x.2.1) k
noncomputable def b93 : Code := Tryz.f93.body.getD .skip
theorem e93 : OM.Entry Tryz.prog 93 := ⟨_, Tryz.func93, by kernel_rfl, by kernel_rfl⟩
@[reducible] noncomputable def spec_PlaceOk.g : Sig := ⟨[.fz (.int .i64)], [.v .bool .z], []⟩
@[reducible] noncomputable def spec_PlaceOk.fk : Nat → denI spec_PlaceOk.g.pms → Option (denR (outTys spec_PlaceOk.g.rts spec_PlaceOk.g.pms)) := fun k x => spec_PlaceOk.f x.1
@[reducible] noncomputable def spec_PlaceOk.sm (k : Nat) : Sm := ⟨93, spec_PlaceOk.g.pms, spec_PlaceOk.g.rts, spec_PlaceOk.fk k⟩
noncomputable def spec_PlaceOk.E (k : Nat) : Env := ⟨tys, [spec_l1In.sm k], [], [], []⟩
noncomputable def spec_PlaceOk.pts : List (Pt (denR (outTys spec_PlaceOk.g.rts spec_PlaceOk.g.pms))) := []
theorem spec_PlaceOk.hf (k : Nat) (a0 : Int) : (spec_PlaceOk.f a0 : Option (denR (outTys spec_PlaceOk.g.rts spec_PlaceOk.g.pms))) = evC (spec_PlaceOk.E k) (fun κ s => lhOf k κ s spec_PlaceOk.pts) b93 (OM.start spec_PlaceOk.g.pms 0 (a0, ())) (OM.fin spec_PlaceOk.g Tryz.f93.results.toList) := by kernel_rfl
theorem spec_PlaceOk.ok (k : Nat) : SmOk Tryz.prog (spec_PlaceOk.sm k) :=
  sm_ok mixed (E := spec_PlaceOk.E) (pts := spec_PlaceOk.pts) (fun k => ⟨⟨tysOk, by kernel_rfl⟩, forall_cons ⟨spec_l1In.ok k, e92⟩ (forall_nil)⟩) (fun _ => rfl) (fun _ => rfl)
    ⟨Tryz.func93, by kernel_rfl, by kernel_rfl, by kernel_rfl, by kernel_rfl, by kernel_rfl, by kernel_rfl⟩ (forall_nil) (fun k x => spec_PlaceOk.hf k x.1) k
noncomputable def b94 : Code := Tryz.f94.body.getD .skip
theorem e94 : OM.Entry Tryz.prog 94 := ⟨_, Tryz.func94, by kernel_rfl, by kernel_rfl⟩
@[reducible] noncomputable def spec_EpochOf.g : Sig := ⟨[.fz (.int .i64)], [.v (.int .i64) .z], []⟩
@[reducible] noncomputable def spec_EpochOf.fk : Nat → denI spec_EpochOf.g.pms → Option (denR (outTys spec_EpochOf.g.rts spec_EpochOf.g.pms)) := fun k x => spec_EpochOf.f x.1
@[reducible] noncomputable def spec_EpochOf.sm (k : Nat) : Sm := ⟨94, spec_EpochOf.g.pms, spec_EpochOf.g.rts, spec_EpochOf.fk k⟩
noncomputable def spec_EpochOf.E (k : Nat) : Env := ⟨tys, [spec_PlaceOk.sm k], [], [], []⟩
noncomputable def spec_EpochOf.pts : List (Pt (denR (outTys spec_EpochOf.g.rts spec_EpochOf.g.pms))) := []
theorem spec_EpochOf.hf (k : Nat) (a0 : Int) : (spec_EpochOf.f a0 : Option (denR (outTys spec_EpochOf.g.rts spec_EpochOf.g.pms))) = evC (spec_EpochOf.E k) (fun κ s => lhOf k κ s spec_EpochOf.pts) b94 (OM.start spec_EpochOf.g.pms 0 (a0, ())) (OM.fin spec_EpochOf.g Tryz.f94.results.toList) := by kernel_rfl
theorem spec_EpochOf.ok (k : Nat) : SmOk Tryz.prog (spec_EpochOf.sm k) :=
  sm_ok mixed (E := spec_EpochOf.E) (pts := spec_EpochOf.pts) (fun k => ⟨⟨tysOk, by kernel_rfl⟩, forall_cons ⟨spec_PlaceOk.ok k, e93⟩ (forall_nil)⟩) (fun _ => rfl) (fun _ => rfl)
    ⟨Tryz.func94, by kernel_rfl, by kernel_rfl, by kernel_rfl, by kernel_rfl, by kernel_rfl, by kernel_rfl⟩ (forall_nil) (fun k x => spec_EpochOf.hf k x.1) k
noncomputable def b149 : Code := Tryz.f149.body.getD .skip
theorem e149 : OM.Entry Tryz.prog 149 := ⟨_, Tryz.func149, by kernel_rfl, by kernel_rfl⟩
@[reducible] noncomputable def spec_EntryOk.g : Sig := ⟨[.fz tEntry], [.v .bool .z], []⟩
@[reducible] noncomputable def spec_EntryOk.fk : Nat → denI spec_EntryOk.g.pms → Option (denR (outTys spec_EntryOk.g.rts spec_EntryOk.g.pms)) := fun k x => spec_EntryOk.f k x.1
@[reducible] noncomputable def spec_EntryOk.sm (k : Nat) : Sm := ⟨149, spec_EntryOk.g.pms, spec_EntryOk.g.rts, spec_EntryOk.fk k⟩
noncomputable def spec_EntryOk.E (k : Nat) : Env := ⟨tys, [spec_l1In.sm k, spec_PlaceOk.sm k, spec_EpochOf.sm k], [], [3], []⟩
@[reducible] noncomputable def spec_EntryOk.s6 : List Slot := [.r 4 5 [] tEntry, .v 5 tEntry .z [] 0]
noncomputable def spec_EntryOk.pts : List (Pt (denR (outTys spec_EntryOk.g.rts spec_EntryOk.g.pms))) := [⟨6, spec_EntryOk.s6, fun k x => spec_EntryOk.p6 k x.1⟩]
theorem spec_EntryOk.h6 (k : Nat) (x0 : Entry) : (spec_EntryOk.p6 (k + 1) x0 : Option (denR (outTys spec_EntryOk.g.rts spec_EntryOk.g.pms))) = evAt (spec_EntryOk.E k) (fun κ s => lhOf k κ s spec_EntryOk.pts) 6 b149 (unproj spec_EntryOk.s6 (x0, ())) (OM.fin spec_EntryOk.g Tryz.f149.results.toList) := by kernel_rfl
theorem spec_EntryOk.hf (k : Nat) (a0 : Entry) : (spec_EntryOk.f k a0 : Option (denR (outTys spec_EntryOk.g.rts spec_EntryOk.g.pms))) = evC (spec_EntryOk.E k) (fun κ s => lhOf k κ s spec_EntryOk.pts) b149 (OM.start spec_EntryOk.g.pms 0 (a0, ())) (OM.fin spec_EntryOk.g Tryz.f149.results.toList) := by kernel_rfl
theorem spec_EntryOk.ok (k : Nat) : SmOk Tryz.prog (spec_EntryOk.sm k) :=
  sm_ok mixed (E := spec_EntryOk.E) (pts := spec_EntryOk.pts) (fun k => ⟨⟨tysOk, by kernel_rfl⟩, forall_cons ⟨spec_l1In.ok k, e92⟩ (forall_cons ⟨spec_PlaceOk.ok k, e93⟩ (forall_cons ⟨spec_EpochOf.ok k, e94⟩ (forall_nil)))⟩) (fun _ => rfl) (fun _ => rfl)
    ⟨Tryz.func149, by kernel_rfl, by kernel_rfl, by kernel_rfl, by kernel_rfl, by kernel_rfl, by kernel_rfl⟩ (forall_cons (fun x => ⟨rfl, fun k => spec_EntryOk.h6 k x.1⟩) (forall_nil)) (fun k x => spec_EntryOk.hf k x.1) k
noncomputable def b147 : Code := Tryz.f147.body.getD .skip
theorem e147 : OM.Entry Tryz.prog 147 := ⟨_, Tryz.func147, by kernel_rfl, by kernel_rfl⟩
@[reducible] noncomputable def spec_l6List.g : Sig := ⟨[.fz (.sl tEntry), .fz (.int .i64)], [.v .bool .z], []⟩
@[reducible] noncomputable def spec_l6List.fk : Nat → denI spec_l6List.g.pms → Option (denR (outTys spec_l6List.g.rts spec_l6List.g.pms)) := fun k x => spec_l6List.f k x.1 x.2.1
@[reducible] noncomputable def spec_l6List.sm (k : Nat) : Sm := ⟨147, spec_l6List.g.pms, spec_l6List.g.rts, spec_l6List.fk k⟩
noncomputable def spec_l6List.E (k : Nat) : Env := ⟨tys, [spec_EntryOk.sm k], [], [], []⟩
@[reducible] noncomputable def spec_l6List.s9 : List Slot := [.v 0 (.sl tEntry) .z [] 0, .v 20 (.int .i64) .z [] 0]
noncomputable def spec_l6List.pts : List (Pt (denR (outTys spec_l6List.g.rts spec_l6List.g.pms))) := [⟨9, spec_l6List.s9, fun k x => spec_l6List.p9 k x.1 x.2.1⟩]
theorem spec_l6List.h9 (k : Nat) (x0 : (List Entry)) (x1 : Int) : (spec_l6List.p9 (k + 1) x0 x1 : Option (denR (outTys spec_l6List.g.rts spec_l6List.g.pms))) = evAt (spec_l6List.E k) (fun κ s => lhOf k κ s spec_l6List.pts) 9 b147 (unproj spec_l6List.s9 (x0, x1, ())) (OM.fin spec_l6List.g Tryz.f147.results.toList) := by kernel_rfl
theorem spec_l6List.hf (k : Nat) (a0 : (List Entry)) (a1 : Int) : (spec_l6List.f k a0 a1 : Option (denR (outTys spec_l6List.g.rts spec_l6List.g.pms))) = evC (spec_l6List.E k) (fun κ s => lhOf k κ s spec_l6List.pts) b147 (OM.start spec_l6List.g.pms 0 (a0, a1, ())) (OM.fin spec_l6List.g Tryz.f147.results.toList) := by kernel_rfl
theorem spec_l6List.ok (k : Nat) : SmOk Tryz.prog (spec_l6List.sm k) :=
  sm_ok mixed (E := spec_l6List.E) (pts := spec_l6List.pts) (fun k => ⟨⟨tysOk, by kernel_rfl⟩, forall_cons ⟨spec_EntryOk.ok k, e149⟩ (forall_nil)⟩) (fun _ => rfl) (fun _ => rfl)
    ⟨Tryz.func147, by kernel_rfl, by kernel_rfl, by kernel_rfl, by kernel_rfl, by kernel_rfl, by kernel_rfl⟩ (forall_cons (fun x => ⟨rfl, fun k => spec_l6List.h9 k x.1 x.2.1⟩) (forall_nil)) (fun k x => spec_l6List.hf k x.1 x.2.1) k
noncomputable def b148 : Code := Tryz.f148.body.getD .skip
theorem e148 : OM.Entry Tryz.prog 148 := ⟨_, Tryz.func148, by kernel_rfl, by kernel_rfl⟩
@[reducible] noncomputable def spec_l6Asc.g : Sig := ⟨[.fz (.sl tEntry)], [.v .bool .z], []⟩
@[reducible] noncomputable def spec_l6Asc.fk : Nat → denI spec_l6Asc.g.pms → Option (denR (outTys spec_l6Asc.g.rts spec_l6Asc.g.pms)) := fun k x => spec_l6Asc.f k x.1
@[reducible] noncomputable def spec_l6Asc.sm (k : Nat) : Sm := ⟨148, spec_l6Asc.g.pms, spec_l6Asc.g.rts, spec_l6Asc.fk k⟩
noncomputable def spec_l6Asc.E (k : Nat) : Env := ⟨tys, [], [], [], []⟩
@[reducible] noncomputable def spec_l6Asc.s5 : List Slot := [.v 0 (.sl tEntry) .z [] 0, .v 12 (.int .i64) .z [] 0]
noncomputable def spec_l6Asc.pts : List (Pt (denR (outTys spec_l6Asc.g.rts spec_l6Asc.g.pms))) := [⟨5, spec_l6Asc.s5, fun k x => spec_l6Asc.p5 k x.1 x.2.1⟩]
theorem spec_l6Asc.h5 (k : Nat) (x0 : (List Entry)) (x1 : Int) : (spec_l6Asc.p5 (k + 1) x0 x1 : Option (denR (outTys spec_l6Asc.g.rts spec_l6Asc.g.pms))) = evAt (spec_l6Asc.E k) (fun κ s => lhOf k κ s spec_l6Asc.pts) 5 b148 (unproj spec_l6Asc.s5 (x0, x1, ())) (OM.fin spec_l6Asc.g Tryz.f148.results.toList) := by kernel_rfl
theorem spec_l6Asc.hf (k : Nat) (a0 : (List Entry)) : (spec_l6Asc.f k a0 : Option (denR (outTys spec_l6Asc.g.rts spec_l6Asc.g.pms))) = evC (spec_l6Asc.E k) (fun κ s => lhOf k κ s spec_l6Asc.pts) b148 (OM.start spec_l6Asc.g.pms 0 (a0, ())) (OM.fin spec_l6Asc.g Tryz.f148.results.toList) := by kernel_rfl
theorem spec_l6Asc.ok (k : Nat) : SmOk Tryz.prog (spec_l6Asc.sm k) :=
  sm_ok mixed (E := spec_l6Asc.E) (pts := spec_l6Asc.pts) (fun k => ⟨⟨tysOk, by kernel_rfl⟩, forall_nil⟩) (fun _ => rfl) (fun _ => rfl)
    ⟨Tryz.func148, by kernel_rfl, by kernel_rfl, by kernel_rfl, by kernel_rfl, by kernel_rfl, by kernel_rfl⟩ (forall_cons (fun x => ⟨rfl, fun k => spec_l6Asc.h5 k x.1 x.2.1⟩) (forall_nil)) (fun k x => spec_l6Asc.hf k x.1) k
noncomputable def b85 : Code := Tryz.f85.body.getD .skip
theorem e85 : OM.Entry Tryz.prog 85 := ⟨_, Tryz.func85, by kernel_rfl, by kernel_rfl⟩
@[reducible] noncomputable def spec_StoreOk.g : Sig := ⟨[.fz tStore], [.v .bool .z], []⟩
@[reducible] noncomputable def spec_StoreOk.fk : Nat → denI spec_StoreOk.g.pms → Option (denR (outTys spec_StoreOk.g.rts spec_StoreOk.g.pms)) := fun k x => spec_StoreOk.f k x.1
@[reducible] noncomputable def spec_StoreOk.sm (k : Nat) : Sm := ⟨85, spec_StoreOk.g.pms, spec_StoreOk.g.rts, spec_StoreOk.fk k⟩
noncomputable def spec_StoreOk.E (k : Nat) : Env := ⟨tys, [spec_l1In.sm k, spec_l6List.sm k, spec_l6Asc.sm k], [], [], []⟩
noncomputable def spec_StoreOk.pts : List (Pt (denR (outTys spec_StoreOk.g.rts spec_StoreOk.g.pms))) := []
theorem spec_StoreOk.hf (k : Nat) (a0 : Store) : (spec_StoreOk.f k a0 : Option (denR (outTys spec_StoreOk.g.rts spec_StoreOk.g.pms))) = evC (spec_StoreOk.E k) (fun κ s => lhOf k κ s spec_StoreOk.pts) b85 (OM.start spec_StoreOk.g.pms 0 (a0, ())) (OM.fin spec_StoreOk.g Tryz.f85.results.toList) := by kernel_rfl
theorem spec_StoreOk.ok (k : Nat) : SmOk Tryz.prog (spec_StoreOk.sm k) :=
  sm_ok mixed (E := spec_StoreOk.E) (pts := spec_StoreOk.pts) (fun k => ⟨⟨tysOk, by kernel_rfl⟩, forall_cons ⟨spec_l1In.ok k, e92⟩ (forall_cons ⟨spec_l6List.ok k, e147⟩ (forall_cons ⟨spec_l6Asc.ok k, e148⟩ (forall_nil)))⟩) (fun _ => rfl) (fun _ => rfl)
    ⟨Tryz.func85, by kernel_rfl, by kernel_rfl, by kernel_rfl, by kernel_rfl, by kernel_rfl, by kernel_rfl⟩ (forall_nil) (fun k x => spec_StoreOk.hf k x.1) k
noncomputable def b86 : Code := Tryz.f86.body.getD .skip
theorem e86 : OM.Entry Tryz.prog 86 := ⟨_, Tryz.func86, by kernel_rfl, by kernel_rfl⟩
@[reducible] noncomputable def spec_l4Has.g : Sig := ⟨[.fz (.sl (.int .i64)), .fz (.int .i64)], [.v .bool .z], []⟩
@[reducible] noncomputable def spec_l4Has.fk : Nat → denI spec_l4Has.g.pms → Option (denR (outTys spec_l4Has.g.rts spec_l4Has.g.pms)) := fun k x => spec_l4Has.f k x.1 x.2.1
@[reducible] noncomputable def spec_l4Has.sm (k : Nat) : Sm := ⟨86, spec_l4Has.g.pms, spec_l4Has.g.rts, spec_l4Has.fk k⟩
noncomputable def spec_l4Has.E (k : Nat) : Env := ⟨tys, [], [], [], []⟩
@[reducible] noncomputable def spec_l4Has.s5 : List Slot := [.v 0 (.sl (.int .i64)) .z [] 0, .v 4 (.int .i64) .z [] 0, .v 20 (.int .i64) .z [] 0]
noncomputable def spec_l4Has.pts : List (Pt (denR (outTys spec_l4Has.g.rts spec_l4Has.g.pms))) := [⟨5, spec_l4Has.s5, fun k x => spec_l4Has.p5 k x.1 x.2.1 x.2.2.1⟩]
theorem spec_l4Has.h5 (k : Nat) (x0 : (List Int)) (x1 : Int) (x2 : Int) : (spec_l4Has.p5 (k + 1) x0 x1 x2 : Option (denR (outTys spec_l4Has.g.rts spec_l4Has.g.pms))) = evAt (spec_l4Has.E k) (fun κ s => lhOf k κ s spec_l4Has.pts) 5 b86 (unproj spec_l4Has.s5 (x0, x1, x2, ())) (OM.fin spec_l4Has.g Tryz.f86.results.toList) := by kernel_rfl
theorem spec_l4Has.hf (k : Nat) (a0 : (List Int)) (a1 : Int) : (spec_l4Has.f k a0 a1 : Option (denR (outTys spec_l4Has.g.rts spec_l4Has.g.pms))) = evC (spec_l4Has.E k) (fun κ s => lhOf k κ s spec_l4Has.pts) b86 (OM.start spec_l4Has.g.pms 0 (a0, a1, ())) (OM.fin spec_l4Has.g Tryz.f86.results.toList) := by kernel_rfl
theorem spec_l4Has.ok (k : Nat) : SmOk Tryz.prog (spec_l4Has.sm k) :=
  sm_ok mixed (E := spec_l4Has.E) (pts := spec_l4Has.pts) (fun k => ⟨⟨tysOk, by kernel_rfl⟩, forall_nil⟩) (fun _ => rfl) (fun _ => rfl)
    ⟨Tryz.func86, by kernel_rfl, by kernel_rfl, by kernel_rfl, by kernel_rfl, by kernel_rfl, by kernel_rfl⟩ (forall_cons (fun x => ⟨rfl, fun k => spec_l4Has.h5 k x.1 x.2.1 x.2.2.1⟩) (forall_nil)) (fun k x => spec_l4Has.hf k x.1 x.2.1) k
noncomputable def b87 : Code := Tryz.f87.body.getD .skip
theorem e87 : OM.Entry Tryz.prog 87 := ⟨_, Tryz.func87, by kernel_rfl, by kernel_rfl⟩
@[reducible] noncomputable def spec_l12Zero.g : Sig := ⟨[.fz tStore], [.v .bool .z], []⟩
@[reducible] noncomputable def spec_l12Zero.fk : Nat → denI spec_l12Zero.g.pms → Option (denR (outTys spec_l12Zero.g.rts spec_l12Zero.g.pms)) := fun k x => spec_l12Zero.f x.1
@[reducible] noncomputable def spec_l12Zero.sm (k : Nat) : Sm := ⟨87, spec_l12Zero.g.pms, spec_l12Zero.g.rts, spec_l12Zero.fk k⟩
noncomputable def spec_l12Zero.E (k : Nat) : Env := ⟨tys, [], [], [], []⟩
noncomputable def spec_l12Zero.pts : List (Pt (denR (outTys spec_l12Zero.g.rts spec_l12Zero.g.pms))) := []
theorem spec_l12Zero.hf (k : Nat) (a0 : Store) : (spec_l12Zero.f a0 : Option (denR (outTys spec_l12Zero.g.rts spec_l12Zero.g.pms))) = evC (spec_l12Zero.E k) (fun κ s => lhOf k κ s spec_l12Zero.pts) b87 (OM.start spec_l12Zero.g.pms 0 (a0, ())) (OM.fin spec_l12Zero.g Tryz.f87.results.toList) := by kernel_rfl
theorem spec_l12Zero.ok (k : Nat) : SmOk Tryz.prog (spec_l12Zero.sm k) :=
  sm_ok mixed (E := spec_l12Zero.E) (pts := spec_l12Zero.pts) (fun k => ⟨⟨tysOk, by kernel_rfl⟩, forall_nil⟩) (fun _ => rfl) (fun _ => rfl)
    ⟨Tryz.func87, by kernel_rfl, by kernel_rfl, by kernel_rfl, by kernel_rfl, by kernel_rfl, by kernel_rfl⟩ (forall_nil) (fun k x => spec_l12Zero.hf k x.1) k
noncomputable def b33 : Code := Tryz.f33.body.getD .skip
theorem e33 : OM.Entry Tryz.prog 33 := ⟨_, Tryz.func33, by kernel_rfl, by kernel_rfl⟩
@[reducible] noncomputable def spec_l12Nodes.g : Sig := ⟨[.fz tWorld], [.v .bool .z], []⟩
@[reducible] noncomputable def spec_l12Nodes.fk : Nat → denI spec_l12Nodes.g.pms → Option (denR (outTys spec_l12Nodes.g.rts spec_l12Nodes.g.pms)) := fun k x => spec_l12Nodes.f k x.1
@[reducible] noncomputable def spec_l12Nodes.sm (k : Nat) : Sm := ⟨33, spec_l12Nodes.g.pms, spec_l12Nodes.g.rts, spec_l12Nodes.fk k⟩
noncomputable def spec_l12Nodes.E (k : Nat) : Env := ⟨tys, [spec_ConfigOk.sm k, spec_NodesOk.sm k, spec_Holds.sm k, spec_StoreOk.sm k, spec_l4Has.sm k, spec_l12Zero.sm k], [], [3], []⟩
@[reducible] noncomputable def spec_l12Nodes.s6 : List Slot := [.r 4 5 [] tWorld, .v 5 tWorld .z [] 0]
@[reducible] noncomputable def spec_l12Nodes.s9 : List Slot := [.r 4 5 [] tWorld, .v 12 (.int .i64) .z [] 0, .v 5 tWorld .z [] 0]
noncomputable def spec_l12Nodes.pts : List (Pt (denR (outTys spec_l12Nodes.g.rts spec_l12Nodes.g.pms))) := [⟨6, spec_l12Nodes.s6, fun k x => spec_l12Nodes.p6 k x.1⟩, ⟨9, spec_l12Nodes.s9, fun k x => spec_l12Nodes.p9 k x.1 x.2.1⟩]
theorem spec_l12Nodes.h6 (k : Nat) (x0 : World) : (spec_l12Nodes.p6 (k + 1) x0 : Option (denR (outTys spec_l12Nodes.g.rts spec_l12Nodes.g.pms))) = evAt (spec_l12Nodes.E k) (fun κ s => lhOf k κ s spec_l12Nodes.pts) 6 b33 (unproj spec_l12Nodes.s6 (x0, ())) (OM.fin spec_l12Nodes.g Tryz.f33.results.toList) := by kernel_rfl
theorem spec_l12Nodes.h9 (k : Nat) (x0 : Int) (x1 : World) : (spec_l12Nodes.p9 (k + 1) x0 x1 : Option (denR (outTys spec_l12Nodes.g.rts spec_l12Nodes.g.pms))) = evAt (spec_l12Nodes.E k) (fun κ s => lhOf k κ s spec_l12Nodes.pts) 9 b33 (unproj spec_l12Nodes.s9 (x0, x1, ())) (OM.fin spec_l12Nodes.g Tryz.f33.results.toList) := by kernel_rfl
theorem spec_l12Nodes.hf (k : Nat) (a0 : World) : (spec_l12Nodes.f k a0 : Option (denR (outTys spec_l12Nodes.g.rts spec_l12Nodes.g.pms))) = evC (spec_l12Nodes.E k) (fun κ s => lhOf k κ s spec_l12Nodes.pts) b33 (OM.start spec_l12Nodes.g.pms 0 (a0, ())) (OM.fin spec_l12Nodes.g Tryz.f33.results.toList) := by kernel_rfl
theorem spec_l12Nodes.ok (k : Nat) : SmOk Tryz.prog (spec_l12Nodes.sm k) :=
  sm_ok mixed (E := spec_l12Nodes.E) (pts := spec_l12Nodes.pts) (fun k => ⟨⟨tysOk, by kernel_rfl⟩, forall_cons ⟨spec_ConfigOk.ok k, e82⟩ (forall_cons ⟨spec_NodesOk.ok k, e83⟩ (forall_cons ⟨spec_Holds.ok k, e84⟩ (forall_cons ⟨spec_StoreOk.ok k, e85⟩ (forall_cons ⟨spec_l4Has.ok k, e86⟩ (forall_cons ⟨spec_l12Zero.ok k, e87⟩ (forall_nil))))))⟩) (fun _ => rfl) (fun _ => rfl)
    ⟨Tryz.func33, by kernel_rfl, by kernel_rfl, by kernel_rfl, by kernel_rfl, by kernel_rfl, by kernel_rfl⟩ (forall_cons (fun x => ⟨rfl, fun k => spec_l12Nodes.h6 k x.1⟩) (forall_cons (fun x => ⟨rfl, fun k => spec_l12Nodes.h9 k x.1 x.2.1⟩) (forall_nil))) (fun k x => spec_l12Nodes.hf k x.1) k
noncomputable def b88 : Code := Tryz.f88.body.getD .skip
theorem e88 : OM.Entry Tryz.prog 88 := ⟨_, Tryz.func88, by kernel_rfl, by kernel_rfl⟩
@[reducible] noncomputable def spec_RegOk.g : Sig := ⟨[.fz tConfig, .fz tRegister], [.v .bool .z], []⟩
@[reducible] noncomputable def spec_RegOk.fk : Nat → denI spec_RegOk.g.pms → Option (denR (outTys spec_RegOk.g.rts spec_RegOk.g.pms)) := fun k x => spec_RegOk.f k x.1 x.2.1
@[reducible] noncomputable def spec_RegOk.sm (k : Nat) : Sm := ⟨88, spec_RegOk.g.pms, spec_RegOk.g.rts, spec_RegOk.fk k⟩
noncomputable def spec_RegOk.E (k : Nat) : Env := ⟨tys, [spec_l1In.sm k, spec_ConfigOk.sm k, spec_Holds.sm k, spec_PlaceOk.sm k, spec_EpochOf.sm k], [45], [4, 10], []⟩
@[reducible] noncomputable def spec_RegOk.s8 : List Slot := [.r 8 9 [] tConfig, .r 12 13 [] tRegister, .v 20 (.int .i64) .z [] 0, .v 9 tConfig .z [] 0, .v 13 tRegister .z [] 0]
@[reducible] noncomputable def spec_RegOk.s11 : List Slot := [.r 8 9 [] tConfig, .r 12 13 [] tRegister, .v 20 (.int .i64) .z [] 0, .v 24 (.int .i64) .z [] 0, .v 9 tConfig .z [] 0, .v 13 tRegister .z [] 0]
@[reducible] noncomputable def spec_RegOk.s20 : List Slot := [.r 8 9 [] tConfig, .r 12 13 [] tRegister, .v 20 (.int .i64) .z [] 0, .v 24 (.int .i64) .z [] 0, .r 28 29 [] tEra, .r 208 29 [.snd, .snd, .fst] (.int .i64), .v 212 (.int .i64) .z [] 0, .v 216 .bool .z [] 0, .v 220 .bool .z [] 0, .r 232 29 [.snd, .fst] .bool, .v 236 .bool .z [] 0, .v 240 .bool .z [] 0, .v 244 .bool .z [] 0, .v 260 .bool .z [] 0, .v 9 tConfig .z [] 0, .v 13 tRegister .z [] 0, .v 29 tEra .z [] 0]
noncomputable def spec_RegOk.pts : List (Pt (denR (outTys spec_RegOk.g.rts spec_RegOk.g.pms))) := [⟨8, spec_RegOk.s8, fun k x => spec_RegOk.p8 k x.1 x.2.1 x.2.2.1⟩, ⟨11, spec_RegOk.s11, fun k x => spec_RegOk.p11 k x.1 x.2.1 x.2.2.1 x.2.2.2.1⟩, ⟨20, spec_RegOk.s20, fun k x => spec_RegOk.p20 k x.1 x.2.1 x.2.2.1 x.2.2.2.1 x.2.2.2.2.1 x.2.2.2.2.2.1 x.2.2.2.2.2.2.1 x.2.2.2.2.2.2.2.1 x.2.2.2.2.2.2.2.2.1 x.2.2.2.2.2.2.2.2.2.1 x.2.2.2.2.2.2.2.2.2.2.1 x.2.2.2.2.2.2.2.2.2.2.2.1⟩]
theorem spec_RegOk.h8 (k : Nat) (x0 : Int) (x1 : Config) (x2 : Register) : (spec_RegOk.p8 (k + 1) x0 x1 x2 : Option (denR (outTys spec_RegOk.g.rts spec_RegOk.g.pms))) = evAt (spec_RegOk.E k) (fun κ s => lhOf k κ s spec_RegOk.pts) 8 b88 (unproj spec_RegOk.s8 (x0, x1, x2, ())) (OM.fin spec_RegOk.g Tryz.f88.results.toList) := by kernel_rfl
theorem spec_RegOk.h11 (k : Nat) (x0 : Int) (x1 : Int) (x2 : Config) (x3 : Register) : (spec_RegOk.p11 (k + 1) x0 x1 x2 x3 : Option (denR (outTys spec_RegOk.g.rts spec_RegOk.g.pms))) = evAt (spec_RegOk.E k) (fun κ s => lhOf k κ s spec_RegOk.pts) 11 b88 (unproj spec_RegOk.s11 (x0, x1, x2, x3, ())) (OM.fin spec_RegOk.g Tryz.f88.results.toList) := by kernel_rfl
theorem spec_RegOk.h20 (k : Nat) (x0 : Int) (x1 : Int) (x2 : Int) (x3 : Bool) (x4 : Bool) (x5 : Bool) (x6 : Bool) (x7 : Bool) (x8 : Bool) (x9 : Config) (x10 : Register) (x11 : Era) : (spec_RegOk.p20 (k + 1) x0 x1 x2 x3 x4 x5 x6 x7 x8 x9 x10 x11 : Option (denR (outTys spec_RegOk.g.rts spec_RegOk.g.pms))) = evAt (spec_RegOk.E k) (fun κ s => lhOf k κ s spec_RegOk.pts) 20 b88 (unproj spec_RegOk.s20 (x0, x1, x2, x3, x4, x5, x6, x7, x8, x9, x10, x11, ())) (OM.fin spec_RegOk.g Tryz.f88.results.toList) := by kernel_rfl
theorem spec_RegOk.hf (k : Nat) (a0 : Config) (a1 : Register) : (spec_RegOk.f k a0 a1 : Option (denR (outTys spec_RegOk.g.rts spec_RegOk.g.pms))) = evC (spec_RegOk.E k) (fun κ s => lhOf k κ s spec_RegOk.pts) b88 (OM.start spec_RegOk.g.pms 0 (a0, a1, ())) (OM.fin spec_RegOk.g Tryz.f88.results.toList) := by kernel_rfl
theorem spec_RegOk.ok (k : Nat) : SmOk Tryz.prog (spec_RegOk.sm k) :=
  sm_ok mixed (E := spec_RegOk.E) (pts := spec_RegOk.pts) (fun k => ⟨⟨tysOk, by kernel_rfl⟩, forall_cons ⟨spec_l1In.ok k, e92⟩ (forall_cons ⟨spec_ConfigOk.ok k, e82⟩ (forall_cons ⟨spec_Holds.ok k, e84⟩ (forall_cons ⟨spec_PlaceOk.ok k, e93⟩ (forall_cons ⟨spec_EpochOf.ok k, e94⟩ (forall_nil)))))⟩) (fun _ => rfl) (fun _ => rfl)
    ⟨Tryz.func88, by kernel_rfl, by kernel_rfl, by kernel_rfl, by kernel_rfl, by kernel_rfl, by kernel_rfl⟩ (forall_cons (fun x => ⟨rfl, fun k => spec_RegOk.h8 k x.1 x.2.1 x.2.2.1⟩) (forall_cons (fun x => ⟨rfl, fun k => spec_RegOk.h11 k x.1 x.2.1 x.2.2.1 x.2.2.2.1⟩) (forall_cons (fun x => ⟨rfl, fun k => spec_RegOk.h20 k x.1 x.2.1 x.2.2.1 x.2.2.2.1 x.2.2.2.2.1 x.2.2.2.2.2.1 x.2.2.2.2.2.2.1 x.2.2.2.2.2.2.2.1 x.2.2.2.2.2.2.2.2.1 x.2.2.2.2.2.2.2.2.2.1 x.2.2.2.2.2.2.2.2.2.2.1 x.2.2.2.2.2.2.2.2.2.2.2.1⟩) (forall_nil)))) (fun k x => spec_RegOk.hf k x.1 x.2.1) k
noncomputable def b89 : Code := Tryz.f89.body.getD .skip
theorem e89 : OM.Entry Tryz.prog 89 := ⟨_, Tryz.func89, by kernel_rfl, by kernel_rfl⟩
@[reducible] noncomputable def spec_WriterOk.g : Sig := ⟨[.fz tConfig, .fz tWriter], [.v .bool .z], []⟩
@[reducible] noncomputable def spec_WriterOk.fk : Nat → denI spec_WriterOk.g.pms → Option (denR (outTys spec_WriterOk.g.rts spec_WriterOk.g.pms)) := fun k x => spec_WriterOk.f k x.1 x.2.1
@[reducible] noncomputable def spec_WriterOk.sm (k : Nat) : Sm := ⟨89, spec_WriterOk.g.pms, spec_WriterOk.g.rts, spec_WriterOk.fk k⟩
noncomputable def spec_WriterOk.E (k : Nat) : Env := ⟨tys, [spec_l1In.sm k, spec_ConfigOk.sm k, spec_NodesOk.sm k, spec_Holds.sm k], [34], [], [4]⟩
@[reducible] noncomputable def spec_WriterOk.s11 : List Slot := [.r 8 9 [] tConfig, .r 12 13 [] tWriter, .v 20 (.int .i64) .z [] 0, .v 24 (.int .i64) .z [] 0, .v 9 tConfig .z [] 0, .v 13 tWriter .z [] 0]
noncomputable def spec_WriterOk.pts : List (Pt (denR (outTys spec_WriterOk.g.rts spec_WriterOk.g.pms))) := [⟨11, spec_WriterOk.s11, fun k x => spec_WriterOk.p11 k x.1 x.2.1 x.2.2.1 x.2.2.2.1⟩]
theorem spec_WriterOk.h11 (k : Nat) (x0 : Int) (x1 : Int) (x2 : Config) (x3 : Writer) : (spec_WriterOk.p11 (k + 1) x0 x1 x2 x3 : Option (denR (outTys spec_WriterOk.g.rts spec_WriterOk.g.pms))) = evAt (spec_WriterOk.E k) (fun κ s => lhOf k κ s spec_WriterOk.pts) 11 b89 (unproj spec_WriterOk.s11 (x0, x1, x2, x3, ())) (OM.fin spec_WriterOk.g Tryz.f89.results.toList) := by kernel_rfl
theorem spec_WriterOk.hf (k : Nat) (a0 : Config) (a1 : Writer) : (spec_WriterOk.f k a0 a1 : Option (denR (outTys spec_WriterOk.g.rts spec_WriterOk.g.pms))) = evC (spec_WriterOk.E k) (fun κ s => lhOf k κ s spec_WriterOk.pts) b89 (OM.start spec_WriterOk.g.pms 0 (a0, a1, ())) (OM.fin spec_WriterOk.g Tryz.f89.results.toList) := by kernel_rfl
theorem spec_WriterOk.ok (k : Nat) : SmOk Tryz.prog (spec_WriterOk.sm k) :=
  sm_ok mixed (E := spec_WriterOk.E) (pts := spec_WriterOk.pts) (fun k => ⟨⟨tysOk, by kernel_rfl⟩, forall_cons ⟨spec_l1In.ok k, e92⟩ (forall_cons ⟨spec_ConfigOk.ok k, e82⟩ (forall_cons ⟨spec_NodesOk.ok k, e83⟩ (forall_cons ⟨spec_Holds.ok k, e84⟩ (forall_nil))))⟩) (fun _ => rfl) (fun _ => rfl)
    ⟨Tryz.func89, by kernel_rfl, by kernel_rfl, by kernel_rfl, by kernel_rfl, by kernel_rfl, by kernel_rfl⟩ (forall_cons (fun x => ⟨rfl, fun k => spec_WriterOk.h11 k x.1 x.2.1 x.2.2.1 x.2.2.2.1⟩) (forall_nil)) (fun k x => spec_WriterOk.hf k x.1 x.2.1) k
noncomputable def b187 : Code := Tryz.f187.body.getD .skip
theorem e187 : OM.Entry Tryz.prog 187 := ⟨_, Tryz.func187, by kernel_rfl, by kernel_rfl⟩
@[reducible] noncomputable def spec_OffOf.g : Sig := ⟨[.fz (.int .i64)], [.v (.int .i64) .z], []⟩
@[reducible] noncomputable def spec_OffOf.fk : Nat → denI spec_OffOf.g.pms → Option (denR (outTys spec_OffOf.g.rts spec_OffOf.g.pms)) := fun k x => spec_OffOf.f x.1
@[reducible] noncomputable def spec_OffOf.sm (k : Nat) : Sm := ⟨187, spec_OffOf.g.pms, spec_OffOf.g.rts, spec_OffOf.fk k⟩
noncomputable def spec_OffOf.E (k : Nat) : Env := ⟨tys, [spec_PlaceOk.sm k], [], [], []⟩
noncomputable def spec_OffOf.pts : List (Pt (denR (outTys spec_OffOf.g.rts spec_OffOf.g.pms))) := []
theorem spec_OffOf.hf (k : Nat) (a0 : Int) : (spec_OffOf.f a0 : Option (denR (outTys spec_OffOf.g.rts spec_OffOf.g.pms))) = evC (spec_OffOf.E k) (fun κ s => lhOf k κ s spec_OffOf.pts) b187 (OM.start spec_OffOf.g.pms 0 (a0, ())) (OM.fin spec_OffOf.g Tryz.f187.results.toList) := by kernel_rfl
theorem spec_OffOf.ok (k : Nat) : SmOk Tryz.prog (spec_OffOf.sm k) :=
  sm_ok mixed (E := spec_OffOf.E) (pts := spec_OffOf.pts) (fun k => ⟨⟨tysOk, by kernel_rfl⟩, forall_cons ⟨spec_PlaceOk.ok k, e93⟩ (forall_nil)⟩) (fun _ => rfl) (fun _ => rfl)
    ⟨Tryz.func187, by kernel_rfl, by kernel_rfl, by kernel_rfl, by kernel_rfl, by kernel_rfl, by kernel_rfl⟩ (forall_nil) (fun k x => spec_OffOf.hf k x.1) k
noncomputable def b150 : Code := Tryz.f150.body.getD .skip
theorem e150 : OM.Entry Tryz.prog 150 := ⟨_, Tryz.func150, by kernel_rfl, by kernel_rfl⟩
@[reducible] noncomputable def spec_l9Last.g : Sig := ⟨[.fz tMend], [.v (.int .i64) .z], []⟩
@[reducible] noncomputable def spec_l9Last.fk : Nat → denI spec_l9Last.g.pms → Option (denR (outTys spec_l9Last.g.rts spec_l9Last.g.pms)) := fun k x => spec_l9Last.f x.1
@[reducible] noncomputable def spec_l9Last.sm (k : Nat) : Sm := ⟨150, spec_l9Last.g.pms, spec_l9Last.g.rts, spec_l9Last.fk k⟩
noncomputable def spec_l9Last.E (k : Nat) : Env := ⟨tys, [spec_OffOf.sm k], [], [], []⟩
noncomputable def spec_l9Last.pts : List (Pt (denR (outTys spec_l9Last.g.rts spec_l9Last.g.pms))) := []
theorem spec_l9Last.hf (k : Nat) (a0 : Mend) : (spec_l9Last.f a0 : Option (denR (outTys spec_l9Last.g.rts spec_l9Last.g.pms))) = evC (spec_l9Last.E k) (fun κ s => lhOf k κ s spec_l9Last.pts) b150 (OM.start spec_l9Last.g.pms 0 (a0, ())) (OM.fin spec_l9Last.g Tryz.f150.results.toList) := by kernel_rfl
theorem spec_l9Last.ok (k : Nat) : SmOk Tryz.prog (spec_l9Last.sm k) :=
  sm_ok mixed (E := spec_l9Last.E) (pts := spec_l9Last.pts) (fun k => ⟨⟨tysOk, by kernel_rfl⟩, forall_cons ⟨spec_OffOf.ok k, e187⟩ (forall_nil)⟩) (fun _ => rfl) (fun _ => rfl)
    ⟨Tryz.func150, by kernel_rfl, by kernel_rfl, by kernel_rfl, by kernel_rfl, by kernel_rfl, by kernel_rfl⟩ (forall_nil) (fun k x => spec_l9Last.hf k x.1) k
noncomputable def b90 : Code := Tryz.f90.body.getD .skip
theorem e90 : OM.Entry Tryz.prog 90 := ⟨_, Tryz.func90, by kernel_rfl, by kernel_rfl⟩
@[reducible] noncomputable def spec_MendOk.g : Sig := ⟨[.fz tConfig, .fz tMend], [.v .bool .z], []⟩
@[reducible] noncomputable def spec_MendOk.fk : Nat → denI spec_MendOk.g.pms → Option (denR (outTys spec_MendOk.g.rts spec_MendOk.g.pms)) := fun k x => spec_MendOk.f k x.1 x.2.1
@[reducible] noncomputable def spec_MendOk.sm (k : Nat) : Sm := ⟨90, spec_MendOk.g.pms, spec_MendOk.g.rts, spec_MendOk.fk k⟩
noncomputable def spec_MendOk.E (k : Nat) : Env := ⟨tys, [spec_l1In.sm k, spec_ConfigOk.sm k, spec_NodesOk.sm k, spec_EpochOf.sm k, spec_EntryOk.sm k, spec_l6Asc.sm k, spec_l9Last.sm k], [], [], []⟩
@[reducible] noncomputable def spec_MendOk.s9 : List Slot := [.r 8 9 [] tConfig, .r 12 13 [] tMend, .v 20 (.int .i64) .z [] 0, .v 9 tConfig .z [] 0, .v 13 tMend .z [] 0]
@[reducible] noncomputable def spec_MendOk.s19 : List Slot := [.r 8 9 [] tConfig, .r 12 13 [] tMend, .v 24 (.int .i64) .z [] 0, .v 9 tConfig .z [] 0, .v 13 tMend .z [] 0]
noncomputable def spec_MendOk.pts : List (Pt (denR (outTys spec_MendOk.g.rts spec_MendOk.g.pms))) := [⟨9, spec_MendOk.s9, fun k x => spec_MendOk.p9 k x.1 x.2.1 x.2.2.1⟩, ⟨19, spec_MendOk.s19, fun k x => spec_MendOk.p19 k x.1 x.2.1 x.2.2.1⟩]
theorem spec_MendOk.h9 (k : Nat) (x0 : Int) (x1 : Config) (x2 : Mend) : (spec_MendOk.p9 (k + 1) x0 x1 x2 : Option (denR (outTys spec_MendOk.g.rts spec_MendOk.g.pms))) = evAt (spec_MendOk.E k) (fun κ s => lhOf k κ s spec_MendOk.pts) 9 b90 (unproj spec_MendOk.s9 (x0, x1, x2, ())) (OM.fin spec_MendOk.g Tryz.f90.results.toList) := by kernel_rfl
theorem spec_MendOk.h19 (k : Nat) (x0 : Int) (x1 : Config) (x2 : Mend) : (spec_MendOk.p19 (k + 1) x0 x1 x2 : Option (denR (outTys spec_MendOk.g.rts spec_MendOk.g.pms))) = evAt (spec_MendOk.E k) (fun κ s => lhOf k κ s spec_MendOk.pts) 19 b90 (unproj spec_MendOk.s19 (x0, x1, x2, ())) (OM.fin spec_MendOk.g Tryz.f90.results.toList) := by kernel_rfl
theorem spec_MendOk.hf (k : Nat) (a0 : Config) (a1 : Mend) : (spec_MendOk.f k a0 a1 : Option (denR (outTys spec_MendOk.g.rts spec_MendOk.g.pms))) = evC (spec_MendOk.E k) (fun κ s => lhOf k κ s spec_MendOk.pts) b90 (OM.start spec_MendOk.g.pms 0 (a0, a1, ())) (OM.fin spec_MendOk.g Tryz.f90.results.toList) := by kernel_rfl
theorem spec_MendOk.ok (k : Nat) : SmOk Tryz.prog (spec_MendOk.sm k) :=
  sm_ok mixed (E := spec_MendOk.E) (pts := spec_MendOk.pts) (fun k => ⟨⟨tysOk, by kernel_rfl⟩, forall_cons ⟨spec_l1In.ok k, e92⟩ (forall_cons ⟨spec_ConfigOk.ok k, e82⟩ (forall_cons ⟨spec_NodesOk.ok k, e83⟩ (forall_cons ⟨spec_EpochOf.ok k, e94⟩ (forall_cons ⟨spec_EntryOk.ok k, e149⟩ (forall_cons ⟨spec_l6Asc.ok k, e148⟩ (forall_cons ⟨spec_l9Last.ok k, e150⟩ (forall_nil)))))))⟩) (fun _ => rfl) (fun _ => rfl)
    ⟨Tryz.func90, by kernel_rfl, by kernel_rfl, by kernel_rfl, by kernel_rfl, by kernel_rfl, by kernel_rfl⟩ (forall_cons (fun x => ⟨rfl, fun k => spec_MendOk.h9 k x.1 x.2.1 x.2.2.1⟩) (forall_cons (fun x => ⟨rfl, fun k => spec_MendOk.h19 k x.1 x.2.1 x.2.2.1⟩) (forall_nil))) (fun k x => spec_MendOk.hf k x.1 x.2.1) k
noncomputable def b91 : Code := Tryz.f91.body.getD .skip
theorem e91 : OM.Entry Tryz.prog 91 := ⟨_, Tryz.func91, by kernel_rfl, by kernel_rfl⟩
@[reducible] noncomputable def spec_FirstOpen.g : Sig := ⟨[.fz tRegister], [.v (.int .i64) .z], []⟩
@[reducible] noncomputable def spec_FirstOpen.fk : Nat → denI spec_FirstOpen.g.pms → Option (denR (outTys spec_FirstOpen.g.rts spec_FirstOpen.g.pms)) := fun k x => spec_FirstOpen.f k x.1
@[reducible] noncomputable def spec_FirstOpen.sm (k : Nat) : Sm := ⟨91, spec_FirstOpen.g.pms, spec_FirstOpen.g.rts, spec_FirstOpen.fk k⟩
noncomputable def spec_FirstOpen.E (k : Nat) : Env := ⟨tys, [], [], [], []⟩
@[reducible] noncomputable def spec_FirstOpen.s5 : List Slot := [.r 4 5 [] tRegister, .v 12 (.int .i64) .z [] 0, .v 5 tRegister .z [] 0]
noncomputable def spec_FirstOpen.pts : List (Pt (denR (outTys spec_FirstOpen.g.rts spec_FirstOpen.g.pms))) := [⟨5, spec_FirstOpen.s5, fun k x => spec_FirstOpen.p5 k x.1 x.2.1⟩]
theorem spec_FirstOpen.h5 (k : Nat) (x0 : Int) (x1 : Register) : (spec_FirstOpen.p5 (k + 1) x0 x1 : Option (denR (outTys spec_FirstOpen.g.rts spec_FirstOpen.g.pms))) = evAt (spec_FirstOpen.E k) (fun κ s => lhOf k κ s spec_FirstOpen.pts) 5 b91 (unproj spec_FirstOpen.s5 (x0, x1, ())) (OM.fin spec_FirstOpen.g Tryz.f91.results.toList) := by kernel_rfl
theorem spec_FirstOpen.hf (k : Nat) (a0 : Register) : (spec_FirstOpen.f k a0 : Option (denR (outTys spec_FirstOpen.g.rts spec_FirstOpen.g.pms))) = evC (spec_FirstOpen.E k) (fun κ s => lhOf k κ s spec_FirstOpen.pts) b91 (OM.start spec_FirstOpen.g.pms 0 (a0, ())) (OM.fin spec_FirstOpen.g Tryz.f91.results.toList) := by kernel_rfl
theorem spec_FirstOpen.ok (k : Nat) : SmOk Tryz.prog (spec_FirstOpen.sm k) :=
  sm_ok mixed (E := spec_FirstOpen.E) (pts := spec_FirstOpen.pts) (fun k => ⟨⟨tysOk, by kernel_rfl⟩, forall_nil⟩) (fun _ => rfl) (fun _ => rfl)
    ⟨Tryz.func91, by kernel_rfl, by kernel_rfl, by kernel_rfl, by kernel_rfl, by kernel_rfl, by kernel_rfl⟩ (forall_cons (fun x => ⟨rfl, fun k => spec_FirstOpen.h5 k x.1 x.2.1⟩) (forall_nil)) (fun k x => spec_FirstOpen.hf k x.1) k
noncomputable def b34 : Code := Tryz.f34.body.getD .skip
theorem e34 : OM.Entry Tryz.prog 34 := ⟨_, Tryz.func34, by kernel_rfl, by kernel_rfl⟩
@[reducible] noncomputable def spec_l12Epochs.g : Sig := ⟨[.fz tWorld], [.v .bool .z], []⟩
@[reducible] noncomputable def spec_l12Epochs.fk : Nat → denI spec_l12Epochs.g.pms → Option (denR (outTys spec_l12Epochs.g.rts spec_l12Epochs.g.pms)) := fun k x => spec_l12Epochs.f k x.1
@[reducible] noncomputable def spec_l12Epochs.sm (k : Nat) : Sm := ⟨34, spec_l12Epochs.g.pms, spec_l12Epochs.g.rts, spec_l12Epochs.fk k⟩
noncomputable def spec_l12Epochs.E (k : Nat) : Env := ⟨tys, [spec_RegOk.sm k, spec_WriterOk.sm k, spec_MendOk.sm k, spec_FirstOpen.sm k], [86], [], []⟩
@[reducible] noncomputable def spec_l12Epochs.s11 : List Slot := [.r 4 5 [] tWorld, .v 12 (.int .i64) .z [] 0, .v 16 (.int .i64) .z [] 0, .v 5 tWorld .z [] 0]
@[reducible] noncomputable def spec_l12Epochs.s21 : List Slot := [.r 4 5 [] tWorld, .v 12 (.int .i64) .z [] 0, .v 20 (.int .i64) .z [] 0, .v 5 tWorld .z [] 0]
noncomputable def spec_l12Epochs.pts : List (Pt (denR (outTys spec_l12Epochs.g.rts spec_l12Epochs.g.pms))) := [⟨11, spec_l12Epochs.s11, fun k x => spec_l12Epochs.p11 k x.1 x.2.1 x.2.2.1⟩, ⟨21, spec_l12Epochs.s21, fun k x => spec_l12Epochs.p21 k x.1 x.2.1 x.2.2.1⟩]
theorem spec_l12Epochs.h11 (k : Nat) (x0 : Int) (x1 : Int) (x2 : World) : (spec_l12Epochs.p11 (k + 1) x0 x1 x2 : Option (denR (outTys spec_l12Epochs.g.rts spec_l12Epochs.g.pms))) = evAt (spec_l12Epochs.E k) (fun κ s => lhOf k κ s spec_l12Epochs.pts) 11 b34 (unproj spec_l12Epochs.s11 (x0, x1, x2, ())) (OM.fin spec_l12Epochs.g Tryz.f34.results.toList) := by kernel_rfl
theorem spec_l12Epochs.h21 (k : Nat) (x0 : Int) (x1 : Int) (x2 : World) : (spec_l12Epochs.p21 (k + 1) x0 x1 x2 : Option (denR (outTys spec_l12Epochs.g.rts spec_l12Epochs.g.pms))) = evAt (spec_l12Epochs.E k) (fun κ s => lhOf k κ s spec_l12Epochs.pts) 21 b34 (unproj spec_l12Epochs.s21 (x0, x1, x2, ())) (OM.fin spec_l12Epochs.g Tryz.f34.results.toList) := by kernel_rfl
theorem spec_l12Epochs.hf (k : Nat) (a0 : World) : (spec_l12Epochs.f k a0 : Option (denR (outTys spec_l12Epochs.g.rts spec_l12Epochs.g.pms))) = evC (spec_l12Epochs.E k) (fun κ s => lhOf k κ s spec_l12Epochs.pts) b34 (OM.start spec_l12Epochs.g.pms 0 (a0, ())) (OM.fin spec_l12Epochs.g Tryz.f34.results.toList) := by kernel_rfl
theorem spec_l12Epochs.ok (k : Nat) : SmOk Tryz.prog (spec_l12Epochs.sm k) :=
  sm_ok mixed (E := spec_l12Epochs.E) (pts := spec_l12Epochs.pts) (fun k => ⟨⟨tysOk, by kernel_rfl⟩, forall_cons ⟨spec_RegOk.ok k, e88⟩ (forall_cons ⟨spec_WriterOk.ok k, e89⟩ (forall_cons ⟨spec_MendOk.ok k, e90⟩ (forall_cons ⟨spec_FirstOpen.ok k, e91⟩ (forall_nil))))⟩) (fun _ => rfl) (fun _ => rfl)
    ⟨Tryz.func34, by kernel_rfl, by kernel_rfl, by kernel_rfl, by kernel_rfl, by kernel_rfl, by kernel_rfl⟩ (forall_cons (fun x => ⟨rfl, fun k => spec_l12Epochs.h11 k x.1 x.2.1 x.2.2.1⟩) (forall_cons (fun x => ⟨rfl, fun k => spec_l12Epochs.h21 k x.1 x.2.1 x.2.2.1⟩) (forall_nil))) (fun k x => spec_l12Epochs.hf k x.1) k
noncomputable def b35 : Code := Tryz.f35.body.getD .skip
theorem e35 : OM.Entry Tryz.prog 35 := ⟨_, Tryz.func35, by kernel_rfl, by kernel_rfl⟩
@[reducible] noncomputable def spec_ReaderOk.g : Sig := ⟨[.fz tReader], [.v .bool .z], []⟩
@[reducible] noncomputable def spec_ReaderOk.fk : Nat → denI spec_ReaderOk.g.pms → Option (denR (outTys spec_ReaderOk.g.rts spec_ReaderOk.g.pms)) := fun k x => spec_ReaderOk.f x.1
@[reducible] noncomputable def spec_ReaderOk.sm (k : Nat) : Sm := ⟨35, spec_ReaderOk.g.pms, spec_ReaderOk.g.rts, spec_ReaderOk.fk k⟩
noncomputable def spec_ReaderOk.E (k : Nat) : Env := ⟨tys, [spec_l1In.sm k], [], [], []⟩
noncomputable def spec_ReaderOk.pts : List (Pt (denR (outTys spec_ReaderOk.g.rts spec_ReaderOk.g.pms))) := []
theorem spec_ReaderOk.hf (k : Nat) (a0 : Reader) : (spec_ReaderOk.f a0 : Option (denR (outTys spec_ReaderOk.g.rts spec_ReaderOk.g.pms))) = evC (spec_ReaderOk.E k) (fun κ s => lhOf k κ s spec_ReaderOk.pts) b35 (OM.start spec_ReaderOk.g.pms 0 (a0, ())) (OM.fin spec_ReaderOk.g Tryz.f35.results.toList) := by kernel_rfl
theorem spec_ReaderOk.ok (k : Nat) : SmOk Tryz.prog (spec_ReaderOk.sm k) :=
  sm_ok mixed (E := spec_ReaderOk.E) (pts := spec_ReaderOk.pts) (fun k => ⟨⟨tysOk, by kernel_rfl⟩, forall_cons ⟨spec_l1In.ok k, e92⟩ (forall_nil)⟩) (fun _ => rfl) (fun _ => rfl)
    ⟨Tryz.func35, by kernel_rfl, by kernel_rfl, by kernel_rfl, by kernel_rfl, by kernel_rfl, by kernel_rfl⟩ (forall_nil) (fun k x => spec_ReaderOk.hf k x.1) k
noncomputable def b36 : Code := Tryz.f36.body.getD .skip
theorem e36 : OM.Entry Tryz.prog 36 := ⟨_, Tryz.func36, by kernel_rfl, by kernel_rfl⟩
@[reducible] noncomputable def spec_l12Sent.g : Sig := ⟨[.fz tWorld], [.v .bool .z], []⟩
@[reducible] noncomputable def spec_l12Sent.fk : Nat → denI spec_l12Sent.g.pms → Option (denR (outTys spec_l12Sent.g.rts spec_l12Sent.g.pms)) := fun k x => spec_l12Sent.f k x.1
@[reducible] noncomputable def spec_l12Sent.sm (k : Nat) : Sm := ⟨36, spec_l12Sent.g.pms, spec_l12Sent.g.rts, spec_l12Sent.fk k⟩
noncomputable def spec_l12Sent.E (k : Nat) : Env := ⟨tys, [spec_PlaceOk.sm k, spec_EpochOf.sm k], [20], [], []⟩
@[reducible] noncomputable def spec_l12Sent.s9 : List Slot := [.r 4 5 [] tWorld, .v 12 (.int .i64) .z [] 0, .v 5 tWorld .z [] 0]
noncomputable def spec_l12Sent.pts : List (Pt (denR (outTys spec_l12Sent.g.rts spec_l12Sent.g.pms))) := [⟨9, spec_l12Sent.s9, fun k x => spec_l12Sent.p9 k x.1 x.2.1⟩]
theorem spec_l12Sent.h9 (k : Nat) (x0 : Int) (x1 : World) : (spec_l12Sent.p9 (k + 1) x0 x1 : Option (denR (outTys spec_l12Sent.g.rts spec_l12Sent.g.pms))) = evAt (spec_l12Sent.E k) (fun κ s => lhOf k κ s spec_l12Sent.pts) 9 b36 (unproj spec_l12Sent.s9 (x0, x1, ())) (OM.fin spec_l12Sent.g Tryz.f36.results.toList) := by kernel_rfl
theorem spec_l12Sent.hf (k : Nat) (a0 : World) : (spec_l12Sent.f k a0 : Option (denR (outTys spec_l12Sent.g.rts spec_l12Sent.g.pms))) = evC (spec_l12Sent.E k) (fun κ s => lhOf k κ s spec_l12Sent.pts) b36 (OM.start spec_l12Sent.g.pms 0 (a0, ())) (OM.fin spec_l12Sent.g Tryz.f36.results.toList) := by kernel_rfl
theorem spec_l12Sent.ok (k : Nat) : SmOk Tryz.prog (spec_l12Sent.sm k) :=
  sm_ok mixed (E := spec_l12Sent.E) (pts := spec_l12Sent.pts) (fun k => ⟨⟨tysOk, by kernel_rfl⟩, forall_cons ⟨spec_PlaceOk.ok k, e93⟩ (forall_cons ⟨spec_EpochOf.ok k, e94⟩ (forall_nil))⟩) (fun _ => rfl) (fun _ => rfl)
    ⟨Tryz.func36, by kernel_rfl, by kernel_rfl, by kernel_rfl, by kernel_rfl, by kernel_rfl, by kernel_rfl⟩ (forall_cons (fun x => ⟨rfl, fun k => spec_l12Sent.h9 k x.1 x.2.1⟩) (forall_nil)) (fun k x => spec_l12Sent.hf k x.1) k
noncomputable def b7 : Code := Tryz.f7.body.getD .skip
theorem e7 : OM.Entry Tryz.prog 7 := ⟨_, Tryz.func7, by kernel_rfl, by kernel_rfl⟩
@[reducible] noncomputable def spec_WorldOk.g : Sig := ⟨[.fz tWorld], [.v .bool .z], []⟩
@[reducible] noncomputable def spec_WorldOk.fk : Nat → denI spec_WorldOk.g.pms → Option (denR (outTys spec_WorldOk.g.rts spec_WorldOk.g.pms)) := fun k x => spec_WorldOk.f k x.1
@[reducible] noncomputable def spec_WorldOk.sm (k : Nat) : Sm := ⟨7, spec_WorldOk.g.pms, spec_WorldOk.g.rts, spec_WorldOk.fk k⟩
noncomputable def spec_WorldOk.E (k : Nat) : Env := ⟨tys, [spec_l12Nodes.sm k, spec_l12Epochs.sm k, spec_ReaderOk.sm k, spec_l12Sent.sm k], [], [], []⟩
noncomputable def spec_WorldOk.pts : List (Pt (denR (outTys spec_WorldOk.g.rts spec_WorldOk.g.pms))) := []
theorem spec_WorldOk.hf (k : Nat) (a0 : World) : (spec_WorldOk.f k a0 : Option (denR (outTys spec_WorldOk.g.rts spec_WorldOk.g.pms))) = evC (spec_WorldOk.E k) (fun κ s => lhOf k κ s spec_WorldOk.pts) b7 (OM.start spec_WorldOk.g.pms 0 (a0, ())) (OM.fin spec_WorldOk.g Tryz.f7.results.toList) := by kernel_rfl
theorem spec_WorldOk.ok (k : Nat) : SmOk Tryz.prog (spec_WorldOk.sm k) :=
  sm_ok mixed (E := spec_WorldOk.E) (pts := spec_WorldOk.pts) (fun k => ⟨⟨tysOk, by kernel_rfl⟩, forall_cons ⟨spec_l12Nodes.ok k, e33⟩ (forall_cons ⟨spec_l12Epochs.ok k, e34⟩ (forall_cons ⟨spec_ReaderOk.ok k, e35⟩ (forall_cons ⟨spec_l12Sent.ok k, e36⟩ (forall_nil))))⟩) (fun _ => rfl) (fun _ => rfl)
    ⟨Tryz.func7, by kernel_rfl, by kernel_rfl, by kernel_rfl, by kernel_rfl, by kernel_rfl, by kernel_rfl⟩ (forall_nil) (fun k x => spec_WorldOk.hf k x.1) k
noncomputable def b101 : Code := Tryz.f101.body.getD .skip
theorem e101 : OM.Entry Tryz.prog 101 := ⟨_, Tryz.func101, by kernel_rfl, by kernel_rfl⟩
@[reducible] noncomputable def impl_within.g : Sig := ⟨[.fz (.int .i64), .fz (.int .i64), .fz (.int .i64)], [.v .bool .z], []⟩
@[reducible] noncomputable def impl_within.fk : Nat → denI impl_within.g.pms → Option (denR (outTys impl_within.g.rts impl_within.g.pms)) := fun k x => impl_within.f x.1 x.2.1 x.2.2.1
@[reducible] noncomputable def impl_within.sm (k : Nat) : Sm := ⟨101, impl_within.g.pms, impl_within.g.rts, impl_within.fk k⟩
noncomputable def impl_within.E (k : Nat) : Env := ⟨tys, [], [], [], []⟩
noncomputable def impl_within.pts : List (Pt (denR (outTys impl_within.g.rts impl_within.g.pms))) := []
theorem impl_within.hf (k : Nat) (a0 : Int) (a1 : Int) (a2 : Int) : (impl_within.f a0 a1 a2 : Option (denR (outTys impl_within.g.rts impl_within.g.pms))) = evC (impl_within.E k) (fun κ s => lhOf k κ s impl_within.pts) b101 (OM.start impl_within.g.pms 0 (a0, a1, a2, ())) (OM.fin impl_within.g Tryz.f101.results.toList) := by kernel_rfl
theorem impl_within.ok (k : Nat) : SmOk Tryz.prog (impl_within.sm k) :=
  sm_ok mixed (E := impl_within.E) (pts := impl_within.pts) (fun k => ⟨⟨tysOk, by kernel_rfl⟩, forall_nil⟩) (fun _ => rfl) (fun _ => rfl)
    ⟨Tryz.func101, by kernel_rfl, by kernel_rfl, by kernel_rfl, by kernel_rfl, by kernel_rfl, by kernel_rfl⟩ (forall_nil) (fun k x => impl_within.hf k x.1 x.2.1 x.2.2.1) k
noncomputable def b45 : Code := Tryz.f45.body.getD .skip
theorem e45 : OM.Entry Tryz.prog 45 := ⟨_, Tryz.func45, by kernel_rfl, by kernel_rfl⟩
@[reducible] noncomputable def impl_ConfigOk.g : Sig := ⟨[.fz tConfig], [.v .bool .z], []⟩
@[reducible] noncomputable def impl_ConfigOk.fk : Nat → denI impl_ConfigOk.g.pms → Option (denR (outTys impl_ConfigOk.g.rts impl_ConfigOk.g.pms)) := fun k x => impl_ConfigOk.f k x.1
@[reducible] noncomputable def impl_ConfigOk.sm (k : Nat) : Sm := ⟨45, impl_ConfigOk.g.pms, impl_ConfigOk.g.rts, impl_ConfigOk.fk k⟩
noncomputable def impl_ConfigOk.E (k : Nat) : Env := ⟨tys, [impl_within.sm k], [11], [], []⟩
@[reducible] noncomputable def impl_ConfigOk.s5 : List Slot := [.r 4 5 [] tConfig, .v 24 (.sl (.int .i64)) .z [] 0, .v 28 (.int .i64) .z [] 0, .v 32 (.int .i64) .z [] 0, .v 5 tConfig .z [] 0]
noncomputable def impl_ConfigOk.pts : List (Pt (denR (outTys impl_ConfigOk.g.rts impl_ConfigOk.g.pms))) := [⟨5, impl_ConfigOk.s5, fun k x => impl_ConfigOk.p5 k x.1 x.2.1 x.2.2.1 x.2.2.2.1⟩]
theorem impl_ConfigOk.h5 (k : Nat) (x0 : (List Int)) (x1 : Int) (x2 : Int) (x3 : Config) : (impl_ConfigOk.p5 (k + 1) x0 x1 x2 x3 : Option (denR (outTys impl_ConfigOk.g.rts impl_ConfigOk.g.pms))) = evAt (impl_ConfigOk.E k) (fun κ s => lhOf k κ s impl_ConfigOk.pts) 5 b45 (unproj impl_ConfigOk.s5 (x0, x1, x2, x3, ())) (OM.fin impl_ConfigOk.g Tryz.f45.results.toList) := by kernel_rfl
theorem impl_ConfigOk.hf (k : Nat) (a0 : Config) : (impl_ConfigOk.f k a0 : Option (denR (outTys impl_ConfigOk.g.rts impl_ConfigOk.g.pms))) = evC (impl_ConfigOk.E k) (fun κ s => lhOf k κ s impl_ConfigOk.pts) b45 (OM.start impl_ConfigOk.g.pms 0 (a0, ())) (OM.fin impl_ConfigOk.g Tryz.f45.results.toList) := by kernel_rfl
theorem impl_ConfigOk.ok (k : Nat) : SmOk Tryz.prog (impl_ConfigOk.sm k) :=
  sm_ok mixed (E := impl_ConfigOk.E) (pts := impl_ConfigOk.pts) (fun k => ⟨⟨tysOk, by kernel_rfl⟩, forall_cons ⟨impl_within.ok k, e101⟩ (forall_nil)⟩) (fun _ => rfl) (fun _ => rfl)
    ⟨Tryz.func45, by kernel_rfl, by kernel_rfl, by kernel_rfl, by kernel_rfl, by kernel_rfl, by kernel_rfl⟩ (forall_cons (fun x => ⟨rfl, fun k => impl_ConfigOk.h5 k x.1 x.2.1 x.2.2.1 x.2.2.2.1⟩) (forall_nil)) (fun k x => impl_ConfigOk.hf k x.1) k
noncomputable def b156 : Code := Tryz.f156.body.getD .skip
theorem e156 : OM.Entry Tryz.prog 156 := ⟨_, Tryz.func156, by kernel_rfl, by kernel_rfl⟩
@[reducible] noncomputable def impl_ascends.g : Sig := ⟨[.fz (.sl (.int .i64)), .fz (.int .i64)], [.v .bool .z], []⟩
@[reducible] noncomputable def impl_ascends.fk : Nat → denI impl_ascends.g.pms → Option (denR (outTys impl_ascends.g.rts impl_ascends.g.pms)) := fun k x => impl_ascends.f k x.1 x.2.1
@[reducible] noncomputable def impl_ascends.sm (k : Nat) : Sm := ⟨156, impl_ascends.g.pms, impl_ascends.g.rts, impl_ascends.fk k⟩
noncomputable def impl_ascends.E (k : Nat) : Env := ⟨tys, [impl_within.sm k], [13], [], []⟩
@[reducible] noncomputable def impl_ascends.s5 : List Slot := [.v 0 (.sl (.int .i64)) .z [] 0, .v 4 (.int .i64) .z [] 0, .v 28 (.sl (.int .i64)) .z [] 0, .v 32 (.int .i64) .z [] 0, .v 36 (.int .i64) .z [] 0]
noncomputable def impl_ascends.pts : List (Pt (denR (outTys impl_ascends.g.rts impl_ascends.g.pms))) := [⟨5, impl_ascends.s5, fun k x => impl_ascends.p5 k x.1 x.2.1 x.2.2.1 x.2.2.2.1 x.2.2.2.2.1⟩]
theorem impl_ascends.h5 (k : Nat) (x0 : (List Int)) (x1 : Int) (x2 : (List Int)) (x3 : Int) (x4 : Int) : (impl_ascends.p5 (k + 1) x0 x1 x2 x3 x4 : Option (denR (outTys impl_ascends.g.rts impl_ascends.g.pms))) = evAt (impl_ascends.E k) (fun κ s => lhOf k κ s impl_ascends.pts) 5 b156 (unproj impl_ascends.s5 (x0, x1, x2, x3, x4, ())) (OM.fin impl_ascends.g Tryz.f156.results.toList) := by kernel_rfl
theorem impl_ascends.hf (k : Nat) (a0 : (List Int)) (a1 : Int) : (impl_ascends.f k a0 a1 : Option (denR (outTys impl_ascends.g.rts impl_ascends.g.pms))) = evC (impl_ascends.E k) (fun κ s => lhOf k κ s impl_ascends.pts) b156 (OM.start impl_ascends.g.pms 0 (a0, a1, ())) (OM.fin impl_ascends.g Tryz.f156.results.toList) := by kernel_rfl
theorem impl_ascends.ok (k : Nat) : SmOk Tryz.prog (impl_ascends.sm k) :=
  sm_ok mixed (E := impl_ascends.E) (pts := impl_ascends.pts) (fun k => ⟨⟨tysOk, by kernel_rfl⟩, forall_cons ⟨impl_within.ok k, e101⟩ (forall_nil)⟩) (fun _ => rfl) (fun _ => rfl)
    ⟨Tryz.func156, by kernel_rfl, by kernel_rfl, by kernel_rfl, by kernel_rfl, by kernel_rfl, by kernel_rfl⟩ (forall_cons (fun x => ⟨rfl, fun k => impl_ascends.h5 k x.1 x.2.1 x.2.2.1 x.2.2.2.1 x.2.2.2.2.1⟩) (forall_nil)) (fun k x => impl_ascends.hf k x.1 x.2.1) k
noncomputable def b102 : Code := Tryz.f102.body.getD .skip
theorem e102 : OM.Entry Tryz.prog 102 := ⟨_, Tryz.func102, by kernel_rfl, by kernel_rfl⟩
@[reducible] noncomputable def impl_NodesOk.g : Sig := ⟨[.fz tConfig, .fz (.sl (.int .i64))], [.v .bool .z], []⟩
@[reducible] noncomputable def impl_NodesOk.fk : Nat → denI impl_NodesOk.g.pms → Option (denR (outTys impl_NodesOk.g.rts impl_NodesOk.g.pms)) := fun k x => impl_NodesOk.f k x.1 x.2.1
@[reducible] noncomputable def impl_NodesOk.sm (k : Nat) : Sm := ⟨102, impl_NodesOk.g.pms, impl_NodesOk.g.rts, impl_NodesOk.fk k⟩
noncomputable def impl_NodesOk.E (k : Nat) : Env := ⟨tys, [impl_ConfigOk.sm k, impl_ascends.sm k], [], [], []⟩
noncomputable def impl_NodesOk.pts : List (Pt (denR (outTys impl_NodesOk.g.rts impl_NodesOk.g.pms))) := []
theorem impl_NodesOk.hf (k : Nat) (a0 : Config) (a1 : (List Int)) : (impl_NodesOk.f k a0 a1 : Option (denR (outTys impl_NodesOk.g.rts impl_NodesOk.g.pms))) = evC (impl_NodesOk.E k) (fun κ s => lhOf k κ s impl_NodesOk.pts) b102 (OM.start impl_NodesOk.g.pms 0 (a0, a1, ())) (OM.fin impl_NodesOk.g Tryz.f102.results.toList) := by kernel_rfl
theorem impl_NodesOk.ok (k : Nat) : SmOk Tryz.prog (impl_NodesOk.sm k) :=
  sm_ok mixed (E := impl_NodesOk.E) (pts := impl_NodesOk.pts) (fun k => ⟨⟨tysOk, by kernel_rfl⟩, forall_cons ⟨impl_ConfigOk.ok k, e45⟩ (forall_cons ⟨impl_ascends.ok k, e156⟩ (forall_nil))⟩) (fun _ => rfl) (fun _ => rfl)
    ⟨Tryz.func102, by kernel_rfl, by kernel_rfl, by kernel_rfl, by kernel_rfl, by kernel_rfl, by kernel_rfl⟩ (forall_nil) (fun k x => impl_NodesOk.hf k x.1 x.2.1) k
noncomputable def b161 : Code := Tryz.f161.body.getD .skip
theorem e161 : OM.Entry Tryz.prog 161 := ⟨_, Tryz.func161, by kernel_rfl, by kernel_rfl⟩
@[reducible] noncomputable def impl_isEpoch.g : Sig := ⟨[.fz (.int .i64)], [.v .bool .z], []⟩
@[reducible] noncomputable def impl_isEpoch.fk : Nat → denI impl_isEpoch.g.pms → Option (denR (outTys impl_isEpoch.g.rts impl_isEpoch.g.pms)) := fun k x => impl_isEpoch.f x.1
@[reducible] noncomputable def impl_isEpoch.sm (k : Nat) : Sm := ⟨161, impl_isEpoch.g.pms, impl_isEpoch.g.rts, impl_isEpoch.fk k⟩
noncomputable def impl_isEpoch.E (k : Nat) : Env := ⟨tys, [impl_within.sm k], [], [], []⟩
noncomputable def impl_isEpoch.pts : List (Pt (denR (outTys impl_isEpoch.g.rts impl_isEpoch.g.pms))) := []
theorem impl_isEpoch.hf (k : Nat) (a0 : Int) : (impl_isEpoch.f a0 : Option (denR (outTys impl_isEpoch.g.rts impl_isEpoch.g.pms))) = evC (impl_isEpoch.E k) (fun κ s => lhOf k κ s impl_isEpoch.pts) b161 (OM.start impl_isEpoch.g.pms 0 (a0, ())) (OM.fin impl_isEpoch.g Tryz.f161.results.toList) := by kernel_rfl
theorem impl_isEpoch.ok (k : Nat) : SmOk Tryz.prog (impl_isEpoch.sm k) :=
  sm_ok mixed (E := impl_isEpoch.E) (pts := impl_isEpoch.pts) (fun k => ⟨⟨tysOk, by kernel_rfl⟩, forall_cons ⟨impl_within.ok k, e101⟩ (forall_nil)⟩) (fun _ => rfl) (fun _ => rfl)
    ⟨Tryz.func161, by kernel_rfl, by kernel_rfl, by kernel_rfl, by kernel_rfl, by kernel_rfl, by kernel_rfl⟩ (forall_nil) (fun k x => impl_isEpoch.hf k x.1) k
noncomputable def b195 : Code := Tryz.f195.body.getD .skip
theorem e195 : OM.Entry Tryz.prog 195 := ⟨_, Tryz.func195, by kernel_rfl, by kernel_rfl⟩
@[reducible] noncomputable def impl_isOff.g : Sig := ⟨[.fz (.int .i64)], [.v .bool .z], []⟩
@[reducible] noncomputable def impl_isOff.fk : Nat → denI impl_isOff.g.pms → Option (denR (outTys impl_isOff.g.rts impl_isOff.g.pms)) := fun k x => impl_isOff.f x.1
@[reducible] noncomputable def impl_isOff.sm (k : Nat) : Sm := ⟨195, impl_isOff.g.pms, impl_isOff.g.rts, impl_isOff.fk k⟩
noncomputable def impl_isOff.E (k : Nat) : Env := ⟨tys, [impl_within.sm k], [], [], []⟩
noncomputable def impl_isOff.pts : List (Pt (denR (outTys impl_isOff.g.rts impl_isOff.g.pms))) := []
theorem impl_isOff.hf (k : Nat) (a0 : Int) : (impl_isOff.f a0 : Option (denR (outTys impl_isOff.g.rts impl_isOff.g.pms))) = evC (impl_isOff.E k) (fun κ s => lhOf k κ s impl_isOff.pts) b195 (OM.start impl_isOff.g.pms 0 (a0, ())) (OM.fin impl_isOff.g Tryz.f195.results.toList) := by kernel_rfl
theorem impl_isOff.ok (k : Nat) : SmOk Tryz.prog (impl_isOff.sm k) :=
  sm_ok mixed (E := impl_isOff.E) (pts := impl_isOff.pts) (fun k => ⟨⟨tysOk, by kernel_rfl⟩, forall_cons ⟨impl_within.ok k, e101⟩ (forall_nil)⟩) (fun _ => rfl) (fun _ => rfl)
    ⟨Tryz.func195, by kernel_rfl, by kernel_rfl, by kernel_rfl, by kernel_rfl, by kernel_rfl, by kernel_rfl⟩ (forall_nil) (fun k x => impl_isOff.hf k x.1) k
noncomputable def b159 : Code := Tryz.f159.body.getD .skip
theorem e159 : OM.Entry Tryz.prog 159 := ⟨_, Tryz.func159, by kernel_rfl, by kernel_rfl⟩
@[reducible] noncomputable def impl_PlaceOk.g : Sig := ⟨[.fz (.int .i64)], [.v .bool .z], []⟩
@[reducible] noncomputable def impl_PlaceOk.fk : Nat → denI impl_PlaceOk.g.pms → Option (denR (outTys impl_PlaceOk.g.rts impl_PlaceOk.g.pms)) := fun k x => impl_PlaceOk.f x.1
@[reducible] noncomputable def impl_PlaceOk.sm (k : Nat) : Sm := ⟨159, impl_PlaceOk.g.pms, impl_PlaceOk.g.rts, impl_PlaceOk.fk k⟩
noncomputable def impl_PlaceOk.E (k : Nat) : Env := ⟨tys, [impl_isEpoch.sm k, impl_isOff.sm k], [], [], []⟩
noncomputable def impl_PlaceOk.pts : List (Pt (denR (outTys impl_PlaceOk.g.rts impl_PlaceOk.g.pms))) := []
theorem impl_PlaceOk.hf (k : Nat) (a0 : Int) : (impl_PlaceOk.f a0 : Option (denR (outTys impl_PlaceOk.g.rts impl_PlaceOk.g.pms))) = evC (impl_PlaceOk.E k) (fun κ s => lhOf k κ s impl_PlaceOk.pts) b159 (OM.start impl_PlaceOk.g.pms 0 (a0, ())) (OM.fin impl_PlaceOk.g Tryz.f159.results.toList) := by kernel_rfl
theorem impl_PlaceOk.ok (k : Nat) : SmOk Tryz.prog (impl_PlaceOk.sm k) :=
  sm_ok mixed (E := impl_PlaceOk.E) (pts := impl_PlaceOk.pts) (fun k => ⟨⟨tysOk, by kernel_rfl⟩, forall_cons ⟨impl_isEpoch.ok k, e161⟩ (forall_cons ⟨impl_isOff.ok k, e195⟩ (forall_nil))⟩) (fun _ => rfl) (fun _ => rfl)
    ⟨Tryz.func159, by kernel_rfl, by kernel_rfl, by kernel_rfl, by kernel_rfl, by kernel_rfl, by kernel_rfl⟩ (forall_nil) (fun k x => impl_PlaceOk.hf k x.1) k
noncomputable def b112 : Code := Tryz.f112.body.getD .skip
theorem e112 : OM.Entry Tryz.prog 112 := ⟨_, Tryz.func112, by kernel_rfl, by kernel_rfl⟩
@[reducible] noncomputable def impl_dataOk.g : Sig := ⟨[.fz .str], [.v .bool .z], []⟩
@[reducible] noncomputable def impl_dataOk.fk : Nat → denI impl_dataOk.g.pms → Option (denR (outTys impl_dataOk.g.rts impl_dataOk.g.pms)) := fun k x => impl_dataOk.f x.1
@[reducible] noncomputable def impl_dataOk.sm (k : Nat) : Sm := ⟨112, impl_dataOk.g.pms, impl_dataOk.g.rts, impl_dataOk.fk k⟩
noncomputable def impl_dataOk.E (k : Nat) : Env := ⟨tys, [], [], [], []⟩
noncomputable def impl_dataOk.pts : List (Pt (denR (outTys impl_dataOk.g.rts impl_dataOk.g.pms))) := []
theorem impl_dataOk.hf (k : Nat) (a0 : ByteArray) : (impl_dataOk.f a0 : Option (denR (outTys impl_dataOk.g.rts impl_dataOk.g.pms))) = evC (impl_dataOk.E k) (fun κ s => lhOf k κ s impl_dataOk.pts) b112 (OM.start impl_dataOk.g.pms 0 (a0, ())) (OM.fin impl_dataOk.g Tryz.f112.results.toList) := by kernel_rfl
theorem impl_dataOk.ok (k : Nat) : SmOk Tryz.prog (impl_dataOk.sm k) :=
  sm_ok mixed (E := impl_dataOk.E) (pts := impl_dataOk.pts) (fun k => ⟨⟨tysOk, by kernel_rfl⟩, forall_nil⟩) (fun _ => rfl) (fun _ => rfl)
    ⟨Tryz.func112, by kernel_rfl, by kernel_rfl, by kernel_rfl, by kernel_rfl, by kernel_rfl, by kernel_rfl⟩ (forall_nil) (fun k x => impl_dataOk.hf k x.1) k
noncomputable def b106 : Code := Tryz.f106.body.getD .skip
theorem e106 : OM.Entry Tryz.prog 106 := ⟨_, Tryz.func106, by kernel_rfl, by kernel_rfl⟩
@[reducible] noncomputable def impl_EpochOf.g : Sig := ⟨[.fz (.int .i64)], [.v (.int .i64) .z], []⟩
@[reducible] noncomputable def impl_EpochOf.fk : Nat → denI impl_EpochOf.g.pms → Option (denR (outTys impl_EpochOf.g.rts impl_EpochOf.g.pms)) := fun k x => impl_EpochOf.f x.1
@[reducible] noncomputable def impl_EpochOf.sm (k : Nat) : Sm := ⟨106, impl_EpochOf.g.pms, impl_EpochOf.g.rts, impl_EpochOf.fk k⟩
noncomputable def impl_EpochOf.E (k : Nat) : Env := ⟨tys, [impl_PlaceOk.sm k], [], [], []⟩
noncomputable def impl_EpochOf.pts : List (Pt (denR (outTys impl_EpochOf.g.rts impl_EpochOf.g.pms))) := []
theorem impl_EpochOf.hf (k : Nat) (a0 : Int) : (impl_EpochOf.f a0 : Option (denR (outTys impl_EpochOf.g.rts impl_EpochOf.g.pms))) = evC (impl_EpochOf.E k) (fun κ s => lhOf k κ s impl_EpochOf.pts) b106 (OM.start impl_EpochOf.g.pms 0 (a0, ())) (OM.fin impl_EpochOf.g Tryz.f106.results.toList) := by kernel_rfl
theorem impl_EpochOf.ok (k : Nat) : SmOk Tryz.prog (impl_EpochOf.sm k) :=
  sm_ok mixed (E := impl_EpochOf.E) (pts := impl_EpochOf.pts) (fun k => ⟨⟨tysOk, by kernel_rfl⟩, forall_cons ⟨impl_PlaceOk.ok k, e159⟩ (forall_nil)⟩) (fun _ => rfl) (fun _ => rfl)
    ⟨Tryz.func106, by kernel_rfl, by kernel_rfl, by kernel_rfl, by kernel_rfl, by kernel_rfl, by kernel_rfl⟩ (forall_nil) (fun k x => impl_EpochOf.hf k x.1) k
noncomputable def b183 : Code := Tryz.f183.body.getD .skip
theorem e183 : OM.Entry Tryz.prog 183 := ⟨_, Tryz.func183, by kernel_rfl, by kernel_rfl⟩
@[reducible] noncomputable def impl_EntryOk.g : Sig := ⟨[.fz tEntry], [.v .bool .z], []⟩
@[reducible] noncomputable def impl_EntryOk.fk : Nat → denI impl_EntryOk.g.pms → Option (denR (outTys impl_EntryOk.g.rts impl_EntryOk.g.pms)) := fun k x => impl_EntryOk.f k x.1
@[reducible] noncomputable def impl_EntryOk.sm (k : Nat) : Sm := ⟨183, impl_EntryOk.g.pms, impl_EntryOk.g.rts, impl_EntryOk.fk k⟩
noncomputable def impl_EntryOk.E (k : Nat) : Env := ⟨tys, [impl_within.sm k, impl_PlaceOk.sm k, impl_dataOk.sm k, impl_EpochOf.sm k], [], [2, 3], []⟩
@[reducible] noncomputable def impl_EntryOk.s4 : List Slot := [.r 4 5 [] tEntry, .v 12 .bool .z [] 0, .v 5 tEntry .z [] 0]
@[reducible] noncomputable def impl_EntryOk.s6 : List Slot := [.r 4 5 [] tEntry, .v 12 .bool .z [] 0, .v 16 .bool .z [] 0, .v 5 tEntry .z [] 0]
noncomputable def impl_EntryOk.pts : List (Pt (denR (outTys impl_EntryOk.g.rts impl_EntryOk.g.pms))) := [⟨4, impl_EntryOk.s4, fun k x => impl_EntryOk.p4 k x.1 x.2.1⟩, ⟨6, impl_EntryOk.s6, fun k x => impl_EntryOk.p6 k x.1 x.2.1 x.2.2.1⟩]
theorem impl_EntryOk.h4 (k : Nat) (x0 : Bool) (x1 : Entry) : (impl_EntryOk.p4 (k + 1) x0 x1 : Option (denR (outTys impl_EntryOk.g.rts impl_EntryOk.g.pms))) = evAt (impl_EntryOk.E k) (fun κ s => lhOf k κ s impl_EntryOk.pts) 4 b183 (unproj impl_EntryOk.s4 (x0, x1, ())) (OM.fin impl_EntryOk.g Tryz.f183.results.toList) := by kernel_rfl
theorem impl_EntryOk.h6 (k : Nat) (x0 : Bool) (x1 : Bool) (x2 : Entry) : (impl_EntryOk.p6 (k + 1) x0 x1 x2 : Option (denR (outTys impl_EntryOk.g.rts impl_EntryOk.g.pms))) = evAt (impl_EntryOk.E k) (fun κ s => lhOf k κ s impl_EntryOk.pts) 6 b183 (unproj impl_EntryOk.s6 (x0, x1, x2, ())) (OM.fin impl_EntryOk.g Tryz.f183.results.toList) := by kernel_rfl
theorem impl_EntryOk.hf (k : Nat) (a0 : Entry) : (impl_EntryOk.f k a0 : Option (denR (outTys impl_EntryOk.g.rts impl_EntryOk.g.pms))) = evC (impl_EntryOk.E k) (fun κ s => lhOf k κ s impl_EntryOk.pts) b183 (OM.start impl_EntryOk.g.pms 0 (a0, ())) (OM.fin impl_EntryOk.g Tryz.f183.results.toList) := by kernel_rfl
theorem impl_EntryOk.ok (k : Nat) : SmOk Tryz.prog (impl_EntryOk.sm k) :=
  sm_ok mixed (E := impl_EntryOk.E) (pts := impl_EntryOk.pts) (fun k => ⟨⟨tysOk, by kernel_rfl⟩, forall_cons ⟨impl_within.ok k, e101⟩ (forall_cons ⟨impl_PlaceOk.ok k, e159⟩ (forall_cons ⟨impl_dataOk.ok k, e112⟩ (forall_cons ⟨impl_EpochOf.ok k, e106⟩ (forall_nil))))⟩) (fun _ => rfl) (fun _ => rfl)
    ⟨Tryz.func183, by kernel_rfl, by kernel_rfl, by kernel_rfl, by kernel_rfl, by kernel_rfl, by kernel_rfl⟩ (forall_cons (fun x => ⟨rfl, fun k => impl_EntryOk.h4 k x.1 x.2.1⟩) (forall_cons (fun x => ⟨rfl, fun k => impl_EntryOk.h6 k x.1 x.2.1 x.2.2.1⟩) (forall_nil))) (fun k x => impl_EntryOk.hf k x.1) k
noncomputable def b135 : Code := Tryz.f135.body.getD .skip
theorem e135 : OM.Entry Tryz.prog 135 := ⟨_, Tryz.func135, by kernel_rfl, by kernel_rfl⟩
@[reducible] noncomputable def impl_entriesOk.g : Sig := ⟨[.fz (.sl tEntry)], [.v .bool .z], []⟩
@[reducible] noncomputable def impl_entriesOk.fk : Nat → denI impl_entriesOk.g.pms → Option (denR (outTys impl_entriesOk.g.rts impl_entriesOk.g.pms)) := fun k x => impl_entriesOk.f k x.1
@[reducible] noncomputable def impl_entriesOk.sm (k : Nat) : Sm := ⟨135, impl_entriesOk.g.pms, impl_entriesOk.g.rts, impl_entriesOk.fk k⟩
noncomputable def impl_entriesOk.E (k : Nat) : Env := ⟨tys, [impl_EntryOk.sm k], [10], [], []⟩
@[reducible] noncomputable def impl_entriesOk.s5 : List Slot := [.v 20 (.sl tEntry) .z [] 0, .v 24 (.int .i64) .z [] 0, .v 28 (.int .i64) .z [] 0]
noncomputable def impl_entriesOk.pts : List (Pt (denR (outTys impl_entriesOk.g.rts impl_entriesOk.g.pms))) := [⟨5, impl_entriesOk.s5, fun k x => impl_entriesOk.p5 k x.1 x.2.1 x.2.2.1⟩]
theorem impl_entriesOk.h5 (k : Nat) (x0 : (List Entry)) (x1 : Int) (x2 : Int) : (impl_entriesOk.p5 (k + 1) x0 x1 x2 : Option (denR (outTys impl_entriesOk.g.rts impl_entriesOk.g.pms))) = evAt (impl_entriesOk.E k) (fun κ s => lhOf k κ s impl_entriesOk.pts) 5 b135 (unproj impl_entriesOk.s5 (x0, x1, x2, ())) (OM.fin impl_entriesOk.g Tryz.f135.results.toList) := by kernel_rfl
theorem impl_entriesOk.hf (k : Nat) (a0 : (List Entry)) : (impl_entriesOk.f k a0 : Option (denR (outTys impl_entriesOk.g.rts impl_entriesOk.g.pms))) = evC (impl_entriesOk.E k) (fun κ s => lhOf k κ s impl_entriesOk.pts) b135 (OM.start impl_entriesOk.g.pms 0 (a0, ())) (OM.fin impl_entriesOk.g Tryz.f135.results.toList) := by kernel_rfl
theorem impl_entriesOk.ok (k : Nat) : SmOk Tryz.prog (impl_entriesOk.sm k) :=
  sm_ok mixed (E := impl_entriesOk.E) (pts := impl_entriesOk.pts) (fun k => ⟨⟨tysOk, by kernel_rfl⟩, forall_cons ⟨impl_EntryOk.ok k, e183⟩ (forall_nil)⟩) (fun _ => rfl) (fun _ => rfl)
    ⟨Tryz.func135, by kernel_rfl, by kernel_rfl, by kernel_rfl, by kernel_rfl, by kernel_rfl, by kernel_rfl⟩ (forall_cons (fun x => ⟨rfl, fun k => impl_entriesOk.h5 k x.1 x.2.1 x.2.2.1⟩) (forall_nil)) (fun k x => impl_entriesOk.hf k x.1) k
noncomputable def b136 : Code := Tryz.f136.body.getD .skip
theorem e136 : OM.Entry Tryz.prog 136 := ⟨_, Tryz.func136, by kernel_rfl, by kernel_rfl⟩
@[reducible] noncomputable def impl_placesAscend.g : Sig := ⟨[.fz (.sl tEntry)], [.v .bool .z], []⟩
@[reducible] noncomputable def impl_placesAscend.fk : Nat → denI impl_placesAscend.g.pms → Option (denR (outTys impl_placesAscend.g.rts impl_placesAscend.g.pms)) := fun k x => impl_placesAscend.f k x.1
@[reducible] noncomputable def impl_placesAscend.sm (k : Nat) : Sm := ⟨136, impl_placesAscend.g.pms, impl_placesAscend.g.rts, impl_placesAscend.fk k⟩
noncomputable def impl_placesAscend.E (k : Nat) : Env := ⟨tys, [], [11], [], []⟩
@[reducible] noncomputable def impl_placesAscend.s5 : List Slot := [.v 0 (.sl tEntry) .z [] 0, .v 20 (.sl tEntry) .z [] 0, .v 24 (.int .i64) .z [] 0, .v 28 (.int .i64) .z [] 0]
noncomputable def impl_placesAscend.pts : List (Pt (denR (outTys impl_placesAscend.g.rts impl_placesAscend.g.pms))) := [⟨5, impl_placesAscend.s5, fun k x => impl_placesAscend.p5 k x.1 x.2.1 x.2.2.1 x.2.2.2.1⟩]
theorem impl_placesAscend.h5 (k : Nat) (x0 : (List Entry)) (x1 : (List Entry)) (x2 : Int) (x3 : Int) : (impl_placesAscend.p5 (k + 1) x0 x1 x2 x3 : Option (denR (outTys impl_placesAscend.g.rts impl_placesAscend.g.pms))) = evAt (impl_placesAscend.E k) (fun κ s => lhOf k κ s impl_placesAscend.pts) 5 b136 (unproj impl_placesAscend.s5 (x0, x1, x2, x3, ())) (OM.fin impl_placesAscend.g Tryz.f136.results.toList) := by kernel_rfl
theorem impl_placesAscend.hf (k : Nat) (a0 : (List Entry)) : (impl_placesAscend.f k a0 : Option (denR (outTys impl_placesAscend.g.rts impl_placesAscend.g.pms))) = evC (impl_placesAscend.E k) (fun κ s => lhOf k κ s impl_placesAscend.pts) b136 (OM.start impl_placesAscend.g.pms 0 (a0, ())) (OM.fin impl_placesAscend.g Tryz.f136.results.toList) := by kernel_rfl
theorem impl_placesAscend.ok (k : Nat) : SmOk Tryz.prog (impl_placesAscend.sm k) :=
  sm_ok mixed (E := impl_placesAscend.E) (pts := impl_placesAscend.pts) (fun k => ⟨⟨tysOk, by kernel_rfl⟩, forall_nil⟩) (fun _ => rfl) (fun _ => rfl)
    ⟨Tryz.func136, by kernel_rfl, by kernel_rfl, by kernel_rfl, by kernel_rfl, by kernel_rfl, by kernel_rfl⟩ (forall_cons (fun x => ⟨rfl, fun k => impl_placesAscend.h5 k x.1 x.2.1 x.2.2.1 x.2.2.2.1⟩) (forall_nil)) (fun k x => impl_placesAscend.hf k x.1) k
noncomputable def b70 : Code := Tryz.f70.body.getD .skip
theorem e70 : OM.Entry Tryz.prog 70 := ⟨_, Tryz.func70, by kernel_rfl, by kernel_rfl⟩
@[reducible] noncomputable def impl_StoreOk.g : Sig := ⟨[.fz tStore], [.v .bool .z], []⟩
@[reducible] noncomputable def impl_StoreOk.fk : Nat → denI impl_StoreOk.g.pms → Option (denR (outTys impl_StoreOk.g.rts impl_StoreOk.g.pms)) := fun k x => impl_StoreOk.f k x.1
@[reducible] noncomputable def impl_StoreOk.sm (k : Nat) : Sm := ⟨70, impl_StoreOk.g.pms, impl_StoreOk.g.rts, impl_StoreOk.fk k⟩
noncomputable def impl_StoreOk.E (k : Nat) : Env := ⟨tys, [impl_within.sm k, impl_entriesOk.sm k, impl_placesAscend.sm k], [], [], []⟩
noncomputable def impl_StoreOk.pts : List (Pt (denR (outTys impl_StoreOk.g.rts impl_StoreOk.g.pms))) := []
theorem impl_StoreOk.hf (k : Nat) (a0 : Store) : (impl_StoreOk.f k a0 : Option (denR (outTys impl_StoreOk.g.rts impl_StoreOk.g.pms))) = evC (impl_StoreOk.E k) (fun κ s => lhOf k κ s impl_StoreOk.pts) b70 (OM.start impl_StoreOk.g.pms 0 (a0, ())) (OM.fin impl_StoreOk.g Tryz.f70.results.toList) := by kernel_rfl
theorem impl_StoreOk.ok (k : Nat) : SmOk Tryz.prog (impl_StoreOk.sm k) :=
  sm_ok mixed (E := impl_StoreOk.E) (pts := impl_StoreOk.pts) (fun k => ⟨⟨tysOk, by kernel_rfl⟩, forall_cons ⟨impl_within.ok k, e101⟩ (forall_cons ⟨impl_entriesOk.ok k, e135⟩ (forall_cons ⟨impl_placesAscend.ok k, e136⟩ (forall_nil)))⟩) (fun _ => rfl) (fun _ => rfl)
    ⟨Tryz.func70, by kernel_rfl, by kernel_rfl, by kernel_rfl, by kernel_rfl, by kernel_rfl, by kernel_rfl⟩ (forall_nil) (fun k x => impl_StoreOk.hf k x.1) k
noncomputable def b192 : Code := Tryz.f192.body.getD .skip
theorem e192 : OM.Entry Tryz.prog 192 := ⟨_, Tryz.func192, by kernel_rfl, by kernel_rfl⟩
@[reducible] noncomputable def impl_copyInts.g : Sig := ⟨[.fz (.sl (.int .i64))], [.v (.sl (.int .i64)) (.own .z)], []⟩
@[reducible] noncomputable def impl_copyInts.fk : Nat → denI impl_copyInts.g.pms → Option (denR (outTys impl_copyInts.g.rts impl_copyInts.g.pms)) := fun k x => impl_copyInts.f x.1
@[reducible] noncomputable def impl_copyInts.sm (k : Nat) : Sm := ⟨192, impl_copyInts.g.pms, impl_copyInts.g.rts, impl_copyInts.fk k⟩
noncomputable def impl_copyInts.E (k : Nat) : Env := ⟨tys, [], [4], [], []⟩
noncomputable def impl_copyInts.pts : List (Pt (denR (outTys impl_copyInts.g.rts impl_copyInts.g.pms))) := []
theorem impl_copyInts.hf (k : Nat) (a0 : (List Int)) : (impl_copyInts.f a0 : Option (denR (outTys impl_copyInts.g.rts impl_copyInts.g.pms))) = evC (impl_copyInts.E k) (fun κ s => lhOf k κ s impl_copyInts.pts) b192 (OM.start impl_copyInts.g.pms 0 (a0, ())) (OM.fin impl_copyInts.g Tryz.f192.results.toList) := by kernel_rfl
theorem impl_copyInts.ok (k : Nat) : SmOk Tryz.prog (impl_copyInts.sm k) :=
  sm_ok mixed (E := impl_copyInts.E) (pts := impl_copyInts.pts) (fun k => ⟨⟨tysOk, by kernel_rfl⟩, forall_nil⟩) (fun _ => rfl) (fun _ => rfl)
    ⟨Tryz.func192, by kernel_rfl, by kernel_rfl, by kernel_rfl, by kernel_rfl, by kernel_rfl, by kernel_rfl⟩ (forall_nil) (fun k x => impl_copyInts.hf k x.1) k
noncomputable def b191 : Code := Tryz.f191.body.getD .skip
theorem e191 : OM.Entry Tryz.prog 191 := ⟨_, Tryz.func191, by kernel_rfl, by kernel_rfl⟩
noncomputable def slices_DeleteFunc_int_int_impl_both_1.rho : Shelf.Ren := ⟨fun n => cond (Nat.beq n 6) 223 (cond (Nat.beq n 10) 191 (n)), fun n => cond (Nat.beq n 22) 22 (cond (Nat.beq n 23) 3 (cond (Nat.beq n 25) 146 (cond (Nat.beq n 0) 0 (cond (Nat.beq n 3) 3 (cond (Nat.beq n 4) 4 (n)))))), fun n => n⟩
theorem slices_DeleteFunc_int_int_impl_both_1.lay : Proofs.SlLaysH.n10 Tryz.prog slices_DeleteFunc_int_int_impl_both_1.rho := { mixed := mixed, f6 := ⟨"slices.IndexFunc[[]int,int]", by kernel_rfl, (Tryz.func223).trans (congrArg some (by kernel_rfl))⟩, f10 := ⟨"slices.DeleteFunc[[]int,int]", by kernel_rfl, (Tryz.func191).trans (congrArg some (by kernel_rfl))⟩, t0 := Tryz.underlying0, a0 := Tryz.isAgg0, z0 := Tryz.sizeOf0, v0 := Tryz.zeroValue0, t3 := Tryz.underlying3, a3 := Tryz.isAgg3, z3 := Tryz.sizeOf3, v3 := Tryz.zeroValue3, t4 := Tryz.underlying4, a4 := Tryz.isAgg4, z4 := Tryz.sizeOf4, v4 := Tryz.zeroValue4, t22 := Tryz.underlying22, a22 := Tryz.isAgg22, z22 := Tryz.sizeOf22, v22 := Tryz.zeroValue22, a23 := Tryz.isAgg3, z23 := Tryz.sizeOf3, t25 := Tryz.underlying146, a25 := Tryz.isAgg146, z25 := Tryz.sizeOf146, v25 := Tryz.zeroValue146 }
noncomputable def slices_DeleteFunc_int_int_impl_both_1.rhoC : Shelf.Ren := ⟨fun n => cond (Nat.beq n 29) 224 (cond (Nat.beq n 31) 194 (n)), fun n => cond (Nat.beq n 22) 22 (cond (Nat.beq n 23) 3 (cond (Nat.beq n 0) 0 (cond (Nat.beq n 3) 3 (cond (Nat.beq n 4) 4 (n))))), fun n => n⟩
theorem slices_DeleteFunc_int_int_impl_both_1.layC : Proofs.SlLaysE.n31 Tryz.prog slices_DeleteFunc_int_int_impl_both_1.rhoC := { mixed := mixed, f29 := ⟨"slices.Index[[]int,int]", by kernel_rfl, (Tryz.func224).trans (congrArg some (by kernel_rfl))⟩, f31 := ⟨"slices.Contains[[]int,int]", by kernel_rfl, (Tryz.func194).trans (congrArg some (by kernel_rfl))⟩, t0 := Tryz.underlying0, a0 := Tryz.isAgg0, z0 := Tryz.sizeOf0, v0 := Tryz.zeroValue0, t3 := Tryz.underlying3, a3 := Tryz.isAgg3, z3 := Tryz.sizeOf3, v3 := Tryz.zeroValue3, t4 := Tryz.underlying4, a4 := Tryz.isAgg4, z4 := Tryz.sizeOf4, v4 := Tryz.zeroValue4, t22 := Tryz.underlying22, a22 := Tryz.isAgg22, z22 := Tryz.sizeOf22, v22 := Tryz.zeroValue22, a23 := Tryz.isAgg3, z23 := Tryz.sizeOf3 }
theorem slices_DeleteFunc_int_int_impl_both_1.gives (w : Go.World) (S : Nat → Prop) (y : ((List Int) × Unit)) (cap : List Value) (x : Int) (hy : slices_DeleteFunc_int_int_impl_both_1.okp y) (h : Rp w S (.pair (.fp (.sl (.int .i64))) .unit) .z y cap (fun _ => False)) : Proofs.FnGives Tryz.prog 193 cap.toArray #[.int .i64 x] (.bool (slices_DeleteFunc_int_int_impl_both_1.pred y x)) w := by
  obtain ⟨b, off, c1, rfl, h1, h2⟩ := cap_one h
  obtain ⟨a, n, c, rfl⟩ : ∃ a n c, c1 = [.slice a n c] := by
    obtain ⟨a, c, e, _⟩ := h2
    exact ⟨a, _, c, e⟩
  have hcell : w.cell? ⟨b, off, none⟩ = some (.slice a n c) := h1 0 _ rfl
  have hcon := contains_calls slices_DeleteFunc_int_int_impl_both_1.layC h2 hy x
  change Calls Tryz.prog 194 _ _ _ at hcon
  unfold slices_DeleteFunc_int_int_impl_both_1.pred
  generalize (y.1.any fun u => decide (x = u)) = r at hcon ⊢
  clear h h1 h2 hy
  show Calls Tryz.prog 193 #[.int .i64 x, .pointer (some ⟨b, off, none⟩)] w _
  go_enter Tryz.func193, Tryz.ntmps193
  go_wp2_with (go_at_call 194; refine hcon.mono ?_; rintro e w' ⟨rfl, rfl⟩)
  all_goals (go_ret; exact ⟨rfl, 0, rfl⟩)
@[reducible] noncomputable def slices_DeleteFunc_int_int_impl_both_1.g : Sig := ⟨[.own (.sl (.int .i64)) (.own .z), .fz (.fn 193 (.pair (.fp (.sl (.int .i64))) .unit))], [.v (.sl (.int .i64)) (.own .z)], []⟩
@[reducible] noncomputable def slices_DeleteFunc_int_int_impl_both_1.fk : Nat → denI slices_DeleteFunc_int_int_impl_both_1.g.pms → Option (denR (outTys slices_DeleteFunc_int_int_impl_both_1.g.rts slices_DeleteFunc_int_int_impl_both_1.g.pms)) := fun k x => slices_DeleteFunc_int_int_impl_both_1.f x.1 x.2.1
@[reducible] noncomputable def slices_DeleteFunc_int_int_impl_both_1.sm (k : Nat) : Sm := ⟨191, slices_DeleteFunc_int_int_impl_both_1.g.pms, slices_DeleteFunc_int_int_impl_both_1.g.rts, slices_DeleteFunc_int_int_impl_both_1.fk k⟩
theorem slices_DeleteFunc_int_int_impl_both_1.ok (k : Nat) : SmOk Tryz.prog (slices_DeleteFunc_int_int_impl_both_1.sm k) :=
  del_ok (t := (.pair (.fp (.sl (.int .i64))) .unit)) slices_DeleteFunc_int_int_impl_both_1.lay Tryz.zeroValue3 (Proofs.enters_of Tryz.func193 (by kernel_rfl) rfl) slices_DeleteFunc_int_int_impl_both_1.pred slices_DeleteFunc_int_int_impl_both_1.okp slices_DeleteFunc_int_int_impl_both_1.gives

noncomputable def b157 : Code := Tryz.f157.body.getD .skip
theorem e157 : OM.Entry Tryz.prog 157 := ⟨_, Tryz.func157, by kernel_rfl, by kernel_rfl⟩
@[reducible] noncomputable def impl_both.g : Sig := ⟨[.fz (.sl (.int .i64)), .fz (.sl (.int .i64))], [.v (.sl (.int .i64)) (.own .z)], []⟩
@[reducible] noncomputable def impl_both.fk : Nat → denI impl_both.g.pms → Option (denR (outTys impl_both.g.rts impl_both.g.pms)) := fun k x => impl_both.f x.1 x.2.1
@[reducible] noncomputable def impl_both.sm (k : Nat) : Sm := ⟨157, impl_both.g.pms, impl_both.g.rts, impl_both.fk k⟩
noncomputable def impl_both.E (k : Nat) : Env := ⟨tys, [impl_copyInts.sm k, slices_DeleteFunc_int_int_impl_both_1.sm k], [], [], []⟩
noncomputable def impl_both.pts : List (Pt (denR (outTys impl_both.g.rts impl_both.g.pms))) := []
theorem impl_both.hf (k : Nat) (a0 : (List Int)) (a1 : (List Int)) : (impl_both.f a0 a1 : Option (denR (outTys impl_both.g.rts impl_both.g.pms))) = evC (impl_both.E k) (fun κ s => lhOf k κ s impl_both.pts) b157 (OM.start impl_both.g.pms 0 (a0, a1, ())) (OM.fin impl_both.g Tryz.f157.results.toList) := by kernel_rfl
theorem impl_both.ok (k : Nat) : SmOk Tryz.prog (impl_both.sm k) :=
  sm_ok mixed (E := impl_both.E) (pts := impl_both.pts) (fun k => ⟨⟨tysOk, by kernel_rfl⟩, forall_cons ⟨impl_copyInts.ok k, e192⟩ (forall_cons ⟨slices_DeleteFunc_int_int_impl_both_1.ok k, e191⟩ (forall_nil))⟩) (fun _ => rfl) (fun _ => rfl)
    ⟨Tryz.func157, by kernel_rfl, by kernel_rfl, by kernel_rfl, by kernel_rfl, by kernel_rfl, by kernel_rfl⟩ (forall_nil) (fun k x => impl_both.hf k x.1 x.2.1) k
noncomputable def b103 : Code := Tryz.f103.body.getD .skip
theorem e103 : OM.Entry Tryz.prog 103 := ⟨_, Tryz.func103, by kernel_rfl, by kernel_rfl⟩
@[reducible] noncomputable def impl_World_isLost.g : Sig := ⟨[.fz (.fp tWorld), .fz (.int .i64)], [.v .bool .z], []⟩
@[reducible] noncomputable def impl_World_isLost.fk : Nat → denI impl_World_isLost.g.pms → Option (denR (outTys impl_World_isLost.g.rts impl_World_isLost.g.pms)) := fun k x => impl_World_isLost.f x.1 x.2.1
@[reducible] noncomputable def impl_World_isLost.sm (k : Nat) : Sm := ⟨103, impl_World_isLost.g.pms, impl_World_isLost.g.rts, impl_World_isLost.fk k⟩
noncomputable def impl_World_isLost.E (k : Nat) : Env := ⟨tys, [impl_both.sm k], [5], [], []⟩
noncomputable def impl_World_isLost.pts : List (Pt (denR (outTys impl_World_isLost.g.rts impl_World_isLost.g.pms))) := []
theorem impl_World_isLost.hf (k : Nat) (a0 : World) (a1 : Int) : (impl_World_isLost.f a0 a1 : Option (denR (outTys impl_World_isLost.g.rts impl_World_isLost.g.pms))) = evC (impl_World_isLost.E k) (fun κ s => lhOf k κ s impl_World_isLost.pts) b103 (OM.start impl_World_isLost.g.pms 0 (a0, a1, ())) (OM.fin impl_World_isLost.g Tryz.f103.results.toList) := by kernel_rfl
theorem impl_World_isLost.ok (k : Nat) : SmOk Tryz.prog (impl_World_isLost.sm k) :=
  sm_ok mixed (E := impl_World_isLost.E) (pts := impl_World_isLost.pts) (fun k => ⟨⟨tysOk, by kernel_rfl⟩, forall_cons ⟨impl_both.ok k, e157⟩ (forall_nil)⟩) (fun _ => rfl) (fun _ => rfl)
    ⟨Tryz.func103, by kernel_rfl, by kernel_rfl, by kernel_rfl, by kernel_rfl, by kernel_rfl, by kernel_rfl⟩ (forall_nil) (fun k x => impl_World_isLost.hf k x.1 x.2.1) k
noncomputable def b224 : Code := Tryz.f224.body.getD .skip
theorem e224 : OM.Entry Tryz.prog 224 := ⟨_, Tryz.func224, by kernel_rfl, by kernel_rfl⟩
@[reducible] noncomputable def slices_Index_int_int.g : Sig := ⟨[.fz (.sl (.int .i64)), .fz (.int .i64)], [.v (.int .i64) .z], []⟩
@[reducible] noncomputable def slices_Index_int_int.fk : Nat → denI slices_Index_int_int.g.pms → Option (denR (outTys slices_Index_int_int.g.rts slices_Index_int_int.g.pms)) := fun k x => slices_Index_int_int.f k x.1 x.2.1
@[reducible] noncomputable def slices_Index_int_int.sm (k : Nat) : Sm := ⟨224, slices_Index_int_int.g.pms, slices_Index_int_int.g.rts, slices_Index_int_int.fk k⟩
noncomputable def slices_Index_int_int.E (k : Nat) : Env := ⟨tys, [], [], [], []⟩
@[reducible] noncomputable def slices_Index_int_int.s5 : List Slot := [.v 0 (.sl (.int .i64)) .z [] 0, .v 4 (.int .i64) .z [] 0, .v 28 (.int .i64) .z [] 0, .v 32 (.int .i64) .z [] 0]
noncomputable def slices_Index_int_int.pts : List (Pt (denR (outTys slices_Index_int_int.g.rts slices_Index_int_int.g.pms))) := [⟨5, slices_Index_int_int.s5, fun k x => slices_Index_int_int.p5 k x.1 x.2.1 x.2.2.1 x.2.2.2.1⟩]
theorem slices_Index_int_int.h5 (k : Nat) (x0 : (List Int)) (x1 : Int) (x2 : Int) (x3 : Int) : (slices_Index_int_int.p5 (k + 1) x0 x1 x2 x3 : Option (denR (outTys slices_Index_int_int.g.rts slices_Index_int_int.g.pms))) = evAt (slices_Index_int_int.E k) (fun κ s => lhOf k κ s slices_Index_int_int.pts) 5 b224 (unproj slices_Index_int_int.s5 (x0, x1, x2, x3, ())) (OM.fin slices_Index_int_int.g Tryz.f224.results.toList) := by kernel_rfl
theorem slices_Index_int_int.hf (k : Nat) (a0 : (List Int)) (a1 : Int) : (slices_Index_int_int.f k a0 a1 : Option (denR (outTys slices_Index_int_int.g.rts slices_Index_int_int.g.pms))) = evC (slices_Index_int_int.E k) (fun κ s => lhOf k κ s slices_Index_int_int.pts) b224 (OM.start slices_Index_int_int.g.pms 0 (a0, a1, ())) (OM.fin slices_Index_int_int.g Tryz.f224.results.toList) := by kernel_rfl
theorem slices_Index_int_int.ok (k : Nat) : SmOk Tryz.prog (slices_Index_int_int.sm k) :=
  sm_ok mixed (E := slices_Index_int_int.E) (pts := slices_Index_int_int.pts) (fun k => ⟨⟨tysOk, by kernel_rfl⟩, forall_nil⟩) (fun _ => rfl) (fun _ => rfl)
    ⟨Tryz.func224, by kernel_rfl, by kernel_rfl, by kernel_rfl, by kernel_rfl, by kernel_rfl, by kernel_rfl⟩ (forall_cons (fun x => ⟨rfl, fun k => slices_Index_int_int.h5 k x.1 x.2.1 x.2.2.1 x.2.2.2.1⟩) (forall_nil)) (fun k x => slices_Index_int_int.hf k x.1 x.2.1) k
noncomputable def b194 : Code := Tryz.f194.body.getD .skip
theorem e194 : OM.Entry Tryz.prog 194 := ⟨_, Tryz.func194, by kernel_rfl, by kernel_rfl⟩
@[reducible] noncomputable def slices_Contains_int_int.g : Sig := ⟨[.fz (.sl (.int .i64)), .fz (.int .i64)], [.v .bool .z], []⟩
@[reducible] noncomputable def slices_Contains_int_int.fk : Nat → denI slices_Contains_int_int.g.pms → Option (denR (outTys slices_Contains_int_int.g.rts slices_Contains_int_int.g.pms)) := fun k x => slices_Contains_int_int.f k x.1 x.2.1
@[reducible] noncomputable def slices_Contains_int_int.sm (k : Nat) : Sm := ⟨194, slices_Contains_int_int.g.pms, slices_Contains_int_int.g.rts, slices_Contains_int_int.fk k⟩
noncomputable def slices_Contains_int_int.E (k : Nat) : Env := ⟨tys, [slices_Index_int_int.sm k], [], [], []⟩
noncomputable def slices_Contains_int_int.pts : List (Pt (denR (outTys slices_Contains_int_int.g.rts slices_Contains_int_int.g.pms))) := []
theorem slices_Contains_int_int.hf (k : Nat) (a0 : (List Int)) (a1 : Int) : (slices_Contains_int_int.f k a0 a1 : Option (denR (outTys slices_Contains_int_int.g.rts slices_Contains_int_int.g.pms))) = evC (slices_Contains_int_int.E k) (fun κ s => lhOf k κ s slices_Contains_int_int.pts) b194 (OM.start slices_Contains_int_int.g.pms 0 (a0, a1, ())) (OM.fin slices_Contains_int_int.g Tryz.f194.results.toList) := by kernel_rfl
theorem slices_Contains_int_int.ok (k : Nat) : SmOk Tryz.prog (slices_Contains_int_int.sm k) :=
  sm_ok mixed (E := slices_Contains_int_int.E) (pts := slices_Contains_int_int.pts) (fun k => ⟨⟨tysOk, by kernel_rfl⟩, forall_cons ⟨slices_Index_int_int.ok k, e224⟩ (forall_nil)⟩) (fun _ => rfl) (fun _ => rfl)
    ⟨Tryz.func194, by kernel_rfl, by kernel_rfl, by kernel_rfl, by kernel_rfl, by kernel_rfl, by kernel_rfl⟩ (forall_nil) (fun k x => slices_Contains_int_int.hf k x.1 x.2.1) k
noncomputable def b158 : Code := Tryz.f158.body.getD .skip
theorem e158 : OM.Entry Tryz.prog 158 := ⟨_, Tryz.func158, by kernel_rfl, by kernel_rfl⟩
@[reducible] noncomputable def impl_SpanOf.g : Sig := ⟨[.fz tConfig, .fz (.sl (.int .i64))], [.v (.int .i64) .z], []⟩
@[reducible] noncomputable def impl_SpanOf.fk : Nat → denI impl_SpanOf.g.pms → Option (denR (outTys impl_SpanOf.g.rts impl_SpanOf.g.pms)) := fun k x => impl_SpanOf.f k x.1 x.2.1
@[reducible] noncomputable def impl_SpanOf.sm (k : Nat) : Sm := ⟨158, impl_SpanOf.g.pms, impl_SpanOf.g.rts, impl_SpanOf.fk k⟩
noncomputable def impl_SpanOf.E (k : Nat) : Env := ⟨tys, [impl_NodesOk.sm k, slices_Contains_int_int.sm k], [18, 32], [], []⟩
@[reducible] noncomputable def impl_SpanOf.s11 : List Slot := [.r 8 9 [] tConfig, .v 20 (.sl (.int .i64)) (.own .z) [] 0, .v 52 (.sl (.int .i64)) .z [] 0, .v 56 (.int .i64) .z [] 0, .v 60 (.int .i64) .z [] 0, .v 9 tConfig .z [] 0]
noncomputable def impl_SpanOf.pts : List (Pt (denR (outTys impl_SpanOf.g.rts impl_SpanOf.g.pms))) := [⟨11, impl_SpanOf.s11, fun k x => impl_SpanOf.p11 k x.1 x.2.1 x.2.2.1 x.2.2.2.1 x.2.2.2.2.1⟩]
theorem impl_SpanOf.h11 (k : Nat) (x0 : (List Int)) (x1 : (List Int)) (x2 : Int) (x3 : Int) (x4 : Config) : (impl_SpanOf.p11 (k + 1) x0 x1 x2 x3 x4 : Option (denR (outTys impl_SpanOf.g.rts impl_SpanOf.g.pms))) = evAt (impl_SpanOf.E k) (fun κ s => lhOf k κ s impl_SpanOf.pts) 11 b158 (unproj impl_SpanOf.s11 (x0, x1, x2, x3, x4, ())) (OM.fin impl_SpanOf.g Tryz.f158.results.toList) := by kernel_rfl
theorem impl_SpanOf.hf (k : Nat) (a0 : Config) (a1 : (List Int)) : (impl_SpanOf.f k a0 a1 : Option (denR (outTys impl_SpanOf.g.rts impl_SpanOf.g.pms))) = evC (impl_SpanOf.E k) (fun κ s => lhOf k κ s impl_SpanOf.pts) b158 (OM.start impl_SpanOf.g.pms 0 (a0, a1, ())) (OM.fin impl_SpanOf.g Tryz.f158.results.toList) := by kernel_rfl
theorem impl_SpanOf.ok (k : Nat) : SmOk Tryz.prog (impl_SpanOf.sm k) :=
  sm_ok mixed (E := impl_SpanOf.E) (pts := impl_SpanOf.pts) (fun k => ⟨⟨tysOk, by kernel_rfl⟩, forall_cons ⟨impl_NodesOk.ok k, e102⟩ (forall_cons ⟨slices_Contains_int_int.ok k, e194⟩ (forall_nil))⟩) (fun _ => rfl) (fun _ => rfl)
    ⟨Tryz.func158, by kernel_rfl, by kernel_rfl, by kernel_rfl, by kernel_rfl, by kernel_rfl, by kernel_rfl⟩ (forall_cons (fun x => ⟨rfl, fun k => impl_SpanOf.h11 k x.1 x.2.1 x.2.2.1 x.2.2.2.1 x.2.2.2.2.1⟩) (forall_nil)) (fun k x => impl_SpanOf.hf k x.1 x.2.1) k
noncomputable def b104 : Code := Tryz.f104.body.getD .skip
theorem e104 : OM.Entry Tryz.prog 104 := ⟨_, Tryz.func104, by kernel_rfl, by kernel_rfl⟩
@[reducible] noncomputable def impl_Holds.g : Sig := ⟨[.fz tConfig, .fz (.sl (.int .i64))], [.v .bool .z], []⟩
@[reducible] noncomputable def impl_Holds.fk : Nat → denI impl_Holds.g.pms → Option (denR (outTys impl_Holds.g.rts impl_Holds.g.pms)) := fun k x => impl_Holds.f k x.1 x.2.1
@[reducible] noncomputable def impl_Holds.sm (k : Nat) : Sm := ⟨104, impl_Holds.g.pms, impl_Holds.g.rts, impl_Holds.fk k⟩
noncomputable def impl_Holds.E (k : Nat) : Env := ⟨tys, [impl_NodesOk.sm k, impl_SpanOf.sm k], [], [], []⟩
noncomputable def impl_Holds.pts : List (Pt (denR (outTys impl_Holds.g.rts impl_Holds.g.pms))) := []
theorem impl_Holds.hf (k : Nat) (a0 : Config) (a1 : (List Int)) : (impl_Holds.f k a0 a1 : Option (denR (outTys impl_Holds.g.rts impl_Holds.g.pms))) = evC (impl_Holds.E k) (fun κ s => lhOf k κ s impl_Holds.pts) b104 (OM.start impl_Holds.g.pms 0 (a0, a1, ())) (OM.fin impl_Holds.g Tryz.f104.results.toList) := by kernel_rfl
theorem impl_Holds.ok (k : Nat) : SmOk Tryz.prog (impl_Holds.sm k) :=
  sm_ok mixed (E := impl_Holds.E) (pts := impl_Holds.pts) (fun k => ⟨⟨tysOk, by kernel_rfl⟩, forall_cons ⟨impl_NodesOk.ok k, e102⟩ (forall_cons ⟨impl_SpanOf.ok k, e158⟩ (forall_nil))⟩) (fun _ => rfl) (fun _ => rfl)
    ⟨Tryz.func104, by kernel_rfl, by kernel_rfl, by kernel_rfl, by kernel_rfl, by kernel_rfl, by kernel_rfl⟩ (forall_nil) (fun k x => impl_Holds.hf k x.1 x.2.1) k
noncomputable def b46 : Code := Tryz.f46.body.getD .skip
theorem e46 : OM.Entry Tryz.prog 46 := ⟨_, Tryz.func46, by kernel_rfl, by kernel_rfl⟩
@[reducible] noncomputable def impl_World_storesOk.g : Sig := ⟨[.fz (.fp tWorld)], [.v .bool .z], []⟩
@[reducible] noncomputable def impl_World_storesOk.fk : Nat → denI impl_World_storesOk.g.pms → Option (denR (outTys impl_World_storesOk.g.rts impl_World_storesOk.g.pms)) := fun k x => impl_World_storesOk.f k x.1
@[reducible] noncomputable def impl_World_storesOk.sm (k : Nat) : Sm := ⟨46, impl_World_storesOk.g.pms, impl_World_storesOk.g.rts, impl_World_storesOk.fk k⟩
noncomputable def impl_World_storesOk.E (k : Nat) : Env := ⟨tys, [impl_NodesOk.sm k, impl_StoreOk.sm k, impl_World_isLost.sm k, impl_Holds.sm k], [38], [], []⟩
@[reducible] noncomputable def impl_World_storesOk.s9 : List Slot := [.v 0 (.fp tWorld) .z [] 0, .v 128 (.sl tStore) .z [] 0, .v 132 (.int .i64) .z [] 0, .v 136 (.int .i64) .z [] 0]
noncomputable def impl_World_storesOk.pts : List (Pt (denR (outTys impl_World_storesOk.g.rts impl_World_storesOk.g.pms))) := [⟨9, impl_World_storesOk.s9, fun k x => impl_World_storesOk.p9 k x.1 x.2.1 x.2.2.1 x.2.2.2.1⟩]
theorem impl_World_storesOk.h9 (k : Nat) (x0 : World) (x1 : (List Store)) (x2 : Int) (x3 : Int) : (impl_World_storesOk.p9 (k + 1) x0 x1 x2 x3 : Option (denR (outTys impl_World_storesOk.g.rts impl_World_storesOk.g.pms))) = evAt (impl_World_storesOk.E k) (fun κ s => lhOf k κ s impl_World_storesOk.pts) 9 b46 (unproj impl_World_storesOk.s9 (x0, x1, x2, x3, ())) (OM.fin impl_World_storesOk.g Tryz.f46.results.toList) := by kernel_rfl
theorem impl_World_storesOk.hf (k : Nat) (a0 : World) : (impl_World_storesOk.f k a0 : Option (denR (outTys impl_World_storesOk.g.rts impl_World_storesOk.g.pms))) = evC (impl_World_storesOk.E k) (fun κ s => lhOf k κ s impl_World_storesOk.pts) b46 (OM.start impl_World_storesOk.g.pms 0 (a0, ())) (OM.fin impl_World_storesOk.g Tryz.f46.results.toList) := by kernel_rfl
theorem impl_World_storesOk.ok (k : Nat) : SmOk Tryz.prog (impl_World_storesOk.sm k) :=
  sm_ok mixed (E := impl_World_storesOk.E) (pts := impl_World_storesOk.pts) (fun k => ⟨⟨tysOk, by kernel_rfl⟩, forall_cons ⟨impl_NodesOk.ok k, e102⟩ (forall_cons ⟨impl_StoreOk.ok k, e70⟩ (forall_cons ⟨impl_World_isLost.ok k, e103⟩ (forall_cons ⟨impl_Holds.ok k, e104⟩ (forall_nil))))⟩) (fun _ => rfl) (fun _ => rfl)
    ⟨Tryz.func46, by kernel_rfl, by kernel_rfl, by kernel_rfl, by kernel_rfl, by kernel_rfl, by kernel_rfl⟩ (forall_cons (fun x => ⟨rfl, fun k => impl_World_storesOk.h9 k x.1 x.2.1 x.2.2.1 x.2.2.2.1⟩) (forall_nil)) (fun k x => impl_World_storesOk.hf k x.1) k
noncomputable def b105 : Code := Tryz.f105.body.getD .skip
theorem e105 : OM.Entry Tryz.prog 105 := ⟨_, Tryz.func105, by kernel_rfl, by kernel_rfl⟩
@[reducible] noncomputable def impl_eraOk.g : Sig := ⟨[.fz tConfig, .fz tEra], [.v .bool .z], []⟩
@[reducible] noncomputable def impl_eraOk.fk : Nat → denI impl_eraOk.g.pms → Option (denR (outTys impl_eraOk.g.rts impl_eraOk.g.pms)) := fun k x => impl_eraOk.f k x.1 x.2.1
@[reducible] noncomputable def impl_eraOk.sm (k : Nat) : Sm := ⟨105, impl_eraOk.g.pms, impl_eraOk.g.rts, impl_eraOk.fk k⟩
noncomputable def impl_eraOk.E (k : Nat) : Env := ⟨tys, [impl_within.sm k, impl_Holds.sm k], [], [], []⟩
noncomputable def impl_eraOk.pts : List (Pt (denR (outTys impl_eraOk.g.rts impl_eraOk.g.pms))) := []
theorem impl_eraOk.hf (k : Nat) (a0 : Config) (a1 : Era) : (impl_eraOk.f k a0 a1 : Option (denR (outTys impl_eraOk.g.rts impl_eraOk.g.pms))) = evC (impl_eraOk.E k) (fun κ s => lhOf k κ s impl_eraOk.pts) b105 (OM.start impl_eraOk.g.pms 0 (a0, a1, ())) (OM.fin impl_eraOk.g Tryz.f105.results.toList) := by kernel_rfl
theorem impl_eraOk.ok (k : Nat) : SmOk Tryz.prog (impl_eraOk.sm k) :=
  sm_ok mixed (E := impl_eraOk.E) (pts := impl_eraOk.pts) (fun k => ⟨⟨tysOk, by kernel_rfl⟩, forall_cons ⟨impl_within.ok k, e101⟩ (forall_cons ⟨impl_Holds.ok k, e104⟩ (forall_nil))⟩) (fun _ => rfl) (fun _ => rfl)
    ⟨Tryz.func105, by kernel_rfl, by kernel_rfl, by kernel_rfl, by kernel_rfl, by kernel_rfl, by kernel_rfl⟩ (forall_nil) (fun k x => impl_eraOk.hf k x.1 x.2.1) k
noncomputable def b47 : Code := Tryz.f47.body.getD .skip
theorem e47 : OM.Entry Tryz.prog 47 := ⟨_, Tryz.func47, by kernel_rfl, by kernel_rfl⟩
@[reducible] noncomputable def impl_RegOk.g : Sig := ⟨[.fz tConfig, .fz tRegister], [.v .bool .z], []⟩
@[reducible] noncomputable def impl_RegOk.fk : Nat → denI impl_RegOk.g.pms → Option (denR (outTys impl_RegOk.g.rts impl_RegOk.g.pms)) := fun k x => impl_RegOk.f k x.1 x.2.1
@[reducible] noncomputable def impl_RegOk.sm (k : Nat) : Sm := ⟨47, impl_RegOk.g.pms, impl_RegOk.g.rts, impl_RegOk.fk k⟩
noncomputable def impl_RegOk.E (k : Nat) : Env := ⟨tys, [impl_within.sm k, impl_ConfigOk.sm k, impl_EpochOf.sm k, impl_eraOk.sm k], [15], [8], []⟩
@[reducible] noncomputable def impl_RegOk.s5 : List Slot := [.r 8 9 [] tConfig, .r 12 13 [] tRegister, .v 36 (.sl tEra) .z [] 0, .v 40 (.int .i64) .z [] 0, .v 44 (.int .i64) .z [] 0, .v 9 tConfig .z [] 0, .v 13 tRegister .z [] 0]
@[reducible] noncomputable def impl_RegOk.s16 : List Slot := [.r 8 9 [] tConfig, .r 12 13 [] tRegister, .v 28 .bool .z [] 0, .v 9 tConfig .z [] 0, .v 13 tRegister .z [] 0]
noncomputable def impl_RegOk.pts : List (Pt (denR (outTys impl_RegOk.g.rts impl_RegOk.g.pms))) := [⟨5, impl_RegOk.s5, fun k x => impl_RegOk.p5 k x.1 x.2.1 x.2.2.1 x.2.2.2.1 x.2.2.2.2.1⟩, ⟨16, impl_RegOk.s16, fun k x => impl_RegOk.p16 k x.1 x.2.1 x.2.2.1⟩]
theorem impl_RegOk.h5 (k : Nat) (x0 : (List Era)) (x1 : Int) (x2 : Int) (x3 : Config) (x4 : Register) : (impl_RegOk.p5 (k + 1) x0 x1 x2 x3 x4 : Option (denR (outTys impl_RegOk.g.rts impl_RegOk.g.pms))) = evAt (impl_RegOk.E k) (fun κ s => lhOf k κ s impl_RegOk.pts) 5 b47 (unproj impl_RegOk.s5 (x0, x1, x2, x3, x4, ())) (OM.fin impl_RegOk.g Tryz.f47.results.toList) := by kernel_rfl
theorem impl_RegOk.h16 (k : Nat) (x0 : Bool) (x1 : Config) (x2 : Register) : (impl_RegOk.p16 (k + 1) x0 x1 x2 : Option (denR (outTys impl_RegOk.g.rts impl_RegOk.g.pms))) = evAt (impl_RegOk.E k) (fun κ s => lhOf k κ s impl_RegOk.pts) 16 b47 (unproj impl_RegOk.s16 (x0, x1, x2, ())) (OM.fin impl_RegOk.g Tryz.f47.results.toList) := by kernel_rfl
theorem impl_RegOk.hf (k : Nat) (a0 : Config) (a1 : Register) : (impl_RegOk.f k a0 a1 : Option (denR (outTys impl_RegOk.g.rts impl_RegOk.g.pms))) = evC (impl_RegOk.E k) (fun κ s => lhOf k κ s impl_RegOk.pts) b47 (OM.start impl_RegOk.g.pms 0 (a0, a1, ())) (OM.fin impl_RegOk.g Tryz.f47.results.toList) := by kernel_rfl
theorem impl_RegOk.ok (k : Nat) : SmOk Tryz.prog (impl_RegOk.sm k) :=
  sm_ok mixed (E := impl_RegOk.E) (pts := impl_RegOk.pts) (fun k => ⟨⟨tysOk, by kernel_rfl⟩, forall_cons ⟨impl_within.ok k, e101⟩ (forall_cons ⟨impl_ConfigOk.ok k, e45⟩ (forall_cons ⟨impl_EpochOf.ok k, e106⟩ (forall_cons ⟨impl_eraOk.ok k, e105⟩ (forall_nil))))⟩) (fun _ => rfl) (fun _ => rfl)
    ⟨Tryz.func47, by kernel_rfl, by kernel_rfl, by kernel_rfl, by kernel_rfl, by kernel_rfl, by kernel_rfl⟩ (forall_cons (fun x => ⟨rfl, fun k => impl_RegOk.h5 k x.1 x.2.1 x.2.2.1 x.2.2.2.1 x.2.2.2.2.1⟩) (forall_cons (fun x => ⟨rfl, fun k => impl_RegOk.h16 k x.1 x.2.1 x.2.2.1⟩) (forall_nil))) (fun k x => impl_RegOk.hf k x.1 x.2.1) k
noncomputable def b160 : Code := Tryz.f160.body.getD .skip
theorem e160 : OM.Entry Tryz.prog 160 := ⟨_, Tryz.func160, by kernel_rfl, by kernel_rfl⟩
@[reducible] noncomputable def impl_flagNum.g : Sig := ⟨[.fz .bool], [.v (.int .i64) .z], []⟩
@[reducible] noncomputable def impl_flagNum.fk : Nat → denI impl_flagNum.g.pms → Option (denR (outTys impl_flagNum.g.rts impl_flagNum.g.pms)) := fun k x => impl_flagNum.f x.1
@[reducible] noncomputable def impl_flagNum.sm (k : Nat) : Sm := ⟨160, impl_flagNum.g.pms, impl_flagNum.g.rts, impl_flagNum.fk k⟩
noncomputable def impl_flagNum.E (k : Nat) : Env := ⟨tys, [], [], [], []⟩
noncomputable def impl_flagNum.pts : List (Pt (denR (outTys impl_flagNum.g.rts impl_flagNum.g.pms))) := []
theorem impl_flagNum.hf (k : Nat) (a0 : Bool) : (impl_flagNum.f a0 : Option (denR (outTys impl_flagNum.g.rts impl_flagNum.g.pms))) = evC (impl_flagNum.E k) (fun κ s => lhOf k κ s impl_flagNum.pts) b160 (OM.start impl_flagNum.g.pms 0 (a0, ())) (OM.fin impl_flagNum.g Tryz.f160.results.toList) := by kernel_rfl
theorem impl_flagNum.ok (k : Nat) : SmOk Tryz.prog (impl_flagNum.sm k) :=
  sm_ok mixed (E := impl_flagNum.E) (pts := impl_flagNum.pts) (fun k => ⟨⟨tysOk, by kernel_rfl⟩, forall_nil⟩) (fun _ => rfl) (fun _ => rfl)
    ⟨Tryz.func160, by kernel_rfl, by kernel_rfl, by kernel_rfl, by kernel_rfl, by kernel_rfl, by kernel_rfl⟩ (forall_nil) (fun k x => impl_flagNum.hf k x.1) k
noncomputable def b107 : Code := Tryz.f107.body.getD .skip
theorem e107 : OM.Entry Tryz.prog 107 := ⟨_, Tryz.func107, by kernel_rfl, by kernel_rfl⟩
@[reducible] noncomputable def impl_WriterOk.g : Sig := ⟨[.fz tConfig, .fz tWriter], [.v .bool .z], []⟩
@[reducible] noncomputable def impl_WriterOk.fk : Nat → denI impl_WriterOk.g.pms → Option (denR (outTys impl_WriterOk.g.rts impl_WriterOk.g.pms)) := fun k x => impl_WriterOk.f k x.1 x.2.1
@[reducible] noncomputable def impl_WriterOk.sm (k : Nat) : Sm := ⟨107, impl_WriterOk.g.pms, impl_WriterOk.g.rts, impl_WriterOk.fk k⟩
noncomputable def impl_WriterOk.E (k : Nat) : Env := ⟨tys, [impl_ConfigOk.sm k, impl_NodesOk.sm k, impl_isEpoch.sm k, impl_dataOk.sm k, impl_Holds.sm k, impl_flagNum.sm k], [14], [], [4]⟩
@[reducible] noncomputable def impl_WriterOk.s7 : List Slot := [.r 8 9 [] tConfig, .r 12 13 [] tWriter, .v 20 (.int .i64) .z [] 0, .v 36 (.sl tWord) .z [] 0, .v 40 (.int .i64) .z [] 0, .v 44 (.int .i64) .z [] 0, .v 9 tConfig .z [] 0, .v 13 tWriter .z [] 0]
noncomputable def impl_WriterOk.pts : List (Pt (denR (outTys impl_WriterOk.g.rts impl_WriterOk.g.pms))) := [⟨7, impl_WriterOk.s7, fun k x => impl_WriterOk.p7 k x.1 x.2.1 x.2.2.1 x.2.2.2.1 x.2.2.2.2.1 x.2.2.2.2.2.1⟩]
theorem impl_WriterOk.h7 (k : Nat) (x0 : Int) (x1 : (List Word)) (x2 : Int) (x3 : Int) (x4 : Config) (x5 : Writer) : (impl_WriterOk.p7 (k + 1) x0 x1 x2 x3 x4 x5 : Option (denR (outTys impl_WriterOk.g.rts impl_WriterOk.g.pms))) = evAt (impl_WriterOk.E k) (fun κ s => lhOf k κ s impl_WriterOk.pts) 7 b107 (unproj impl_WriterOk.s7 (x0, x1, x2, x3, x4, x5, ())) (OM.fin impl_WriterOk.g Tryz.f107.results.toList) := by kernel_rfl
theorem impl_WriterOk.hf (k : Nat) (a0 : Config) (a1 : Writer) : (impl_WriterOk.f k a0 a1 : Option (denR (outTys impl_WriterOk.g.rts impl_WriterOk.g.pms))) = evC (impl_WriterOk.E k) (fun κ s => lhOf k κ s impl_WriterOk.pts) b107 (OM.start impl_WriterOk.g.pms 0 (a0, a1, ())) (OM.fin impl_WriterOk.g Tryz.f107.results.toList) := by kernel_rfl
theorem impl_WriterOk.ok (k : Nat) : SmOk Tryz.prog (impl_WriterOk.sm k) :=
  sm_ok mixed (E := impl_WriterOk.E) (pts := impl_WriterOk.pts) (fun k => ⟨⟨tysOk, by kernel_rfl⟩, forall_cons ⟨impl_ConfigOk.ok k, e45⟩ (forall_cons ⟨impl_NodesOk.ok k, e102⟩ (forall_cons ⟨impl_isEpoch.ok k, e161⟩ (forall_cons ⟨impl_dataOk.ok k, e112⟩ (forall_cons ⟨impl_Holds.ok k, e104⟩ (forall_cons ⟨impl_flagNum.ok k, e160⟩ (forall_nil))))))⟩) (fun _ => rfl) (fun _ => rfl)
    ⟨Tryz.func107, by kernel_rfl, by kernel_rfl, by kernel_rfl, by kernel_rfl, by kernel_rfl, by kernel_rfl⟩ (forall_cons (fun x => ⟨rfl, fun k => impl_WriterOk.h7 k x.1 x.2.1 x.2.2.1 x.2.2.2.1 x.2.2.2.2.1 x.2.2.2.2.2.1⟩) (forall_nil)) (fun k x => impl_WriterOk.hf k x.1 x.2.1) k
noncomputable def b108 : Code := Tryz.f108.body.getD .skip
theorem e108 : OM.Entry Tryz.prog 108 := ⟨_, Tryz.func108, by kernel_rfl, by kernel_rfl⟩
@[reducible] noncomputable def impl_World_isThere.g : Sig := ⟨[.fz (.fp tWorld), .fz (.int .i64)], [.v .bool .z], []⟩
@[reducible] noncomputable def impl_World_isThere.fk : Nat → denI impl_World_isThere.g.pms → Option (denR (outTys impl_World_isThere.g.rts impl_World_isThere.g.pms)) := fun k x => impl_World_isThere.f x.1 x.2.1
@[reducible] noncomputable def impl_World_isThere.sm (k : Nat) : Sm := ⟨108, impl_World_isThere.g.pms, impl_World_isThere.g.rts, impl_World_isThere.fk k⟩
noncomputable def impl_World_isThere.E (k : Nat) : Env := ⟨tys, [impl_within.sm k], [], [], []⟩
noncomputable def impl_World_isThere.pts : List (Pt (denR (outTys impl_World_isThere.g.rts impl_World_isThere.g.pms))) := []
theorem impl_World_isThere.hf (k : Nat) (a0 : World) (a1 : Int) : (impl_World_isThere.f a0 a1 : Option (denR (outTys impl_World_isThere.g.rts impl_World_isThere.g.pms))) = evC (impl_World_isThere.E k) (fun κ s => lhOf k κ s impl_World_isThere.pts) b108 (OM.start impl_World_isThere.g.pms 0 (a0, a1, ())) (OM.fin impl_World_isThere.g Tryz.f108.results.toList) := by kernel_rfl
theorem impl_World_isThere.ok (k : Nat) : SmOk Tryz.prog (impl_World_isThere.sm k) :=
  sm_ok mixed (E := impl_World_isThere.E) (pts := impl_World_isThere.pts) (fun k => ⟨⟨tysOk, by kernel_rfl⟩, forall_cons ⟨impl_within.ok k, e101⟩ (forall_nil)⟩) (fun _ => rfl) (fun _ => rfl)
    ⟨Tryz.func108, by kernel_rfl, by kernel_rfl, by kernel_rfl, by kernel_rfl, by kernel_rfl, by kernel_rfl⟩ (forall_nil) (fun k x => impl_World_isThere.hf k x.1 x.2.1) k
noncomputable def b48 : Code := Tryz.f48.body.getD .skip
theorem e48 : OM.Entry Tryz.prog 48 := ⟨_, Tryz.func48, by kernel_rfl, by kernel_rfl⟩
@[reducible] noncomputable def impl_World_writersOk.g : Sig := ⟨[.fz (.fp tWorld)], [.v .bool .z], []⟩
@[reducible] noncomputable def impl_World_writersOk.fk : Nat → denI impl_World_writersOk.g.pms → Option (denR (outTys impl_World_writersOk.g.rts impl_World_writersOk.g.pms)) := fun k x => impl_World_writersOk.f k x.1
@[reducible] noncomputable def impl_World_writersOk.sm (k : Nat) : Sm := ⟨48, impl_World_writersOk.g.pms, impl_World_writersOk.g.rts, impl_World_writersOk.fk k⟩
noncomputable def impl_World_writersOk.E (k : Nat) : Env := ⟨tys, [impl_WriterOk.sm k, impl_World_isThere.sm k], [14], [], []⟩
@[reducible] noncomputable def impl_World_writersOk.s5 : List Slot := [.v 0 (.fp tWorld) .z [] 0, .v 32 (.sl tWriter) .z [] 0, .v 36 (.int .i64) .z [] 0, .v 40 (.int .i64) .z [] 0]
noncomputable def impl_World_writersOk.pts : List (Pt (denR (outTys impl_World_writersOk.g.rts impl_World_writersOk.g.pms))) := [⟨5, impl_World_writersOk.s5, fun k x => impl_World_writersOk.p5 k x.1 x.2.1 x.2.2.1 x.2.2.2.1⟩]
theorem impl_World_writersOk.h5 (k : Nat) (x0 : World) (x1 : (List Writer)) (x2 : Int) (x3 : Int) : (impl_World_writersOk.p5 (k + 1) x0 x1 x2 x3 : Option (denR (outTys impl_World_writersOk.g.rts impl_World_writersOk.g.pms))) = evAt (impl_World_writersOk.E k) (fun κ s => lhOf k κ s impl_World_writersOk.pts) 5 b48 (unproj impl_World_writersOk.s5 (x0, x1, x2, x3, ())) (OM.fin impl_World_writersOk.g Tryz.f48.results.toList) := by kernel_rfl
theorem impl_World_writersOk.hf (k : Nat) (a0 : World) : (impl_World_writersOk.f k a0 : Option (denR (outTys impl_World_writersOk.g.rts impl_World_writersOk.g.pms))) = evC (impl_World_writersOk.E k) (fun κ s => lhOf k κ s impl_World_writersOk.pts) b48 (OM.start impl_World_writersOk.g.pms 0 (a0, ())) (OM.fin impl_World_writersOk.g Tryz.f48.results.toList) := by kernel_rfl
theorem impl_World_writersOk.ok (k : Nat) : SmOk Tryz.prog (impl_World_writersOk.sm k) :=
  sm_ok mixed (E := impl_World_writersOk.E) (pts := impl_World_writersOk.pts) (fun k => ⟨⟨tysOk, by kernel_rfl⟩, forall_cons ⟨impl_WriterOk.ok k, e107⟩ (forall_cons ⟨impl_World_isThere.ok k, e108⟩ (forall_nil))⟩) (fun _ => rfl) (fun _ => rfl)
    ⟨Tryz.func48, by kernel_rfl, by kernel_rfl, by kernel_rfl, by kernel_rfl, by kernel_rfl, by kernel_rfl⟩ (forall_cons (fun x => ⟨rfl, fun k => impl_World_writersOk.h5 k x.1 x.2.1 x.2.2.1 x.2.2.2.1⟩) (forall_nil)) (fun k x => impl_World_writersOk.hf k x.1) k
noncomputable def b196 : Code := Tryz.f196.body.getD .skip
theorem e196 : OM.Entry Tryz.prog 196 := ⟨_, Tryz.func196, by kernel_rfl, by kernel_rfl⟩
@[reducible] noncomputable def impl_OffOf.g : Sig := ⟨[.fz (.int .i64)], [.v (.int .i64) .z], []⟩
@[reducible] noncomputable def impl_OffOf.fk : Nat → denI impl_OffOf.g.pms → Option (denR (outTys impl_OffOf.g.rts impl_OffOf.g.pms)) := fun k x => impl_OffOf.f x.1
@[reducible] noncomputable def impl_OffOf.sm (k : Nat) : Sm := ⟨196, impl_OffOf.g.pms, impl_OffOf.g.rts, impl_OffOf.fk k⟩
noncomputable def impl_OffOf.E (k : Nat) : Env := ⟨tys, [impl_PlaceOk.sm k], [], [], []⟩
noncomputable def impl_OffOf.pts : List (Pt (denR (outTys impl_OffOf.g.rts impl_OffOf.g.pms))) := []
theorem impl_OffOf.hf (k : Nat) (a0 : Int) : (impl_OffOf.f a0 : Option (denR (outTys impl_OffOf.g.rts impl_OffOf.g.pms))) = evC (impl_OffOf.E k) (fun κ s => lhOf k κ s impl_OffOf.pts) b196 (OM.start impl_OffOf.g.pms 0 (a0, ())) (OM.fin impl_OffOf.g Tryz.f196.results.toList) := by kernel_rfl
theorem impl_OffOf.ok (k : Nat) : SmOk Tryz.prog (impl_OffOf.sm k) :=
  sm_ok mixed (E := impl_OffOf.E) (pts := impl_OffOf.pts) (fun k => ⟨⟨tysOk, by kernel_rfl⟩, forall_cons ⟨impl_PlaceOk.ok k, e159⟩ (forall_nil)⟩) (fun _ => rfl) (fun _ => rfl)
    ⟨Tryz.func196, by kernel_rfl, by kernel_rfl, by kernel_rfl, by kernel_rfl, by kernel_rfl, by kernel_rfl⟩ (forall_nil) (fun k x => impl_OffOf.hf k x.1) k
noncomputable def b162 : Code := Tryz.f162.body.getD .skip
theorem e162 : OM.Entry Tryz.prog 162 := ⟨_, Tryz.func162, by kernel_rfl, by kernel_rfl⟩
@[reducible] noncomputable def impl_lastOff.g : Sig := ⟨[.fz tMend], [.v (.int .i64) .z], []⟩
@[reducible] noncomputable def impl_lastOff.fk : Nat → denI impl_lastOff.g.pms → Option (denR (outTys impl_lastOff.g.rts impl_lastOff.g.pms)) := fun k x => impl_lastOff.f x.1
@[reducible] noncomputable def impl_lastOff.sm (k : Nat) : Sm := ⟨162, impl_lastOff.g.pms, impl_lastOff.g.rts, impl_lastOff.fk k⟩
noncomputable def impl_lastOff.E (k : Nat) : Env := ⟨tys, [impl_OffOf.sm k], [], [], []⟩
noncomputable def impl_lastOff.pts : List (Pt (denR (outTys impl_lastOff.g.rts impl_lastOff.g.pms))) := []
theorem impl_lastOff.hf (k : Nat) (a0 : Mend) : (impl_lastOff.f a0 : Option (denR (outTys impl_lastOff.g.rts impl_lastOff.g.pms))) = evC (impl_lastOff.E k) (fun κ s => lhOf k κ s impl_lastOff.pts) b162 (OM.start impl_lastOff.g.pms 0 (a0, ())) (OM.fin impl_lastOff.g Tryz.f162.results.toList) := by kernel_rfl
theorem impl_lastOff.ok (k : Nat) : SmOk Tryz.prog (impl_lastOff.sm k) :=
  sm_ok mixed (E := impl_lastOff.E) (pts := impl_lastOff.pts) (fun k => ⟨⟨tysOk, by kernel_rfl⟩, forall_cons ⟨impl_OffOf.ok k, e196⟩ (forall_nil)⟩) (fun _ => rfl) (fun _ => rfl)
    ⟨Tryz.func162, by kernel_rfl, by kernel_rfl, by kernel_rfl, by kernel_rfl, by kernel_rfl, by kernel_rfl⟩ (forall_nil) (fun k x => impl_lastOff.hf k x.1) k
noncomputable def b163 : Code := Tryz.f163.body.getD .skip
theorem e163 : OM.Entry Tryz.prog 163 := ⟨_, Tryz.func163, by kernel_rfl, by kernel_rfl⟩
@[reducible] noncomputable def impl_seenOk.g : Sig := ⟨[.fz tMend], [.v .bool .z], []⟩
@[reducible] noncomputable def impl_seenOk.fk : Nat → denI impl_seenOk.g.pms → Option (denR (outTys impl_seenOk.g.rts impl_seenOk.g.pms)) := fun k x => impl_seenOk.f k x.1
@[reducible] noncomputable def impl_seenOk.sm (k : Nat) : Sm := ⟨163, impl_seenOk.g.pms, impl_seenOk.g.rts, impl_seenOk.fk k⟩
noncomputable def impl_seenOk.E (k : Nat) : Env := ⟨tys, [impl_EpochOf.sm k, impl_EntryOk.sm k, impl_placesAscend.sm k], [11], [], []⟩
@[reducible] noncomputable def impl_seenOk.s5 : List Slot := [.r 4 5 [] tMend, .v 24 (.sl tEntry) .z [] 0, .v 28 (.int .i64) .z [] 0, .v 32 (.int .i64) .z [] 0, .v 5 tMend .z [] 0]
noncomputable def impl_seenOk.pts : List (Pt (denR (outTys impl_seenOk.g.rts impl_seenOk.g.pms))) := [⟨5, impl_seenOk.s5, fun k x => impl_seenOk.p5 k x.1 x.2.1 x.2.2.1 x.2.2.2.1⟩]
theorem impl_seenOk.h5 (k : Nat) (x0 : (List Entry)) (x1 : Int) (x2 : Int) (x3 : Mend) : (impl_seenOk.p5 (k + 1) x0 x1 x2 x3 : Option (denR (outTys impl_seenOk.g.rts impl_seenOk.g.pms))) = evAt (impl_seenOk.E k) (fun κ s => lhOf k κ s impl_seenOk.pts) 5 b163 (unproj impl_seenOk.s5 (x0, x1, x2, x3, ())) (OM.fin impl_seenOk.g Tryz.f163.results.toList) := by kernel_rfl
theorem impl_seenOk.hf (k : Nat) (a0 : Mend) : (impl_seenOk.f k a0 : Option (denR (outTys impl_seenOk.g.rts impl_seenOk.g.pms))) = evC (impl_seenOk.E k) (fun κ s => lhOf k κ s impl_seenOk.pts) b163 (OM.start impl_seenOk.g.pms 0 (a0, ())) (OM.fin impl_seenOk.g Tryz.f163.results.toList) := by kernel_rfl
theorem impl_seenOk.ok (k : Nat) : SmOk Tryz.prog (impl_seenOk.sm k) :=
  sm_ok mixed (E := impl_seenOk.E) (pts := impl_seenOk.pts) (fun k => ⟨⟨tysOk, by kernel_rfl⟩, forall_cons ⟨impl_EpochOf.ok k, e106⟩ (forall_cons ⟨impl_EntryOk.ok k, e183⟩ (forall_cons ⟨impl_placesAscend.ok k, e136⟩ (forall_nil)))⟩) (fun _ => rfl) (fun _ => rfl)
    ⟨Tryz.func163, by kernel_rfl, by kernel_rfl, by kernel_rfl, by kernel_rfl, by kernel_rfl, by kernel_rfl⟩ (forall_cons (fun x => ⟨rfl, fun k => impl_seenOk.h5 k x.1 x.2.1 x.2.2.1 x.2.2.2.1⟩) (forall_nil)) (fun k x => impl_seenOk.hf k x.1) k
noncomputable def b109 : Code := Tryz.f109.body.getD .skip
theorem e109 : OM.Entry Tryz.prog 109 := ⟨_, Tryz.func109, by kernel_rfl, by kernel_rfl⟩
@[reducible] noncomputable def impl_MendOk.g : Sig := ⟨[.fz tConfig, .fz tMend], [.v .bool .z], []⟩
@[reducible] noncomputable def impl_MendOk.fk : Nat → denI impl_MendOk.g.pms → Option (denR (outTys impl_MendOk.g.rts impl_MendOk.g.pms)) := fun k x => impl_MendOk.f k x.1 x.2.1
@[reducible] noncomputable def impl_MendOk.sm (k : Nat) : Sm := ⟨109, impl_MendOk.g.pms, impl_MendOk.g.rts, impl_MendOk.fk k⟩
noncomputable def impl_MendOk.E (k : Nat) : Env := ⟨tys, [impl_within.sm k, impl_ConfigOk.sm k, impl_NodesOk.sm k, impl_isEpoch.sm k, impl_lastOff.sm k, impl_seenOk.sm k], [15], [10, 11], []⟩
@[reducible] noncomputable def impl_MendOk.s5 : List Slot := [.r 8 9 [] tConfig, .r 12 13 [] tMend, .v 40 (.sl (.sl (.int .i64))) .z [] 0, .v 44 (.int .i64) .z [] 0, .v 48 (.int .i64) .z [] 0, .v 9 tConfig .z [] 0, .v 13 tMend .z [] 0]
@[reducible] noncomputable def impl_MendOk.s20 : List Slot := [.r 8 9 [] tConfig, .r 12 13 [] tMend, .v 28 (.int .i64) .z [] 0, .v 9 tConfig .z [] 0, .v 13 tMend .z [] 0]
@[reducible] noncomputable def impl_MendOk.s22 : List Slot := [.r 8 9 [] tConfig, .r 12 13 [] tMend, .v 28 (.int .i64) .z [] 0, .v 32 .bool .z [] 0, .v 9 tConfig .z [] 0, .v 13 tMend .z [] 0]
noncomputable def impl_MendOk.pts : List (Pt (denR (outTys impl_MendOk.g.rts impl_MendOk.g.pms))) := [⟨5, impl_MendOk.s5, fun k x => impl_MendOk.p5 k x.1 x.2.1 x.2.2.1 x.2.2.2.1 x.2.2.2.2.1⟩, ⟨20, impl_MendOk.s20, fun k x => impl_MendOk.p20 k x.1 x.2.1 x.2.2.1⟩, ⟨22, impl_MendOk.s22, fun k x => impl_MendOk.p22 k x.1 x.2.1 x.2.2.1 x.2.2.2.1⟩]
theorem impl_MendOk.h5 (k : Nat) (x0 : (List (List Int))) (x1 : Int) (x2 : Int) (x3 : Config) (x4 : Mend) : (impl_MendOk.p5 (k + 1) x0 x1 x2 x3 x4 : Option (denR (outTys impl_MendOk.g.rts impl_MendOk.g.pms))) = evAt (impl_MendOk.E k) (fun κ s => lhOf k κ s impl_MendOk.pts) 5 b109 (unproj impl_MendOk.s5 (x0, x1, x2, x3, x4, ())) (OM.fin impl_MendOk.g Tryz.f109.results.toList) := by kernel_rfl
theorem impl_MendOk.h20 (k : Nat) (x0 : Int) (x1 : Config) (x2 : Mend) : (impl_MendOk.p20 (k + 1) x0 x1 x2 : Option (denR (outTys impl_MendOk.g.rts impl_MendOk.g.pms))) = evAt (impl_MendOk.E k) (fun κ s => lhOf k κ s impl_MendOk.pts) 20 b109 (unproj impl_MendOk.s20 (x0, x1, x2, ())) (OM.fin impl_MendOk.g Tryz.f109.results.toList) := by kernel_rfl
theorem impl_MendOk.h22 (k : Nat) (x0 : Int) (x1 : Bool) (x2 : Config) (x3 : Mend) : (impl_MendOk.p22 (k + 1) x0 x1 x2 x3 : Option (denR (outTys impl_MendOk.g.rts impl_MendOk.g.pms))) = evAt (impl_MendOk.E k) (fun κ s => lhOf k κ s impl_MendOk.pts) 22 b109 (unproj impl_MendOk.s22 (x0, x1, x2, x3, ())) (OM.fin impl_MendOk.g Tryz.f109.results.toList) := by kernel_rfl
theorem impl_MendOk.hf (k : Nat) (a0 : Config) (a1 : Mend) : (impl_MendOk.f k a0 a1 : Option (denR (outTys impl_MendOk.g.rts impl_MendOk.g.pms))) = evC (impl_MendOk.E k) (fun κ s => lhOf k κ s impl_MendOk.pts) b109 (OM.start impl_MendOk.g.pms 0 (a0, a1, ())) (OM.fin impl_MendOk.g Tryz.f109.results.toList) := by kernel_rfl
theorem impl_MendOk.ok (k : Nat) : SmOk Tryz.prog (impl_MendOk.sm k) :=
  sm_ok mixed (E := impl_MendOk.E) (pts := impl_MendOk.pts) (fun k => ⟨⟨tysOk, by kernel_rfl⟩, forall_cons ⟨impl_within.ok k, e101⟩ (forall_cons ⟨impl_ConfigOk.ok k, e45⟩ (forall_cons ⟨impl_NodesOk.ok k, e102⟩ (forall_cons ⟨impl_isEpoch.ok k, e161⟩ (forall_cons ⟨impl_lastOff.ok k, e162⟩ (forall_cons ⟨impl_seenOk.ok k, e163⟩ (forall_nil))))))⟩) (fun _ => rfl) (fun _ => rfl)
    ⟨Tryz.func109, by kernel_rfl, by kernel_rfl, by kernel_rfl, by kernel_rfl, by kernel_rfl, by kernel_rfl⟩ (forall_cons (fun x => ⟨rfl, fun k => impl_MendOk.h5 k x.1 x.2.1 x.2.2.1 x.2.2.2.1 x.2.2.2.2.1⟩) (forall_cons (fun x => ⟨rfl, fun k => impl_MendOk.h20 k x.1 x.2.1 x.2.2.1⟩) (forall_cons (fun x => ⟨rfl, fun k => impl_MendOk.h22 k x.1 x.2.1 x.2.2.1 x.2.2.2.1⟩) (forall_nil)))) (fun k x => impl_MendOk.hf k x.1 x.2.1) k
noncomputable def b110 : Code := Tryz.f110.body.getD .skip
theorem e110 : OM.Entry Tryz.prog 110 := ⟨_, Tryz.func110, by kernel_rfl, by kernel_rfl⟩
@[reducible] noncomputable def impl_FirstOpen.g : Sig := ⟨[.fz tRegister], [.v (.int .i64) .z], []⟩
@[reducible] noncomputable def impl_FirstOpen.fk : Nat → denI impl_FirstOpen.g.pms → Option (denR (outTys impl_FirstOpen.g.rts impl_FirstOpen.g.pms)) := fun k x => impl_FirstOpen.f k x.1
@[reducible] noncomputable def impl_FirstOpen.sm (k : Nat) : Sm := ⟨110, impl_FirstOpen.g.pms, impl_FirstOpen.g.rts, impl_FirstOpen.fk k⟩
noncomputable def impl_FirstOpen.E (k : Nat) : Env := ⟨tys, [], [12], [], []⟩
@[reducible] noncomputable def impl_FirstOpen.s5 : List Slot := [.v 24 (.sl tEra) .z [] 0, .v 28 (.int .i64) .z [] 0, .v 32 (.int .i64) .z [] 0]
noncomputable def impl_FirstOpen.pts : List (Pt (denR (outTys impl_FirstOpen.g.rts impl_FirstOpen.g.pms))) := [⟨5, impl_FirstOpen.s5, fun k x => impl_FirstOpen.p5 k x.1 x.2.1 x.2.2.1⟩]
theorem impl_FirstOpen.h5 (k : Nat) (x0 : (List Era)) (x1 : Int) (x2 : Int) : (impl_FirstOpen.p5 (k + 1) x0 x1 x2 : Option (denR (outTys impl_FirstOpen.g.rts impl_FirstOpen.g.pms))) = evAt (impl_FirstOpen.E k) (fun κ s => lhOf k κ s impl_FirstOpen.pts) 5 b110 (unproj impl_FirstOpen.s5 (x0, x1, x2, ())) (OM.fin impl_FirstOpen.g Tryz.f110.results.toList) := by kernel_rfl
theorem impl_FirstOpen.hf (k : Nat) (a0 : Register) : (impl_FirstOpen.f k a0 : Option (denR (outTys impl_FirstOpen.g.rts impl_FirstOpen.g.pms))) = evC (impl_FirstOpen.E k) (fun κ s => lhOf k κ s impl_FirstOpen.pts) b110 (OM.start impl_FirstOpen.g.pms 0 (a0, ())) (OM.fin impl_FirstOpen.g Tryz.f110.results.toList) := by kernel_rfl
theorem impl_FirstOpen.ok (k : Nat) : SmOk Tryz.prog (impl_FirstOpen.sm k) :=
  sm_ok mixed (E := impl_FirstOpen.E) (pts := impl_FirstOpen.pts) (fun k => ⟨⟨tysOk, by kernel_rfl⟩, forall_nil⟩) (fun _ => rfl) (fun _ => rfl)
    ⟨Tryz.func110, by kernel_rfl, by kernel_rfl, by kernel_rfl, by kernel_rfl, by kernel_rfl, by kernel_rfl⟩ (forall_cons (fun x => ⟨rfl, fun k => impl_FirstOpen.h5 k x.1 x.2.1 x.2.2.1⟩) (forall_nil)) (fun k x => impl_FirstOpen.hf k x.1) k
noncomputable def b49 : Code := Tryz.f49.body.getD .skip
theorem e49 : OM.Entry Tryz.prog 49 := ⟨_, Tryz.func49, by kernel_rfl, by kernel_rfl⟩
@[reducible] noncomputable def impl_World_mendsOk.g : Sig := ⟨[.fz (.fp tWorld)], [.v .bool .z], []⟩
@[reducible] noncomputable def impl_World_mendsOk.fk : Nat → denI impl_World_mendsOk.g.pms → Option (denR (outTys impl_World_mendsOk.g.rts impl_World_mendsOk.g.pms)) := fun k x => impl_World_mendsOk.f k x.1
@[reducible] noncomputable def impl_World_mendsOk.sm (k : Nat) : Sm := ⟨49, impl_World_mendsOk.g.pms, impl_World_mendsOk.g.rts, impl_World_mendsOk.fk k⟩
noncomputable def impl_World_mendsOk.E (k : Nat) : Env := ⟨tys, [impl_MendOk.sm k, impl_FirstOpen.sm k], [13], [], []⟩
@[reducible] noncomputable def impl_World_mendsOk.s5 : List Slot := [.v 0 (.fp tWorld) .z [] 0, .v 32 (.sl tMend) .z [] 0, .v 36 (.int .i64) .z [] 0, .v 40 (.int .i64) .z [] 0]
noncomputable def impl_World_mendsOk.pts : List (Pt (denR (outTys impl_World_mendsOk.g.rts impl_World_mendsOk.g.pms))) := [⟨5, impl_World_mendsOk.s5, fun k x => impl_World_mendsOk.p5 k x.1 x.2.1 x.2.2.1 x.2.2.2.1⟩]
theorem impl_World_mendsOk.h5 (k : Nat) (x0 : World) (x1 : (List Mend)) (x2 : Int) (x3 : Int) : (impl_World_mendsOk.p5 (k + 1) x0 x1 x2 x3 : Option (denR (outTys impl_World_mendsOk.g.rts impl_World_mendsOk.g.pms))) = evAt (impl_World_mendsOk.E k) (fun κ s => lhOf k κ s impl_World_mendsOk.pts) 5 b49 (unproj impl_World_mendsOk.s5 (x0, x1, x2, x3, ())) (OM.fin impl_World_mendsOk.g Tryz.f49.results.toList) := by kernel_rfl
theorem impl_World_mendsOk.hf (k : Nat) (a0 : World) : (impl_World_mendsOk.f k a0 : Option (denR (outTys impl_World_mendsOk.g.rts impl_World_mendsOk.g.pms))) = evC (impl_World_mendsOk.E k) (fun κ s => lhOf k κ s impl_World_mendsOk.pts) b49 (OM.start impl_World_mendsOk.g.pms 0 (a0, ())) (OM.fin impl_World_mendsOk.g Tryz.f49.results.toList) := by kernel_rfl
theorem impl_World_mendsOk.ok (k : Nat) : SmOk Tryz.prog (impl_World_mendsOk.sm k) :=
  sm_ok mixed (E := impl_World_mendsOk.E) (pts := impl_World_mendsOk.pts) (fun k => ⟨⟨tysOk, by kernel_rfl⟩, forall_cons ⟨impl_MendOk.ok k, e109⟩ (forall_cons ⟨impl_FirstOpen.ok k, e110⟩ (forall_nil))⟩) (fun _ => rfl) (fun _ => rfl)
    ⟨Tryz.func49, by kernel_rfl, by kernel_rfl, by kernel_rfl, by kernel_rfl, by kernel_rfl, by kernel_rfl⟩ (forall_cons (fun x => ⟨rfl, fun k => impl_World_mendsOk.h5 k x.1 x.2.1 x.2.2.1 x.2.2.2.1⟩) (forall_nil)) (fun k x => impl_World_mendsOk.hf k x.1) k
noncomputable def b111 : Code := Tryz.f111.body.getD .skip
theorem e111 : OM.Entry Tryz.prog 111 := ⟨_, Tryz.func111, by kernel_rfl, by kernel_rfl⟩
@[reducible] noncomputable def impl_ReaderOk.g : Sig := ⟨[.fz tReader], [.v .bool .z], []⟩
@[reducible] noncomputable def impl_ReaderOk.fk : Nat → denI impl_ReaderOk.g.pms → Option (denR (outTys impl_ReaderOk.g.rts impl_ReaderOk.g.pms)) := fun k x => impl_ReaderOk.f x.1
@[reducible] noncomputable def impl_ReaderOk.sm (k : Nat) : Sm := ⟨111, impl_ReaderOk.g.pms, impl_ReaderOk.g.rts, impl_ReaderOk.fk k⟩
noncomputable def impl_ReaderOk.E (k : Nat) : Env := ⟨tys, [impl_within.sm k], [], [], []⟩
noncomputable def impl_ReaderOk.pts : List (Pt (denR (outTys impl_ReaderOk.g.rts impl_ReaderOk.g.pms))) := []
theorem impl_ReaderOk.hf (k : Nat) (a0 : Reader) : (impl_ReaderOk.f a0 : Option (denR (outTys impl_ReaderOk.g.rts impl_ReaderOk.g.pms))) = evC (impl_ReaderOk.E k) (fun κ s => lhOf k κ s impl_ReaderOk.pts) b111 (OM.start impl_ReaderOk.g.pms 0 (a0, ())) (OM.fin impl_ReaderOk.g Tryz.f111.results.toList) := by kernel_rfl
theorem impl_ReaderOk.ok (k : Nat) : SmOk Tryz.prog (impl_ReaderOk.sm k) :=
  sm_ok mixed (E := impl_ReaderOk.E) (pts := impl_ReaderOk.pts) (fun k => ⟨⟨tysOk, by kernel_rfl⟩, forall_cons ⟨impl_within.ok k, e101⟩ (forall_nil)⟩) (fun _ => rfl) (fun _ => rfl)
    ⟨Tryz.func111, by kernel_rfl, by kernel_rfl, by kernel_rfl, by kernel_rfl, by kernel_rfl, by kernel_rfl⟩ (forall_nil) (fun k x => impl_ReaderOk.hf k x.1) k
noncomputable def b50 : Code := Tryz.f50.body.getD .skip
theorem e50 : OM.Entry Tryz.prog 50 := ⟨_, Tryz.func50, by kernel_rfl, by kernel_rfl⟩
@[reducible] noncomputable def impl_World_readersOk.g : Sig := ⟨[.fz (.fp tWorld)], [.v .bool .z], []⟩
@[reducible] noncomputable def impl_World_readersOk.fk : Nat → denI impl_World_readersOk.g.pms → Option (denR (outTys impl_World_readersOk.g.rts impl_World_readersOk.g.pms)) := fun k x => impl_World_readersOk.f k x.1
@[reducible] noncomputable def impl_World_readersOk.sm (k : Nat) : Sm := ⟨50, impl_World_readersOk.g.pms, impl_World_readersOk.g.rts, impl_World_readersOk.fk k⟩
noncomputable def impl_World_readersOk.E (k : Nat) : Env := ⟨tys, [impl_ReaderOk.sm k], [13], [], []⟩
@[reducible] noncomputable def impl_World_readersOk.s5 : List Slot := [.v 0 (.fp tWorld) .z [] 0, .v 32 (.sl tReader) .z [] 0, .v 36 (.int .i64) .z [] 0, .v 40 (.int .i64) .z [] 0]
noncomputable def impl_World_readersOk.pts : List (Pt (denR (outTys impl_World_readersOk.g.rts impl_World_readersOk.g.pms))) := [⟨5, impl_World_readersOk.s5, fun k x => impl_World_readersOk.p5 k x.1 x.2.1 x.2.2.1 x.2.2.2.1⟩]
theorem impl_World_readersOk.h5 (k : Nat) (x0 : World) (x1 : (List Reader)) (x2 : Int) (x3 : Int) : (impl_World_readersOk.p5 (k + 1) x0 x1 x2 x3 : Option (denR (outTys impl_World_readersOk.g.rts impl_World_readersOk.g.pms))) = evAt (impl_World_readersOk.E k) (fun κ s => lhOf k κ s impl_World_readersOk.pts) 5 b50 (unproj impl_World_readersOk.s5 (x0, x1, x2, x3, ())) (OM.fin impl_World_readersOk.g Tryz.f50.results.toList) := by kernel_rfl
theorem impl_World_readersOk.hf (k : Nat) (a0 : World) : (impl_World_readersOk.f k a0 : Option (denR (outTys impl_World_readersOk.g.rts impl_World_readersOk.g.pms))) = evC (impl_World_readersOk.E k) (fun κ s => lhOf k κ s impl_World_readersOk.pts) b50 (OM.start impl_World_readersOk.g.pms 0 (a0, ())) (OM.fin impl_World_readersOk.g Tryz.f50.results.toList) := by kernel_rfl
theorem impl_World_readersOk.ok (k : Nat) : SmOk Tryz.prog (impl_World_readersOk.sm k) :=
  sm_ok mixed (E := impl_World_readersOk.E) (pts := impl_World_readersOk.pts) (fun k => ⟨⟨tysOk, by kernel_rfl⟩, forall_cons ⟨impl_ReaderOk.ok k, e111⟩ (forall_nil)⟩) (fun _ => rfl) (fun _ => rfl)
    ⟨Tryz.func50, by kernel_rfl, by kernel_rfl, by kernel_rfl, by kernel_rfl, by kernel_rfl, by kernel_rfl⟩ (forall_cons (fun x => ⟨rfl, fun k => impl_World_readersOk.h5 k x.1 x.2.1 x.2.2.1 x.2.2.2.1⟩) (forall_nil)) (fun k x => impl_World_readersOk.hf k x.1) k
noncomputable def b51 : Code := Tryz.f51.body.getD .skip
theorem e51 : OM.Entry Tryz.prog 51 := ⟨_, Tryz.func51, by kernel_rfl, by kernel_rfl⟩
@[reducible] noncomputable def impl_World_sentOk.g : Sig := ⟨[.fz (.fp tWorld)], [.v .bool .z], []⟩
@[reducible] noncomputable def impl_World_sentOk.fk : Nat → denI impl_World_sentOk.g.pms → Option (denR (outTys impl_World_sentOk.g.rts impl_World_sentOk.g.pms)) := fun k x => impl_World_sentOk.f k x.1
@[reducible] noncomputable def impl_World_sentOk.sm (k : Nat) : Sm := ⟨51, impl_World_sentOk.g.pms, impl_World_sentOk.g.rts, impl_World_sentOk.fk k⟩
noncomputable def impl_World_sentOk.E (k : Nat) : Env := ⟨tys, [impl_dataOk.sm k, impl_EpochOf.sm k, impl_World_isThere.sm k], [14], [], []⟩
@[reducible] noncomputable def impl_World_sentOk.s5 : List Slot := [.v 0 (.fp tWorld) .z [] 0, .v 32 (.sl tSent) .z [] 0, .v 36 (.int .i64) .z [] 0, .v 40 (.int .i64) .z [] 0]
noncomputable def impl_World_sentOk.pts : List (Pt (denR (outTys impl_World_sentOk.g.rts impl_World_sentOk.g.pms))) := [⟨5, impl_World_sentOk.s5, fun k x => impl_World_sentOk.p5 k x.1 x.2.1 x.2.2.1 x.2.2.2.1⟩]
theorem impl_World_sentOk.h5 (k : Nat) (x0 : World) (x1 : (List Sent)) (x2 : Int) (x3 : Int) : (impl_World_sentOk.p5 (k + 1) x0 x1 x2 x3 : Option (denR (outTys impl_World_sentOk.g.rts impl_World_sentOk.g.pms))) = evAt (impl_World_sentOk.E k) (fun κ s => lhOf k κ s impl_World_sentOk.pts) 5 b51 (unproj impl_World_sentOk.s5 (x0, x1, x2, x3, ())) (OM.fin impl_World_sentOk.g Tryz.f51.results.toList) := by kernel_rfl
theorem impl_World_sentOk.hf (k : Nat) (a0 : World) : (impl_World_sentOk.f k a0 : Option (denR (outTys impl_World_sentOk.g.rts impl_World_sentOk.g.pms))) = evC (impl_World_sentOk.E k) (fun κ s => lhOf k κ s impl_World_sentOk.pts) b51 (OM.start impl_World_sentOk.g.pms 0 (a0, ())) (OM.fin impl_World_sentOk.g Tryz.f51.results.toList) := by kernel_rfl
theorem impl_World_sentOk.ok (k : Nat) : SmOk Tryz.prog (impl_World_sentOk.sm k) :=
  sm_ok mixed (E := impl_World_sentOk.E) (pts := impl_World_sentOk.pts) (fun k => ⟨⟨tysOk, by kernel_rfl⟩, forall_cons ⟨impl_dataOk.ok k, e112⟩ (forall_cons ⟨impl_EpochOf.ok k, e106⟩ (forall_cons ⟨impl_World_isThere.ok k, e108⟩ (forall_nil)))⟩) (fun _ => rfl) (fun _ => rfl)
    ⟨Tryz.func51, by kernel_rfl, by kernel_rfl, by kernel_rfl, by kernel_rfl, by kernel_rfl, by kernel_rfl⟩ (forall_cons (fun x => ⟨rfl, fun k => impl_World_sentOk.h5 k x.1 x.2.1 x.2.2.1 x.2.2.2.1⟩) (forall_nil)) (fun k x => impl_World_sentOk.hf k x.1) k
noncomputable def b9 : Code := Tryz.f9.body.getD .skip
theorem e9 : OM.Entry Tryz.prog 9 := ⟨_, Tryz.func9, by kernel_rfl, by kernel_rfl⟩
@[reducible] noncomputable def impl_WorldOk.g : Sig := ⟨[.fz tWorld], [.v .bool .z], []⟩
@[reducible] noncomputable def impl_WorldOk.fk : Nat → denI impl_WorldOk.g.pms → Option (denR (outTys impl_WorldOk.g.rts impl_WorldOk.g.pms)) := fun k x => impl_WorldOk.f k x.1
@[reducible] noncomputable def impl_WorldOk.sm (k : Nat) : Sm := ⟨9, impl_WorldOk.g.pms, impl_WorldOk.g.rts, impl_WorldOk.fk k⟩
noncomputable def impl_WorldOk.E (k : Nat) : Env := ⟨tys, [impl_ConfigOk.sm k, impl_World_storesOk.sm k, impl_RegOk.sm k, impl_World_writersOk.sm k, impl_World_mendsOk.sm k, impl_World_readersOk.sm k, impl_World_sentOk.sm k], [], [2], []⟩
@[reducible] noncomputable def impl_WorldOk.s4 : List Slot := [.r 4 5 [] tWorld, .v 12 .bool .z [] 0, .v 5 tWorld .z [] 0]
noncomputable def impl_WorldOk.pts : List (Pt (denR (outTys impl_WorldOk.g.rts impl_WorldOk.g.pms))) := [⟨4, impl_WorldOk.s4, fun k x => impl_WorldOk.p4 k x.1 x.2.1⟩]
theorem impl_WorldOk.h4 (k : Nat) (x0 : Bool) (x1 : World) : (impl_WorldOk.p4 (k + 1) x0 x1 : Option (denR (outTys impl_WorldOk.g.rts impl_WorldOk.g.pms))) = evAt (impl_WorldOk.E k) (fun κ s => lhOf k κ s impl_WorldOk.pts) 4 b9 (unproj impl_WorldOk.s4 (x0, x1, ())) (OM.fin impl_WorldOk.g Tryz.f9.results.toList) := by kernel_rfl
theorem impl_WorldOk.hf (k : Nat) (a0 : World) : (impl_WorldOk.f k a0 : Option (denR (outTys impl_WorldOk.g.rts impl_WorldOk.g.pms))) = evC (impl_WorldOk.E k) (fun κ s => lhOf k κ s impl_WorldOk.pts) b9 (OM.start impl_WorldOk.g.pms 0 (a0, ())) (OM.fin impl_WorldOk.g Tryz.f9.results.toList) := by kernel_rfl
theorem impl_WorldOk.ok (k : Nat) : SmOk Tryz.prog (impl_WorldOk.sm k) :=
  sm_ok mixed (E := impl_WorldOk.E) (pts := impl_WorldOk.pts) (fun k => ⟨⟨tysOk, by kernel_rfl⟩, forall_cons ⟨impl_ConfigOk.ok k, e45⟩ (forall_cons ⟨impl_World_storesOk.ok k, e46⟩ (forall_cons ⟨impl_RegOk.ok k, e47⟩ (forall_cons ⟨impl_World_writersOk.ok k, e48⟩ (forall_cons ⟨impl_World_mendsOk.ok k, e49⟩ (forall_cons ⟨impl_World_readersOk.ok k, e50⟩ (forall_cons ⟨impl_World_sentOk.ok k, e51⟩ (forall_nil)))))))⟩) (fun _ => rfl) (fun _ => rfl)
    ⟨Tryz.func9, by kernel_rfl, by kernel_rfl, by kernel_rfl, by kernel_rfl, by kernel_rfl, by kernel_rfl⟩ (forall_cons (fun x => ⟨rfl, fun k => impl_WorldOk.h4 k x.1 x.2.1⟩) (forall_nil)) (fun k x => impl_WorldOk.hf k x.1) k
noncomputable def b13 : Code := Tryz.f13.body.getD .skip
theorem e13 : OM.Entry Tryz.prog 13 := ⟨_, Tryz.func13, by kernel_rfl, by kernel_rfl⟩
@[reducible] noncomputable def laws_eqIntS.g : Sig := ⟨[.fz (.sl (.int .i64)), .fz (.sl (.int .i64))], [.v .bool .z], []⟩
@[reducible] noncomputable def laws_eqIntS.fk : Nat → denI laws_eqIntS.g.pms → Option (denR (outTys laws_eqIntS.g.rts laws_eqIntS.g.pms)) := fun k x => laws_eqIntS.f k x.1 x.2.1
@[reducible] noncomputable def laws_eqIntS.sm (k : Nat) : Sm := ⟨13, laws_eqIntS.g.pms, laws_eqIntS.g.rts, laws_eqIntS.fk k⟩
noncomputable def laws_eqIntS.E (k : Nat) : Env := ⟨tys, [], [], [], []⟩
@[reducible] noncomputable def laws_eqIntS.s9 : List Slot := [.v 0 (.sl (.int .i64)) .z [] 0, .v 4 (.sl (.int .i64)) .z [] 0, .v 20 (.int .i64) .z [] 0]
noncomputable def laws_eqIntS.pts : List (Pt (denR (outTys laws_eqIntS.g.rts laws_eqIntS.g.pms))) := [⟨9, laws_eqIntS.s9, fun k x => laws_eqIntS.p9 k x.1 x.2.1 x.2.2.1⟩]
theorem laws_eqIntS.h9 (k : Nat) (x0 : (List Int)) (x1 : (List Int)) (x2 : Int) : (laws_eqIntS.p9 (k + 1) x0 x1 x2 : Option (denR (outTys laws_eqIntS.g.rts laws_eqIntS.g.pms))) = evAt (laws_eqIntS.E k) (fun κ s => lhOf k κ s laws_eqIntS.pts) 9 b13 (unproj laws_eqIntS.s9 (x0, x1, x2, ())) (OM.fin laws_eqIntS.g Tryz.f13.results.toList) := by kernel_rfl
theorem laws_eqIntS.hf (k : Nat) (a0 : (List Int)) (a1 : (List Int)) : (laws_eqIntS.f k a0 a1 : Option (denR (outTys laws_eqIntS.g.rts laws_eqIntS.g.pms))) = evC (laws_eqIntS.E k) (fun κ s => lhOf k κ s laws_eqIntS.pts) b13 (OM.start laws_eqIntS.g.pms 0 (a0, a1, ())) (OM.fin laws_eqIntS.g Tryz.f13.results.toList) := by kernel_rfl
theorem laws_eqIntS.ok (k : Nat) : SmOk Tryz.prog (laws_eqIntS.sm k) :=
  sm_ok mixed (E := laws_eqIntS.E) (pts := laws_eqIntS.pts) (fun k => ⟨⟨tysOk, by kernel_rfl⟩, forall_nil⟩) (fun _ => rfl) (fun _ => rfl)
    ⟨Tryz.func13, by kernel_rfl, by kernel_rfl, by kernel_rfl, by kernel_rfl, by kernel_rfl, by kernel_rfl⟩ (forall_cons (fun x => ⟨rfl, fun k => laws_eqIntS.h9 k x.1 x.2.1 x.2.2.1⟩) (forall_nil)) (fun k x => laws_eqIntS.hf k x.1 x.2.1) k
noncomputable def b52 : Code := Tryz.f52.body.getD .skip
theorem e52 : OM.Entry Tryz.prog 52 := ⟨_, Tryz.func52, by kernel_rfl, by kernel_rfl⟩
@[reducible] noncomputable def laws_eqConfig.g : Sig := ⟨[.fz tConfig, .fz tConfig], [.v .bool .z], []⟩
@[reducible] noncomputable def laws_eqConfig.fk : Nat → denI laws_eqConfig.g.pms → Option (denR (outTys laws_eqConfig.g.rts laws_eqConfig.g.pms)) := fun k x => laws_eqConfig.f k x.1 x.2.1
@[reducible] noncomputable def laws_eqConfig.sm (k : Nat) : Sm := ⟨52, laws_eqConfig.g.pms, laws_eqConfig.g.rts, laws_eqConfig.fk k⟩
noncomputable def laws_eqConfig.E (k : Nat) : Env := ⟨tys, [laws_eqIntS.sm k], [], [], []⟩
noncomputable def laws_eqConfig.pts : List (Pt (denR (outTys laws_eqConfig.g.rts laws_eqConfig.g.pms))) := []
theorem laws_eqConfig.hf (k : Nat) (a0 : Config) (a1 : Config) : (laws_eqConfig.f k a0 a1 : Option (denR (outTys laws_eqConfig.g.rts laws_eqConfig.g.pms))) = evC (laws_eqConfig.E k) (fun κ s => lhOf k κ s laws_eqConfig.pts) b52 (OM.start laws_eqConfig.g.pms 0 (a0, a1, ())) (OM.fin laws_eqConfig.g Tryz.f52.results.toList) := by kernel_rfl
theorem laws_eqConfig.ok (k : Nat) : SmOk Tryz.prog (laws_eqConfig.sm k) :=
  sm_ok mixed (E := laws_eqConfig.E) (pts := laws_eqConfig.pts) (fun k => ⟨⟨tysOk, by kernel_rfl⟩, forall_cons ⟨laws_eqIntS.ok k, e13⟩ (forall_nil)⟩) (fun _ => rfl) (fun _ => rfl)
    ⟨Tryz.func52, by kernel_rfl, by kernel_rfl, by kernel_rfl, by kernel_rfl, by kernel_rfl, by kernel_rfl⟩ (forall_nil) (fun k x => laws_eqConfig.hf k x.1 x.2.1) k
noncomputable def b197 : Code := Tryz.f197.body.getD .skip
theorem e197 : OM.Entry Tryz.prog 197 := ⟨_, Tryz.func197, by kernel_rfl, by kernel_rfl⟩
@[reducible] noncomputable def laws_eqEntry.g : Sig := ⟨[.fz tEntry, .fz tEntry], [.v .bool .z], []⟩
@[reducible] noncomputable def laws_eqEntry.fk : Nat → denI laws_eqEntry.g.pms → Option (denR (outTys laws_eqEntry.g.rts laws_eqEntry.g.pms)) := fun k x => laws_eqEntry.f x.1 x.2.1
@[reducible] noncomputable def laws_eqEntry.sm (k : Nat) : Sm := ⟨197, laws_eqEntry.g.pms, laws_eqEntry.g.rts, laws_eqEntry.fk k⟩
noncomputable def laws_eqEntry.E (k : Nat) : Env := ⟨tys, [], [], [], [4]⟩
noncomputable def laws_eqEntry.pts : List (Pt (denR (outTys laws_eqEntry.g.rts laws_eqEntry.g.pms))) := []
theorem laws_eqEntry.hf (k : Nat) (a0 : Entry) (a1 : Entry) : (laws_eqEntry.f a0 a1 : Option (denR (outTys laws_eqEntry.g.rts laws_eqEntry.g.pms))) = evC (laws_eqEntry.E k) (fun κ s => lhOf k κ s laws_eqEntry.pts) b197 (OM.start laws_eqEntry.g.pms 0 (a0, a1, ())) (OM.fin laws_eqEntry.g Tryz.f197.results.toList) := by kernel_rfl
theorem laws_eqEntry.ok (k : Nat) : SmOk Tryz.prog (laws_eqEntry.sm k) :=
  sm_ok mixed (E := laws_eqEntry.E) (pts := laws_eqEntry.pts) (fun k => ⟨⟨tysOk, by kernel_rfl⟩, forall_nil⟩) (fun _ => rfl) (fun _ => rfl)
    ⟨Tryz.func197, by kernel_rfl, by kernel_rfl, by kernel_rfl, by kernel_rfl, by kernel_rfl, by kernel_rfl⟩ (forall_nil) (fun k x => laws_eqEntry.hf k x.1 x.2.1) k
noncomputable def b164 : Code := Tryz.f164.body.getD .skip
theorem e164 : OM.Entry Tryz.prog 164 := ⟨_, Tryz.func164, by kernel_rfl, by kernel_rfl⟩
@[reducible] noncomputable def laws_eqEntryS.g : Sig := ⟨[.fz (.sl tEntry), .fz (.sl tEntry)], [.v .bool .z], []⟩
@[reducible] noncomputable def laws_eqEntryS.fk : Nat → denI laws_eqEntryS.g.pms → Option (denR (outTys laws_eqEntryS.g.rts laws_eqEntryS.g.pms)) := fun k x => laws_eqEntryS.f k x.1 x.2.1
@[reducible] noncomputable def laws_eqEntryS.sm (k : Nat) : Sm := ⟨164, laws_eqEntryS.g.pms, laws_eqEntryS.g.rts, laws_eqEntryS.fk k⟩
noncomputable def laws_eqEntryS.E (k : Nat) : Env := ⟨tys, [laws_eqEntry.sm k], [], [], []⟩
@[reducible] noncomputable def laws_eqEntryS.s9 : List Slot := [.v 0 (.sl tEntry) .z [] 0, .v 4 (.sl tEntry) .z [] 0, .v 20 (.int .i64) .z [] 0]
noncomputable def laws_eqEntryS.pts : List (Pt (denR (outTys laws_eqEntryS.g.rts laws_eqEntryS.g.pms))) := [⟨9, laws_eqEntryS.s9, fun k x => laws_eqEntryS.p9 k x.1 x.2.1 x.2.2.1⟩]
theorem laws_eqEntryS.h9 (k : Nat) (x0 : (List Entry)) (x1 : (List Entry)) (x2 : Int) : (laws_eqEntryS.p9 (k + 1) x0 x1 x2 : Option (denR (outTys laws_eqEntryS.g.rts laws_eqEntryS.g.pms))) = evAt (laws_eqEntryS.E k) (fun κ s => lhOf k κ s laws_eqEntryS.pts) 9 b164 (unproj laws_eqEntryS.s9 (x0, x1, x2, ())) (OM.fin laws_eqEntryS.g Tryz.f164.results.toList) := by kernel_rfl
theorem laws_eqEntryS.hf (k : Nat) (a0 : (List Entry)) (a1 : (List Entry)) : (laws_eqEntryS.f k a0 a1 : Option (denR (outTys laws_eqEntryS.g.rts laws_eqEntryS.g.pms))) = evC (laws_eqEntryS.E k) (fun κ s => lhOf k κ s laws_eqEntryS.pts) b164 (OM.start laws_eqEntryS.g.pms 0 (a0, a1, ())) (OM.fin laws_eqEntryS.g Tryz.f164.results.toList) := by kernel_rfl
theorem laws_eqEntryS.ok (k : Nat) : SmOk Tryz.prog (laws_eqEntryS.sm k) :=
  sm_ok mixed (E := laws_eqEntryS.E) (pts := laws_eqEntryS.pts) (fun k => ⟨⟨tysOk, by kernel_rfl⟩, forall_cons ⟨laws_eqEntry.ok k, e197⟩ (forall_nil)⟩) (fun _ => rfl) (fun _ => rfl)
    ⟨Tryz.func164, by kernel_rfl, by kernel_rfl, by kernel_rfl, by kernel_rfl, by kernel_rfl, by kernel_rfl⟩ (forall_cons (fun x => ⟨rfl, fun k => laws_eqEntryS.h9 k x.1 x.2.1 x.2.2.1⟩) (forall_nil)) (fun k x => laws_eqEntryS.hf k x.1 x.2.1) k
noncomputable def b113 : Code := Tryz.f113.body.getD .skip
theorem e113 : OM.Entry Tryz.prog 113 := ⟨_, Tryz.func113, by kernel_rfl, by kernel_rfl⟩
@[reducible] noncomputable def laws_eqStore.g : Sig := ⟨[.fz tStore, .fz tStore], [.v .bool .z], []⟩
@[reducible] noncomputable def laws_eqStore.fk : Nat → denI laws_eqStore.g.pms → Option (denR (outTys laws_eqStore.g.rts laws_eqStore.g.pms)) := fun k x => laws_eqStore.f k x.1 x.2.1
@[reducible] noncomputable def laws_eqStore.sm (k : Nat) : Sm := ⟨113, laws_eqStore.g.pms, laws_eqStore.g.rts, laws_eqStore.fk k⟩
noncomputable def laws_eqStore.E (k : Nat) : Env := ⟨tys, [laws_eqEntryS.sm k], [], [], []⟩
noncomputable def laws_eqStore.pts : List (Pt (denR (outTys laws_eqStore.g.rts laws_eqStore.g.pms))) := []
theorem laws_eqStore.hf (k : Nat) (a0 : Store) (a1 : Store) : (laws_eqStore.f k a0 a1 : Option (denR (outTys laws_eqStore.g.rts laws_eqStore.g.pms))) = evC (laws_eqStore.E k) (fun κ s => lhOf k κ s laws_eqStore.pts) b113 (OM.start laws_eqStore.g.pms 0 (a0, a1, ())) (OM.fin laws_eqStore.g Tryz.f113.results.toList) := by kernel_rfl
theorem laws_eqStore.ok (k : Nat) : SmOk Tryz.prog (laws_eqStore.sm k) :=
  sm_ok mixed (E := laws_eqStore.E) (pts := laws_eqStore.pts) (fun k => ⟨⟨tysOk, by kernel_rfl⟩, forall_cons ⟨laws_eqEntryS.ok k, e164⟩ (forall_nil)⟩) (fun _ => rfl) (fun _ => rfl)
    ⟨Tryz.func113, by kernel_rfl, by kernel_rfl, by kernel_rfl, by kernel_rfl, by kernel_rfl, by kernel_rfl⟩ (forall_nil) (fun k x => laws_eqStore.hf k x.1 x.2.1) k
noncomputable def b53 : Code := Tryz.f53.body.getD .skip
theorem e53 : OM.Entry Tryz.prog 53 := ⟨_, Tryz.func53, by kernel_rfl, by kernel_rfl⟩
@[reducible] noncomputable def laws_eqStoreS.g : Sig := ⟨[.fz (.sl tStore), .fz (.sl tStore)], [.v .bool .z], []⟩
@[reducible] noncomputable def laws_eqStoreS.fk : Nat → denI laws_eqStoreS.g.pms → Option (denR (outTys laws_eqStoreS.g.rts laws_eqStoreS.g.pms)) := fun k x => laws_eqStoreS.f k x.1 x.2.1
@[reducible] noncomputable def laws_eqStoreS.sm (k : Nat) : Sm := ⟨53, laws_eqStoreS.g.pms, laws_eqStoreS.g.rts, laws_eqStoreS.fk k⟩
noncomputable def laws_eqStoreS.E (k : Nat) : Env := ⟨tys, [laws_eqStore.sm k], [], [], []⟩
@[reducible] noncomputable def laws_eqStoreS.s9 : List Slot := [.v 0 (.sl tStore) .z [] 0, .v 4 (.sl tStore) .z [] 0, .v 20 (.int .i64) .z [] 0]
noncomputable def laws_eqStoreS.pts : List (Pt (denR (outTys laws_eqStoreS.g.rts laws_eqStoreS.g.pms))) := [⟨9, laws_eqStoreS.s9, fun k x => laws_eqStoreS.p9 k x.1 x.2.1 x.2.2.1⟩]
theorem laws_eqStoreS.h9 (k : Nat) (x0 : (List Store)) (x1 : (List Store)) (x2 : Int) : (laws_eqStoreS.p9 (k + 1) x0 x1 x2 : Option (denR (outTys laws_eqStoreS.g.rts laws_eqStoreS.g.pms))) = evAt (laws_eqStoreS.E k) (fun κ s => lhOf k κ s laws_eqStoreS.pts) 9 b53 (unproj laws_eqStoreS.s9 (x0, x1, x2, ())) (OM.fin laws_eqStoreS.g Tryz.f53.results.toList) := by kernel_rfl
theorem laws_eqStoreS.hf (k : Nat) (a0 : (List Store)) (a1 : (List Store)) : (laws_eqStoreS.f k a0 a1 : Option (denR (outTys laws_eqStoreS.g.rts laws_eqStoreS.g.pms))) = evC (laws_eqStoreS.E k) (fun κ s => lhOf k κ s laws_eqStoreS.pts) b53 (OM.start laws_eqStoreS.g.pms 0 (a0, a1, ())) (OM.fin laws_eqStoreS.g Tryz.f53.results.toList) := by kernel_rfl
theorem laws_eqStoreS.ok (k : Nat) : SmOk Tryz.prog (laws_eqStoreS.sm k) :=
  sm_ok mixed (E := laws_eqStoreS.E) (pts := laws_eqStoreS.pts) (fun k => ⟨⟨tysOk, by kernel_rfl⟩, forall_cons ⟨laws_eqStore.ok k, e113⟩ (forall_nil)⟩) (fun _ => rfl) (fun _ => rfl)
    ⟨Tryz.func53, by kernel_rfl, by kernel_rfl, by kernel_rfl, by kernel_rfl, by kernel_rfl, by kernel_rfl⟩ (forall_cons (fun x => ⟨rfl, fun k => laws_eqStoreS.h9 k x.1 x.2.1 x.2.2.1⟩) (forall_nil)) (fun k x => laws_eqStoreS.hf k x.1 x.2.1) k
noncomputable def b165 : Code := Tryz.f165.body.getD .skip
theorem e165 : OM.Entry Tryz.prog 165 := ⟨_, Tryz.func165, by kernel_rfl, by kernel_rfl⟩
@[reducible] noncomputable def laws_eqEra.g : Sig := ⟨[.fz tEra, .fz tEra], [.v .bool .z], []⟩
@[reducible] noncomputable def laws_eqEra.fk : Nat → denI laws_eqEra.g.pms → Option (denR (outTys laws_eqEra.g.rts laws_eqEra.g.pms)) := fun k x => laws_eqEra.f k x.1 x.2.1
@[reducible] noncomputable def laws_eqEra.sm (k : Nat) : Sm := ⟨165, laws_eqEra.g.pms, laws_eqEra.g.rts, laws_eqEra.fk k⟩
noncomputable def laws_eqEra.E (k : Nat) : Env := ⟨tys, [laws_eqIntS.sm k], [], [], [4]⟩
noncomputable def laws_eqEra.pts : List (Pt (denR (outTys laws_eqEra.g.rts laws_eqEra.g.pms))) := []
theorem laws_eqEra.hf (k : Nat) (a0 : Era) (a1 : Era) : (laws_eqEra.f k a0 a1 : Option (denR (outTys laws_eqEra.g.rts laws_eqEra.g.pms))) = evC (laws_eqEra.E k) (fun κ s => lhOf k κ s laws_eqEra.pts) b165 (OM.start laws_eqEra.g.pms 0 (a0, a1, ())) (OM.fin laws_eqEra.g Tryz.f165.results.toList) := by kernel_rfl
theorem laws_eqEra.ok (k : Nat) : SmOk Tryz.prog (laws_eqEra.sm k) :=
  sm_ok mixed (E := laws_eqEra.E) (pts := laws_eqEra.pts) (fun k => ⟨⟨tysOk, by kernel_rfl⟩, forall_cons ⟨laws_eqIntS.ok k, e13⟩ (forall_nil)⟩) (fun _ => rfl) (fun _ => rfl)
    ⟨Tryz.func165, by kernel_rfl, by kernel_rfl, by kernel_rfl, by kernel_rfl, by kernel_rfl, by kernel_rfl⟩ (forall_nil) (fun k x => laws_eqEra.hf k x.1 x.2.1) k
noncomputable def b114 : Code := Tryz.f114.body.getD .skip
theorem e114 : OM.Entry Tryz.prog 114 := ⟨_, Tryz.func114, by kernel_rfl, by kernel_rfl⟩
@[reducible] noncomputable def laws_eqEraS.g : Sig := ⟨[.fz (.sl tEra), .fz (.sl tEra)], [.v .bool .z], []⟩
@[reducible] noncomputable def laws_eqEraS.fk : Nat → denI laws_eqEraS.g.pms → Option (denR (outTys laws_eqEraS.g.rts laws_eqEraS.g.pms)) := fun k x => laws_eqEraS.f k x.1 x.2.1
@[reducible] noncomputable def laws_eqEraS.sm (k : Nat) : Sm := ⟨114, laws_eqEraS.g.pms, laws_eqEraS.g.rts, laws_eqEraS.fk k⟩
noncomputable def laws_eqEraS.E (k : Nat) : Env := ⟨tys, [laws_eqEra.sm k], [], [], []⟩
@[reducible] noncomputable def laws_eqEraS.s9 : List Slot := [.v 0 (.sl tEra) .z [] 0, .v 4 (.sl tEra) .z [] 0, .v 20 (.int .i64) .z [] 0]
noncomputable def laws_eqEraS.pts : List (Pt (denR (outTys laws_eqEraS.g.rts laws_eqEraS.g.pms))) := [⟨9, laws_eqEraS.s9, fun k x => laws_eqEraS.p9 k x.1 x.2.1 x.2.2.1⟩]
theorem laws_eqEraS.h9 (k : Nat) (x0 : (List Era)) (x1 : (List Era)) (x2 : Int) : (laws_eqEraS.p9 (k + 1) x0 x1 x2 : Option (denR (outTys laws_eqEraS.g.rts laws_eqEraS.g.pms))) = evAt (laws_eqEraS.E k) (fun κ s => lhOf k κ s laws_eqEraS.pts) 9 b114 (unproj laws_eqEraS.s9 (x0, x1, x2, ())) (OM.fin laws_eqEraS.g Tryz.f114.results.toList) := by kernel_rfl
theorem laws_eqEraS.hf (k : Nat) (a0 : (List Era)) (a1 : (List Era)) : (laws_eqEraS.f k a0 a1 : Option (denR (outTys laws_eqEraS.g.rts laws_eqEraS.g.pms))) = evC (laws_eqEraS.E k) (fun κ s => lhOf k κ s laws_eqEraS.pts) b114 (OM.start laws_eqEraS.g.pms 0 (a0, a1, ())) (OM.fin laws_eqEraS.g Tryz.f114.results.toList) := by kernel_rfl
theorem laws_eqEraS.ok (k : Nat) : SmOk Tryz.prog (laws_eqEraS.sm k) :=
  sm_ok mixed (E := laws_eqEraS.E) (pts := laws_eqEraS.pts) (fun k => ⟨⟨tysOk, by kernel_rfl⟩, forall_cons ⟨laws_eqEra.ok k, e165⟩ (forall_nil)⟩) (fun _ => rfl) (fun _ => rfl)
    ⟨Tryz.func114, by kernel_rfl, by kernel_rfl, by kernel_rfl, by kernel_rfl, by kernel_rfl, by kernel_rfl⟩ (forall_cons (fun x => ⟨rfl, fun k => laws_eqEraS.h9 k x.1 x.2.1 x.2.2.1⟩) (forall_nil)) (fun k x => laws_eqEraS.hf k x.1 x.2.1) k
noncomputable def b54 : Code := Tryz.f54.body.getD .skip
theorem e54 : OM.Entry Tryz.prog 54 := ⟨_, Tryz.func54, by kernel_rfl, by kernel_rfl⟩
@[reducible] noncomputable def laws_eqRegister.g : Sig := ⟨[.fz tRegister, .fz tRegister], [.v .bool .z], []⟩
@[reducible] noncomputable def laws_eqRegister.fk : Nat → denI laws_eqRegister.g.pms → Option (denR (outTys laws_eqRegister.g.rts laws_eqRegister.g.pms)) := fun k x => laws_eqRegister.f k x.1 x.2.1
@[reducible] noncomputable def laws_eqRegister.sm (k : Nat) : Sm := ⟨54, laws_eqRegister.g.pms, laws_eqRegister.g.rts, laws_eqRegister.fk k⟩
noncomputable def laws_eqRegister.E (k : Nat) : Env := ⟨tys, [laws_eqEraS.sm k], [], [], []⟩
noncomputable def laws_eqRegister.pts : List (Pt (denR (outTys laws_eqRegister.g.rts laws_eqRegister.g.pms))) := []
theorem laws_eqRegister.hf (k : Nat) (a0 : Register) (a1 : Register) : (laws_eqRegister.f k a0 a1 : Option (denR (outTys laws_eqRegister.g.rts laws_eqRegister.g.pms))) = evC (laws_eqRegister.E k) (fun κ s => lhOf k κ s laws_eqRegister.pts) b54 (OM.start laws_eqRegister.g.pms 0 (a0, a1, ())) (OM.fin laws_eqRegister.g Tryz.f54.results.toList) := by kernel_rfl
theorem laws_eqRegister.ok (k : Nat) : SmOk Tryz.prog (laws_eqRegister.sm k) :=
  sm_ok mixed (E := laws_eqRegister.E) (pts := laws_eqRegister.pts) (fun k => ⟨⟨tysOk, by kernel_rfl⟩, forall_cons ⟨laws_eqEraS.ok k, e114⟩ (forall_nil)⟩) (fun _ => rfl) (fun _ => rfl)
    ⟨Tryz.func54, by kernel_rfl, by kernel_rfl, by kernel_rfl, by kernel_rfl, by kernel_rfl, by kernel_rfl⟩ (forall_nil) (fun k x => laws_eqRegister.hf k x.1 x.2.1) k
noncomputable def b198 : Code := Tryz.f198.body.getD .skip
theorem e198 : OM.Entry Tryz.prog 198 := ⟨_, Tryz.func198, by kernel_rfl, by kernel_rfl⟩
@[reducible] noncomputable def laws_eqWord.g : Sig := ⟨[.fz tWord, .fz tWord], [.v .bool .z], []⟩
@[reducible] noncomputable def laws_eqWord.fk : Nat → denI laws_eqWord.g.pms → Option (denR (outTys laws_eqWord.g.rts laws_eqWord.g.pms)) := fun k x => laws_eqWord.f k x.1 x.2.1
@[reducible] noncomputable def laws_eqWord.sm (k : Nat) : Sm := ⟨198, laws_eqWord.g.pms, laws_eqWord.g.rts, laws_eqWord.fk k⟩
noncomputable def laws_eqWord.E (k : Nat) : Env := ⟨tys, [laws_eqIntS.sm k], [], [], [4]⟩
noncomputable def laws_eqWord.pts : List (Pt (denR (outTys laws_eqWord.g.rts laws_eqWord.g.pms))) := []
theorem laws_eqWord.hf (k : Nat) (a0 : Word) (a1 : Word) : (laws_eqWord.f k a0 a1 : Option (denR (outTys laws_eqWord.g.rts laws_eqWord.g.pms))) = evC (laws_eqWord.E k) (fun κ s => lhOf k κ s laws_eqWord.pts) b198 (OM.start laws_eqWord.g.pms 0 (a0, a1, ())) (OM.fin laws_eqWord.g Tryz.f198.results.toList) := by kernel_rfl
theorem laws_eqWord.ok (k : Nat) : SmOk Tryz.prog (laws_eqWord.sm k) :=
  sm_ok mixed (E := laws_eqWord.E) (pts := laws_eqWord.pts) (fun k => ⟨⟨tysOk, by kernel_rfl⟩, forall_cons ⟨laws_eqIntS.ok k, e13⟩ (forall_nil)⟩) (fun _ => rfl) (fun _ => rfl)
    ⟨Tryz.func198, by kernel_rfl, by kernel_rfl, by kernel_rfl, by kernel_rfl, by kernel_rfl, by kernel_rfl⟩ (forall_nil) (fun k x => laws_eqWord.hf k x.1 x.2.1) k
noncomputable def b166 : Code := Tryz.f166.body.getD .skip
theorem e166 : OM.Entry Tryz.prog 166 := ⟨_, Tryz.func166, by kernel_rfl, by kernel_rfl⟩
@[reducible] noncomputable def laws_eqWordS.g : Sig := ⟨[.fz (.sl tWord), .fz (.sl tWord)], [.v .bool .z], []⟩
@[reducible] noncomputable def laws_eqWordS.fk : Nat → denI laws_eqWordS.g.pms → Option (denR (outTys laws_eqWordS.g.rts laws_eqWordS.g.pms)) := fun k x => laws_eqWordS.f k x.1 x.2.1
@[reducible] noncomputable def laws_eqWordS.sm (k : Nat) : Sm := ⟨166, laws_eqWordS.g.pms, laws_eqWordS.g.rts, laws_eqWordS.fk k⟩
noncomputable def laws_eqWordS.E (k : Nat) : Env := ⟨tys, [laws_eqWord.sm k], [], [], []⟩
@[reducible] noncomputable def laws_eqWordS.s9 : List Slot := [.v 0 (.sl tWord) .z [] 0, .v 4 (.sl tWord) .z [] 0, .v 20 (.int .i64) .z [] 0]
noncomputable def laws_eqWordS.pts : List (Pt (denR (outTys laws_eqWordS.g.rts laws_eqWordS.g.pms))) := [⟨9, laws_eqWordS.s9, fun k x => laws_eqWordS.p9 k x.1 x.2.1 x.2.2.1⟩]
theorem laws_eqWordS.h9 (k : Nat) (x0 : (List Word)) (x1 : (List Word)) (x2 : Int) : (laws_eqWordS.p9 (k + 1) x0 x1 x2 : Option (denR (outTys laws_eqWordS.g.rts laws_eqWordS.g.pms))) = evAt (laws_eqWordS.E k) (fun κ s => lhOf k κ s laws_eqWordS.pts) 9 b166 (unproj laws_eqWordS.s9 (x0, x1, x2, ())) (OM.fin laws_eqWordS.g Tryz.f166.results.toList) := by kernel_rfl
theorem laws_eqWordS.hf (k : Nat) (a0 : (List Word)) (a1 : (List Word)) : (laws_eqWordS.f k a0 a1 : Option (denR (outTys laws_eqWordS.g.rts laws_eqWordS.g.pms))) = evC (laws_eqWordS.E k) (fun κ s => lhOf k κ s laws_eqWordS.pts) b166 (OM.start laws_eqWordS.g.pms 0 (a0, a1, ())) (OM.fin laws_eqWordS.g Tryz.f166.results.toList) := by kernel_rfl
theorem laws_eqWordS.ok (k : Nat) : SmOk Tryz.prog (laws_eqWordS.sm k) :=
  sm_ok mixed (E := laws_eqWordS.E) (pts := laws_eqWordS.pts) (fun k => ⟨⟨tysOk, by kernel_rfl⟩, forall_cons ⟨laws_eqWord.ok k, e198⟩ (forall_nil)⟩) (fun _ => rfl) (fun _ => rfl)
    ⟨Tryz.func166, by kernel_rfl, by kernel_rfl, by kernel_rfl, by kernel_rfl, by kernel_rfl, by kernel_rfl⟩ (forall_cons (fun x => ⟨rfl, fun k => laws_eqWordS.h9 k x.1 x.2.1 x.2.2.1⟩) (forall_nil)) (fun k x => laws_eqWordS.hf k x.1 x.2.1) k
noncomputable def b115 : Code := Tryz.f115.body.getD .skip
theorem e115 : OM.Entry Tryz.prog 115 := ⟨_, Tryz.func115, by kernel_rfl, by kernel_rfl⟩
@[reducible] noncomputable def laws_eqWriter.g : Sig := ⟨[.fz tWriter, .fz tWriter], [.v .bool .z], []⟩
@[reducible] noncomputable def laws_eqWriter.fk : Nat → denI laws_eqWriter.g.pms → Option (denR (outTys laws_eqWriter.g.rts laws_eqWriter.g.pms)) := fun k x => laws_eqWriter.f k x.1 x.2.1
@[reducible] noncomputable def laws_eqWriter.sm (k : Nat) : Sm := ⟨115, laws_eqWriter.g.pms, laws_eqWriter.g.rts, laws_eqWriter.fk k⟩
noncomputable def laws_eqWriter.E (k : Nat) : Env := ⟨tys, [laws_eqWordS.sm k], [], [], []⟩
noncomputable def laws_eqWriter.pts : List (Pt (denR (outTys laws_eqWriter.g.rts laws_eqWriter.g.pms))) := []
theorem laws_eqWriter.hf (k : Nat) (a0 : Writer) (a1 : Writer) : (laws_eqWriter.f k a0 a1 : Option (denR (outTys laws_eqWriter.g.rts laws_eqWriter.g.pms))) = evC (laws_eqWriter.E k) (fun κ s => lhOf k κ s laws_eqWriter.pts) b115 (OM.start laws_eqWriter.g.pms 0 (a0, a1, ())) (OM.fin laws_eqWriter.g Tryz.f115.results.toList) := by kernel_rfl
theorem laws_eqWriter.ok (k : Nat) : SmOk Tryz.prog (laws_eqWriter.sm k) :=
  sm_ok mixed (E := laws_eqWriter.E) (pts := laws_eqWriter.pts) (fun k => ⟨⟨tysOk, by kernel_rfl⟩, forall_cons ⟨laws_eqWordS.ok k, e166⟩ (forall_nil)⟩) (fun _ => rfl) (fun _ => rfl)
    ⟨Tryz.func115, by kernel_rfl, by kernel_rfl, by kernel_rfl, by kernel_rfl, by kernel_rfl, by kernel_rfl⟩ (forall_nil) (fun k x => laws_eqWriter.hf k x.1 x.2.1) k
noncomputable def b55 : Code := Tryz.f55.body.getD .skip
theorem e55 : OM.Entry Tryz.prog 55 := ⟨_, Tryz.func55, by kernel_rfl, by kernel_rfl⟩
@[reducible] noncomputable def laws_eqWriterS.g : Sig := ⟨[.fz (.sl tWriter), .fz (.sl tWriter)], [.v .bool .z], []⟩
@[reducible] noncomputable def laws_eqWriterS.fk : Nat → denI laws_eqWriterS.g.pms → Option (denR (outTys laws_eqWriterS.g.rts laws_eqWriterS.g.pms)) := fun k x => laws_eqWriterS.f k x.1 x.2.1
@[reducible] noncomputable def laws_eqWriterS.sm (k : Nat) : Sm := ⟨55, laws_eqWriterS.g.pms, laws_eqWriterS.g.rts, laws_eqWriterS.fk k⟩
noncomputable def laws_eqWriterS.E (k : Nat) : Env := ⟨tys, [laws_eqWriter.sm k], [], [], []⟩
@[reducible] noncomputable def laws_eqWriterS.s9 : List Slot := [.v 0 (.sl tWriter) .z [] 0, .v 4 (.sl tWriter) .z [] 0, .v 20 (.int .i64) .z [] 0]
noncomputable def laws_eqWriterS.pts : List (Pt (denR (outTys laws_eqWriterS.g.rts laws_eqWriterS.g.pms))) := [⟨9, laws_eqWriterS.s9, fun k x => laws_eqWriterS.p9 k x.1 x.2.1 x.2.2.1⟩]
theorem laws_eqWriterS.h9 (k : Nat) (x0 : (List Writer)) (x1 : (List Writer)) (x2 : Int) : (laws_eqWriterS.p9 (k + 1) x0 x1 x2 : Option (denR (outTys laws_eqWriterS.g.rts laws_eqWriterS.g.pms))) = evAt (laws_eqWriterS.E k) (fun κ s => lhOf k κ s laws_eqWriterS.pts) 9 b55 (unproj laws_eqWriterS.s9 (x0, x1, x2, ())) (OM.fin laws_eqWriterS.g Tryz.f55.results.toList) := by kernel_rfl
theorem laws_eqWriterS.hf (k : Nat) (a0 : (List Writer)) (a1 : (List Writer)) : (laws_eqWriterS.f k a0 a1 : Option (denR (outTys laws_eqWriterS.g.rts laws_eqWriterS.g.pms))) = evC (laws_eqWriterS.E k) (fun κ s => lhOf k κ s laws_eqWriterS.pts) b55 (OM.start laws_eqWriterS.g.pms 0 (a0, a1, ())) (OM.fin laws_eqWriterS.g Tryz.f55.results.toList) := by kernel_rfl
theorem laws_eqWriterS.ok (k : Nat) : SmOk Tryz.prog (laws_eqWriterS.sm k) :=
  sm_ok mixed (E := laws_eqWriterS.E) (pts := laws_eqWriterS.pts) (fun k => ⟨⟨tysOk, by kernel_rfl⟩, forall_cons ⟨laws_eqWriter.ok k, e115⟩ (forall_nil)⟩) (fun _ => rfl) (fun _ => rfl)
    ⟨Tryz.func55, by kernel_rfl, by kernel_rfl, by kernel_rfl, by kernel_rfl, by kernel_rfl, by kernel_rfl⟩ (forall_cons (fun x => ⟨rfl, fun k => laws_eqWriterS.h9 k x.1 x.2.1 x.2.2.1⟩) (forall_nil)) (fun k x => laws_eqWriterS.hf k x.1 x.2.1) k
noncomputable def b167 : Code := Tryz.f167.body.getD .skip
theorem e167 : OM.Entry Tryz.prog 167 := ⟨_, Tryz.func167, by kernel_rfl, by kernel_rfl⟩
@[reducible] noncomputable def laws_eqIntSS.g : Sig := ⟨[.fz (.sl (.sl (.int .i64))), .fz (.sl (.sl (.int .i64)))], [.v .bool .z], []⟩
@[reducible] noncomputable def laws_eqIntSS.fk : Nat → denI laws_eqIntSS.g.pms → Option (denR (outTys laws_eqIntSS.g.rts laws_eqIntSS.g.pms)) := fun k x => laws_eqIntSS.f k x.1 x.2.1
@[reducible] noncomputable def laws_eqIntSS.sm (k : Nat) : Sm := ⟨167, laws_eqIntSS.g.pms, laws_eqIntSS.g.rts, laws_eqIntSS.fk k⟩
noncomputable def laws_eqIntSS.E (k : Nat) : Env := ⟨tys, [laws_eqIntS.sm k], [], [], []⟩
@[reducible] noncomputable def laws_eqIntSS.s9 : List Slot := [.v 0 (.sl (.sl (.int .i64))) .z [] 0, .v 4 (.sl (.sl (.int .i64))) .z [] 0, .v 20 (.int .i64) .z [] 0]
noncomputable def laws_eqIntSS.pts : List (Pt (denR (outTys laws_eqIntSS.g.rts laws_eqIntSS.g.pms))) := [⟨9, laws_eqIntSS.s9, fun k x => laws_eqIntSS.p9 k x.1 x.2.1 x.2.2.1⟩]
theorem laws_eqIntSS.h9 (k : Nat) (x0 : (List (List Int))) (x1 : (List (List Int))) (x2 : Int) : (laws_eqIntSS.p9 (k + 1) x0 x1 x2 : Option (denR (outTys laws_eqIntSS.g.rts laws_eqIntSS.g.pms))) = evAt (laws_eqIntSS.E k) (fun κ s => lhOf k κ s laws_eqIntSS.pts) 9 b167 (unproj laws_eqIntSS.s9 (x0, x1, x2, ())) (OM.fin laws_eqIntSS.g Tryz.f167.results.toList) := by kernel_rfl
theorem laws_eqIntSS.hf (k : Nat) (a0 : (List (List Int))) (a1 : (List (List Int))) : (laws_eqIntSS.f k a0 a1 : Option (denR (outTys laws_eqIntSS.g.rts laws_eqIntSS.g.pms))) = evC (laws_eqIntSS.E k) (fun κ s => lhOf k κ s laws_eqIntSS.pts) b167 (OM.start laws_eqIntSS.g.pms 0 (a0, a1, ())) (OM.fin laws_eqIntSS.g Tryz.f167.results.toList) := by kernel_rfl
theorem laws_eqIntSS.ok (k : Nat) : SmOk Tryz.prog (laws_eqIntSS.sm k) :=
  sm_ok mixed (E := laws_eqIntSS.E) (pts := laws_eqIntSS.pts) (fun k => ⟨⟨tysOk, by kernel_rfl⟩, forall_cons ⟨laws_eqIntS.ok k, e13⟩ (forall_nil)⟩) (fun _ => rfl) (fun _ => rfl)
    ⟨Tryz.func167, by kernel_rfl, by kernel_rfl, by kernel_rfl, by kernel_rfl, by kernel_rfl, by kernel_rfl⟩ (forall_cons (fun x => ⟨rfl, fun k => laws_eqIntSS.h9 k x.1 x.2.1 x.2.2.1⟩) (forall_nil)) (fun k x => laws_eqIntSS.hf k x.1 x.2.1) k
noncomputable def b116 : Code := Tryz.f116.body.getD .skip
theorem e116 : OM.Entry Tryz.prog 116 := ⟨_, Tryz.func116, by kernel_rfl, by kernel_rfl⟩
@[reducible] noncomputable def laws_eqMend.g : Sig := ⟨[.fz tMend, .fz tMend], [.v .bool .z], []⟩
@[reducible] noncomputable def laws_eqMend.fk : Nat → denI laws_eqMend.g.pms → Option (denR (outTys laws_eqMend.g.rts laws_eqMend.g.pms)) := fun k x => laws_eqMend.f k x.1 x.2.1
@[reducible] noncomputable def laws_eqMend.sm (k : Nat) : Sm := ⟨116, laws_eqMend.g.pms, laws_eqMend.g.rts, laws_eqMend.fk k⟩
noncomputable def laws_eqMend.E (k : Nat) : Env := ⟨tys, [laws_eqIntS.sm k, laws_eqEntryS.sm k, laws_eqIntSS.sm k], [], [], [4]⟩
noncomputable def laws_eqMend.pts : List (Pt (denR (outTys laws_eqMend.g.rts laws_eqMend.g.pms))) := []
theorem laws_eqMend.hf (k : Nat) (a0 : Mend) (a1 : Mend) : (laws_eqMend.f k a0 a1 : Option (denR (outTys laws_eqMend.g.rts laws_eqMend.g.pms))) = evC (laws_eqMend.E k) (fun κ s => lhOf k κ s laws_eqMend.pts) b116 (OM.start laws_eqMend.g.pms 0 (a0, a1, ())) (OM.fin laws_eqMend.g Tryz.f116.results.toList) := by kernel_rfl
theorem laws_eqMend.ok (k : Nat) : SmOk Tryz.prog (laws_eqMend.sm k) :=
  sm_ok mixed (E := laws_eqMend.E) (pts := laws_eqMend.pts) (fun k => ⟨⟨tysOk, by kernel_rfl⟩, forall_cons ⟨laws_eqIntS.ok k, e13⟩ (forall_cons ⟨laws_eqEntryS.ok k, e164⟩ (forall_cons ⟨laws_eqIntSS.ok k, e167⟩ (forall_nil)))⟩) (fun _ => rfl) (fun _ => rfl)
    ⟨Tryz.func116, by kernel_rfl, by kernel_rfl, by kernel_rfl, by kernel_rfl, by kernel_rfl, by kernel_rfl⟩ (forall_nil) (fun k x => laws_eqMend.hf k x.1 x.2.1) k
noncomputable def b56 : Code := Tryz.f56.body.getD .skip
theorem e56 : OM.Entry Tryz.prog 56 := ⟨_, Tryz.func56, by kernel_rfl, by kernel_rfl⟩
@[reducible] noncomputable def laws_eqMendS.g : Sig := ⟨[.fz (.sl tMend), .fz (.sl tMend)], [.v .bool .z], []⟩
@[reducible] noncomputable def laws_eqMendS.fk : Nat → denI laws_eqMendS.g.pms → Option (denR (outTys laws_eqMendS.g.rts laws_eqMendS.g.pms)) := fun k x => laws_eqMendS.f k x.1 x.2.1
@[reducible] noncomputable def laws_eqMendS.sm (k : Nat) : Sm := ⟨56, laws_eqMendS.g.pms, laws_eqMendS.g.rts, laws_eqMendS.fk k⟩
noncomputable def laws_eqMendS.E (k : Nat) : Env := ⟨tys, [laws_eqMend.sm k], [], [], []⟩
@[reducible] noncomputable def laws_eqMendS.s9 : List Slot := [.v 0 (.sl tMend) .z [] 0, .v 4 (.sl tMend) .z [] 0, .v 20 (.int .i64) .z [] 0]
noncomputable def laws_eqMendS.pts : List (Pt (denR (outTys laws_eqMendS.g.rts laws_eqMendS.g.pms))) := [⟨9, laws_eqMendS.s9, fun k x => laws_eqMendS.p9 k x.1 x.2.1 x.2.2.1⟩]
theorem laws_eqMendS.h9 (k : Nat) (x0 : (List Mend)) (x1 : (List Mend)) (x2 : Int) : (laws_eqMendS.p9 (k + 1) x0 x1 x2 : Option (denR (outTys laws_eqMendS.g.rts laws_eqMendS.g.pms))) = evAt (laws_eqMendS.E k) (fun κ s => lhOf k κ s laws_eqMendS.pts) 9 b56 (unproj laws_eqMendS.s9 (x0, x1, x2, ())) (OM.fin laws_eqMendS.g Tryz.f56.results.toList) := by kernel_rfl
theorem laws_eqMendS.hf (k : Nat) (a0 : (List Mend)) (a1 : (List Mend)) : (laws_eqMendS.f k a0 a1 : Option (denR (outTys laws_eqMendS.g.rts laws_eqMendS.g.pms))) = evC (laws_eqMendS.E k) (fun κ s => lhOf k κ s laws_eqMendS.pts) b56 (OM.start laws_eqMendS.g.pms 0 (a0, a1, ())) (OM.fin laws_eqMendS.g Tryz.f56.results.toList) := by kernel_rfl
theorem laws_eqMendS.ok (k : Nat) : SmOk Tryz.prog (laws_eqMendS.sm k) :=
  sm_ok mixed (E := laws_eqMendS.E) (pts := laws_eqMendS.pts) (fun k => ⟨⟨tysOk, by kernel_rfl⟩, forall_cons ⟨laws_eqMend.ok k, e116⟩ (forall_nil)⟩) (fun _ => rfl) (fun _ => rfl)
    ⟨Tryz.func56, by kernel_rfl, by kernel_rfl, by kernel_rfl, by kernel_rfl, by kernel_rfl, by kernel_rfl⟩ (forall_cons (fun x => ⟨rfl, fun k => laws_eqMendS.h9 k x.1 x.2.1 x.2.2.1⟩) (forall_nil)) (fun k x => laws_eqMendS.hf k x.1 x.2.1) k
noncomputable def b199 : Code := Tryz.f199.body.getD .skip
theorem e199 : OM.Entry Tryz.prog 199 := ⟨_, Tryz.func199, by kernel_rfl, by kernel_rfl⟩
@[reducible] noncomputable def laws_eqEvent.g : Sig := ⟨[.fz tEvent, .fz tEvent], [.v .bool .z], []⟩
@[reducible] noncomputable def laws_eqEvent.fk : Nat → denI laws_eqEvent.g.pms → Option (denR (outTys laws_eqEvent.g.rts laws_eqEvent.g.pms)) := fun k x => laws_eqEvent.f x.1 x.2.1
@[reducible] noncomputable def laws_eqEvent.sm (k : Nat) : Sm := ⟨199, laws_eqEvent.g.pms, laws_eqEvent.g.rts, laws_eqEvent.fk k⟩
noncomputable def laws_eqEvent.E (k : Nat) : Env := ⟨tys, [], [], [], []⟩
noncomputable def laws_eqEvent.pts : List (Pt (denR (outTys laws_eqEvent.g.rts laws_eqEvent.g.pms))) := []
theorem laws_eqEvent.hf (k : Nat) (a0 : Event) (a1 : Event) : (laws_eqEvent.f a0 a1 : Option (denR (outTys laws_eqEvent.g.rts laws_eqEvent.g.pms))) = evC (laws_eqEvent.E k) (fun κ s => lhOf k κ s laws_eqEvent.pts) b199 (OM.start laws_eqEvent.g.pms 0 (a0, a1, ())) (OM.fin laws_eqEvent.g Tryz.f199.results.toList) := by kernel_rfl
theorem laws_eqEvent.ok (k : Nat) : SmOk Tryz.prog (laws_eqEvent.sm k) :=
  sm_ok mixed (E := laws_eqEvent.E) (pts := laws_eqEvent.pts) (fun k => ⟨⟨tysOk, by kernel_rfl⟩, forall_nil⟩) (fun _ => rfl) (fun _ => rfl)
    ⟨Tryz.func199, by kernel_rfl, by kernel_rfl, by kernel_rfl, by kernel_rfl, by kernel_rfl, by kernel_rfl⟩ (forall_nil) (fun k x => laws_eqEvent.hf k x.1 x.2.1) k
noncomputable def b168 : Code := Tryz.f168.body.getD .skip
theorem e168 : OM.Entry Tryz.prog 168 := ⟨_, Tryz.func168, by kernel_rfl, by kernel_rfl⟩
@[reducible] noncomputable def laws_eqEventS.g : Sig := ⟨[.fz (.sl tEvent), .fz (.sl tEvent)], [.v .bool .z], []⟩
@[reducible] noncomputable def laws_eqEventS.fk : Nat → denI laws_eqEventS.g.pms → Option (denR (outTys laws_eqEventS.g.rts laws_eqEventS.g.pms)) := fun k x => laws_eqEventS.f k x.1 x.2.1
@[reducible] noncomputable def laws_eqEventS.sm (k : Nat) : Sm := ⟨168, laws_eqEventS.g.pms, laws_eqEventS.g.rts, laws_eqEventS.fk k⟩
noncomputable def laws_eqEventS.E (k : Nat) : Env := ⟨tys, [laws_eqEvent.sm k], [], [], []⟩
@[reducible] noncomputable def laws_eqEventS.s9 : List Slot := [.v 0 (.sl tEvent) .z [] 0, .v 4 (.sl tEvent) .z [] 0, .v 20 (.int .i64) .z [] 0]
noncomputable def laws_eqEventS.pts : List (Pt (denR (outTys laws_eqEventS.g.rts laws_eqEventS.g.pms))) := [⟨9, laws_eqEventS.s9, fun k x => laws_eqEventS.p9 k x.1 x.2.1 x.2.2.1⟩]
theorem laws_eqEventS.h9 (k : Nat) (x0 : (List Event)) (x1 : (List Event)) (x2 : Int) : (laws_eqEventS.p9 (k + 1) x0 x1 x2 : Option (denR (outTys laws_eqEventS.g.rts laws_eqEventS.g.pms))) = evAt (laws_eqEventS.E k) (fun κ s => lhOf k κ s laws_eqEventS.pts) 9 b168 (unproj laws_eqEventS.s9 (x0, x1, x2, ())) (OM.fin laws_eqEventS.g Tryz.f168.results.toList) := by kernel_rfl
theorem laws_eqEventS.hf (k : Nat) (a0 : (List Event)) (a1 : (List Event)) : (laws_eqEventS.f k a0 a1 : Option (denR (outTys laws_eqEventS.g.rts laws_eqEventS.g.pms))) = evC (laws_eqEventS.E k) (fun κ s => lhOf k κ s laws_eqEventS.pts) b168 (OM.start laws_eqEventS.g.pms 0 (a0, a1, ())) (OM.fin laws_eqEventS.g Tryz.f168.results.toList) := by kernel_rfl
theorem laws_eqEventS.ok (k : Nat) : SmOk Tryz.prog (laws_eqEventS.sm k) :=
  sm_ok mixed (E := laws_eqEventS.E) (pts := laws_eqEventS.pts) (fun k => ⟨⟨tysOk, by kernel_rfl⟩, forall_cons ⟨laws_eqEvent.ok k, e199⟩ (forall_nil)⟩) (fun _ => rfl) (fun _ => rfl)
    ⟨Tryz.func168, by kernel_rfl, by kernel_rfl, by kernel_rfl, by kernel_rfl, by kernel_rfl, by kernel_rfl⟩ (forall_cons (fun x => ⟨rfl, fun k => laws_eqEventS.h9 k x.1 x.2.1 x.2.2.1⟩) (forall_nil)) (fun k x => laws_eqEventS.hf k x.1 x.2.1) k
noncomputable def b117 : Code := Tryz.f117.body.getD .skip
theorem e117 : OM.Entry Tryz.prog 117 := ⟨_, Tryz.func117, by kernel_rfl, by kernel_rfl⟩
@[reducible] noncomputable def laws_eqReader.g : Sig := ⟨[.fz tReader, .fz tReader], [.v .bool .z], []⟩
@[reducible] noncomputable def laws_eqReader.fk : Nat → denI laws_eqReader.g.pms → Option (denR (outTys laws_eqReader.g.rts laws_eqReader.g.pms)) := fun k x => laws_eqReader.f k x.1 x.2.1
@[reducible] noncomputable def laws_eqReader.sm (k : Nat) : Sm := ⟨117, laws_eqReader.g.pms, laws_eqReader.g.rts, laws_eqReader.fk k⟩
noncomputable def laws_eqReader.E (k : Nat) : Env := ⟨tys, [laws_eqEventS.sm k], [], [], []⟩
noncomputable def laws_eqReader.pts : List (Pt (denR (outTys laws_eqReader.g.rts laws_eqReader.g.pms))) := []
theorem laws_eqReader.hf (k : Nat) (a0 : Reader) (a1 : Reader) : (laws_eqReader.f k a0 a1 : Option (denR (outTys laws_eqReader.g.rts laws_eqReader.g.pms))) = evC (laws_eqReader.E k) (fun κ s => lhOf k κ s laws_eqReader.pts) b117 (OM.start laws_eqReader.g.pms 0 (a0, a1, ())) (OM.fin laws_eqReader.g Tryz.f117.results.toList) := by kernel_rfl
theorem laws_eqReader.ok (k : Nat) : SmOk Tryz.prog (laws_eqReader.sm k) :=
  sm_ok mixed (E := laws_eqReader.E) (pts := laws_eqReader.pts) (fun k => ⟨⟨tysOk, by kernel_rfl⟩, forall_cons ⟨laws_eqEventS.ok k, e168⟩ (forall_nil)⟩) (fun _ => rfl) (fun _ => rfl)
    ⟨Tryz.func117, by kernel_rfl, by kernel_rfl, by kernel_rfl, by kernel_rfl, by kernel_rfl, by kernel_rfl⟩ (forall_nil) (fun k x => laws_eqReader.hf k x.1 x.2.1) k
noncomputable def b57 : Code := Tryz.f57.body.getD .skip
theorem e57 : OM.Entry Tryz.prog 57 := ⟨_, Tryz.func57, by kernel_rfl, by kernel_rfl⟩
@[reducible] noncomputable def laws_eqReaderS.g : Sig := ⟨[.fz (.sl tReader), .fz (.sl tReader)], [.v .bool .z], []⟩
@[reducible] noncomputable def laws_eqReaderS.fk : Nat → denI laws_eqReaderS.g.pms → Option (denR (outTys laws_eqReaderS.g.rts laws_eqReaderS.g.pms)) := fun k x => laws_eqReaderS.f k x.1 x.2.1
@[reducible] noncomputable def laws_eqReaderS.sm (k : Nat) : Sm := ⟨57, laws_eqReaderS.g.pms, laws_eqReaderS.g.rts, laws_eqReaderS.fk k⟩
noncomputable def laws_eqReaderS.E (k : Nat) : Env := ⟨tys, [laws_eqReader.sm k], [], [], []⟩
@[reducible] noncomputable def laws_eqReaderS.s9 : List Slot := [.v 0 (.sl tReader) .z [] 0, .v 4 (.sl tReader) .z [] 0, .v 20 (.int .i64) .z [] 0]
noncomputable def laws_eqReaderS.pts : List (Pt (denR (outTys laws_eqReaderS.g.rts laws_eqReaderS.g.pms))) := [⟨9, laws_eqReaderS.s9, fun k x => laws_eqReaderS.p9 k x.1 x.2.1 x.2.2.1⟩]
theorem laws_eqReaderS.h9 (k : Nat) (x0 : (List Reader)) (x1 : (List Reader)) (x2 : Int) : (laws_eqReaderS.p9 (k + 1) x0 x1 x2 : Option (denR (outTys laws_eqReaderS.g.rts laws_eqReaderS.g.pms))) = evAt (laws_eqReaderS.E k) (fun κ s => lhOf k κ s laws_eqReaderS.pts) 9 b57 (unproj laws_eqReaderS.s9 (x0, x1, x2, ())) (OM.fin laws_eqReaderS.g Tryz.f57.results.toList) := by kernel_rfl
theorem laws_eqReaderS.hf (k : Nat) (a0 : (List Reader)) (a1 : (List Reader)) : (laws_eqReaderS.f k a0 a1 : Option (denR (outTys laws_eqReaderS.g.rts laws_eqReaderS.g.pms))) = evC (laws_eqReaderS.E k) (fun κ s => lhOf k κ s laws_eqReaderS.pts) b57 (OM.start laws_eqReaderS.g.pms 0 (a0, a1, ())) (OM.fin laws_eqReaderS.g Tryz.f57.results.toList) := by kernel_rfl
theorem laws_eqReaderS.ok (k : Nat) : SmOk Tryz.prog (laws_eqReaderS.sm k) :=
  sm_ok mixed (E := laws_eqReaderS.E) (pts := laws_eqReaderS.pts) (fun k => ⟨⟨tysOk, by kernel_rfl⟩, forall_cons ⟨laws_eqReader.ok k, e117⟩ (forall_nil)⟩) (fun _ => rfl) (fun _ => rfl)
    ⟨Tryz.func57, by kernel_rfl, by kernel_rfl, by kernel_rfl, by kernel_rfl, by kernel_rfl, by kernel_rfl⟩ (forall_cons (fun x => ⟨rfl, fun k => laws_eqReaderS.h9 k x.1 x.2.1 x.2.2.1⟩) (forall_nil)) (fun k x => laws_eqReaderS.hf k x.1 x.2.1) k
noncomputable def b118 : Code := Tryz.f118.body.getD .skip
theorem e118 : OM.Entry Tryz.prog 118 := ⟨_, Tryz.func118, by kernel_rfl, by kernel_rfl⟩
@[reducible] noncomputable def laws_eqSent.g : Sig := ⟨[.fz tSent, .fz tSent], [.v .bool .z], []⟩
@[reducible] noncomputable def laws_eqSent.fk : Nat → denI laws_eqSent.g.pms → Option (denR (outTys laws_eqSent.g.rts laws_eqSent.g.pms)) := fun k x => laws_eqSent.f x.1 x.2.1
@[reducible] noncomputable def laws_eqSent.sm (k : Nat) : Sm := ⟨118, laws_eqSent.g.pms, laws_eqSent.g.rts, laws_eqSent.fk k⟩
noncomputable def laws_eqSent.E (k : Nat) : Env := ⟨tys, [], [], [], [4]⟩
noncomputable def laws_eqSent.pts : List (Pt (denR (outTys laws_eqSent.g.rts laws_eqSent.g.pms))) := []
theorem laws_eqSent.hf (k : Nat) (a0 : Sent) (a1 : Sent) : (laws_eqSent.f a0 a1 : Option (denR (outTys laws_eqSent.g.rts laws_eqSent.g.pms))) = evC (laws_eqSent.E k) (fun κ s => lhOf k κ s laws_eqSent.pts) b118 (OM.start laws_eqSent.g.pms 0 (a0, a1, ())) (OM.fin laws_eqSent.g Tryz.f118.results.toList) := by kernel_rfl
theorem laws_eqSent.ok (k : Nat) : SmOk Tryz.prog (laws_eqSent.sm k) :=
  sm_ok mixed (E := laws_eqSent.E) (pts := laws_eqSent.pts) (fun k => ⟨⟨tysOk, by kernel_rfl⟩, forall_nil⟩) (fun _ => rfl) (fun _ => rfl)
    ⟨Tryz.func118, by kernel_rfl, by kernel_rfl, by kernel_rfl, by kernel_rfl, by kernel_rfl, by kernel_rfl⟩ (forall_nil) (fun k x => laws_eqSent.hf k x.1 x.2.1) k
noncomputable def b58 : Code := Tryz.f58.body.getD .skip
theorem e58 : OM.Entry Tryz.prog 58 := ⟨_, Tryz.func58, by kernel_rfl, by kernel_rfl⟩
@[reducible] noncomputable def laws_eqSentS.g : Sig := ⟨[.fz (.sl tSent), .fz (.sl tSent)], [.v .bool .z], []⟩
@[reducible] noncomputable def laws_eqSentS.fk : Nat → denI laws_eqSentS.g.pms → Option (denR (outTys laws_eqSentS.g.rts laws_eqSentS.g.pms)) := fun k x => laws_eqSentS.f k x.1 x.2.1
@[reducible] noncomputable def laws_eqSentS.sm (k : Nat) : Sm := ⟨58, laws_eqSentS.g.pms, laws_eqSentS.g.rts, laws_eqSentS.fk k⟩
noncomputable def laws_eqSentS.E (k : Nat) : Env := ⟨tys, [laws_eqSent.sm k], [], [], []⟩
@[reducible] noncomputable def laws_eqSentS.s9 : List Slot := [.v 0 (.sl tSent) .z [] 0, .v 4 (.sl tSent) .z [] 0, .v 20 (.int .i64) .z [] 0]
noncomputable def laws_eqSentS.pts : List (Pt (denR (outTys laws_eqSentS.g.rts laws_eqSentS.g.pms))) := [⟨9, laws_eqSentS.s9, fun k x => laws_eqSentS.p9 k x.1 x.2.1 x.2.2.1⟩]
theorem laws_eqSentS.h9 (k : Nat) (x0 : (List Sent)) (x1 : (List Sent)) (x2 : Int) : (laws_eqSentS.p9 (k + 1) x0 x1 x2 : Option (denR (outTys laws_eqSentS.g.rts laws_eqSentS.g.pms))) = evAt (laws_eqSentS.E k) (fun κ s => lhOf k κ s laws_eqSentS.pts) 9 b58 (unproj laws_eqSentS.s9 (x0, x1, x2, ())) (OM.fin laws_eqSentS.g Tryz.f58.results.toList) := by kernel_rfl
theorem laws_eqSentS.hf (k : Nat) (a0 : (List Sent)) (a1 : (List Sent)) : (laws_eqSentS.f k a0 a1 : Option (denR (outTys laws_eqSentS.g.rts laws_eqSentS.g.pms))) = evC (laws_eqSentS.E k) (fun κ s => lhOf k κ s laws_eqSentS.pts) b58 (OM.start laws_eqSentS.g.pms 0 (a0, a1, ())) (OM.fin laws_eqSentS.g Tryz.f58.results.toList) := by kernel_rfl
theorem laws_eqSentS.ok (k : Nat) : SmOk Tryz.prog (laws_eqSentS.sm k) :=
  sm_ok mixed (E := laws_eqSentS.E) (pts := laws_eqSentS.pts) (fun k => ⟨⟨tysOk, by kernel_rfl⟩, forall_cons ⟨laws_eqSent.ok k, e118⟩ (forall_nil)⟩) (fun _ => rfl) (fun _ => rfl)
    ⟨Tryz.func58, by kernel_rfl, by kernel_rfl, by kernel_rfl, by kernel_rfl, by kernel_rfl, by kernel_rfl⟩ (forall_cons (fun x => ⟨rfl, fun k => laws_eqSentS.h9 k x.1 x.2.1 x.2.2.1⟩) (forall_nil)) (fun k x => laws_eqSentS.hf k x.1 x.2.1) k
noncomputable def b10 : Code := Tryz.f10.body.getD .skip
theorem e10 : OM.Entry Tryz.prog 10 := ⟨_, Tryz.func10, by kernel_rfl, by kernel_rfl⟩
@[reducible] noncomputable def laws_eqWorld.g : Sig := ⟨[.fz tWorld, .fz tWorld], [.v .bool .z], []⟩
@[reducible] noncomputable def laws_eqWorld.fk : Nat → denI laws_eqWorld.g.pms → Option (denR (outTys laws_eqWorld.g.rts laws_eqWorld.g.pms)) := fun k x => laws_eqWorld.f k x.1 x.2.1
@[reducible] noncomputable def laws_eqWorld.sm (k : Nat) : Sm := ⟨10, laws_eqWorld.g.pms, laws_eqWorld.g.rts, laws_eqWorld.fk k⟩
noncomputable def laws_eqWorld.E (k : Nat) : Env := ⟨tys, [laws_eqIntS.sm k, laws_eqConfig.sm k, laws_eqStoreS.sm k, laws_eqRegister.sm k, laws_eqWriterS.sm k, laws_eqMendS.sm k, laws_eqReaderS.sm k, laws_eqSentS.sm k], [], [], [4]⟩
noncomputable def laws_eqWorld.pts : List (Pt (denR (outTys laws_eqWorld.g.rts laws_eqWorld.g.pms))) := []
theorem laws_eqWorld.hf (k : Nat) (a0 : World) (a1 : World) : (laws_eqWorld.f k a0 a1 : Option (denR (outTys laws_eqWorld.g.rts laws_eqWorld.g.pms))) = evC (laws_eqWorld.E k) (fun κ s => lhOf k κ s laws_eqWorld.pts) b10 (OM.start laws_eqWorld.g.pms 0 (a0, a1, ())) (OM.fin laws_eqWorld.g Tryz.f10.results.toList) := by kernel_rfl
theorem laws_eqWorld.ok (k : Nat) : SmOk Tryz.prog (laws_eqWorld.sm k) :=
  sm_ok mixed (E := laws_eqWorld.E) (pts := laws_eqWorld.pts) (fun k => ⟨⟨tysOk, by kernel_rfl⟩, forall_cons ⟨laws_eqIntS.ok k, e13⟩ (forall_cons ⟨laws_eqConfig.ok k, e52⟩ (forall_cons ⟨laws_eqStoreS.ok k, e53⟩ (forall_cons ⟨laws_eqRegister.ok k, e54⟩ (forall_cons ⟨laws_eqWriterS.ok k, e55⟩ (forall_cons ⟨laws_eqMendS.ok k, e56⟩ (forall_cons ⟨laws_eqReaderS.ok k, e57⟩ (forall_cons ⟨laws_eqSentS.ok k, e58⟩ (forall_nil))))))))⟩) (fun _ => rfl) (fun _ => rfl)
    ⟨Tryz.func10, by kernel_rfl, by kernel_rfl, by kernel_rfl, by kernel_rfl, by kernel_rfl, by kernel_rfl⟩ (forall_nil) (fun k x => laws_eqWorld.hf k x.1 x.2.1) k
noncomputable def b3 : Code := Tryz.f3.body.getD .skip
theorem e3 : OM.Entry Tryz.prog 3 := ⟨_, Tryz.func3, by kernel_rfl, by kernel_rfl⟩
@[reducible] noncomputable def laws_FnExactWorldOk.g : Sig := ⟨[.fz tWorld], [.v .bool .z], []⟩
@[reducible] noncomputable def laws_FnExactWorldOk.fk : Nat → denI laws_FnExactWorldOk.g.pms → Option (denR (outTys laws_FnExactWorldOk.g.rts laws_FnExactWorldOk.g.pms)) := fun k x => laws_FnExactWorldOk.f k x.1
@[reducible] noncomputable def laws_FnExactWorldOk.sm (k : Nat) : Sm := ⟨3, laws_FnExactWorldOk.g.pms, laws_FnExactWorldOk.g.rts, laws_FnExactWorldOk.fk k⟩
noncomputable def laws_FnExactWorldOk.E (k : Nat) : Env := ⟨tys, [laws_szWorld.sm k, laws_toWorld.sm k, spec_WorldOk.sm k, impl_WorldOk.sm k, laws_eqWorld.sm k], [], [], [4]⟩
noncomputable def laws_FnExactWorldOk.pts : List (Pt (denR (outTys laws_FnExactWorldOk.g.rts laws_FnExactWorldOk.g.pms))) := []
theorem laws_FnExactWorldOk.hf (k : Nat) (a0 : World) : (laws_FnExactWorldOk.f k a0 : Option (denR (outTys laws_FnExactWorldOk.g.rts laws_FnExactWorldOk.g.pms))) = evC (laws_FnExactWorldOk.E k) (fun κ s => lhOf k κ s laws_FnExactWorldOk.pts) b3 (OM.start laws_FnExactWorldOk.g.pms 0 (a0, ())) (OM.fin laws_FnExactWorldOk.g Tryz.f3.results.toList) := by kernel_rfl
theorem laws_FnExactWorldOk.ok (k : Nat) : SmOk Tryz.prog (laws_FnExactWorldOk.sm k) :=
  sm_ok mixed (E := laws_FnExactWorldOk.E) (pts := laws_FnExactWorldOk.pts) (fun k => ⟨⟨tysOk, by kernel_rfl⟩, forall_cons ⟨laws_szWorld.ok k, e6⟩ (forall_cons ⟨laws_toWorld.ok k, e8⟩ (forall_cons ⟨spec_WorldOk.ok k, e7⟩ (forall_cons ⟨impl_WorldOk.ok k, e9⟩ (forall_cons ⟨laws_eqWorld.ok k, e10⟩ (forall_nil)))))⟩) (fun _ => rfl) (fun _ => rfl)
    ⟨Tryz.func3, by kernel_rfl, by kernel_rfl, by kernel_rfl, by kernel_rfl, by kernel_rfl, by kernel_rfl⟩ (forall_nil) (fun k x => laws_FnExactWorldOk.hf k x.1) k
end Go.Proofs.YthgnikafeamidacGreat.OmFnExactWorldOk
